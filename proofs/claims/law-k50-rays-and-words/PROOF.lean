import PyProof.Rows.All
import Wide.All
import OpenK.AllK
import Wide.FinOn
import HandS.ForMost
import HandS.ForExc
import HandS.TryMany
import HandS.CallSlots
import HandS.CallLocal
import HandS.Flow
import HandS.Style
import HandS.Wide
import HandS.Gcd
import HandS.IsInst
import HandS.ExcIs
import HandS.Zip
import HandS.Small
import HandS.Walk
import HandS.TupAny
import HandS.SortInts
import HandS.Base
import HandS.Call
import HandS.List
import HandS.Words
import HandS.WordsExc
import PySem.Challenge.RW_tablelots_k50_across_rays_and_words
set_option Elab.async false
set_option linter.all false
set_option maxRecDepth 100000
section
namespace PL
open PySem PySem.Spec L2

/-! ## data -/
inductive D where
  | non | bl (b : Bool) | int (i : Int) | str (x : Str)
  | tup (xs : List D) | lst (xs : List D)
  | scr (ns : List Int)
  | dk (ks : List Key) (xs : List D)
  | dt (ks : List (List Key)) (xs : List D)
  | fn (g : Nat)
  | exn (c : Nat) (p : List D)

/-- what a slot holds: nothing, shared data, a thing of its own (to be changed), a borrowed one (to be changed, not to be let go) -/
inductive SV where
  | un | val (d : D) | own (d : D) | bor (d : D) | fro (d : D)
abbrev EV := List SV
def SV.dat : SV → Option D
  | .un => none
  | .val d => some d
  | .own d => some d
  | .bor d => some d
  | .fro d => some d
def SV.mine : SV → Bool
  | .own _ => true
  | .bor _ => true
  | _ => false
/-- a result: shared data, a new thing of its own, the thing in a slot -/
inductive RV where
  | v (d : D) | t (d : D) | h (i : Nat)
inductive Out (α : Type) where
  | ok (a : α) (e : EV)
  | exc (c : Nat) (p : List D) (e : EV)
  | stuck
def Out.bd {α β : Type} (x : Out α) (f : α → EV → Out β) : Out β :=
  match x with
  | .ok a e => f a e
  | .exc c p e => .exc c p e
  | .stuck => .stuck
@[simp] theorem bd_ok {α β : Type} (a : α) (e : EV) (f : α → EV → Out β) : (Out.ok a e).bd f = f a e := rfl
@[simp] theorem bd_exc {α β : Type} (c : Nat) (p : List D) (e : EV) (f : α → EV → Out β) : (Out.exc c p e).bd f = .exc c p e := rfl
@[simp] theorem bd_stuck {α β : Type} (f : α → EV → Out β) : (Out.stuck : Out α).bd f = .stuck := rfl
/-- a call's outcome: the result, what the arguments have become -/
inductive CO where
  | ok (r : RV) (as : List SV)
  | exc (c : Nat) (p : List D) (as : List SV)
  | stuck
def opt {α β : Type} (o : Option α) (f : α → Out β) : Out β := match o with
  | some a => f a
  | none => .stuck
@[simp] theorem opt_some {α β : Type} (a : α) (f : α → Out β) : opt (some a) f = f a := rfl
@[simp] theorem opt_none {α β : Type} (f : α → Out β) : opt none f = .stuck := rfl

def cont (e : EV) : RV → Option D
  | .v d => some d
  | .t d => some d
  | .h i => (e[i]?).bind SV.dat
/-- shared from now on -/
def frz (e : EV) : RV → Option (D × EV)
  | .v d => some (d, e)
  | .t d => some (d, e)
  | .h i => match e[i]? with
    | some (.own d) => some (d, e.set i (.val d))
    | some (.bor d) => some (d, e.set i (.fro d))
    | some (.val d) => some (d, e)
    | some (.fro d) => some (d, e)
    | _ => none

/-! ## what data is, in the heap -/
structure G0 where
  K : PySem.W.Frag
  gv : Nat → Addr
  cv : Nat → Addr
mutual
def Rep (C : G0) (H : Hp) : D → V → Prop
  | .non, v => v = .non
  | .bl b, v => v = .bl b
  | .int i, v => v = .int i
  | .str x, v => v = .str x
  | .tup ds, v => ∃ a vs, v = .ref a ∧ SqT C.K H a vs ∧ RepL C H ds vs
  | .lst ds, v => ∃ a vs, v = .ref a ∧ H a = some (.lst vs) ∧ RepL C H ds vs
  | .scr ns, v => ∃ a, v = .ref a ∧ SqL C.K H a (ns.map V.int)
  | .dk ks ds, v => ∃ a vs, v = .ref a ∧ H a = some (.dK (ks.zip vs)) ∧ ks.length = ds.length ∧ RepL C H ds vs
  | .dt ks ds, v => ∃ a vs, v = .ref a ∧ H a = some (.dT (ks.zip vs)) ∧ ks.length = ds.length ∧ RepL C H ds vs
  | .fn g, v => v = .ref (C.gv g)
  | .exn _ _, v => ∃ a, v = .ref a
def RepL (C : G0) (H : Hp) : List D → List V → Prop
  | [], vs => vs = []
  | d :: ds, vs => ∃ v r, vs = v :: r ∧ Rep C H d v ∧ RepL C H ds r
end
theorem RepL.len {C : G0} {H : Hp} : ∀ {ds : List D} {vs : List V}, RepL C H ds vs → ds.length = vs.length
  | [], vs, h => by rw [RepL] at h; subst h; rfl
  | d :: ds, vs, h => by
    rw [RepL] at h
    obtain ⟨v, r, rfl, _, h⟩ := h
    simp [RepL.len h]
theorem RepL.nil {C : G0} {H : Hp} : RepL C H [] [] := by rw [RepL]
theorem RepL.cons {C : G0} {H : Hp} {d : D} {ds : List D} {v : V} {vs : List V} (a : Rep C H d v) (b : RepL C H ds vs) : RepL C H (d :: ds) (v :: vs) := by
  rw [RepL]; exact ⟨v, vs, rfl, a, b⟩
theorem RepL.get {C : G0} {H : Hp} : ∀ {ds : List D} {vs : List V} {i : Nat} {d : D}, RepL C H ds vs → ds[i]? = some d → ∃ v, vs[i]? = some v ∧ Rep C H d v
  | [], _, _, _, _, e => by simp at e
  | d :: ds, vs, 0, d', h, e => by
    rw [RepL] at h
    obtain ⟨v, r, rfl, h1, _⟩ := h
    simp at e; subst e
    exact ⟨v, rfl, h1⟩
  | d :: ds, vs, i + 1, d', h, e => by
    rw [RepL] at h
    obtain ⟨v, r, rfl, _, h2⟩ := h
    obtain ⟨v', a, b⟩ := RepL.get (i := i) h2 (by simpa using e)
    exact ⟨v', by simpa using a, b⟩
theorem RepL.get' {C : G0} {H : Hp} : ∀ {ds : List D} {vs : List V} {i : Nat} {v : V}, RepL C H ds vs → vs[i]? = some v → ∃ d, ds[i]? = some d ∧ Rep C H d v
  | [], vs, i, v, h, e => by rw [RepL] at h; subst h; simp at e
  | d :: ds, vs, 0, d', h, e => by
    rw [RepL] at h
    obtain ⟨v, r, rfl, h1, _⟩ := h
    simp at e; subst e
    exact ⟨d, rfl, h1⟩
  | d :: ds, vs, i + 1, d', h, e => by
    rw [RepL] at h
    obtain ⟨v, r, rfl, _, h2⟩ := h
    obtain ⟨v', a, b⟩ := RepL.get' (i := i) h2 (by simpa using e)
    exact ⟨v', by simpa using a, b⟩
theorem RepL.append {C : G0} {H : Hp} : ∀ {ds es : List D} {vs ws : List V}, RepL C H ds vs → RepL C H es ws → RepL C H (ds ++ es) (vs ++ ws)
  | [], _, vs, ws, h, k => by rw [RepL] at h; subst h; exact k
  | d :: ds, es, vs, ws, h, k => by
    rw [RepL] at h
    obtain ⟨v, r, rfl, h1, h2⟩ := h
    exact .cons h1 (RepL.append h2 k)
theorem RepL.set {C : G0} {H : Hp} {d : D} {v : V} (r : Rep C H d v) : ∀ {ds : List D} {vs : List V} (i : Nat), RepL C H ds vs → RepL C H (ds.set i d) (vs.set i v)
  | [], vs, i, h => by rw [RepL] at h; subst h; simp [RepL]
  | d' :: ds, vs, 0, h => by
    rw [RepL] at h
    obtain ⟨v', r', rfl, h1, h2⟩ := h
    exact .cons r h2
  | d' :: ds, vs, i + 1, h => by
    rw [RepL] at h
    obtain ⟨v', r', rfl, h1, h2⟩ := h
    exact .cons h1 (RepL.set r i h2)
theorem RepL.take {C : G0} {H : Hp} : ∀ {ds : List D} {vs : List V} (n : Nat), RepL C H ds vs → RepL C H (ds.take n) (vs.take n)
  | ds, vs, 0, h => by simp [RepL]
  | [], vs, n + 1, h => by rw [RepL] at h; subst h; simp [RepL]
  | d' :: ds, vs, n + 1, h => by
    rw [RepL] at h
    obtain ⟨v', r', rfl, h1, h2⟩ := h
    exact .cons h1 (RepL.take n h2)
theorem RepL.drop {C : G0} {H : Hp} : ∀ {ds : List D} {vs : List V} (n : Nat), RepL C H ds vs → RepL C H (ds.drop n) (vs.drop n)
  | ds, vs, 0, h => h
  | [], vs, n + 1, h => by rw [RepL] at h; subst h; simp [RepL]
  | d' :: ds, vs, n + 1, h => by
    rw [RepL] at h
    obtain ⟨v', r', rfl, h1, h2⟩ := h
    exact RepL.drop n h2
theorem RepL.reverse {C : G0} {H : Hp} : ∀ {ds : List D} {vs : List V}, RepL C H ds vs → RepL C H ds.reverse vs.reverse
  | [], vs, h => by rw [RepL] at h; subst h; simp [RepL]
  | d' :: ds, vs, h => by
    rw [RepL] at h
    obtain ⟨v', r', rfl, h1, h2⟩ := h
    rw [List.reverse_cons, List.reverse_cons]
    exact (RepL.reverse h2).append (.cons h1 .nil)
theorem RepL.dropLast {C : G0} {H : Hp} {ds : List D} {vs : List V} (h : RepL C H ds vs) : RepL C H ds.dropLast vs.dropLast := by
  rw [List.dropLast_eq_take, List.dropLast_eq_take, h.len]; exact h.take _
theorem RepL.eraseIdx {C : G0} {H : Hp} : ∀ {ds : List D} {vs : List V} (n : Nat), RepL C H ds vs → RepL C H (ds.eraseIdx n) (vs.eraseIdx n)
  | [], vs, n, h => by rw [RepL] at h; subst h; simp [RepL]
  | d' :: ds, vs, 0, h => by
    rw [RepL] at h
    obtain ⟨v', r', rfl, h1, h2⟩ := h
    exact h2
  | d' :: ds, vs, n + 1, h => by
    rw [RepL] at h
    obtain ⟨v', r', rfl, h1, h2⟩ := h
    exact .cons h1 (RepL.eraseIdx n h2)
theorem RepL.rep {C : G0} {H : Hp} {ds : List D} {vs : List V} (h : RepL C H ds vs) : ∀ k : Nat, RepL C H (List.replicate k ds).flatten (List.replicate k vs).flatten
  | 0 => by simp [RepL]
  | k + 1 => by rw [List.replicate_succ, List.replicate_succ, List.flatten_cons, List.flatten_cons]; exact h.append (RepL.rep h k)

/-- one heap lies in another one -/
def Sub (H H' : Hp) : Prop := ∀ b o, H b = some o → H' b = some o
theorem Sub.refl (H : Hp) : Sub H H := fun _ _ h => h
theorem Sub.trans {H H1 H2 : Hp} (a : Sub H H1) (b : Sub H1 H2) : Sub H H2 := fun c o h => b c o (a c o h)
theorem Sub.rd {H H' : Hp} (s : Sub H H') {a : Addr} {u : HO} (h : Rd H a u) : Rd H' a u := by
  rcases h with h | ⟨o, h⟩
  · exact .inl (s _ _ h)
  · exact .inr ⟨o, s _ _ h⟩
theorem Sub.sqT {K : PySem.W.Frag} {H H' : Hp} (s : Sub H H') {a : Addr} {xs : List V} (h : SqT K H a xs) : SqT K H' a xs := h.imp s.rd id
theorem Sub.sqL {K : PySem.W.Frag} {H H' : Hp} (s : Sub H H') {a : Addr} {xs : List V} (h : SqL K H a xs) : SqL K H' a xs := h.imp s.rd id
mutual
theorem Rep.mono {C : G0} {H H' : Hp} (s : Sub H H') : ∀ {d : D} {v : V}, Rep C H d v → Rep C H' d v
  | .non, _, h => by rw [Rep] at h ⊢; exact h
  | .bl _, _, h => by rw [Rep] at h ⊢; exact h
  | .int _, _, h => by rw [Rep] at h ⊢; exact h
  | .str _, _, h => by rw [Rep] at h ⊢; exact h
  | .tup ds, _, h => by
    rw [Rep] at h ⊢
    obtain ⟨a, vs, e, h1, h2⟩ := h
    exact ⟨a, vs, e, s.sqT h1, RepL.mono s h2⟩
  | .lst ds, _, h => by
    rw [Rep] at h ⊢
    obtain ⟨a, vs, e, h1, h2⟩ := h
    exact ⟨a, vs, e, s _ _ h1, RepL.mono s h2⟩
  | .scr ds, _, h => by
    rw [Rep] at h ⊢
    obtain ⟨a, e, h1⟩ := h
    exact ⟨a, e, s.sqL h1⟩
  | .dk ks ds, _, h => by
    rw [Rep] at h ⊢
    obtain ⟨a, vs, e, h1, hl, h2⟩ := h
    exact ⟨a, vs, e, s _ _ h1, hl, RepL.mono s h2⟩
  | .dt ks ds, _, h => by
    rw [Rep] at h ⊢
    obtain ⟨a, vs, e, h1, hl, h2⟩ := h
    exact ⟨a, vs, e, s _ _ h1, hl, RepL.mono s h2⟩
  | .fn _, _, h => by rw [Rep] at h ⊢; exact h
  | .exn _ _, _, h => by rw [Rep] at h ⊢; exact h
theorem RepL.mono {C : G0} {H H' : Hp} (s : Sub H H') : ∀ {ds : List D} {vs : List V}, RepL C H ds vs → RepL C H' ds vs
  | [], _, h => by rw [RepL] at h ⊢; exact h
  | d :: ds, _, h => by
    rw [RepL] at h ⊢
    obtain ⟨v, r, e, h1, h2⟩ := h
    exact ⟨v, r, e, Rep.mono s h1, RepL.mono s h2⟩
end

/-- a thing of its own at a: its items are shared, it itself is not -/
def Mine (C : G0) (F H : Hp) (d : D) (a : Addr) : Prop :=
  F a = none ∧ match d with
  | .lst ds => ∃ vs, H a = some (.lst vs) ∧ RepL C F ds vs
  | .dk ks ds => ∃ vs, H a = some (.dK (ks.zip vs)) ∧ ks.length = ds.length ∧ RepL C F ds vs
  | .dt ks ds => ∃ vs, H a = some (.dT (ks.zip vs)) ∧ ks.length = ds.length ∧ RepL C F ds vs
  | _ => False
theorem Mine.there {C : G0} {F H : Hp} {d : D} {a : Addr} (m : Mine C F H d a) : ∃ o, H a = some o := by
  obtain ⟨_, m⟩ := m
  cases d <;> first | exact m.elim | skip
  · obtain ⟨vs, h, _⟩ := m; exact ⟨_, h⟩
  · obtain ⟨vs, h, _⟩ := m; exact ⟨_, h⟩
  · obtain ⟨vs, h, _⟩ := m; exact ⟨_, h⟩
theorem Mine.mono {C : G0} {F F' H H' : Hp} {d : D} {a : Addr} (m : Mine C F H d a) (s : Sub F F') (hf : F' a = none) (k : ∀ o, H a = some o → H' a = some o) : Mine C F' H' d a := by
  obtain ⟨_, m⟩ := m
  refine ⟨hf, ?_⟩
  cases d <;> first | exact m.elim | skip
  · obtain ⟨vs, h, r⟩ := m; exact ⟨vs, k _ h, r.mono s⟩
  · obtain ⟨vs, h, l, r⟩ := m; exact ⟨vs, k _ h, l, r.mono s⟩
  · obtain ⟨vs, h, l, r⟩ := m; exact ⟨vs, k _ h, l, r.mono s⟩

def SlotOk (C : G0) (F H : Hp) (s : SV) (o : Option (Option V)) : Prop := match s with
  | .un => True
  | .val d => ∃ v, o = some (some v) ∧ Rep C F d v
  | .own d => ∃ a, o = some (some (.ref a)) ∧ Mine C F H d a
  | .bor d => ∃ a, o = some (some (.ref a)) ∧ Mine C F H d a
  | .fro d => ∃ v, o = some (some v) ∧ Rep C F d v
/-- the addresses of the things of one's own -/
def OwnA (e : EV) (σ : St) (a : Addr) : Prop := ∃ (i : Nat) (s : SV), e[i]? = some s ∧ s.mine = true ∧ σ[i]? = some (some (.ref a))
structure SR (C : G0) (e : EV) (F : Hp) (σ : St) (H : Hp) : Prop where
  sub : Sub F H
  slot : ∀ (i : Nat) (s : SV), e[i]? = some s → SlotOk C F H s σ[i]?
  dis : ∀ (i j : Nat) (s t : SV) (a : Addr), e[i]? = some s → e[j]? = some t → s.mine = true → t.mine = true → σ[i]? = some (some (.ref a)) → σ[j]? = some (some (.ref a)) → i = j
  len : e.length = σ.length
theorem SR.mine {C : G0} {e : EV} {F : Hp} {σ : St} {H : Hp} (R : SR C e F σ H) {i : Nat} {s : SV} (h : e[i]? = some s) (m : s.mine = true) : ∃ d a, s.dat = some d ∧ σ[i]? = some (some (.ref a)) ∧ Mine C F H d a := by
  have q := R.slot i s h
  cases s with
  | un => cases m
  | val d => cases m
  | own d => obtain ⟨a, h1, h2⟩ := q; exact ⟨d, a, rfl, h1, h2⟩
  | bor d => obtain ⟨a, h1, h2⟩ := q; exact ⟨d, a, rfl, h1, h2⟩
  | fro d => cases m
theorem SR.ownNone {C : G0} {e : EV} {F : Hp} {σ : St} {H : Hp} (R : SR C e F σ H) {a : Addr} (h : OwnA e σ a) : F a = none ∧ ∃ o, H a = some o := by
  obtain ⟨i, s, h1, h2, h3⟩ := h
  obtain ⟨d, b, _, h4, h5⟩ := R.mine h1 h2
  rw [h3] at h4
  cases h4
  exact ⟨h5.1, h5.there⟩
theorem ne_none {α : Type} {o : Option α} (h : o ≠ none) : ∃ a, o = some a := Option.ne_none_iff_exists'.mp h

/-- what may have happened meanwhile; the slots may have changed -/
structure Tr (C : G0) (e : EV) (F : Hp) (σ : St) (H : Hp) (e' : EV) (F' : Hp) (σ' : St) (H' : Hp) : Prop where
  sr : SR C e' F' σ' H'
  fs : Sub F F'
  keep : ∀ b o, H b = some o → ¬ OwnA e σ b → H' b = some o
  there : ∀ b, H b ≠ none → H' b ≠ none
  new : ∀ b o, F' b = some o → F b = some o ∨ H b = none ∨ OwnA e σ b
  own : ∀ (i : Nat) d a, e'[i]? = some (.own d) → σ'[i]? = some (some (.ref a)) → (∃ (j : Nat) (d' : D), e[j]? = some (.own d') ∧ σ[j]? = some (some (.ref a))) ∨ H a = none
  nob : ∀ (i : Nat) d', e'[i]? = some (.bor d') → ∃ d, e[i]? = some (.bor d)
  bor : ∀ (i : Nat) d, e[i]? = some (.bor d) → σ'[i]? = σ[i]? ∧ ∃ d', e'[i]? = some (.bor d') ∨ e'[i]? = some (.fro d')
  fro : ∀ (i : Nat) d, e[i]? = some (.fro d) → σ'[i]? = σ[i]? ∧ e'[i]? = some (.fro d)
  len : e'.length = e.length
theorem Tr.refl {C : G0} {e : EV} {F : Hp} {σ : St} {H : Hp} (R : SR C e F σ H) : Tr C e F σ H e F σ H :=
  ⟨R, Sub.refl _, fun _ _ h _ => h, fun _ h => h, fun _ _ h => .inl h, fun i d a h k => .inl ⟨i, d, h, k⟩, fun _ d h => ⟨d, h⟩, fun _ d h => ⟨rfl, d, .inl h⟩, fun _ _ h => ⟨rfl, h⟩, rfl⟩
theorem Tr.ownA {C : G0} {e e1 : EV} {F F1 : Hp} {σ σ1 : St} {H H1 : Hp} (a : Tr C e F σ H e1 F1 σ1 H1) {c : Addr} (h : OwnA e1 σ1 c) : OwnA e σ c ∨ H c = none := by
  obtain ⟨i, s, h1, h2, h3⟩ := h
  cases s with
  | un => cases h2
  | val d => cases h2
  | own d =>
    rcases a.own i d c h1 h3 with ⟨j, d', k1, k2⟩ | q
    · exact .inl ⟨j, _, k1, rfl, k2⟩
    · exact .inr q
  | bor d =>
    obtain ⟨d', k⟩ := a.nob i d h1
    obtain ⟨k2, _⟩ := a.bor i d' k
    exact .inl ⟨i, _, k, rfl, by rw [← k2]; exact h3⟩
  | fro d => cases h2
theorem Tr.trans {C : G0} {e e1 e2 : EV} {F F1 F2 : Hp} {σ σ1 σ2 : St} {H H1 H2 : Hp} (a : Tr C e F σ H e1 F1 σ1 H1) (b : Tr C e1 F1 σ1 H1 e2 F2 σ2 H2) : Tr C e F σ H e2 F2 σ2 H2 where
  sr := b.sr
  fs := a.fs.trans b.fs
  keep := fun c o h n => b.keep c o (a.keep c o h n) fun q => by
    rcases a.ownA q with q | q
    · exact n q
    · rw [h] at q; cases q
  there := fun c h => b.there c (a.there c h)
  new := fun c o h => by
    rcases b.new c o h with h | h | h
    · exact a.new c o h
    · by_cases q : H c = none
      · exact .inr (.inl q)
      · exact absurd h (a.there c q)
    · exact .inr ((a.ownA h).symm)
  own := fun i d c h k => by
    rcases b.own i d c h k with ⟨j, d', k1, k2⟩ | h
    · exact a.own j d' c k1 k2
    · by_cases q : H c = none
      · exact .inr q
      · exact absurd h (a.there c q)
  nob := fun i d h => by
    obtain ⟨d', h⟩ := b.nob i d h
    exact a.nob i d' h
  bor := fun i d h => by
    obtain ⟨h1, d1, h2 | h2⟩ := a.bor i d h
    · obtain ⟨h3, h4⟩ := b.bor i d1 h2
      exact ⟨h3.trans h1, h4⟩
    · obtain ⟨h3, h4⟩ := b.fro i d1 h2
      exact ⟨h3.trans h1, d1, .inr h4⟩
  fro := fun i d h => by
    obtain ⟨h1, h2⟩ := a.fro i d h
    obtain ⟨h3, h4⟩ := b.fro i d h2
    exact ⟨h3.trans h1, h4⟩
  len := b.len.trans a.len
/-- .. within an expression: the slots stand -/
structure TrE (C : G0) (e : EV) (F : Hp) (σ : St) (H : Hp) (e' : EV) (F' : Hp) (H' : Hp) : Prop extends Tr C e F σ H e' F' σ H' where
  dat : ∀ (i : Nat) (s : SV), e[i]? = some s → s.dat.isSome = true → ∃ s', e'[i]? = some s' ∧ s'.dat.isSome = true
  nom : ∀ (i : Nat) (s' : SV), e'[i]? = some s' → s'.mine = true → ∃ s, e[i]? = some s ∧ s.mine = true
theorem TrE.refl {C : G0} {e : EV} {F : Hp} {σ : St} {H : Hp} (R : SR C e F σ H) : TrE C e F σ H e F H := ⟨Tr.refl R, fun i s h k => ⟨s, h, k⟩, fun i s h k => ⟨s, h, k⟩⟩
theorem TrE.trans {C : G0} {e e1 e2 : EV} {F F1 F2 : Hp} {σ : St} {H H1 H2 : Hp} (a : TrE C e F σ H e1 F1 H1) (b : TrE C e1 F1 σ H1 e2 F2 H2) : TrE C e F σ H e2 F2 H2 :=
  ⟨a.toTr.trans b.toTr, fun i s h k => by
    obtain ⟨s1, h1, k1⟩ := a.dat i s h k
    exact b.dat i s1 h1 k1, fun i s h k => by
    obtain ⟨s1, h1, k1⟩ := b.nom i s h k
    exact a.nom i s1 h1 k1⟩
theorem TrE.ownA' {C : G0} {e e1 : EV} {F F1 : Hp} {σ : St} {H H1 : Hp} (a : TrE C e F σ H e1 F1 H1) {c : Addr} (h : OwnA e1 σ c) : OwnA e σ c := by
  obtain ⟨i, s, h1, h2, h3⟩ := h
  obtain ⟨s', k1, k2⟩ := a.nom i s h1 h2
  exact ⟨i, s', k1, k2, h3⟩

/-- a result, and the value that it is; H0: the heap ahead -/
def RVok (C : G0) (H0 F : Hp) (σ : St) (H : Hp) (e : EV) (r : RV) (v : V) : Prop := match r with
  | .v d => Rep C F d v
  | .t d => ∃ a, v = .ref a ∧ Mine C F H d a ∧ H0 a = none ∧ ¬ OwnA e σ a
  | .h i => σ[i]? = some (some v) ∧ ∃ s, e[i]? = some s ∧ s.dat.isSome = true
theorem RVok.mono {C : G0} {H0 F F1 : Hp} {σ : St} {H H1 : Hp} {e e1 : EV} {r : RV} {v : V} (h : RVok C H0 F σ H e r v) (t : TrE C e F σ H e1 F1 H1) : RVok C H0 F1 σ H1 e1 r v := by
  cases r with
  | v d => exact Rep.mono t.fs h
  | t d =>
    obtain ⟨a, rfl, m, h0, n⟩ := h
    obtain ⟨o, ho⟩ := m.there
    refine ⟨a, rfl, m.mono t.fs ?_ fun o q => t.keep a o q n, h0, fun q => n (t.ownA' q)⟩
    cases q : F1 a with
    | none => rfl
    | some u =>
      rcases t.new a u q with z | z | z
      · rw [m.1] at z; cases z
      · rw [ho] at z; cases z
      · exact absurd z n
  | h i =>
    obtain ⟨h1, s, h2, h3⟩ := h
    exact ⟨h1, t.dat i s h2 h3⟩
theorem RVok.back {C : G0} {H0 H1 F : Hp} {σ : St} {H : Hp} {e : EV} {r : RV} {v : V} (h : RVok C H1 F σ H e r v) (k : ∀ b, H0 b ≠ none → H1 b ≠ none) : RVok C H0 F σ H e r v := by
  cases r with
  | v d => exact h
  | t d =>
    obtain ⟨a, rfl, m, h0, n⟩ := h
    refine ⟨a, rfl, m, ?_, n⟩
    by_cases q : H0 a = none
    · exact q
    · exact absurd h0 (k a q)
  | h i => exact h
theorem Mine.rep {C : G0} {F H : Hp} {d : D} {a : Addr} (m : Mine C F H d a) (s : Sub F H) : Rep C H d (.ref a) := by
  obtain ⟨_, m⟩ := m
  cases d <;> first | exact m.elim | skip
  · obtain ⟨vs, h, r⟩ := m; rw [Rep]; exact ⟨a, vs, rfl, h, r.mono s⟩
  · obtain ⟨vs, h, l, r⟩ := m; rw [Rep]; exact ⟨a, vs, rfl, h, l, r.mono s⟩
  · obtain ⟨vs, h, l, r⟩ := m; rw [Rep]; exact ⟨a, vs, rfl, h, l, r.mono s⟩
/-- what a result holds -/
theorem cont_rep {C : G0} {H0 F : Hp} {σ : St} {H : Hp} {e : EV} {r : RV} {v : V} {d : D} (R : SR C e F σ H) (h : RVok C H0 F σ H e r v) (k : cont e r = some d) : Rep C H d v := by
  cases r with
  | v d' => cases k; exact Rep.mono R.sub h
  | t d' =>
    cases k
    obtain ⟨a, rfl, m, _⟩ := h
    exact m.rep R.sub
  | h i =>
    obtain ⟨h1, s, h2, h3⟩ := h
    simp only [cont, h2, Option.bind_some] at k
    have q := R.slot i s h2
    rw [h1] at q
    cases s with
    | un => cases k
    | val d' => cases k; obtain ⟨v', e1, q⟩ := q; cases e1; exact Rep.mono R.sub q
    | own d' => cases k; obtain ⟨v', e1, q⟩ := q; cases e1; exact q.rep R.sub
    | bor d' => cases k; obtain ⟨v', e1, q⟩ := q; cases e1; exact q.rep R.sub
    | fro d' => cases k; obtain ⟨v', e1, q⟩ := q; cases e1; exact Rep.mono R.sub q
end PL
end

section
namespace PL
open PySem PySem.Spec L2

/-! ## the small language -/
inductive Bop where
  | add | sub | mul | fdiv | mod | pow | shl
  deriving DecidableEq
inductive Bi where
  | len | abs | tuple | list | int1 | sum | min1 | max1 | min2 | max2 | all | any | sorted | gcd
  deriving DecidableEq
mutual
inductive E where
  | var (i : Nat) | int (k : Int) | bl (b : Bool) | non | str (x : Str)
  | con (c : Nat) | fnv (g : Nat)
  | bin (o : Bop) (a b : E) | neg (a : E)
  | cmp (o : CmpOp) (a b : E) | chain (o p : CmpOp) (a b c : E)
  | andor (k : Bool) (es : List E) | not_ (a : E) | ite (c a b : E)
  | tup (es : List E) | lst (es : List E)
  | ix (a i : E) | sl (a : E) (lo hi : Option E) | rev (a : E)
  | call (g : Nat) (es : List E) | callk (g : Nat) (es : List E) (ks : List Str) (ws : List E)
  | calld (i : Nat) (es : List E)
  | bi (b : Bi) (es : List E)
  | isi (a : E) (cs : List String)
  | isx (i : Nat) (c : Nat) (own : Bool)
  | dnew (t : Bool)
  | dlit (ks : List Key) (vs : List D) (x : E) (d : Option E)
  | app (i : Nat) (e : E) | ext (i : Nat) (e : E) | pop (i : Nat) | popat (i : Nat) (e : E)
  | comp (own : List Nat) (it : It) (tg : Tg) (cond : Option E) (elt : E)
  | dix (c : Nat) (a : E)
inductive It where
  | e (a : E) | rng (es : List E) | enum (a : E) | zip (es : List E)
inductive Tg where
  | nm (i : Nat) | tp (is : List Nat)
end
/-- except C as e: name = ['label', isinstance(e, T)] -/
structure Hd where
  c : Nat
  i : Nat
  j : Nat
  lab : Str
  cls : String
inductive S where
  | ex (e : E) | set (i : Nat) (e : E)
  | par (is : List Nat) (es : List E)
  | unp (is : List Nat) (e : E)
  | aug (i : Nat) (o : Bop) (e : E)
  | six (i : Nat) (k e : E)
  | unpx (ts : List (Nat × E)) (e : E)
  | if_ (c : E) (a b : List S) | wh (c : E) (b : List S)
  | for_ (tg : Tg) (it : It) (b : List S)
  | ret (e : E) | retN | raise_ (c : Nat) | brk | cnt | pass
  | try_ (b : List S) (hs : List Hd)

structure FnD where
  name : Str
  ps : List Str
  N : List Str
  body : List S
structure GT where
  fns : List FnD
  cons : List D
  wf : Nat
  nex : Nat
  dcs : List (List Key × List D)

/-! ## values -/
def sizeL : Nat := 16777216
def mulOk (i j : Int) : Bool := decide (i.natAbs < 2 ^ 64) || decide (j.natAbs < 2 ^ 64) || decide (i.natAbs.log2 + j.natAbs.log2 < 1000000)
def divOk (j : Int) : Bool := decide (0 < j) && decide (j.natAbs.log2 < 9000)
def powOk (i j : Int) : Bool := decide (0 ≤ j) && decide (j ≤ 1000000) && decide (i.natAbs < 2 ^ 64)
def binop : Bop → D → D → Option RV
  | .add, .int i, .int j => some (.v (.int (i + j)))
  | .add, .str x, .str y => if x.length + y.length ≤ sizeL then some (.v (.str (x ++ y))) else none
  | .add, .lst xs, .lst ys => if xs.length + ys.length ≤ sizeL then some (.t (.lst (xs ++ ys))) else none
  | .add, .tup xs, .tup ys => if xs.length + ys.length ≤ sizeL then some (.v (.tup (xs ++ ys))) else none
  | .sub, .int i, .int j => some (.v (.int (i - j)))
  | .mul, .int i, .int j => if mulOk i j then some (.v (.int (i * j))) else none
  | .mul, .lst xs, .int k => if decide (-(2 ^ 63) ≤ k) && decide (k < 2 ^ 63) && decide (xs.length * k.toNat ≤ sizeL) then some (.t (.lst (List.replicate k.toNat xs).flatten)) else none
  | .fdiv, .int i, .int j => if divOk j then some (.v (.int (i / j))) else if decide (j ≠ 0) && decide (j.natAbs < 1073741824) then some (.v (.int (i.fdiv j))) else none
  | .mod, .int i, .int j => if 0 < j then some (.v (.int (i % j))) else none
  | .pow, .int i, .int j => if powOk i j then some (.v (.int (i ^ j.toNat))) else none
  | .shl, .int i, .int j => if powOk i j then some (.v (.int (i * 2 ^ j.toNat))) else none
  | _, _, _ => none
mutual
def toPy : D → PyData
  | .non => .none
  | .bl b => .bool b
  | .int i => .int i
  | .str x => .str x
  | .tup xs => .tuple (toPys xs)
  | .lst xs => .list (toPys xs)
  | _ => .dict []
def toPys : List D → List PyData
  | [] => []
  | d :: ds => toPy d :: toPys ds
end
def eqD (a b : D) : Option Bool := if SeqAt.shaped (toPy a) && SeqAt.shaped (toPy b) then some (PyData.eqv (toPy a) (toPy b)) else none
def keyOf : D → Option Key
  | .int i => some (.inl i)
  | .str x => some (.inr x)
  | _ => none
def keysOf : List D → Option (List Key)
  | [] => some []
  | d :: ds => (keyOf d).bind fun k => (keysOf ds).map fun r => k :: r
def dlook {κ : Type} [DecidableEq κ] : List κ → List D → κ → Option D
  | k :: ks, d :: ds, x => if k = x then some d else dlook ks ds x
  | _, _, _ => none
def drepl {κ : Type} [DecidableEq κ] : List κ → List D → κ → D → List D
  | k :: ks, d :: ds, x, y => (if k = x then y else d) :: drepl ks ds x y
  | _, _, _, _ => []
def dput {κ : Type} [DecidableEq κ] (ks : List κ) (ds : List D) (x : κ) (y : D) : List κ × List D :=
  if x ∈ ks then (ks, drepl ks ds x y) else (ks ++ [x], ds ++ [y])
def flatD : D → Bool
  | .non => true
  | .bl _ => true
  | .int _ => true
  | .str _ => true
  | _ => false
def eqF : D → D → Bool
  | .non, .non => true
  | .bl a, .bl b => a == b
  | .bl a, .int b => (if a then 1 else 0) == b
  | .int a, .bl b => a == (if b then 1 else 0)
  | .int a, .int b => a == b
  | .str a, .str b => a == b
  | _, _ => false
def inD (x : D) (xs : List D) : Option Bool := if flatD x && xs.all flatD then some (xs.any fun y => eqF y x) else none
def isNon : D → Bool
  | .non => true
  | _ => false
def cmpop : CmpOp → D → D → Option Bool
  | .Eq, a, b => eqD a b
  | .NotEq, a, b => (eqD a b).map not
  | .Lt, .int i, .int j => some (decide (i < j))
  | .LtE, .int i, .int j => some (decide (i ≤ j))
  | .Gt, .int i, .int j => some (decide (j < i))
  | .GtE, .int i, .int j => some (decide (j ≤ i))
  | .Is, a, .non => some (isNon a)
  | .IsNot, a, .non => some (!isNon a)
  | .Is, .bl a, .bl b => some (decide (a = b))
  | .IsNot, .bl a, .bl b => some (!decide (a = b))
  | .In, x, .tup xs => inD x xs
  | .In, x, .lst xs => inD x xs
  | .In, x, .dk ks ds => (keyOf x).map fun k => (dlook ks ds k).isSome
  | .NotIn, x, .tup xs => (inD x xs).map not
  | .NotIn, x, .lst xs => (inD x xs).map not
  | .NotIn, x, .dk ks ds => (keyOf x).map fun k => !(dlook ks ds k).isSome
  | _, _, _ => none
def truth : D → Option Bool
  | .non => some false
  | .bl b => some b
  | .int i => some (i != 0)
  | .str y => if y.length ≤ sizeL then some ((y.length : Int) != 0) else none
  | .tup xs => some (!xs.isEmpty)
  | .lst xs => some (!xs.isEmpty)
  | .scr xs => some (!xs.isEmpty)
  | .dk ks _ => some (!ks.isEmpty)
  | _ => none
def item : D → D → Option D
  | .tup xs, .int i => atI xs i
  | .lst xs, .int i => atI xs i
  | .scr ns, .int i => (atI ns i).map D.int
  | .dk ks ds, x => (keyOf x).bind (dlook ks ds)
  | .str z, .int i => if z.length ≤ sizeL then (atI z.cps.toList i).map fun c => .str ⟨#[c]⟩ else none
  | _, _ => none
def cutD {α : Type} (xs : List α) (lo hi : Option Int) : List α := (xs.drop (HT.sIx xs.length 0 lo)).take (HT.sIx xs.length xs.length hi - HT.sIx xs.length 0 lo)
def sliceD : D → Option Int → Option Int → Option RV
  | .lst xs, lo, hi => some (.t (.lst (cutD xs lo hi)))
  | .scr xs, lo, hi => some (.t (.lst ((cutD xs lo hi).map D.int)))
  | .tup xs, lo, hi => some (.v (.tup (cutD xs lo hi)))
  | _, _, _ => none
def revD : D → Option RV
  | .lst xs => some (.t (.lst xs.reverse))
  | .tup xs => some (.v (.tup xs.reverse))
  | _ => none
def intsD : List D → Option (List Int)
  | [] => some []
  | .int i :: r => (intsD r).map fun l => i :: l
  | _ => none
def blsD : List D → Option (List Bool)
  | [] => some []
  | .bl i :: r => (blsD r).map fun l => i :: l
  | _ => none
def isort : List Int → List Int
  | [] => []
  | x :: xs => ins x (isort xs)
where ins (x : Int) : List Int → List Int
  | [] => [x]
  | y :: ys => if x ≤ y then x :: y :: ys else y :: ins x ys
def lmin : List Int → Int
  | [] => 0
  | [x] => x
  | x :: xs => if x ≤ lmin xs then x else lmin xs
def lmax : List Int → Int
  | [] => 0
  | [x] => x
  | x :: xs => if lmax xs ≤ x then x else lmax xs
def biF : Bi → List D → Option RV
  | .len, [.tup xs] => some (.v (.int xs.length))
  | .len, [.lst xs] => some (.v (.int xs.length))
  | .len, [.scr xs] => some (.v (.int xs.length))
  | .len, [.str x] => if x.length ≤ sizeL then some (.v (.int x.length)) else none
  | .len, [.dk ks _] => some (.v (.int ks.length))
  | .abs, [.int i] => some (.v (.int (if i < 0 then -i else i)))
  | .tuple, [.tup xs] => some (.v (.tup xs))
  | .tuple, [.lst xs] => some (.v (.tup xs))
  | .list, [.tup xs] => some (.t (.lst xs))
  | .list, [.lst xs] => some (.t (.lst xs))
  | .list, [.scr xs] => some (.t (.lst (xs.map D.int)))
  | .int1, [.int i] => some (.v (.int i))
  | .int1, [.bl b] => some (.v (.int (if b then 1 else 0)))
  | .sum, [.lst xs] => (intsD xs).map fun l => .v (.int l.sum)
  | .min1, [.lst (x :: xs)] => (intsD (x :: xs)).map fun l => .v (.int (lmin l))
  | .max1, [.lst (x :: xs)] => (intsD (x :: xs)).map fun l => .v (.int (lmax l))
  | .min2, [.int i, .int j] => some (.v (.int (if j < i then j else i)))
  | .max2, [.int i, .int j] => some (.v (.int (if j > i then j else i)))
  | .all, [.lst xs] => (blsD xs).map fun l => .v (.bl (l.all id))
  | .any, [.lst xs] => (blsD xs).map fun l => .v (.bl (l.any id))
  | .sorted, [.lst xs] => (intsD xs).map fun l => .t (.lst ((isort l).map D.int))
  | .gcd, [.int i, .int j] => some (.v (.int ((Nat.gcd i.natAbs j.natAbs : Nat) : Int)))
  | _, _ => none
def tyNm : D → Option String
  | .non => some "NoneType"
  | .bl _ => some "bool"
  | .int _ => some "int"
  | .str _ => some "str"
  | .tup _ => some "tuple"
  | .lst _ => some "list"
  | .scr _ => some "list"
  | .dk _ _ => some "dict"
  | _ => none
def isTy (t c : String) : Bool := t == c || (t == "bool" && c == "int")
def tyOk : List String := ["int", "bool", "str", "tuple", "list", "dict"]

/-! ## how slots change -/
def setOk (e : EV) (i : Nat) : Bool := match e[i]? with
  | some .un => true
  | some (.val _) => true
  | some (.own _) => true
  | _ => false
def setR (i : Nat) (r : RV) (e : EV) : Option EV :=
  if setOk e i then match r with
    | .v d => some (e.set i (.val d))
    | .t d => some (e.set i (.own d))
    | .h _ => none
  else none
/-- handles are shared from now on, new things stay one's own -/
def fzR (e : EV) : RV → Option (RV × EV)
  | .v d => some (.v d, e)
  | .t d => some (.t d, e)
  | .h i => (frz e (.h i)).map fun (d, e') => (.v d, e')
def fzRs (e : EV) : List RV → Option (List RV × EV)
  | [] => some ([], e)
  | r :: rs => (fzR e r).bind fun (r', e1) => (fzRs e1 rs).map fun (l, e2) => (r' :: l, e2)
def setRs : List Nat → List RV → EV → Option EV
  | [], [], e => some e
  | i :: is, r :: rs, e => (setR i r e).bind (setRs is rs)
  | _, _, _ => none
/-- the thing of one's own in a slot, changed -/
def upS (e : EV) (i : Nat) (d : D) : EV := match e[i]? with
  | some (.own _) => e.set i (.own d)
  | some (.bor _) => e.set i (.bor d)
  | _ => e
def mineD (e : EV) (i : Nat) : Option D := match e[i]? with
  | some (.own d) => some d
  | some (.bor d) => some d
  | _ => none
def lstAt (e : EV) (i : Nat) : Bool := match mineD e i with
  | some (.lst _) => true
  | _ => false
def setVals : List Nat → List D → EV → Option EV
  | [], [], e => some e
  | i :: is, d :: ds, e => if setOk e i then setVals is ds (e.set i (.val d)) else none
  | _, _, _ => none
def asg : Tg → D → EV → Option EV
  | .nm i, d, e => if setOk e i then some (e.set i (.val d)) else none
  | .tp is, .tup ds, e => setVals is ds e
  | _, _, _ => none
def wipeE (e : EV) : List Nat → EV
  | [] => e
  | i :: is => (wipeE e is).set i .un
/-- the slots is again as they were in e -/
def unwipe (e : EV) (e2 : EV) : List Nat → EV
  | [] => e2
  | i :: is => match e[i]? with
    | some s => (unwipe e e2 is).set i s
    | none => unwipe e e2 is
def argOf (e : EV) : RV → Option SV
  | .v d => some (.val d)
  | .t d => some (.val d)
  | .h i => match e[i]? with
    | some (.own d) => some (.bor d)
    | some (.bor d) => some (.bor d)
    | some (.val d) => some (.val d)
    | some (.fro d) => some (.val d)
    | _ => none
def argsOf (e : EV) : List RV → Option (List SV)
  | [] => some []
  | r :: rs => (argOf e r).bind fun a => (argsOf e rs).map fun l => a :: l
def hands : List RV → List Nat
  | [] => []
  | .h i :: rs => i :: hands rs
  | _ :: rs => hands rs
def putBack1 (e : EV) (r : RV) (s : SV) : EV := match r, s with
  | .h i, .bor d => match e[i]? with
    | some (.own _) => e.set i (.own d)
    | some (.bor _) => e.set i (.bor d)
    | _ => e
  | .h i, .fro d => match e[i]? with
    | some (.own _) => e.set i (.val d)
    | some (.bor _) => e.set i (.fro d)
    | _ => e
  | _, _ => e
def putBack : EV → List RV → List SV → EV
  | e, r :: rs, s :: ss => putBack (putBack1 e r s) rs ss
  | e, _, _ => e
def doCall (cf : Nat → List SV → CO) (g : Nat) (rs : List RV) (e : EV) : Out RV :=
  if (hands rs).Nodup then
    match argsOf e rs with
    | none => .stuck
    | some as => match cf g as with
      | .ok r as' => .ok r (putBack e rs as')
      | .exc c p as' => .exc c p (putBack e rs as')
      | .stuck => .stuck
  else .stuck
/-- the keywords' values in the parameters' order, behind the positional ones -/
def kwSort {α : Type} (ps ks : List Str) (us ws : List α) : List α :=
  us ++ (ps.drop us.length).filterMap fun p => (ks.zip ws).lookup p
def compL (f : D → EV → Out (Option D)) (own : List Nat) : List D → EV → List D → Out (List D)
  | [], e, acc => .ok acc e
  | d :: ds, e, acc => match f d e with
    | .ok (some x) e1 => if acc.length < sizeL then compL f own ds (wipeE e1 own) (acc ++ [x]) else .stuck
    | .ok none e1 => compL f own ds (wipeE e1 own) acc
    | _ => .stuck
def conts (e : EV) : List RV → Option (List D)
  | [] => some []
  | r :: rs => (cont e r).bind fun d => (conts e rs).map fun l => d :: l
def frzs (e : EV) : List RV → Option (List D × EV)
  | [] => some ([], e)
  | r :: rs => (frz e r).bind fun (d, e1) => (frzs e1 rs).map fun (l, e2) => (d :: l, e2)
def seqD : D → Option (List D)
  | .tup xs => some xs
  | .lst xs => some xs
  | .scr xs => some (xs.map D.int)
  | _ => none
def seqL : D → Option (List D)
  | .lst xs => some xs
  | .scr xs => some (xs.map D.int)
  | _ => none
def intD : D → Option Int
  | .int i => some i
  | _ => none
def rngD : List D → Option (List D)
  | [.int n] => if decide (-(2 ^ 62) ≤ n) && decide (n < 2 ^ 62) then some ((List.range n.toNat).map fun (k : Nat) => .int (0 + (k : Int))) else none
  | [.int a, .int b] => if decide (-(2 ^ 62) ≤ a) && decide (a < 2 ^ 62) && decide (-(2 ^ 62) ≤ b) && decide (b < 2 ^ 62) then some ((List.range (b - a).toNat).map fun (k : Nat) => .int (a + (k : Int))) else none
  | _ => none
def enumD (xs : List D) : List D := (List.range xs.length).zipWith (fun (k : Nat) x => .tup [.int k, x]) xs
def zipD (xs ys : List D) : List D := xs.zipWith (fun x y => .tup [x, y]) ys
def dispD : List D → List D → List Key → List D → Option (List Key × List D)
  | [], [], ks, ds => some (ks, ds)
  | k :: r, d :: s, ks, ds => (keyOf k).bind fun k' => let (ks1, ds1) := dput ks ds k' d; dispD r s ks1 ds1
  | _, _, _, _ => none
/-- a value as a test -/
def tst (m : Bool) (x : Out RV) : Out RV := if m then x.bd fun r e => opt ((cont e r).bind truth) fun b => .ok (.v (.bl b)) e else x
@[simp] theorem tst_false (x : Out RV) : tst false x = x := rfl
@[simp] theorem tst_true (x : Out RV) : tst true x = x.bd fun r e => opt ((cont e r).bind truth) fun b => .ok (.v (.bl b)) e := rfl
def toB (x : Out RV) : Out Bool := x.bd fun r e => match r with
  | .v (.bl b) => .ok b e
  | _ => .stuck
@[simp] theorem toB_ok (b : Bool) (e : EV) : toB (.ok (.v (.bl b)) e) = .ok b e := rfl
mutual
def evE (T : GT) (cf : Nat → List SV → CO) (m : Bool) : E → EV → Out RV
  | .var i, e => tst m (match e[i]? with
    | some (.val d) => .ok (.v d) e
    | some (.fro d) => .ok (.v d) e
    | some (.own _) => .ok (.h i) e
    | some (.bor _) => .ok (.h i) e
    | _ => .stuck)
  | .int k, e => tst m (.ok (.v (.int k)) e)
  | .bl b, e => tst m (.ok (.v (.bl b)) e)
  | .non, e => tst m (.ok (.v .non) e)
  | .str x, e => tst m (.ok (.v (.str x)) e)
  | .con c, e => tst m (opt T.cons[c]? fun d => .ok (.v d) e)
  | .fnv g, e => tst m (if g < T.fns.length then .ok (.v (.fn g)) e else .stuck)
  | .bin o a b, e => tst m ((evE T cf false a e).bd fun ra e1 => (evE T cf false b e1).bd fun rb e2 =>
      opt (cont e2 ra) fun x => opt (cont e2 rb) fun y => opt (binop o x y) fun r => .ok r e2)
  | .neg a, e => tst m ((evE T cf false a e).bd fun ra e1 => opt ((cont e1 ra).bind intD) fun i => .ok (.v (.int (-i))) e1)
  | .cmp o a b, e => tst m ((evE T cf false a e).bd fun ra e1 => (evE T cf false b e1).bd fun rb e2 =>
      opt (cont e2 ra) fun x => opt (cont e2 rb) fun y => opt (cmpop o x y) fun r => .ok (.v (.bl r)) e2)
  | .chain o p a b c, e => tst m ((evE T cf false a e).bd fun ra e1 => (evE T cf false b e1).bd fun rb e2 =>
      opt (cont e2 ra) fun x => opt (cont e2 rb) fun y => opt (cmpop o x y) fun r =>
        if r then (evE T cf false c e2).bd fun rc e3 => opt (cont e3 rb) fun y => opt (cont e3 rc) fun z => opt (cmpop p y z) fun r => .ok (.v (.bl r)) e3
        else .ok (.v (.bl false)) e2)
  | .andor k es, e => evV T cf m k es e
  | .not_ a, e => (evE T cf m a e).bd fun r e1 => opt ((cont e1 r).bind truth) fun b => .ok (.v (.bl (!b))) e1
  | .ite c a b, e => if m then .stuck else (toB (evE T cf true c e)).bd fun k e1 => if k then evE T cf false a e1 else evE T cf false b e1
  | .tup es, e => tst m ((evA T cf es e).bd fun rs e1 => opt (frzs e1 rs) fun (ds, e2) => if ds.length ≤ sizeL then .ok (.v (.tup ds)) e2 else .stuck)
  | .lst es, e => tst m ((evA T cf es e).bd fun rs e1 => opt (frzs e1 rs) fun (ds, e2) => if ds.length ≤ sizeL then .ok (.t (.lst ds)) e2 else .stuck)
  | .ix a i, e => tst m ((evE T cf false a e).bd fun ra e1 => (evE T cf false i e1).bd fun ri e2 =>
      opt (cont e2 ra) fun x => opt (cont e2 ri) fun y => opt (item x y) fun d => .ok (.v d) e2)
  | .sl a lo hi, e => tst m ((evE T cf false a e).bd fun ra e1 => (evO T cf lo e1).bd fun l e2 => (evO T cf hi e2).bd fun h e3 =>
      opt (cont e3 ra) fun x => opt (sliceD x l h) fun r => .ok r e3)
  | .rev a, e => tst m ((evE T cf false a e).bd fun ra e1 => opt (cont e1 ra) fun x => opt (revD x) fun r => .ok r e1)
  | .call g es, e => tst m ((evA T cf es e).bd fun rs e1 => doCall cf g rs e1)
  | .callk g es ks ws, e => tst m ((evA T cf es e).bd fun rs e1 => (evA T cf ws e1).bd fun qs e2 =>
      opt T.fns[g]? fun F => doCall cf g (kwSort F.ps ks rs qs) e2)
  | .calld i es, e => tst m (match e[i]? with
    | some (.val (.fn g)) => if g < T.fns.length then (evA T cf es e).bd fun rs e1 => doCall cf g rs e1 else .stuck
    | _ => .stuck)
  | .bi b es, e => tst m ((evA T cf es e).bd fun rs e1 => opt (conts e1 rs) fun ds => opt (biF b ds) fun r => .ok r e1)
  | .isi a cs, e => tst m ((evE T cf false a e).bd fun ra e1 => opt ((cont e1 ra).bind tyNm) fun t => if cs.all tyOk.contains then .ok (.v (.bl (cs.any (isTy t)))) e1 else .stuck)
  | .isx i c own, e => tst m (.stuck)
  | .dnew t, e => tst m (.ok (.t (if t then .dt [] [] else .dk [] [])) e)
  | .dlit ks vs x d, e => tst m ((evE T cf false x e).bd fun rx e1 => (evM T cf d e1).bd fun rd e2 =>
      opt ((cont e2 rx).bind keyOf) fun k => match dlook ks vs k with
        | some y => .ok (.v y) e2
        | none => opt (frz e2 rd) fun (y, e3) => .ok (.v y) e3)
  | .dix k a, e => tst m (opt T.dcs[k]? fun p => (evE T cf false a e).bd fun r e1 => opt ((cont e1 r).bind keyOf) fun x => opt (dlook p.1 p.2 x) fun d => .ok (.v d) e1)
  | .app i a, e => tst m (if lstAt e i then (evE T cf false a e).bd fun ra e1 => opt (frz e1 ra) fun (d, e2) => match mineD e2 i with
    | some (.lst xs) => if xs.length < sizeL then .ok (.v .non) (upS e2 i (.lst (xs ++ [d]))) else .stuck
    | _ => .stuck
    else .stuck)
  | .ext i a, e => tst m (if lstAt e i then (evE T cf false a e).bd fun ra e1 => opt (cont e1 ra) fun d => match mineD e1 i, d with
    | some (.lst xs), .lst ys => if xs.length + ys.length ≤ sizeL then .ok (.v .non) (upS e1 i (.lst (xs ++ ys))) else .stuck
    | _, _ => .stuck
    else .stuck)
  | .pop i, e => tst m (match mineD e i with
    | some (.lst xs) => opt (xs[xs.length - 1]?) fun d => .ok (.v d) (upS e i (.lst xs.dropLast))
    | _ => .stuck)
  | .popat i a, e => tst m (if lstAt e i then (evE T cf false a e).bd fun ra e1 => opt ((cont e1 ra).bind intD) fun k => match mineD e1 i with
    | some (.lst xs) => if decide (-(2 ^ 63) ≤ k) && decide (k < 2 ^ 63) then opt (ixN xs.length k) fun j => opt (xs[j]?) fun d => .ok (.v d) (upS e1 i (.lst (xs.eraseIdx j))) else .stuck
    | _ => .stuck
    else .stuck)
  | .comp own it tg cond elt, e => tst m ((evI T cf it e).bd fun ds e1 =>
      (compL (fun d e => opt (asg tg d e) fun e1 => (evC T cf cond e1).bd fun k e2 => if k then (evE T cf false elt e2).bd fun r e3 => opt (frz e3 r) fun (x, e4) => .ok (some x) e4 else .ok none e2) own ds (wipeE e1 own) []).bd
        fun acc e2 => .ok (.t (.lst acc)) (unwipe e1 e2 own))
def evC (T : GT) (cf : Nat → List SV → CO) : Option E → EV → Out Bool
  | none, e => .ok true e
  | some c, e => toB (evE T cf true c e)
def evO (T : GT) (cf : Nat → List SV → CO) : Option E → EV → Out (Option Int)
  | none, e => .ok none e
  | some a, e => (evE T cf false a e).bd fun r e1 => opt ((cont e1 r).bind intD) fun i => .ok (some i) e1
def evM (T : GT) (cf : Nat → List SV → CO) : Option E → EV → Out RV
  | none, e => .ok (.v .non) e
  | some a, e => evE T cf false a e
def evI (T : GT) (cf : Nat → List SV → CO) : It → EV → Out (List D)
  | .e a, e => (evE T cf false a e).bd fun r e1 => opt (frz e1 r) fun (d, e2) => opt (seqD d) fun xs => .ok xs e2
  | .rng es, e => (evA T cf es e).bd fun rs e1 => opt (conts e1 rs) fun ds => opt (rngD ds) fun xs => .ok xs e1
  | .enum a, e => (evE T cf false a e).bd fun r e1 => opt (frz e1 r) fun (d, e2) => opt (seqL d) fun xs => .ok (enumD xs) e2
  | .zip es, e => (evA T cf es e).bd fun rs e1 => opt (frzs e1 rs) fun (ds, e2) => match ds with
    | [.tup xs, .tup ys] => .ok (zipD xs ys) e2
    | [x, y] => opt (seqL x) fun xs => opt (seqL y) fun ys => .ok (zipD xs ys) e2
    | _ => .stuck
def evA (T : GT) (cf : Nat → List SV → CO) : List E → EV → Out (List RV)
  | [], e => .ok [] e
  | a :: as, e => (evE T cf false a e).bd fun r e1 => (evA T cf as e1).bd fun rs e2 => .ok (r :: rs) e2
/-- and, or -/
def evV (T : GT) (cf : Nat → List SV → CO) (m : Bool) (k : Bool) : List E → EV → Out RV
  | [], _ => .stuck
  | a :: as, e => match as with
    | [] => evE T cf m a e
    | _ :: _ => (evE T cf m a e).bd fun r e1 => opt ((cont e1 r).bind truth) fun b => if b = k then evV T cf m k as e1 else .ok r e1
end

/-! ## statements -/
inductive Fl where
  | next | brk | cnt | ret (r : RV)
def forL (f : D → EV → Out Fl) : List D → EV → Out Fl
  | [], e => .ok .next e
  | d :: ds, e => (f d e).bd fun fl e1 => match fl with
    | .next => forL f ds e1
    | .cnt => forL f ds e1
    | .brk => .ok .next e1
    | .ret r => .ok (.ret r) e1
def whL (c : EV → Out Bool) (f : EV → Out Fl) : Nat → EV → Out Fl
  | 0, _ => .stuck
  | n + 1, e => (c e).bd fun b e1 => if b then (f e1).bd fun fl e2 => match fl with
      | .next => whL c f n e2
      | .cnt => whL c f n e2
      | .brk => .ok .next e2
      | .ret r => .ok (.ret r) e2
    else .ok .next e1
def sixE (e : EV) (i : Nat) (k d : D) : Option EV := match mineD e i with
  | some (.lst xs) => (intD k).bind fun z => (ixN xs.length z).map fun j => upS e i (.lst (xs.set j d))
  | _ => none
def retR (e : EV) : RV → Option (RV × EV)
  | .v d => some (.v d, e)
  | .t d => some (.t d, e)
  | .h i => match e[i]? with
    | some (.own d) => some (.t d, e.set i .un)
    | some (.bor d) => some (.v d, e.set i (.fro d))
    | some (.val d) => some (.v d, e)
    | some (.fro d) => some (.v d, e)
    | _ => none
def exH : List Hd → Nat → List D → EV → Out Fl
  | [], c, p, e => .exc c p e
  | h :: hs, c, p, e => if c = h.c then
      if setOk e h.i && setOk (e.set h.i (.val (.exn c p))) h.j && h.i != h.j then .ok .next ((e.set h.j (.own (.lst [.str h.lab, .bl true]))).set h.i .un) else .stuck
    else exH hs c p e
def augop : Bop → D → D → Option D
  | .add, .int i, .int j => some (.int (i + j))
  | .sub, .int i, .int j => some (.int (i - j))
  | _, _, _ => none
mutual
def exS (T : GT) (cf : Nat → List SV → CO) : S → EV → Out Fl
  | .ex a, e => (evE T cf false a e).bd fun _ e1 => .ok .next e1
  | .set i a, e => (evE T cf false a e).bd fun r e1 => opt (fzR e1 r) fun (r', e2) => opt (setR i r' e2) fun e3 => .ok .next e3
  | .par is es, e => (evA T cf es e).bd fun rs e1 => opt (fzRs e1 rs) fun (rs', e2) => opt (setRs is rs' e2) fun e3 => .ok .next e3
  | .unp is a, e => (evE T cf false a e).bd fun r e1 => opt (cont e1 r) fun d => match d with
    | .tup ds => opt (setVals is ds e1) fun e2 => .ok .next e2
    | _ => .stuck
  | .aug i o a, e => match e[i]? with
    | some (.val x) => (evE T cf false a e).bd fun r e1 => opt (cont e1 r) fun y => opt (augop o x y) fun z => opt (setR i (.v z) e1) fun e2 => .ok .next e2
    | _ => .stuck
  | .six i k a, e => (evE T cf false a e).bd fun r e1 => opt (frz e1 r) fun (d, e2) => if lstAt e2 i then (evE T cf false k e2).bd fun rk e3 => opt (cont e3 rk) fun kd =>
      opt (sixE e3 i kd d) fun e4 => .ok .next e4
    else .stuck
  | .unpx ts a, e => .stuck
  | .if_ c a b, e => (toB (evE T cf true c e)).bd fun k e1 => if k then exB T cf a e1 else exB T cf b e1
  | .wh c b, e => whL (fun e => toB (evE T cf true c e)) (fun e => exB T cf b e) T.wf e
  | .for_ tg it b, e => (evI T cf it e).bd fun ds e1 => forL (fun d e => opt (asg tg d e) fun e1 => exB T cf b e1) ds e1
  | .ret a, e => (evE T cf false a e).bd fun r e1 => opt (retR e1 r) fun (r2, e2) => .ok (.ret r2) e2
  | .retN, e => .ok (.ret (.v .non)) e
  | .raise_ c, e => .exc c [] e
  | .brk, e => .ok .brk e
  | .cnt, e => .ok .cnt e
  | .pass, e => .ok .next e
  | .try_ b hs, e => match exB T cf b e with
    | .exc c p e1 => if decide (c < T.nex) && p.isEmpty then exH hs c p e1 else .stuck
    | r => r
def exB (T : GT) (cf : Nat → List SV → CO) : List S → EV → Out Fl
  | [], e => .ok .next e
  | s :: ss, e => (exS T cf s e).bd fun fl e1 => match fl with
    | .next => exB T cf ss e1
    | fl => .ok fl e1
end
/-- what the arguments have become -/
def outs : List SV → EV → List SV
  | [], _ => []
  | .bor d :: as, s :: e => s :: outs as e
  | a :: as, _ :: e => a :: outs as e
  | as, [] => as
def fin (as : List SV) : Out Fl → CO
  | .ok .next e => .ok (.v .non) (outs as e)
  | .ok (.ret (.v d)) e => .ok (.v d) (outs as e)
  | .ok (.ret (.t d)) e => .ok (.t d) (outs as e)
  | .exc c p e => .exc c p (outs as e)
  | _ => .stuck
def callF (T : GT) : Nat → Nat → List SV → CO
  | 0, _, _ => .stuck
  | n + 1, g, as => match T.fns[g]? with
    | some F => if as.length = F.ps.length then fin as (exB T (callF T n) F.body (as ++ List.replicate (F.N.length - as.length) .un)) else .stuck
    | none => .stuck
end PL
end

section
namespace PL
open PySem PySem.Spec L2

/-! ## how the small language stands for the program's text -/
structure CC where
  N : List Str
  sc : Scope
  bs : Option Scope
  fn : List Str
  cn : List Str
  en : List Str
  calm : Bool
  kw : List (Nat × List Str × Nat)
  gcd : Bool
  isx : List (Nat × String)
  dn : List Str
def visB (sc : Scope) (x : Str) : Bool := match sc.names.lookup x with
  | some .local => true
  | some .cell => true
  | some .free => true
  | _ => false
def locB (sc : Scope) (x : Str) : Bool := match sc.names.lookup x with
  | some .local => true
  | some .cell => true
  | _ => false
def dbgB (x : Str) : Bool := !(x == ("__debug__" : Str)) && !(x == ("__classdict__" : Str))
def glB (sc : Scope) (x : Str) : Bool := (match sc.names.lookup x with
  | some .globalImplicit => true
  | _ => false) && !(x == ("__debug__" : Str)) && !(x == ("__name__" : Str))
def nmB (c : CC) (i : Nat) (x : Str) : Bool := decide (c.N[i]? = some x) && visB c.sc x && dbgB x
def stB (c : CC) (i : Nat) (x : Str) : Bool := decide (c.N[i]? = some x) && locB c.sc x && (match c.bs with
  | none => true
  | some s => locB s x)
def opOf : Bop → Operator
  | .add => .Add
  | .sub => .Sub
  | .mul => .Mult
  | .fdiv => .FloorDiv
  | .mod => .Mod
  | .pow => .Pow
  | .shl => .LShift
def biNm : Bi → String
  | .len => "len"
  | .abs => "abs"
  | .tuple => "tuple"
  | .list => "list"
  | .int1 => "int"
  | .sum => "sum"
  | .min1 => "min"
  | .max1 => "max"
  | .min2 => "min"
  | .max2 => "max"
  | .all => "all"
  | .any => "any"
  | .sorted => "sorted"
  | .gcd => "gcd"
def plainB : Expr → Bool
  | .Starred .. => false
  | .Set .. => false
  | .NamedExpr .. => false
  | .Call (.Name x _) [] [] _ => !(x == ("super" : Str))
  | _ => true
def tyName (x : Expr) (s : String) : Bool := match x with
  | .Name y _ => decide (y = Str.ofString s)
  | _ => false
def gNames (c : CC) : List Expr → Bool
  | [] => true
  | .Name y _ :: r => glB c.sc y && gNames c r
  | _ => false
def tyNames : List String → List Expr → Bool
  | [], [] => true
  | s :: ss, x :: xs => tyName x s && tyNames ss xs
  | _, _ => false
def trTg (c : CC) : Tg → Expr → Bool
  | .nm i, .Name x _ => stB c i x
  | .tp is, .Tuple xs _ _ => trNs c is xs
  | _, _ => false
where trNs (c : CC) : List Nat → List Expr → Bool
  | [], [] => true
  | i :: is, .Name x _ :: xs => stB c i x && trNs c is xs
  | _, _ => false
def tgIx : Tg → List Nat
  | .nm i => [i]
  | .tp is => is
def ownP (c : CC) (own : List Nat) : List (Str × Nat) := own.map fun i => (c.N.getD i ("" : Str), i)
def blkCC (c : CC) (scope : Scope) : CC := { c with sc := relS scope c.sc, bs := some scope }
def mthB (p cp : Pos) : Bool := p.endLine == cp.line
def keyLs : List Key → List (Option Expr) → Bool
  | [], [] => true
  | .inl i :: ks, some (.Constant (.int j) _ _) :: r => decide (i = j) && keyLs ks r
  | .inr x :: ks, some (.Constant (.str y) _ _) :: r => decide (x = y) && keyLs ks r
  | _, _ => false
def valLs : List D → List Expr → Bool
  | [], [] => true
  | .int i :: ds, .Constant (.int j) _ _ :: r => decide (i = j) && valLs ds r
  | .str x :: ds, .Constant (.str y) _ _ :: r => decide (x = y) && valLs ds r
  | .bl x :: ds, .Constant (.bool y) _ _ :: r => decide (x = y) && valLs ds r
  | .non :: ds, .Constant .none _ _ :: r => valLs ds r
  | _, _ => false
mutual
def trE (c : CC) : E → Expr → Bool
  | .var i, .Name x _ => nmB c i x
  | .int k, .Constant (.int j) _ _ => decide (k = j)
  | .bl k, .Constant (.bool j) _ _ => decide (k = j)
  | .non, .Constant .none _ _ => true
  | .str k, .Constant (.str j) _ _ => decide (k = j)
  | .con k, .Name x _ => decide (c.cn[k]? = some x) && glB c.sc x
  | .fnv g, .Name x _ => decide (c.fn[g]? = some x) && glB c.sc x
  | .dix k a, .Subscript (.Name x _) y _ => decide (c.dn[k]? = some x) && glB c.sc x && trE c a y
  | .bin o a b, .BinOp x p y _ => decide (opOf o = p) && trE c a x && trE c b y
  | .neg a, .UnaryOp .USub x _ => trE c a x
  | .cmp o a b, .Compare x [p] [y] _ => decide (o = p) && trE c a x && trE c b y
  | .chain o p a b d, .Compare x [o', p'] [y, z] _ => decide (o = o') && decide (p = p') && trE c a x && trE c b y && trE c d z
  | .andor k es, .BoolOp o xs _ => decide ((if k then BoolOp.And else BoolOp.Or) = o) && trA c es xs
  | .not_ a, .UnaryOp .Not x _ => trE c a x
  | .ite d a b, .IfExp x y z _ => trE c d x && trE c a y && trE c b z
  | .tup es, .Tuple xs _ _ => trA c es xs
  | .lst es, .List xs _ => trA c es xs
  | .ix a i, .Subscript x y _ => trE c a x && trE c i y
  | .sl a lo hi, .Subscript x (.Slice l h none _) _ => trE c a x && trO c lo l && trO c hi h
  | .rev a, .Subscript x (.Slice none none (some (.UnaryOp .USub (.Constant (.int j) _ _) _)) _) _ => trE c a x && decide (j = 1)
  | .call g es, .Call (.Name x _) xs [] _ => decide (c.fn[g]? = some x) && glB c.sc x && c.calm && trA c es xs
  | .callk g es ks ws, .Call (.Name x _) xs kws _ => decide (c.fn[g]? = some x) && glB c.sc x && c.calm && trA c es xs && trK c ks ws kws && c.kw.contains (g, ks, es.length)
  | .calld i es, .Call (.Name x _) xs [] _ => nmB c i x && c.calm && !es.isEmpty && trA c es xs
  | .bi b es, .Call (.Name x _) xs [] _ => decide (x = Str.ofString (biNm b)) && glB c.sc x && c.calm && !es.isEmpty && (c.gcd || b != .gcd) && trA c es xs
  | .isi a [s], .Call (.Name x _) [y, z] [] _ => decide (x = "isinstance") && glB c.sc x && trE c a y && gNames c [z] && tyName z s && tyOk.contains s
  | .isi a cs, .Call (.Name x _) [y, .Tuple zs _ _] [] _ => decide (x = "isinstance") && glB c.sc x && trE c a y && gNames c zs && tyNames cs zs && cs.all tyOk.contains && decide (cs.length ≤ 100)
  | .dnew _, .Dict [] [] _ => true
  | .dlit ks vs e d, .Call (.Attribute (.Dict keys values _) m ap) (y :: r) [] p => decide (m = "get") && mthB ap p && keyLs ks keys && valLs vs values && decide ks.Nodup && decide (ks.length = vs.length) && decide (ks.length ≤ 15) && !ks.isEmpty && trE c e y && trC c d r
  | .app i e, .Call (.Attribute (.Name x _) m ap) [y] [] p => nmB c i x && decide (m = "append") && mthB ap p && trE c e y
  | .ext i e, .Call (.Attribute (.Name x _) m ap) [y] [] p => nmB c i x && decide (m = "extend") && mthB ap p && trE c e y
  | .pop i, .Call (.Attribute (.Name x _) m ap) [] [] p => nmB c i x && decide (m = "pop") && mthB ap p
  | .popat i e, .Call (.Attribute (.Name x _) m ap) [y] [] p => nmB c i x && decide (m = "pop") && mthB ap p && trE c e y
  | .comp own it tg cond elt, .ListComp x [⟨t, i, ifs, 0⟩] scope _ => c.calm && blkC c.N c.sc scope (ownP c own) && trI c it i && (tgIx tg).all own.contains &&
      trTg (blkCC c scope) tg t && (itTup it tg) && trC (blkCC c scope) cond ifs && trE (blkCC c scope) elt x
  | _, _ => false
def trA (c : CC) : List E → List Expr → Bool
  | [], [] => true
  | a :: as, x :: xs => trE c a x && trA c as xs
  | _, _ => false
def trO (c : CC) : Option E → Option Expr → Bool
  | none, none => true
  | some a, some x => trE c a x
  | _, _ => false
def trC (c : CC) : Option E → List Expr → Bool
  | none, [] => true
  | some a, [x] => trE c a x
  | _, _ => false
def trK (c : CC) : List Str → List E → List Keyword → Bool
  | [], [], [] => true
  | k :: ks, a :: as, ⟨some n, x, _⟩ :: xs => decide (k = n) && trE c a x && trK c ks as xs
  | _, _, _ => false
def trI (c : CC) : It → Expr → Bool
  | .e a, x => trE c a x
  | .rng es, .Call (.Name x _) xs [] _ => decide (x = "range") && glB c.sc x && trA c es xs && (xs.length == 1 || xs.length == 2)
  | .enum a, .Call (.Name x _) [y] [] _ => decide (x = "enumerate") && glB c.sc x && trE c a y
  | .zip es, .Call (.Name x _) xs [] _ => decide (x = "zip") && glB c.sc x && trA c es xs && xs.length == 2
  | _, _ => false
/-- pairs are made for a pair of names -/
def itTup : It → Tg → Bool
  | .enum _, .tp _ => true
  | .enum _, .nm _ => false
  | .zip _, .tp _ => true
  | .zip _, .nm _ => false
  | _, _ => true
end
def isLC : Expr → Bool
  | .ListComp .. => true
  | _ => false
def isTup : Expr → Bool
  | .Tuple .. => true
  | _ => false
def locAll (c : CC) (ts : List Expr) : Bool := ts.all fun
  | .Name x _ => c.sc.names.lookup x == some .local
  | _ => false
def idsOf (ts : List Expr) : List Str := ts.filterMap fun
  | .Name x _ => some x
  | _ => none
def lineAll (ts : List Expr) : Bool := ts.all fun t => t.pos.line == (ts.head?.map (·.pos.line)).getD 0
/-- whether the stores are swapped -/
def swN (c : CC) (ts vs : List Expr) : Bool := locAll c ts && (ts.length == 2 || ts.length == 3) && !vs.all (foldedForSure 8)
def parB (c : CC) (ts vs : List Expr) : Bool := lineAll ts && (idsOf ts).eraseDups.length == ts.length && (!swN c ts vs || !vs.all (constantsAlone 8))
def trHd (c : CC) (h : Hd) : ExceptHandler → Bool
  | .ExceptHandler (some (.Name x _)) (some n) [.Assign [.Name y _] (.List [.Constant (.str l) _ _, .Call (.Name f _) [.Name n' _, .Name cl _] [] _] _) _] _ =>
    decide (c.en[h.c]? = some x) && glB c.sc x && stB c h.i n && (match c.sc.names.lookup n with
      | some .local => true
      | _ => false) && nmB c h.i n' && stB c h.j y && decide (h.lab = l) && decide (f = "isinstance") && glB c.sc f && decide (cl = Str.ofString h.cls) && glB c.sc cl && tyExc.contains h.cls && c.isx.contains (h.c, h.cls)
  | _ => false
where tyExc : List String := ["ValueError", "LookupError"]
def trHs (c : CC) : List Hd → List ExceptHandler → Bool
  | [], [] => true
  | h :: hs, x :: xs => trHd c h x && trHs c hs xs
  | _, _ => false
mutual
def trS (c : CC) : S → Stmt → Bool
  | .ex e, .Expr x _ => trE c e x && !isLC x
  | .set i e, .Assign [.Name x _] y _ => stB c i x && trE c e y
  | .par is es, .Assign [.Tuple ts _ _] (.Tuple xs _ _) _ => c.calm && trTg.trNs c is ts && trA c es xs && decide (es.length = is.length) && decide is.Nodup && decide (is.length ≤ 100) && parB c ts xs
  | .unp is e, .Assign [.Tuple ts _ _] x _ => c.calm && trTg.trNs c is ts && trE c e x && !isTup x
  | .aug i o e, .AugAssign (.Name x _) p y _ => stB c i x && nmB c i x && decide (opOf o = p) && (o == .add || o == .sub) && trE c e y
  | .six i k e, .Assign [.Subscript (.Name x _) y _] z _ => nmB c i x && trE c k y && trE c e z
  | .if_ d a b, .If x ys zs _ => trE c d x && trB c a ys && trB c b zs
  | .wh d b, .While x ys [] _ => trE c d x && trB c b ys
  | .for_ tg it b, .For t i ys [] _ => c.calm && trI c it i && trTg c tg t && itTup it tg && trB c b ys
  | .ret e, .Return (some x) _ => trE c e x
  | .retN, .Return none _ => true
  | .raise_ k, .Raise (some (.Call (.Name x _) [] [] _)) none _ => c.calm && decide (c.en[k]? = some x) && glB c.sc x
  | .brk, .Break _ => true
  | .cnt, .Continue _ => true
  | .pass, .Pass _ => true
  | .try_ b hs, .Try ys (x :: xs) [] [] _ => c.calm && trB c b ys && trHs c hs (x :: xs)
  | _, _ => false
def trB (c : CC) : List S → List Stmt → Bool
  | [], [] => true
  | s :: ss, x :: xs => trS c s x && trB c ss xs
  | _, _ => false
end
end PL
end

section
namespace PL
open PySem PySem.Spec L2

variable {C : G0} {e e' : EV} {F F' H0 H H' : Hp} {σ : St}
theorem getE_set_self {α : Type} {l : List α} {i : Nat} {a b : α} (h : l[i]? = some b) : (l.set i a)[i]? = some a := by
  have := (List.getElem?_eq_some_iff.mp h).1
  simp [this]
theorem getE_set_ne {α : Type} {l : List α} {i j : Nat} {a : α} (h : i ≠ j) : (l.set i a)[j]? = l[j]? := List.getElem?_set_ne h
/-- a thing of one's own becomes shared -/
theorem share {i : Nat} {s s' : SV} {d : D} {a : Addr} (R : SR C e F σ H) (h : e[i]? = some s) (m : s.mine = true) (hd : s.dat = some d) (ha : σ[i]? = some (some (.ref a)))
    (hs : (s = .own d ∧ s' = .val d) ∨ (s = .bor d ∧ s' = .fro d)) :
    ∃ F', TrE C e F σ H (e.set i s') F' H ∧ Rep C F' d (.ref a) := by
  obtain ⟨d', a', h1, h2, mm⟩ := R.mine h m
  rw [hd] at h1; cases h1
  rw [ha] at h2; cases h2
  obtain ⟨o, ho⟩ := mm.there
  have hFa := mm.1
  have sF : Sub F (upd F a o) := fun b u q => by
    by_cases e : b = a
    · subst e; rw [hFa] at q; cases q
    · rw [upd_ne e]; exact q
  have sH : Sub (upd F a o) H := fun b u q => by
    by_cases e : b = a
    · subst e; rw [upd_same] at q; cases q; exact ho
    · rw [upd_ne e] at q; exact R.sub b u q
  have rep : Rep C (upd F a o) d (.ref a) := by
    obtain ⟨_, mm⟩ := mm
    cases d <;> first | exact mm.elim | skip
    · obtain ⟨vs, q, r⟩ := mm; rw [ho] at q; cases q; rw [Rep]; exact ⟨a, vs, rfl, upd_same, r.mono sF⟩
    · obtain ⟨vs, q, l, r⟩ := mm; rw [ho] at q; cases q; rw [Rep]; exact ⟨a, vs, rfl, upd_same, l, r.mono sF⟩
    · obtain ⟨vs, q, l, r⟩ := mm; rw [ho] at q; cases q; rw [Rep]; exact ⟨a, vs, rfl, upd_same, l, r.mono sF⟩
  have hi : i < e.length := (List.getElem?_eq_some_iff.mp h).1
  have sm : s'.mine = false := by rcases hs with ⟨_, rfl⟩ | ⟨_, rfl⟩ <;> rfl
  have old : ∀ (j : Nat) (t : SV), (e.set i s')[j]? = some t → t.mine = true → j ≠ i ∧ e[j]? = some t := fun j t q mt => by
    by_cases ej : i = j
    · subst ej; rw [getE_set_self h] at q; cases q; rw [sm] at mt; cases mt
    · rw [getE_set_ne ej] at q; exact ⟨Ne.symm ej, q⟩
  have own : OwnA e σ a := ⟨i, s, h, m, ha⟩
  refine ⟨upd F a o, ⟨⟨⟨sH, fun j t q => ?_, fun j k t u b q1 q2 m1 m2 => R.dis j k t u b (old j t q1 m1).2 (old k u q2 m2).2 m1 m2, by simpa using R.len⟩, sF, fun _ _ q _ => q, fun _ q => q, fun b u q => ?_, fun j d' b q1 q2 => ?_, fun j d' q => ?_, fun j d' q => ?_, fun j d' q => ?_, by simp⟩, fun j t q dt => ?_, fun j t q mt => ⟨t, (old j t q mt).2, mt⟩⟩, rep⟩
  · by_cases ej : i = j
    · subst ej; rw [getE_set_self h] at q; cases q
      rcases hs with ⟨_, rfl⟩ | ⟨_, rfl⟩ <;> exact ⟨_, ha, rep⟩
    · rw [getE_set_ne ej] at q
      have z := R.slot j t q
      cases t with
      | un => trivial
      | val d' => obtain ⟨v, q1, q2⟩ := z; exact ⟨v, q1, q2.mono sF⟩
      | fro d' => obtain ⟨v, q1, q2⟩ := z; exact ⟨v, q1, q2.mono sF⟩
      | own d' =>
        obtain ⟨b, q1, q2⟩ := z
        refine ⟨b, q1, q2.mono sF ?_ fun _ z => z⟩
        have hne : b ≠ a := fun eb => ej (R.dis i j s _ a h q m rfl ha (by rw [← eb]; exact q1))
        rw [upd_ne hne]
        exact q2.1
      | bor d' =>
        obtain ⟨b, q1, q2⟩ := z
        refine ⟨b, q1, q2.mono sF ?_ fun _ z => z⟩
        have hne : b ≠ a := fun eb => ej (R.dis i j s _ a h q m rfl ha (by rw [← eb]; exact q1))
        rw [upd_ne hne]
        exact q2.1
  · by_cases eb : b = a
    · subst eb; exact .inr (.inr own)
    · rw [upd_ne eb] at q; exact .inl q
  · obtain ⟨_, q⟩ := old j _ q1 rfl
    exact .inl ⟨j, d', q, q2⟩
  · obtain ⟨_, q⟩ := old j _ q rfl
    exact ⟨d', q⟩
  · refine ⟨rfl, ?_⟩
    by_cases ej : i = j
    · subst ej
      rw [h] at q; cases q
      rcases hs with ⟨z, _⟩ | ⟨_, rfl⟩
      · cases z
      · exact ⟨d, .inr (getE_set_self h)⟩
    · exact ⟨d', .inl (by rw [getE_set_ne ej]; exact q)⟩
  · refine ⟨rfl, ?_⟩
    by_cases ej : i = j
    · subst ej; rw [h] at q; cases q; cases m
    · rw [getE_set_ne ej]; exact q
  · by_cases ej : i = j
    · subst ej
      refine ⟨s', getE_set_self h, ?_⟩
      rcases hs with ⟨_, rfl⟩ | ⟨_, rfl⟩ <;> rfl
    · exact ⟨t, by rw [getE_set_ne ej]; exact q, dt⟩
/-- a new thing becomes shared at once -/
theorem shareT {d : D} {a : Addr} (R : SR C e F σ H) (mm : Mine C F H d a) (hn : ¬ OwnA e σ a) (hf : H0 a = none) :
    ∃ F', Rep C F' d (.ref a) ∧ Sub F F' ∧ SR C e F' σ H ∧ (∀ b o, F' b = some o → F b = some o ∨ b = a) := by
  obtain ⟨o, ho⟩ := mm.there
  have hFa := mm.1
  have sF : Sub F (upd F a o) := fun b u q => by
    by_cases e : b = a
    · subst e; rw [hFa] at q; cases q
    · rw [upd_ne e]; exact q
  have sH : Sub (upd F a o) H := fun b u q => by
    by_cases e : b = a
    · subst e; rw [upd_same] at q; cases q; exact ho
    · rw [upd_ne e] at q; exact R.sub b u q
  have rep : Rep C (upd F a o) d (.ref a) := by
    obtain ⟨_, mm⟩ := mm
    cases d <;> first | exact mm.elim | skip
    · obtain ⟨vs, q, r⟩ := mm; rw [ho] at q; cases q; rw [Rep]; exact ⟨a, vs, rfl, upd_same, r.mono sF⟩
    · obtain ⟨vs, q, l, r⟩ := mm; rw [ho] at q; cases q; rw [Rep]; exact ⟨a, vs, rfl, upd_same, l, r.mono sF⟩
    · obtain ⟨vs, q, l, r⟩ := mm; rw [ho] at q; cases q; rw [Rep]; exact ⟨a, vs, rfl, upd_same, l, r.mono sF⟩
  refine ⟨upd F a o, rep, sF, ⟨sH, fun j t q => ?_, R.dis, R.len⟩, fun b u q => ?_⟩
  · have z := R.slot j t q
    cases t with
    | un => trivial
    | val d' => obtain ⟨v, q1, q2⟩ := z; exact ⟨v, q1, q2.mono sF⟩
    | fro d' => obtain ⟨v, q1, q2⟩ := z; exact ⟨v, q1, q2.mono sF⟩
    | own d' =>
      obtain ⟨b, q1, q2⟩ := z
      refine ⟨b, q1, q2.mono sF ?_ fun _ z => z⟩
      have hne : b ≠ a := fun eb => hn ⟨j, _, q, rfl, by rw [← eb]; exact q1⟩
      rw [upd_ne hne]
      exact q2.1
    | bor d' =>
      obtain ⟨b, q1, q2⟩ := z
      refine ⟨b, q1, q2.mono sF ?_ fun _ z => z⟩
      have hne : b ≠ a := fun eb => hn ⟨j, _, q, rfl, by rw [← eb]; exact q1⟩
      rw [upd_ne hne]
      exact q2.1
  · by_cases eb : b = a
    · exact .inr eb
    · rw [upd_ne eb] at q; exact .inl q
/-- from an earlier point of view: only the shared part has grown by what is new since -/
theorem TrE.grow {e1 : EV} {F1 F2 H1 : Hp} (t : TrE C e F σ H e1 F1 H1) (s : Sub F1 F2) (r : SR C e1 F2 σ H1) {a : Addr} (hn : ∀ b o, F2 b = some o → F1 b = some o ∨ b = a) (ha : H a = none) : TrE C e F σ H e1 F2 H1 :=
  ⟨⟨r, t.fs.trans s, t.keep, t.there, fun b o q => by
    rcases hn b o q with q | rfl
    · exact t.new b o q
    · exact .inr (.inl ha), t.own, t.nob, t.bor, t.fro, t.len⟩, t.dat, t.nom⟩
theorem frz_ok {e1 : EV} {F1 H1 : Hp} {r : RV} {v : V} {d : D} (t : TrE C e F σ H e1 F1 H1) (h : RVok C H F1 σ H1 e1 r v) (k : frz e1 r = some (d, e')) :
    ∃ F', TrE C e F σ H e' F' H1 ∧ Rep C F' d v ∧ Sub F1 F' := by
  cases r with
  | v d' => cases k; exact ⟨F1, t, h, Sub.refl _⟩
  | t d' =>
    cases k
    obtain ⟨a, rfl, m, h0, n⟩ := h
    obtain ⟨F', q1, q2, q3, q4⟩ := shareT (H0 := H) t.sr m n h0
    exact ⟨F', t.grow q2 q3 q4 h0, q1, q2⟩
  | h i =>
    obtain ⟨h1, s, h2, h3⟩ := h
    have q := t.sr.slot i s h2
    simp only [frz, h2] at k
    cases s with
    | un => cases k
    | val d' => cases k; obtain ⟨v', e1, q⟩ := q; rw [h1] at e1; cases e1; exact ⟨F1, t, q, Sub.refl _⟩
    | fro d' => cases k; obtain ⟨v', e1, q⟩ := q; rw [h1] at e1; cases e1; exact ⟨F1, t, q, Sub.refl _⟩
    | own d' =>
      cases k; obtain ⟨a, e1, q⟩ := q; rw [h1] at e1; cases e1
      obtain ⟨F', q1, q2⟩ := share t.sr h2 rfl rfl h1 (.inl ⟨rfl, rfl⟩)
      exact ⟨F', t.trans q1, q2, q1.fs⟩
    | bor d' =>
      cases k; obtain ⟨a, e1, q⟩ := q; rw [h1] at e1; cases e1
      obtain ⟨F', q1, q2⟩ := share t.sr h2 rfl rfl h1 (.inr ⟨rfl, rfl⟩)
      exact ⟨F', t.trans q1, q2, q1.fs⟩

/-! ## what is wanted of an outcome -/
def ExW (C : G0) (W : WX) (c : Nat) (p : List D) (σ : St) (H : Hp) : Prop := p = [] ∧ W (.ref (C.cv c)) none σ H
def PostE (C : G0) (W : WX) (e : EV) (F : Hp) (σ : St) (H : Hp) (o : Out RV) (Q : VK) : Prop := match o with
  | .ok r e' => ∀ v F' H', TrE C e F σ H e' F' H' → RVok C H F' σ H' e' r v → Q v H'
  | .exc c p e' => ∀ F' H', TrE C e F σ H e' F' H' → ExW C W c p σ H'
  | .stuck => False
def PostB (C : G0) (W : WX) (e : EV) (F : Hp) (σ : St) (H : Hp) (o : Out Bool) (Q : Bool → Hp → Prop) : Prop := match o with
  | .ok r e' => ∀ F' H', TrE C e F σ H e' F' H' → Q r H'
  | .exc c p e' => ∀ F' H', TrE C e F σ H e' F' H' → ExW C W c p σ H'
  | .stuck => False
/-- a list of results -/
def RVs (C : G0) (H0 F : Hp) (σ : St) (H : Hp) (e : EV) : List RV → List V → Prop
  | [], vs => vs = []
  | r :: rs, vs => ∃ v ws, vs = v :: ws ∧ RVok C H0 F σ H e r v ∧ RVs C H0 F σ H e rs ws
theorem RVs.mono {e1 : EV} {F1 H1 : Hp} (t : TrE C e F σ H e1 F1 H1) : ∀ {rs : List RV} {vs : List V}, RVs C H0 F σ H e rs vs → RVs C H0 F1 σ H1 e1 rs vs
  | [], _, h => h
  | r :: rs, _, ⟨v, ws, e, a, b⟩ => ⟨v, ws, e, a.mono t, RVs.mono t b⟩
theorem RVs.back {H1 : Hp} (k : ∀ b, H0 b ≠ none → H1 b ≠ none) : ∀ {rs : List RV} {vs : List V}, RVs C H1 F σ H e rs vs → RVs C H0 F σ H e rs vs
  | [], _, h => h
  | r :: rs, _, ⟨v, ws, e, a, b⟩ => ⟨v, ws, e, a.back k, RVs.back k b⟩
def PostA (C : G0) (W : WX) (e : EV) (F : Hp) (σ : St) (H : Hp) (o : Out (List RV)) (Q : List V → Hp → Prop) : Prop := match o with
  | .ok rs e' => ∀ vs F' H', TrE C e F σ H e' F' H' → RVs C H F' σ H' e' rs vs → Q vs H'
  | .exc c p e' => ∀ F' H', TrE C e F σ H e' F' H' → ExW C W c p σ H'
  | .stuck => False
def PostO (C : G0) (W : WX) (e : EV) (F : Hp) (σ : St) (H : Hp) (o : Out (Option Int)) (Q : Option Int → Hp → Prop) : Prop := match o with
  | .ok r e' => ∀ F' H', TrE C e F σ H e' F' H' → Q r H'
  | .exc c p e' => ∀ F' H', TrE C e F σ H e' F' H' → ExW C W c p σ H'
  | .stuck => False
theorem PostE.shift {W : WX} {e1 : EV} {F1 H1 : Hp} {o : Out RV} {Q : VK} (t : TrE C e F σ H e1 F1 H1) (h : PostE C W e F σ H o Q) : PostE C W e1 F1 σ H1 o Q := by
  cases o with
  | ok r e' => exact fun v F' H' t' r' => h v F' H' (t.trans t') (r'.back t.there)
  | exc c p e' => exact fun F' H' t' => h F' H' (t.trans t')
  | stuck => exact h
theorem PostB.shift {W : WX} {e1 : EV} {F1 H1 : Hp} {o : Out Bool} {Q : Bool → Hp → Prop} (t : TrE C e F σ H e1 F1 H1) (h : PostB C W e F σ H o Q) : PostB C W e1 F1 σ H1 o Q := by
  cases o with
  | ok r e' => exact fun F' H' t' => h F' H' (t.trans t')
  | exc c p e' => exact fun F' H' t' => h F' H' (t.trans t')
  | stuck => exact h
theorem PostA.shift {W : WX} {e1 : EV} {F1 H1 : Hp} {o : Out (List RV)} {Q : List V → Hp → Prop} (t : TrE C e F σ H e1 F1 H1) (h : PostA C W e F σ H o Q) : PostA C W e1 F1 σ H1 o Q := by
  cases o with
  | ok r e' => exact fun v F' H' t' r' => h v F' H' (t.trans t') (r'.back t.there)
  | exc c p e' => exact fun F' H' t' => h F' H' (t.trans t')
  | stuck => exact h
theorem PostO.shift {W : WX} {e1 : EV} {F1 H1 : Hp} {o : Out (Option Int)} {Q : Option Int → Hp → Prop} (t : TrE C e F σ H e1 F1 H1) (h : PostO C W e F σ H o Q) : PostO C W e1 F1 σ H1 o Q := by
  cases o with
  | ok r e' => exact fun F' H' t' => h F' H' (t.trans t')
  | exc c p e' => exact fun F' H' t' => h F' H' (t.trans t')
  | stuck => exact h
/-- first x, then f -/
theorem PostE.first {W : WX} {x : Out RV} {f : RV → EV → Out RV} {Q Q1 : VK} (h : PostE C W e F σ H (x.bd f) Q)
    (k : ∀ r e1 v F1 H1, TrE C e F σ H e1 F1 H1 → RVok C H F1 σ H1 e1 r v → PostE C W e1 F1 σ H1 (f r e1) Q → Q1 v H1) : PostE C W e F σ H x Q1 := by
  cases x with
  | ok r e1 => exact fun v F1 H1 t r1 => k r e1 v F1 H1 t r1 (PostE.shift t h)
  | exc c p e1 => exact h
  | stuck => exact h
theorem PostE.firstA {W : WX} {x : Out (List RV)} {f : List RV → EV → Out RV} {Q : VK} {Q1 : List V → Hp → Prop} (h : PostE C W e F σ H (x.bd f) Q)
    (k : ∀ rs e1 vs F1 H1, TrE C e F σ H e1 F1 H1 → RVs C H F1 σ H1 e1 rs vs → PostE C W e1 F1 σ H1 (f rs e1) Q → Q1 vs H1) : PostA C W e F σ H x Q1 := by
  cases x with
  | ok r e1 => exact fun v F1 H1 t r1 => k r e1 v F1 H1 t r1 (PostE.shift t h)
  | exc c p e1 => exact h
  | stuck => exact h
theorem PostE.firstB {W : WX} {x : Out Bool} {f : Bool → EV → Out RV} {Q : VK} {Q1 : Bool → Hp → Prop} (h : PostE C W e F σ H (x.bd f) Q)
    (k : ∀ r e1 F1 H1, TrE C e F σ H e1 F1 H1 → PostE C W e1 F1 σ H1 (f r e1) Q → Q1 r H1) : PostB C W e F σ H x Q1 := by
  cases x with
  | ok r e1 => exact fun F1 H1 t => k r e1 F1 H1 t (PostE.shift t h)
  | exc c p e1 => exact h
  | stuck => exact h
theorem PostE.firstO {W : WX} {x : Out (Option Int)} {f : Option Int → EV → Out RV} {Q : VK} {Q1 : Option Int → Hp → Prop} (h : PostE C W e F σ H (x.bd f) Q)
    (k : ∀ r e1 F1 H1, TrE C e F σ H e1 F1 H1 → PostE C W e1 F1 σ H1 (f r e1) Q → Q1 r H1) : PostO C W e F σ H x Q1 := by
  cases x with
  | ok r e1 => exact fun F1 H1 t => k r e1 F1 H1 t (PostE.shift t h)
  | exc c p e1 => exact h
  | stuck => exact h
theorem PostE.opt {α : Type} {W : WX} {o : Option α} {f : α → Out RV} {Q : VK} (h : PostE C W e F σ H (opt o f) Q) : ∃ a, o = some a ∧ PostE C W e F σ H (f a) Q := by
  cases o with
  | none => exact h.elim
  | some a => exact ⟨a, rfl, h⟩
/-- a pure end -/
theorem PostE.val {W : WX} {d : D} {v : V} {Q : VK} (R : SR C e F σ H) (h : PostE C W e F σ H (.ok (.v d) e) Q) (r : Rep C F d v) : Q v H := h v F H (TrE.refl R) r
/-- a new tuple is shared -/
theorem TrE.newT {e1 : EV} {F1 H1 : Hp} (t : TrE C e F σ H e1 F1 H1) {p : Addr} {o : HO} (hp : H1 p = none) : TrE C e F σ H e1 (upd F1 p o) (upd H1 p o) := by
  have R := t.sr
  have sF : Sub F1 (upd F1 p o) := fun b u q => by
    rw [upd_ne fun e => by subst e; rw [R.sub _ _ q] at hp; cases hp]; exact q
  have sH : Sub H1 (upd H1 p o) := fun b u q => by rw [upd_ne (ne_of_none q hp)]; exact q
  have hp0 : H p = none := by
    by_cases q : H p = none
    · exact q
    · exact absurd hp (t.there p q)
  have nF : ∀ {a : Addr}, F1 a = none → H1 a ≠ none → upd F1 p o a = none := fun {a} q n => by
    have hne : a ≠ p := fun e => n (by rw [e]; exact hp)
    rw [upd_ne hne]; exact q
  refine ⟨⟨⟨fun b u q => ?_, fun j s q => ?_, R.dis, R.len⟩, t.fs.trans sF, fun b u q n => sH _ _ (t.keep b u q n), fun b q => ?_, fun b u q => ?_, t.own, t.nob, t.bor, t.fro, t.len⟩, t.dat, t.nom⟩
  · by_cases eb : b = p
    · subst eb; rw [upd_same] at q ⊢; exact q
    · rw [upd_ne eb] at q ⊢; exact R.sub b u q
  · have z := R.slot j s q
    cases s with
    | un => trivial
    | val d' => obtain ⟨v, q1, q2⟩ := z; exact ⟨v, q1, q2.mono sF⟩
    | fro d' => obtain ⟨v, q1, q2⟩ := z; exact ⟨v, q1, q2.mono sF⟩
    | own d' =>
      obtain ⟨b, q1, q2⟩ := z
      obtain ⟨u, hu⟩ := q2.there
      exact ⟨b, q1, q2.mono sF (nF q2.1 (by rw [hu]; simp)) fun _ z => sH _ _ z⟩
    | bor d' =>
      obtain ⟨b, q1, q2⟩ := z
      obtain ⟨u, hu⟩ := q2.there
      exact ⟨b, q1, q2.mono sF (nF q2.1 (by rw [hu]; simp)) fun _ z => sH _ _ z⟩
  · obtain ⟨u, hu⟩ := ne_none (t.there b q)
    rw [sH _ _ hu]; simp
  · by_cases eb : b = p
    · subst eb; exact .inr (.inl hp0)
    · rw [upd_ne eb] at q; exact t.new b u q
/-- a new thing, shared or not, as yet in nobody's hands -/
theorem TrE.newL {e1 : EV} {F1 H1 : Hp} (t : TrE C e F σ H e1 F1 H1) {p : Addr} {o : HO} (hp : H1 p = none) : TrE C e F σ H e1 F1 (upd H1 p o) := by
  have R := t.sr
  have sH : Sub H1 (upd H1 p o) := fun b u q => by rw [upd_ne (ne_of_none q hp)]; exact q
  refine ⟨⟨⟨fun b u q => sH _ _ (R.sub b u q), fun j s q => ?_, R.dis, R.len⟩, t.fs, fun b u q n => sH _ _ (t.keep b u q n), fun b q => ?_, t.new, t.own, t.nob, t.bor, t.fro, t.len⟩, t.dat, t.nom⟩
  · have z := R.slot j s q
    cases s with
    | un => trivial
    | val d' => exact z
    | fro d' => exact z
    | own d' =>
      obtain ⟨b, q1, q2⟩ := z
      exact ⟨b, q1, q2.mono (Sub.refl _) q2.1 fun _ z => sH _ _ z⟩
    | bor d' =>
      obtain ⟨b, q1, q2⟩ := z
      exact ⟨b, q1, q2.mono (Sub.refl _) q2.1 fun _ z => sH _ _ z⟩
  · obtain ⟨u, hu⟩ := ne_none (t.there b q)
    rw [sH _ _ hu]; simp
theorem own_there {e1 : EV} {F1 H1 : Hp} (R : SR C e1 F1 σ H1) {p : Addr} (hp : H1 p = none) : ¬ OwnA e1 σ p := fun q => by
  obtain ⟨_, o, h⟩ := R.ownNone q
  rw [hp] at h; cases h
theorem PostE.newTup {W : WX} {ds : List D} {vs : List V} {Q : VK} {p : Addr} (R : SR C e F σ H) (h : PostE C W e F σ H (.ok (.v (.tup ds)) e) Q) (r : RepL C F ds vs) (hp : H p = none) : Q (.ref p) (upd H p (.tup vs)) := by
  have t := (TrE.refl R).newT (o := .tup vs) hp
  refine h _ _ _ t ?_
  show Rep C _ (.tup ds) _
  rw [Rep]
  exact ⟨p, vs, rfl, .inl (.inl upd_same), r.mono t.fs⟩
theorem PostE.newLst {W : WX} {ds : List D} {vs : List V} {Q : VK} {p : Addr} (R : SR C e F σ H) (h : PostE C W e F σ H (.ok (.t (.lst ds)) e) Q) (r : RepL C F ds vs) (hp : H p = none) : Q (.ref p) (upd H p (.lst vs)) := by
  have t := (TrE.refl R).newL (o := .lst vs) hp
  refine h _ _ _ t ⟨p, rfl, ⟨?_, vs, upd_same, r⟩, hp, own_there R hp⟩
  cases q : F p with
  | none => rfl
  | some u => rw [R.sub p u q] at hp; cases hp
end PL
end

section
namespace PL
open PySem PySem.Spec L2

theorem sizeL_eq : sizeL = sizeLine := by rw [sizeLine_eq]; rfl
/-- what is held: shared, or a thing of somebody's own -/
def CRp (C : G0) (F H : Hp) (d : D) (v : V) : Prop := Rep C F d v ∨ ∃ a, v = .ref a ∧ Mine C F H d a
section
variable {C : G0} {e e' : EV} {F F' H0 H H' : Hp} {σ : St} {r : RV} {v : V} {d : D}
theorem cont_crp (R : SR C e F σ H) (h : RVok C H0 F σ H e r v) (k : cont e r = some d) : CRp C F H d v := by
  cases r with
  | v d' => cases k; exact .inl h
  | t d' =>
    cases k
    obtain ⟨a, rfl, m, _⟩ := h
    exact .inr ⟨a, rfl, m⟩
  | h i =>
    obtain ⟨h1, s, h2, h3⟩ := h
    simp only [cont, h2, Option.bind_some] at k
    have q := R.slot i s h2
    rw [h1] at q
    cases s with
    | un => cases k
    | val d' => cases k; obtain ⟨v', e1, q⟩ := q; cases e1; exact .inl q
    | own d' => cases k; obtain ⟨v', e1, q⟩ := q; cases e1; exact .inr ⟨_, rfl, q⟩
    | bor d' => cases k; obtain ⟨v', e1, q⟩ := q; cases e1; exact .inr ⟨_, rfl, q⟩
    | fro d' => cases k; obtain ⟨v', e1, q⟩ := q; cases e1; exact .inl q
theorem CRp.rep (h : CRp C F H d v) (s : Sub F H) : Rep C H d v := by
  rcases h with h | ⟨a, rfl, m⟩
  · exact h.mono s
  · exact m.rep s
theorem CRp.flat (h : CRp C F H d v) (f : match d with
    | .lst _ => False
    | .dk _ _ => False
    | .dt _ _ => False
    | _ => True) : Rep C F d v := by
  rcases h with h | ⟨a, rfl, m⟩
  · exact h
  · obtain ⟨_, m⟩ := m
    cases d <;> first | exact m.elim | exact f.elim
theorem CRp.int {i : Int} (h : CRp C F H (.int i) v) : v = .int i := by have q := h.flat trivial; rw [Rep] at q; exact q
theorem CRp.bl {i : Bool} (h : CRp C F H (.bl i) v) : v = .bl i := by have q := h.flat trivial; rw [Rep] at q; exact q
theorem CRp.non (h : CRp C F H .non v) : v = .non := by have q := h.flat trivial; rw [Rep] at q; exact q
theorem CRp.str {x : Str} (h : CRp C F H (.str x) v) : v = .str x := by have q := h.flat trivial; rw [Rep] at q; exact q
theorem CRp.tup {xs : List D} (h : CRp C F H (.tup xs) v) : ∃ a vs, v = .ref a ∧ SqT C.K F a vs ∧ RepL C F xs vs := by have q := h.flat trivial; rw [Rep] at q; exact q
theorem CRp.scr {xs : List Int} (h : CRp C F H (.scr xs) v) : ∃ a, v = .ref a ∧ SqL C.K F a (xs.map V.int) := by have q := h.flat trivial; rw [Rep] at q; exact q
theorem CRp.lst {xs : List D} (h : CRp C F H (.lst xs) v) (s : Sub F H) : ∃ a vs, v = .ref a ∧ H a = some (.lst vs) ∧ RepL C F xs vs := by
  rcases h with h | ⟨a, rfl, _, vs, q, r⟩
  · rw [Rep] at h
    obtain ⟨a, vs, e, q, r⟩ := h
    exact ⟨a, vs, e, s _ _ q, r⟩
  · exact ⟨a, vs, rfl, q, r⟩
theorem CRp.dk {ks : List Key} {xs : List D} (h : CRp C F H (.dk ks xs) v) (s : Sub F H) : ∃ a vs, v = .ref a ∧ H a = some (.dK (ks.zip vs)) ∧ ks.length = xs.length ∧ RepL C F xs vs := by
  rcases h with h | ⟨a, rfl, _, vs, q, l, r⟩
  · rw [Rep] at h
    obtain ⟨a, vs, e, q, l, r⟩ := h
    exact ⟨a, vs, e, s _ _ q, l, r⟩
  · exact ⟨a, vs, rfl, q, l, r⟩
theorem CRp.dt {ks : List (List Key)} {xs : List D} (h : CRp C F H (.dt ks xs) v) (s : Sub F H) : ∃ a vs, v = .ref a ∧ H a = some (.dT (ks.zip vs)) ∧ ks.length = xs.length ∧ RepL C F xs vs := by
  rcases h with h | ⟨a, rfl, _, vs, q, l, r⟩
  · rw [Rep] at h
    obtain ⟨a, vs, e, q, l, r⟩ := h
    exact ⟨a, vs, e, s _ _ q, l, r⟩
  · exact ⟨a, vs, rfl, q, l, r⟩
theorem rep_int {i : Int} : Rep C F (.int i) (.int i) := by rw [Rep]
theorem rep_bl {i : Bool} : Rep C F (.bl i) (.bl i) := by rw [Rep]
theorem rep_non : Rep C F .non .non := by rw [Rep]
theorem rep_str {x : Str} : Rep C F (.str x) (.str x) := by rw [Rep]
end
theorem _root_.L2.PE.to {X : Cx} {x : Expr} {t t' : TE} (h : PE X x t) (k : ∀ σ H Q, t' σ H Q → t σ H Q) : PE X x t' := ⟨fun pins s σ H Q I q => h.run pins s σ H Q I (k σ H Q q)⟩
theorem _root_.L2.PT.to {X : Cx} {x : Expr} {t t' : TT} (h : PT X x t) (k : ∀ σ H Q, t' σ H Q → t σ H Q) : PT X x t' := ⟨fun pins s σ H Q I q => h.run pins s σ H Q I (k σ H Q q)⟩
theorem _root_.L2.PW.to {X : Cx} {x : Expr} {t t' : TT} (h : PW X x t) (k : ∀ σ H Q, t' σ H Q → t σ H Q) : PW X x t' := ⟨fun w pins s σ H Q I q => h.run w pins s σ H Q I (k σ H Q q)⟩
theorem _root_.L2.PA.to {X : Cx} {x : List Expr} {t t' : TA} (h : PA X x t) (k : ∀ σ H Q, t' σ H Q → t σ H Q) : PA X x t' := ⟨fun p pins s σ H Q I q => h.run p pins s σ H Q I (k σ H Q q)⟩

/-! ## the operations -/
/-- an operation's outcome, by its operands -/
def OpP (C : G0) (W : WX) (o : Option RV) (ds : List D) (vs : List V) (H : Hp) (Q : VK) : Prop :=
  ∃ e F σ, SR C e F σ H ∧ (∀ (i : Nat) d v, ds[i]? = some d → vs[i]? = some v → CRp C F H d v) ∧ PostE C W e F σ H (opt o fun r => .ok r e) Q
section
variable {X : Cx} {C : G0} {W : WX}
theorem OpP.v {ds : List D} {vs : List V} {H : Hp} {Q : VK} {d : D} {v : V} (h : OpP C W (some (.v d)) ds vs H Q) (r : ∀ F, Sub F H → (∀ (i : Nat) d v, ds[i]? = some d → vs[i]? = some v → CRp C F H d v) → Rep C F d v) : Q v H := by
  obtain ⟨e, F, σ, R, q, h⟩ := h
  exact h.val R (r F R.sub q)
theorem OpP.tup {ds : List D} {vs : List V} {H : Hp} {Q : VK} {xs : List D} {ws : List V} (h : OpP C W (some (.v (.tup xs))) ds vs H Q) (r : ∀ F, Sub F H → (∀ (i : Nat) d v, ds[i]? = some d → vs[i]? = some v → CRp C F H d v) → RepL C F xs ws) :
    ∀ p, H p = none → Q (.ref p) (upd H p (.tup ws)) := fun p hp => by
  obtain ⟨e, F, σ, R, q, h⟩ := h
  exact h.newTup R (r F R.sub q) hp
theorem OpP.lst {ds : List D} {vs : List V} {H : Hp} {Q : VK} {xs : List D} {ws : List V} (h : OpP C W (some (.t (.lst xs))) ds vs H Q) (r : ∀ F, Sub F H → (∀ (i : Nat) d v, ds[i]? = some d → vs[i]? = some v → CRp C F H d v) → RepL C F xs ws) :
    ∀ p, H p = none → Q (.ref p) (upd H p (.lst ws)) := fun p hp => by
  obtain ⟨e, F, σ, R, q, h⟩ := h
  exact h.newLst R (r F R.sub q) hp
/-- what the operands are, ahead -/
theorem OpP.at {o : Option RV} {ds : List D} {vs : List V} {H : Hp} {Q : VK} (h : OpP C W o ds vs H Q) : ∃ F, Sub F H ∧ (∀ (i : Nat) d v, ds[i]? = some d → vs[i]? = some v → CRp C F H d v) ∧ ∃ r, o = some r := by
  obtain ⟨e, F, σ, R, q, h⟩ := h
  obtain ⟨r, e1, _⟩ := h.opt
  exact ⟨F, R.sub, q, r, e1⟩
/-- one heap, one shape: the items of two views agree -/
theorem repL_of_rd {F H : Hp} {a : Addr} {vs ws : List V} (h : H a = some (.lst vs)) (k : H a = some (.lst ws)) : vs = ws := by rw [h] at k; cases k; rfl
theorem op_bin (hK : X.K = C.K) (o : Bop) : OpR X (binaryOp (opOf o)) (fun x y H Q => ∃ d1 d2, OpP C W (binop o d1 d2) [d1, d2] [x, y] H Q) := by
  intro pins s σ H x y v u Q I rx ry h
  obtain ⟨d1, d2, h⟩ := h
  obtain ⟨F, sF, hq, r, er⟩ := h.at
  have q1 := hq 0 d1 x rfl rfl
  have q2 := hq 1 d2 y rfl rfl
  unfold binop at er
  split at er
  · cases er; cases q1.int; cases q2.int
    exact op_add pins s σ H _ _ v u Q I rx ry ⟨_, _, rfl, rfl, h.v fun _ _ _ => rep_int⟩
  · split at er <;> cases er
    rename_i hz
    cases q1.str; cases q2.str
    simp only [binop, if_pos hz] at h
    exact op_add_str pins s σ H _ _ v u Q I rx ry ⟨_, _, rfl, rfl, by rw [← sizeL_eq]; exact hz, h.v fun _ _ _ => rep_str⟩
  · split at er <;> cases er
    rename_i hz
    simp only [binop, if_pos hz] at h
    obtain ⟨a, vs, rfl, ha, ra⟩ := q1.lst sF
    obtain ⟨b, ws, rfl, hb, rb⟩ := q2.lst sF
    refine op_cat pins s σ H _ _ v u Q I rx ry ⟨a, b, vs, ws, rfl, rfl, ha, hb, by rw [← sizeL_eq, ← ra.len, ← rb.len]; exact hz, h.lst fun F2 s2 k => ?_⟩
    obtain ⟨a2, vs2, e1, ha2, ra2⟩ := (k 0 _ _ rfl rfl).lst s2
    obtain ⟨b2, ws2, e2, hb2, rb2⟩ := (k 1 _ _ rfl rfl).lst s2
    cases e1; cases e2
    rw [ha] at ha2; cases ha2
    rw [hb] at hb2; cases hb2
    exact ra2.append rb2
  · split at er <;> cases er
    rename_i hz
    simp only [binop, if_pos hz] at h
    obtain ⟨e, F2, σ2, R2, k, h⟩ := h
    obtain ⟨a, vs, rfl, ha, ra⟩ := (k 0 _ _ rfl rfl).tup
    obtain ⟨b, ws, rfl, hb, rb⟩ := (k 1 _ _ rfl rfl).tup
    refine op_catA pins s σ H _ _ v u Q I rx ry ⟨a, b, vs, ws, rfl, rfl, by rw [hK]; exact R2.sub.sqT ha, by rw [hK]; exact R2.sub.sqT hb, by rw [← sizeL_eq, ← ra.len, ← rb.len]; exact hz, fun z => ?_, fun _ z => ?_, fun _ _ p hp => ?_⟩
    · refine h.val R2 ?_
      subst z
      have : ∀ xs : List D, RepL C F2 xs [] → xs = [] := fun xs r => by cases xs with
        | nil => rfl
        | cons d ds => have := r.len; simp at this
      rw [this _ ra, List.nil_append, Rep]
      exact ⟨b, ws, rfl, hb, rb⟩
    · refine h.val R2 ?_
      subst z
      have : ∀ xs : List D, RepL C F2 xs [] → xs = [] := fun xs r => by cases xs with
        | nil => rfl
        | cons d ds => have := r.len; simp at this
      rw [this _ rb, List.append_nil, Rep]
      exact ⟨a, vs, rfl, ha, ra⟩
    · exact h.newTup R2 (ra.append rb) hp
  · cases er; cases q1.int; cases q2.int
    exact op_sub pins s σ H _ _ v u Q I rx ry ⟨_, _, rfl, rfl, h.v fun _ _ _ => rep_int⟩
  · split at er <;> cases er
    rename_i hz
    cases q1.int; cases q2.int
    simp only [binop, if_pos hz] at h
    unfold mulOk at hz
    rw [Bool.or_eq_true, Bool.or_eq_true] at hz
    rcases hz with (hz | hz) | hz
    · have hz' := of_decide_eq_true hz
      exact op_mul pins s σ H _ _ v u Q I rx ry ⟨_, _, rfl, rfl, .inl (by omega), h.v fun _ _ _ => rep_int⟩
    · have hz' := of_decide_eq_true hz
      exact op_mul pins s σ H _ _ v u Q I rx ry ⟨_, _, rfl, rfl, .inr (by omega), h.v fun _ _ _ => rep_int⟩
    · have hz' := of_decide_eq_true hz
      exact op_mulW pins s σ H _ _ v u Q I rx ry ⟨_, _, rfl, rfl, hz', h.v fun _ _ _ => rep_int⟩
  · split at er <;> cases er
    rename_i hz
    simp only [binop, if_pos hz] at h
    rw [Bool.and_eq_true, Bool.and_eq_true] at hz
    obtain ⟨a, vs, rfl, ha, ra⟩ := q1.lst sF
    cases q2.int
    refine op_rep pins s σ H _ _ v u Q I rx ry ⟨a, _, vs, rfl, rfl, ha, of_decide_eq_true hz.1.1, of_decide_eq_true hz.1.2, by rw [← sizeL_eq, ← ra.len]; exact of_decide_eq_true hz.2, h.lst fun F2 s2 k => ?_⟩
    obtain ⟨a2, vs2, e1, ha2, ra2⟩ := (k 0 _ _ rfl rfl).lst s2
    cases e1
    rw [ha] at ha2; cases ha2
    exact ra2.rep _
  · rename_i i0 j0
    by_cases hz : divOk j0 = true
    · rw [if_pos hz] at er
      cases er
      cases q1.int; cases q2.int
      simp only [binop, if_pos hz] at h
      unfold divOk at hz
      rw [Bool.and_eq_true] at hz
      exact op_fdivW pins s σ H _ _ v u Q I rx ry ⟨_, _, rfl, rfl, ⟨of_decide_eq_true hz.1, of_decide_eq_true hz.2⟩, h.v fun _ _ _ => rep_int⟩
    · rw [if_neg hz] at er
      split at er <;> cases er
      rename_i hn
      cases q1.int; cases q2.int
      simp only [binop, if_neg hz, if_pos hn] at h
      rw [Bool.and_eq_true] at hn
      exact op_fdivN pins s σ H _ _ v u Q I rx ry ⟨_, _, rfl, rfl, ⟨of_decide_eq_true hn.1, of_decide_eq_true hn.2⟩, h.v fun _ _ _ => rep_int⟩
  · split at er <;> cases er
    rename_i hz
    cases q1.int; cases q2.int
    simp only [binop, if_pos hz] at h
    exact op_mod pins s σ H _ _ v u Q I rx ry ⟨_, _, rfl, rfl, hz, h.v fun _ _ _ => rep_int⟩
  · split at er <;> cases er
    rename_i hz
    cases q1.int; cases q2.int
    simp only [binop, if_pos hz] at h
    unfold powOk at hz
    rw [Bool.and_eq_true, Bool.and_eq_true] at hz
    exact op_pow pins s σ H _ _ v u Q I rx ry ⟨_, _, rfl, rfl, ⟨of_decide_eq_true hz.1.1, of_decide_eq_true hz.1.2, of_decide_eq_true hz.2⟩, h.v fun _ _ _ => rep_int⟩
  · split at er <;> cases er
    rename_i hz
    cases q1.int; cases q2.int
    simp only [binop, if_pos hz] at h
    unfold powOk at hz
    rw [Bool.and_eq_true, Bool.and_eq_true] at hz
    exact op_shl pins s σ H _ _ v u Q I rx ry ⟨_, _, rfl, rfl, ⟨of_decide_eq_true hz.1.1, of_decide_eq_true hz.1.2, of_decide_eq_true hz.2⟩, h.v fun _ _ _ => rep_int⟩
  · cases er
end
end PL
end

section
namespace PL
open PySem PySem.Spec L2

section
variable {X : Cx} {C : G0} {H F : Hp}
mutual
theorem rep_dp : ∀ (d : D) (v : V), Rep C H d v → PyData.canLay0 (toPy d) = true → Dp C.K H v (toPy d)
  | .non, v, h, _ => by rw [Rep] at h; subst h; exact .non
  | .bl b, v, h, _ => by rw [Rep] at h; subst h; exact .bl b
  | .int b, v, h, _ => by rw [Rep] at h; subst h; exact .int b
  | .str b, v, h, _ => by rw [Rep] at h; subst h; exact .str b
  | .tup ds, v, h, k => by
    rw [Rep] at h
    obtain ⟨a, vs, rfl, h1, h2⟩ := h
    rw [toPy, PyData.canLay0] at k
    exact .tup h1 (rep_dps ds vs h2 k)
  | .lst ds, v, h, k => by
    rw [Rep] at h
    obtain ⟨a, vs, rfl, h1, h2⟩ := h
    rw [toPy, PyData.canLay0] at k
    exact .lst (.inl (.inl h1)) (rep_dps ds vs h2 k)
  | .scr _, _, _, k => by simp [toPy, PyData.canLay0] at k
  | .dk _ _, _, _, k => by simp [toPy, PyData.canLay0] at k
  | .dt _ _, _, _, k => by simp [toPy, PyData.canLay0] at k
  | .fn _, _, _, k => by simp [toPy, PyData.canLay0] at k
  | .exn _ _, _, _, k => by simp [toPy, PyData.canLay0] at k
theorem rep_dps : ∀ (ds : List D) (vs : List V), RepL C H ds vs → PyData.canLayAll0 (toPys ds) = true → DpAll C.K H vs (toPys ds)
  | [], vs, h, _ => by rw [RepL] at h; subst h; exact .nil
  | d :: ds, vs, h, k => by
    rw [RepL] at h
    obtain ⟨v, r, rfl, h1, h2⟩ := h
    rw [toPys, PyData.canLayAll0, Bool.and_eq_true] at k
    exact .cons (rep_dp d v h1 k.1) (rep_dps ds r h2 k.2)
end
def toV : D → V
  | .bl b => .bl b
  | .int b => .int b
  | .str b => .str b
  | _ => .non
theorem rep_flat {d : D} {v : V} (h : Rep C H d v) (f : flatD d = true) : v = toV d ∧ flatV v = true := by
  cases d <;> first | (rw [Rep] at h; subst h; exact ⟨rfl, rfl⟩) | cases f
theorem eqV_toV {a b : D} (fa : flatD a = true) (fb : flatD b = true) : eqV (toV a) (toV b) = eqF a b := by
  cases a <;> cases b <;> first | exact absurd (show false = true from fa) Bool.false_ne_true | exact absurd (show false = true from fb) Bool.false_ne_true | rfl
theorem repL_flat : ∀ {ds : List D} {vs : List V}, RepL C H ds vs → ds.all flatD = true → vs = ds.map toV ∧ vs.all flatV = true
  | [], vs, h, _ => by rw [RepL] at h; subst h; exact ⟨rfl, rfl⟩
  | d :: ds, vs, h, f => by
    rw [RepL] at h
    obtain ⟨v, r, rfl, h1, h2⟩ := h
    rw [List.all_cons, Bool.and_eq_true] at f
    obtain ⟨e1, e2⟩ := rep_flat h1 f.1
    obtain ⟨e3, e4⟩ := repL_flat h2 f.2
    exact ⟨by rw [e1, e3]; rfl, by rw [List.all_cons, e2, e4]; rfl⟩
theorem inV_of {x : D} (fx : flatD x = true) : ∀ {ds : List D}, ds.all flatD = true → inV (toV x) (ds.map toV) = ds.any fun y => eqF y x
  | [], _ => rfl
  | d :: ds, f => by
    rw [List.all_cons, Bool.and_eq_true] at f
    have ih := inV_of fx f.2
    unfold inV at ih ⊢
    rw [List.map_cons, List.any_cons, List.any_cons, eqV_toV f.1 fx, ih]
theorem dlook_val {κ : Type} [DecidableEq κ] {k : κ} : ∀ {ks : List κ} {ds : List D} {vs : List V}, ks.length = ds.length → RepL C H ds vs → (valV (ks.zip vs) k).isSome = (dlook ks ds k).isSome ∧ ∀ d, dlook ks ds k = some d → ∃ v, valV (ks.zip vs) k = some v ∧ Rep C H d v
  | [], [], vs, _, h => by rw [RepL] at h; subst h; exact ⟨rfl, fun d e => by cases e⟩
  | j :: ks, d :: ds, vs, l, h => by
    rw [RepL] at h
    obtain ⟨v, r, rfl, h1, h2⟩ := h
    rw [List.zip_cons_cons]
    by_cases e : j = k
    · rw [valV_pos (p := (j, v)) e]
      simp only [dlook, if_pos e]
      exact ⟨rfl, fun d' q => by cases q; exact ⟨v, rfl, h1⟩⟩
    · rw [valV_neg (p := (j, v)) e]
      simp only [dlook, if_neg e]
      exact dlook_val (by simpa using l) h2
theorem keyOf_V {d : D} {k : Key} {v : V} (h : Rep C H d v) (e : keyOf d = some k) : v = kV k := by
  cases d <;> simp only [keyOf] at e <;> first | (cases e; rw [Rep] at h; subst h; rfl) | cases e
theorem non_rep {d : D} {v : V} (h : Rep C H d v) : decide (v = .non) = isNon d := by
  cases d <;> rw [Rep] at h
  case non => subst h; rfl
  case bl => subst h; rfl
  case int => subst h; rfl
  case str => subst h; rfl
  case tup => obtain ⟨a, vs, rfl, _⟩ := h; rfl
  case lst => obtain ⟨a, vs, rfl, _⟩ := h; rfl
  case scr => obtain ⟨a, rfl, _⟩ := h; rfl
  case dk => obtain ⟨a, vs, rfl, _⟩ := h; rfl
  case dt => obtain ⟨a, vs, rfl, _⟩ := h; rfl
  case fn => subst h; rfl
  case exn => obtain ⟨a, rfl⟩ := h; rfl
def rCmp (C : G0) (o : CmpOp) : R2 := fun x y H Q => ∃ d1 d2 b, cmpop o d1 d2 = some b ∧ Rep C H d1 x ∧ Rep C H d2 y ∧ Q (.bl b) H
theorem op_cmp (hK : X.K = C.K) (hu : X.A.units + 64 < cLine) (o : CmpOp) : OpR X (compareOp o) (rCmp C o) := by
  intro pins s σ H x y v u Q I rx ry h
  obtain ⟨d1, d2, b, er, q1, q2, q⟩ := h
  have hu1 : X.A.units + 1 < cLine := by omega
  unfold cmpop at er
  split at er
  · unfold eqD at er
    split at er <;> cases er
    rename_i hz
    rw [Bool.and_eq_true] at hz
    refine op_eqD hu pins s σ H _ _ v u Q I rx ry ⟨_, _, ?_, ?_, hz.1, hz.2, q⟩
    · rw [hK]; exact rep_dp _ _ q1 (SeqAt.canLay_of_shaped hz.1)
    · rw [hK]; exact rep_dp _ _ q2 (SeqAt.canLay_of_shaped hz.2)
  · unfold eqD at er
    split at er <;> cases er
    rename_i hz
    rw [Bool.and_eq_true] at hz
    refine op_neD hu pins s σ H _ _ v u Q I rx ry ⟨_, _, ?_, ?_, hz.1, hz.2, q⟩
    · rw [hK]; exact rep_dp _ _ q1 (SeqAt.canLay_of_shaped hz.1)
    · rw [hK]; exact rep_dp _ _ q2 (SeqAt.canLay_of_shaped hz.2)
  · cases er; rw [Rep] at q1 q2; subst q1 q2
    exact op_lt pins s σ H _ _ v u Q I rx ry ⟨_, _, rfl, rfl, q⟩
  · cases er; rw [Rep] at q1 q2; subst q1 q2
    exact op_le pins s σ H _ _ v u Q I rx ry ⟨_, _, rfl, rfl, q⟩
  · cases er; rw [Rep] at q1 q2; subst q1 q2
    exact op_gt pins s σ H _ _ v u Q I rx ry ⟨_, _, rfl, rfl, q⟩
  · cases er; rw [Rep] at q1 q2; subst q1 q2
    exact op_ge pins s σ H _ _ v u Q I rx ry ⟨_, _, rfl, rfl, q⟩
  · cases er; rw [Rep] at q2; subst q2
    exact op_isN pins s σ H _ _ v u Q I rx ry ⟨rfl, by rw [non_rep q1]; exact q⟩
  · cases er; rw [Rep] at q2; subst q2
    exact op_notN pins s σ H _ _ v u Q I rx ry ⟨rfl, by rw [non_rep q1]; exact q⟩
  · cases er; rw [Rep] at q1 q2; subst q1 q2
    exact op_isBl pins s σ H _ _ v u Q I rx ry ⟨_, _, rfl, rfl, q⟩
  · cases er; rw [Rep] at q1 q2; subst q1 q2
    exact op_notBl pins s σ H _ _ v u Q I rx ry ⟨_, _, rfl, rfl, q⟩
  · unfold inD at er
    split at er <;> cases er
    rename_i hz
    rw [Bool.and_eq_true] at hz
    rw [Rep] at q2
    obtain ⟨a, vs, rfl, h1, h2⟩ := q2
    obtain ⟨e1, e2⟩ := rep_flat q1 hz.1
    obtain ⟨e3, e4⟩ := repL_flat h2 hz.2
    refine op_in_seq pins s σ H _ _ v u Q I rx ry ⟨a, vs, rfl, .inr (by rw [hK]; exact h1), e2, e4, ?_⟩
    rw [e1, e3, if_neg Bool.false_ne_true, inV_of hz.1 hz.2]; exact q
  · unfold inD at er
    split at er <;> cases er
    rename_i hz
    rw [Bool.and_eq_true] at hz
    rw [Rep] at q2
    obtain ⟨a, vs, rfl, h1, h2⟩ := q2
    obtain ⟨e1, e2⟩ := rep_flat q1 hz.1
    obtain ⟨e3, e4⟩ := repL_flat h2 hz.2
    refine op_in_seq pins s σ H _ _ v u Q I rx ry ⟨a, vs, rfl, .inl (.inl (.inl h1)), e2, e4, ?_⟩
    rw [e1, e3, if_neg Bool.false_ne_true, inV_of hz.1 hz.2]; exact q
  · obtain ⟨k, ek, er⟩ := Option.map_eq_some_iff.mp er
    cases er
    rw [Rep] at q2
    obtain ⟨a, vs, rfl, h1, l, h2⟩ := q2
    obtain rfl : u = Value.ref a := ry
    have hk := keyOf_V q1 ek
    obtain ⟨e1, _⟩ := dlook_val (k := k) l h2
    exact d_in hu1 I (.inl ⟨_, k, .inl h1, hk, rfl⟩) rx fun s' I' => ⟨.bl _, H, I', rfl, by rw [e1]; exact q⟩
  · obtain ⟨b', eb, er⟩ := Option.map_eq_some_iff.mp er
    cases er
    unfold inD at eb
    split at eb <;> cases eb
    rename_i hz
    rw [Bool.and_eq_true] at hz
    rw [Rep] at q2
    obtain ⟨a, vs, rfl, h1, h2⟩ := q2
    obtain ⟨e1, e2⟩ := rep_flat q1 hz.1
    obtain ⟨e3, e4⟩ := repL_flat h2 hz.2
    refine op_notIn_seq pins s σ H _ _ v u Q I rx ry ⟨a, vs, rfl, .inr (by rw [hK]; exact h1), e2, e4, ?_⟩
    rw [e1, e3, if_pos rfl, inV_of hz.1 hz.2]; exact q
  · obtain ⟨b', eb, er⟩ := Option.map_eq_some_iff.mp er
    cases er
    unfold inD at eb
    split at eb <;> cases eb
    rename_i hz
    rw [Bool.and_eq_true] at hz
    rw [Rep] at q2
    obtain ⟨a, vs, rfl, h1, h2⟩ := q2
    obtain ⟨e1, e2⟩ := rep_flat q1 hz.1
    obtain ⟨e3, e4⟩ := repL_flat h2 hz.2
    refine op_notIn_seq pins s σ H _ _ v u Q I rx ry ⟨a, vs, rfl, .inl (.inl (.inl h1)), e2, e4, ?_⟩
    rw [e1, e3, if_pos rfl, inV_of hz.1 hz.2]; exact q
  · obtain ⟨k, ek, er⟩ := Option.map_eq_some_iff.mp er
    cases er
    rw [Rep] at q2
    obtain ⟨a, vs, rfl, h1, l, h2⟩ := q2
    obtain rfl : u = Value.ref a := ry
    have hk := keyOf_V q1 ek
    obtain ⟨e1, _⟩ := dlook_val (k := k) l h2
    exact d_notIn hu1 I (.inl ⟨_, k, .inl h1, hk, rfl⟩) rx fun s' I' => ⟨.bl _, H, I', rfl, by rw [e1]; exact q⟩
  · cases er
/-- truth -/
theorem tru_rep {d : D} {v : V} {b : Bool} (h : Rep C H d v) (t : truth d = some b) : (∃ ks xs, d = .dk ks xs ∧ ∃ a vs, v = .ref a ∧ H a = some (.dK (ks.zip vs)) ∧ b = !(ks.zip vs).isEmpty) ∨ TruV C.K v H b := by
  cases d <;> simp only [truth] at t <;> rw [Rep] at h
  case non => cases t; subst h; exact .inr rfl
  case bl => cases t; subst h; exact .inr rfl
  case int => cases t; subst h; exact .inr rfl
  case str =>
    split at t <;> cases t
    rename_i hz
    subst h; exact .inr ⟨by rw [← sizeL_eq]; exact hz, rfl⟩
  case tup =>
    obtain ⟨a, vs, rfl, h1, h2⟩ := h
    cases t
    refine .inr (.inr (.inl ⟨vs, h1, ?_⟩))
    have := h2.len
    cases vs <;> cases ‹List D› <;> simp_all
  case lst =>
    obtain ⟨a, vs, rfl, h1, h2⟩ := h
    cases t
    refine .inr (.inl ⟨vs, .inl (.inl h1), ?_⟩)
    have := h2.len
    cases vs <;> cases ‹List D› <;> simp_all
  case scr ns =>
    obtain ⟨a, rfl, h1⟩ := h
    cases t
    refine .inr (.inl ⟨_, h1, ?_⟩)
    cases ns <;> simp
  case dk ks ds =>
    obtain ⟨a, vs, rfl, h1, l, h2⟩ := h
    cases t
    refine .inl ⟨ks, ds, rfl, a, vs, rfl, h1, ?_⟩
    have := h2.len
    cases vs <;> cases ks <;> simp_all
  all_goals cases t
theorem tru_d (hK : X.K = C.K) : TruR X (fun x H Q => ∃ d b, truth d = some b ∧ Rep C H d x ∧ Q b H) := by
  intro pins s σ H x v Q I rx h
  obtain ⟨d, b, t, r, q⟩ := h
  rcases tru_rep r t with ⟨ks, xs, rfl, a, vs, rfl, hd, eb⟩ | h
  · cases rx
    obtain ⟨hz, hS, vs', r', m⟩ := I.hok a _ hd
    have hlen := Paired.length r'
    have hl := line63
    subst eb
    exact wpAny_truthy_dict hS m (by omega) ⟨H, I.tok _, by rw [isEmpty_kv r']; exact q⟩
  · exact tru_ok pins s σ H x v Q I rx ⟨b, by rw [hK]; exact h, q⟩
end
end PL
end

section
namespace PL
open PySem PySem.Spec L2

section
variable {X : Cx} {C : G0} {W : WX} {H F : Hp}
theorem atI_rep {ds : List D} {vs : List V} {i : Int} {d : D} (r : RepL C F ds vs) (h : atI ds i = some d) : ∃ v, atI vs i = some v ∧ Rep C F d v := by
  unfold atI at h ⊢
  rw [← r.len]
  cases e : ixN ds.length i with
  | none => rw [e] at h; cases h
  | some j => rw [e] at h; exact r.get h
/-- an item -/
theorem ix_item (hK : X.K = C.K) (hu : X.A.units + 1 < cLine) : IxR X (fun x y H Q => ∃ d1 d2, OpP C W ((item d1 d2).map RV.v) [d1, d2] [x, y] H Q) := by
  intro value slice pins s σ H x y v u Q I rx ry h hs
  obtain ⟨d1, d2, h⟩ := h
  obtain ⟨e, F, σ2, R, k, hp⟩ := h
  have q1 := k 0 d1 x rfl rfl
  have q2 := k 1 d2 y rfl rfl
  obtain ⟨r, er0, hp0⟩ := hp.opt
  obtain ⟨d, er, rfl⟩ := Option.map_eq_some_iff.mp er0
  clear hp er0
  rename PostE C W e F σ2 H (Out.ok (RV.v d) e) Q => hp
  unfold item at er
  split at er
  · cases q2.int
    obtain ⟨a, vs, rfl, ha, ra⟩ := q1.tup
    obtain ⟨w, ew, rw'⟩ := atI_rep ra er
    exact ix_tup value slice pins s σ H _ _ v u Q I rx ry ⟨a, vs, _, w, rfl, rfl, by rw [hK]; exact R.sub.sqT ha, ew, hp.val R rw'⟩ hs
  · cases q2.int
    obtain ⟨a, vs, rfl, ha, ra⟩ := q1.lst R.sub
    obtain ⟨w, ew, rw'⟩ := atI_rep ra er
    exact ix_list value slice pins s σ H _ _ v u Q I rx ry ⟨a, vs, _, w, rfl, rfl, .inl (.inl ha), ew, hp.val R rw'⟩ hs
  · cases q2.int
    obtain ⟨a, rfl, ha⟩ := q1.scr
    obtain ⟨z, ez, rfl⟩ := Option.map_eq_some_iff.mp er
    refine ix_list value slice pins s σ H _ _ v u Q I rx ry ⟨a, _, _, .int z, rfl, rfl, by rw [hK]; exact R.sub.sqL ha, ?_, hp.val R rep_int⟩ hs
    unfold atI at ez ⊢
    rw [List.length_map]
    rename_i ns i
    cases e1 : ixN ns.length i with
    | none => rw [e1] at ez; cases ez
    | some j => rw [e1] at ez; show (ns.map V.int)[j]? = _; rw [List.getElem?_map]; rw [show ns[j]? = some z from ez]; rfl
  · rename_i ks ds d2'
    obtain ⟨kk, ek, er⟩ := Option.bind_eq_some_iff.mp er
    obtain ⟨a, vs, rfl, h1, l, h2⟩ := q1.dk R.sub
    have hk := keyOf_V (q2.rep R.sub) ek
    obtain ⟨_, hv⟩ := dlook_val (k := kk) l h2
    obtain ⟨w, ew, rw'⟩ := hv d er
    obtain rfl : v = Value.ref a := rx
    have g : DGet H a y (some w) := .inl ⟨_, kk, .inl h1, hk, ew.symm⟩
    exact PyProof.Rows.tail_any (dict_typeIs I g) PySem.F.slot_dict_getitem.lookup (d_getItem hu I g ry fun w' s' I' rr => ⟨w, H, I', rr, hp.val R rw'⟩) hs
  · split at er
    · obtain ⟨z, ez, rfl⟩ := Option.map_eq_some_iff.mp er
      cases q2.int; cases q1.str
      exact ix_str value slice pins s σ H _ _ v u Q I rx ry ⟨_, _, z, rfl, rfl, by rw [← sizeL_eq]; assumption, ez, hp.val R rep_str⟩ hs
    · cases er
  · cases er
theorem cut_rep {ds : List D} {vs : List V} {lo hi : Option Int} (r : RepL C F ds vs) : RepL C F (cutD ds lo hi) (cutV vs lo hi) := by
  unfold cutD cutV
  rw [← r.len]
  exact (r.drop _).take _
theorem cut_map {ns : List Int} {lo hi : Option Int} : cutV (ns.map V.int) lo hi = (cutD ns lo hi).map V.int := by
  unfold cutD cutV
  rw [List.length_map, List.map_take, List.map_drop]
theorem repL_ints : ∀ (ns : List Int), RepL C F (ns.map D.int) (ns.map V.int)
  | [] => .nil
  | n :: ns => .cons rep_int (repL_ints ns)
theorem sl_slice (hK : X.K = C.K) : SlR X (fun x lo hi H Q => ∃ d, OpP C W (sliceD d lo hi) [d] [x] H Q) := by
  intro pins s σ H x v vl vu lo hi sl Q I rx hs pl pu h
  obtain ⟨d, h⟩ := h
  obtain ⟨e, F, σ2, R, k, hp⟩ := h
  have q1 := k 0 d x rfl rfl
  obtain ⟨r, er, hp⟩ := hp.opt
  unfold sliceD at er
  split at er
  · cases er
    obtain ⟨a, vs, rfl, ha, ra⟩ := q1.lst R.sub
    exact sl_list pins s σ H _ v vl vu lo hi sl Q I rx hs pl pu ⟨a, vs, rfl, .inl (.inl ha), fun p hn => hp.newLst R (cut_rep ra) hn⟩
  · cases er
    obtain ⟨a, rfl, ha⟩ := q1.scr
    refine sl_list pins s σ H _ v vl vu lo hi sl Q I rx hs pl pu ⟨a, _, rfl, by rw [hK]; exact R.sub.sqL ha, fun p hn => ?_⟩
    rw [cut_map]
    exact hp.newLst R (repL_ints _) hn
  · cases er
    obtain ⟨a, vs, rfl, ha, ra⟩ := q1.tup
    refine sl_tupA pins s σ H _ v vl vu lo hi sl Q I rx hs pl pu ⟨a, vs, rfl, by rw [hK]; exact R.sub.sqT ha, fun w => ?_, fun _ p hn => hp.newTup R (cut_rep ra) hn⟩
    refine hp.val R ?_
    have z := cut_rep (lo := lo) (hi := hi) ra
    have e1 : cutV vs lo hi = vs := by
      unfold cutV
      rw [w.1, w.2, Nat.sub_zero, List.drop_zero, List.take_length]
    rw [e1] at z
    rw [Rep]
    exact ⟨a, vs, rfl, ha, z⟩
  · cases er
/-! built-in functions -/
def biV : Bi → Value
  | .len => .builtin "len"
  | .abs => .builtin "abs"
  | .tuple => .type "tuple"
  | .list => .type "list"
  | .int1 => .type "int"
  | .sum => .builtin "sum"
  | .min1 => .builtin "min"
  | .max1 => .builtin "max"
  | .min2 => .builtin "min"
  | .max2 => .builtin "max"
  | .all => .builtin "all"
  | .any => .builtin "any"
  | .sorted => .builtin "sorted"
  | .gcd => .builtin "math.gcd"
theorem intsD_rep : ∀ {ds : List D} {ns : List Int} {vs : List V}, intsD ds = some ns → RepL C F ds vs → vs = ns.map V.int
  | [], _, vs, e, r => by cases e; rw [RepL] at r; exact r
  | d :: ds, ns, vs, e, r => by
    rw [RepL] at r
    obtain ⟨v, w, rfl, r1, r2⟩ := r
    cases d <;> simp only [intsD] at e <;> first | cases e | skip
    obtain ⟨l, e1, rfl⟩ := Option.map_eq_some_iff.mp e
    rw [Rep] at r1
    rw [r1, intsD_rep e1 r2]; rfl
theorem blsD_rep : ∀ {ds : List D} {ns : List Bool} {vs : List V}, blsD ds = some ns → RepL C F ds vs → vs = ns.map V.bl
  | [], _, vs, e, r => by cases e; rw [RepL] at r; exact r
  | d :: ds, ns, vs, e, r => by
    rw [RepL] at r
    obtain ⟨v, w, rfl, r1, r2⟩ := r
    cases d <;> simp only [blsD] at e <;> first | cases e | skip
    obtain ⟨l, e1, rfl⟩ := Option.map_eq_some_iff.mp e
    rw [Rep] at r1
    rw [r1, blsD_rep e1 r2]; rfl
theorem lmin_mem : ∀ {l : List Int}, l ≠ [] → lmin l ∈ l ∧ ∀ y ∈ l, lmin l ≤ y
  | [], h => (h rfl).elim
  | [x], _ => ⟨by simp [lmin], by simp [lmin]⟩
  | x :: y :: r, _ => by
    obtain ⟨h1, h2⟩ := lmin_mem (l := y :: r) (by simp)
    rw [lmin]
    split
    · rename_i h
      exact ⟨by simp, fun z hz => by
        rcases List.mem_cons.mp hz with rfl | hz
        · omega
        · exact Int.le_trans h (h2 z hz)⟩
    · rename_i h
      exact ⟨List.mem_cons_of_mem _ h1, fun z hz => by
        rcases List.mem_cons.mp hz with rfl | hz
        · omega
        · exact h2 z hz⟩
    · exact fun h => by cases h
theorem lmax_mem : ∀ {l : List Int}, l ≠ [] → lmax l ∈ l ∧ ∀ y ∈ l, y ≤ lmax l
  | [], h => (h rfl).elim
  | [x], _ => ⟨by simp [lmax], by simp [lmax]⟩
  | x :: y :: r, _ => by
    obtain ⟨h1, h2⟩ := lmax_mem (l := y :: r) (by simp)
    rw [lmax]
    split
    · rename_i h
      exact ⟨by simp, fun z hz => by
        rcases List.mem_cons.mp hz with rfl | hz
        · omega
        · exact Int.le_trans (h2 z hz) h⟩
    · rename_i h
      exact ⟨List.mem_cons_of_mem _ h1, fun z hz => by
        rcases List.mem_cons.mp hz with rfl | hz
        · omega
        · exact h2 z hz⟩
    · exact fun h => by cases h
theorem isort_ins (x : Int) : ∀ l : List Int, (isort.ins x l).Perm (x :: l) ∧ (l.Pairwise (· ≤ ·) → (isort.ins x l).Pairwise (· ≤ ·))
  | [] => ⟨.refl _, fun _ => by simp [isort.ins]⟩
  | y :: ys => by
    rw [isort.ins]
    split
    · rename_i h
      refine ⟨.refl _, fun p => ?_⟩
      refine List.pairwise_cons.mpr ⟨fun z hz => ?_, p⟩
      rcases List.mem_cons.mp hz with rfl | hz
      · exact h
      · exact Int.le_trans h ((List.pairwise_cons.mp p).1 z hz)
    · rename_i h
      obtain ⟨p1, p2⟩ := isort_ins x ys
      refine ⟨(p1.cons y).trans (.swap x y ys), fun p => ?_⟩
      obtain ⟨q1, q2⟩ := List.pairwise_cons.mp p
      refine List.pairwise_cons.mpr ⟨fun z hz => ?_, p2 q2⟩
      rcases List.mem_cons.mp (p1.mem_iff.mp hz) with rfl | hz
      · omega
      · exact q1 z hz
theorem isort_ok : ∀ l : List Int, (isort l).Perm l ∧ (isort l).Pairwise (· ≤ ·)
  | [] => ⟨.refl _, by simp [isort]⟩
  | x :: xs => by
    obtain ⟨p1, p2⟩ := isort_ok xs
    obtain ⟨q1, q2⟩ := isort_ins x (isort xs)
    rw [isort]
    exact ⟨q1.trans (p1.cons x), q2 p2⟩
theorem sorted_uniq : ∀ {l m : List Int}, l.Perm m → l.Pairwise (· ≤ ·) → m.Pairwise (· ≤ ·) → l = m
  | [], m, p, _, _ => by simpa using p.symm.eq_nil
  | x :: l, [], p, _, _ => by simpa using p.eq_nil
  | x :: l, y :: m, p, h1, h2 => by
    obtain ⟨a1, a2⟩ := List.pairwise_cons.mp h1
    obtain ⟨b1, b2⟩ := List.pairwise_cons.mp h2
    have e : x = y := by
      have m1 : y ∈ x :: l := p.mem_iff.mpr (by simp)
      have m2 : x ∈ y :: m := p.mem_iff.mp (by simp)
      rcases List.mem_cons.mp m1 with q | q
      · exact q.symm
      · rcases List.mem_cons.mp m2 with q' | q'
        · exact q'
        · have := a1 y q; have := b1 x q'; omega
    subst e
    rw [sorted_uniq (List.perm_cons x |>.mp p) a2 b2]
theorem one_of {α : Type} {d : D} {vs : List α} (h : [d].length = vs.length) : ∃ v, vs = [v] := by
  cases vs with
  | nil => simp at h
  | cons a l => cases l with
    | nil => exact ⟨a, rfl⟩
    | cons _ _ => simp at h
theorem two_of {α : Type} {d d' : D} {vs : List α} (h : [d, d'].length = vs.length) : ∃ v w, vs = [v, w] := by
  cases vs with
  | nil => simp at h
  | cons a l => cases l with
    | nil => simp at h
    | cons b m => cases m with
      | nil => exact ⟨a, b, rfl⟩
      | cons _ _ => simp at h
theorem call_bi (hK : X.K = C.K) (hc : X.calm = true) (b : Bi) : CallR X (biV b) (fun vs H Q => ∃ ds, OpP C W (biF b ds) ds vs H Q ∧ ds.length = vs.length) := by
  intro pins s σ H vs us Q I rv h
  obtain ⟨ds, h, hl⟩ := h
  obtain ⟨e, F, σ2, R, k, hp⟩ := h
  obtain ⟨r, er, hp0⟩ := hp.opt
  clear hp
  unfold biF at er
  split at er
  · cases er
    obtain ⟨v, rfl⟩ := one_of hl
    obtain ⟨a, ws, rfl, ha, ra⟩ := (k 0 _ _ rfl rfl).tup
    refine call_len_seq pins s σ H _ us Q I rv ⟨a, ws, rfl, .inr (by rw [hK]; exact R.sub.sqT ha), ?_⟩
    rw [← ra.len]; exact hp0.val R rep_int
  · cases er
    obtain ⟨v, rfl⟩ := one_of hl
    obtain ⟨a, ws, rfl, ha, ra⟩ := (k 0 _ _ rfl rfl).lst R.sub
    refine call_len_seq pins s σ H _ us Q I rv ⟨a, ws, rfl, .inl (.inl (.inl ha)), ?_⟩
    rw [← ra.len]; exact hp0.val R rep_int
  · cases er
    obtain ⟨v, rfl⟩ := one_of hl
    obtain ⟨a, rfl, ha⟩ := (k 0 _ _ rfl rfl).scr
    refine call_len_seq pins s σ H _ us Q I rv ⟨a, _, rfl, .inl (by rw [hK]; exact R.sub.sqL ha), ?_⟩
    rw [List.length_map]; exact hp0.val R rep_int
  · split at er <;> cases er
    obtain ⟨v, rfl⟩ := one_of hl
    cases (k 0 _ _ rfl rfl).str
    exact call_len_str pins s σ H _ us Q I rv ⟨_, rfl, by rw [← sizeL_eq]; assumption, hp0.val R rep_int⟩
  · cases er
    obtain ⟨v, rfl⟩ := one_of hl
    rename_i ks xs
    obtain ⟨a, ws, rfl, ha, l, ra⟩ := (k 0 _ _ rfl rfl).dk R.sub
    refine call_lenD pins s σ H _ us Q I rv ⟨a, _, rfl, ha, ?_⟩
    rw [List.length_zip, ← ra.len, l, Nat.min_self, ← l]
    exact hp0.val R rep_int
  · cases er
    obtain ⟨v, rfl⟩ := one_of hl
    cases (k 0 _ _ rfl rfl).int
    exact call_abs pins s σ H _ us Q I rv ⟨_, rfl, hp0.val R rep_int⟩
  · cases er
    obtain ⟨v, rfl⟩ := one_of hl
    obtain ⟨a, ws, rfl, ha, ra⟩ := (k 0 _ _ rfl rfl).tup
    exact call_tuple_of pins s σ H _ us Q I rv ⟨a, ws, rfl, .inr ⟨by rw [hK]; exact R.sub.sqT ha, hp0.val R (by rw [Rep]; exact ⟨a, ws, rfl, ha, ra⟩)⟩⟩
  · cases er
    obtain ⟨v, rfl⟩ := one_of hl
    obtain ⟨a, ws, rfl, ha, ra⟩ := (k 0 _ _ rfl rfl).lst R.sub
    exact call_tuple_of pins s σ H _ us Q I rv ⟨a, ws, rfl, .inl ⟨.inl (.inl ha), fun l hn => hp0.newTup R ra hn⟩⟩
  · cases er
    obtain ⟨v, rfl⟩ := one_of hl
    obtain ⟨a, ws, rfl, ha, ra⟩ := (k 0 _ _ rfl rfl).tup
    exact call_list_of pins s σ H _ us Q I rv ⟨a, ws, rfl, .inr (by rw [hK]; exact R.sub.sqT ha), fun l hn => hp0.newLst R ra hn⟩
  · cases er
    obtain ⟨v, rfl⟩ := one_of hl
    obtain ⟨a, ws, rfl, ha, ra⟩ := (k 0 _ _ rfl rfl).lst R.sub
    exact call_list_of pins s σ H _ us Q I rv ⟨a, ws, rfl, .inl (.inl (.inl ha)), fun l hn => hp0.newLst R ra hn⟩
  · cases er
    obtain ⟨v, rfl⟩ := one_of hl
    obtain ⟨a, rfl, ha⟩ := (k 0 _ _ rfl rfl).scr
    exact call_list_of pins s σ H _ us Q I rv ⟨a, _, rfl, .inl (by rw [hK]; exact R.sub.sqL ha), fun l hn => hp0.newLst R (repL_ints _) hn⟩
  · cases er
    obtain ⟨v, rfl⟩ := one_of hl
    cases (k 0 _ _ rfl rfl).int
    exact call_int1 pins s σ H _ us Q I rv (.inl ⟨_, rfl, hp0.val R rep_int⟩)
  · cases er
    obtain ⟨v, rfl⟩ := one_of hl
    cases (k 0 _ _ rfl rfl).bl
    exact call_int1 pins s σ H _ us Q I rv (.inr ⟨_, rfl, hp0.val R rep_int⟩)
  · obtain ⟨l, e1, rfl⟩ := Option.map_eq_some_iff.mp er
    obtain ⟨v, rfl⟩ := one_of hl
    obtain ⟨a, ws, rfl, ha, ra⟩ := (k 0 _ _ rfl rfl).lst R.sub
    cases intsD_rep e1 ra
    exact cr_sum hc pins s σ H _ us Q I rv ⟨a, l, rfl, .inl (.inl ha), hp0.val R rep_int⟩
  · obtain ⟨l, e1, rfl⟩ := Option.map_eq_some_iff.mp er
    obtain ⟨v, rfl⟩ := one_of hl
    obtain ⟨a, ws, rfl, ha, ra⟩ := (k 0 _ _ rfl rfl).lst R.sub
    have hlen := ra.len
    cases intsD_rep e1 ra
    rw [List.length_map] at hlen
    have hne : l ≠ [] := fun z => by subst z; simp at hlen
    refine cr_min hc pins s σ H _ us Q I rv ⟨a, l, rfl, .inl (.inl ha), by rw [← hlen]; simp, fun m h1 h2 => ?_⟩
    obtain ⟨g1, g2⟩ := lmin_mem hne
    have := h2 _ g1
    have := g2 _ h1
    have e : m = lmin l := by omega
    rw [e]; exact hp0.val R rep_int
  · obtain ⟨l, e1, rfl⟩ := Option.map_eq_some_iff.mp er
    obtain ⟨v, rfl⟩ := one_of hl
    obtain ⟨a, ws, rfl, ha, ra⟩ := (k 0 _ _ rfl rfl).lst R.sub
    have hlen := ra.len
    cases intsD_rep e1 ra
    rw [List.length_map] at hlen
    have hne : l ≠ [] := fun z => by subst z; simp at hlen
    refine cr_max hc pins s σ H _ us Q I rv ⟨a, l, rfl, .inl (.inl ha), by rw [← hlen]; simp, fun m h1 h2 => ?_⟩
    obtain ⟨g1, g2⟩ := lmax_mem hne
    have := h2 _ g1
    have := g2 _ h1
    have e : m = lmax l := by omega
    rw [e]; exact hp0.val R rep_int
  · cases er
    obtain ⟨v, w, rfl⟩ := two_of hl
    cases (k 0 _ _ rfl rfl).int; cases (k 1 _ _ rfl rfl).int
    exact call_min2 hc pins s σ H _ us Q I rv ⟨_, _, rfl, hp0.val R rep_int⟩
  · cases er
    obtain ⟨v, w, rfl⟩ := two_of hl
    cases (k 0 _ _ rfl rfl).int; cases (k 1 _ _ rfl rfl).int
    exact call_max2 hc pins s σ H _ us Q I rv ⟨_, _, rfl, hp0.val R rep_int⟩
  · obtain ⟨l, e1, rfl⟩ := Option.map_eq_some_iff.mp er
    obtain ⟨v, rfl⟩ := one_of hl
    obtain ⟨a, ws, rfl, ha, ra⟩ := (k 0 _ _ rfl rfl).lst R.sub
    cases blsD_rep e1 ra
    exact cr_all hc pins s σ H _ us Q I rv ⟨a, l, rfl, .inl (.inl ha), hp0.val R rep_bl⟩
  · obtain ⟨l, e1, rfl⟩ := Option.map_eq_some_iff.mp er
    obtain ⟨v, rfl⟩ := one_of hl
    obtain ⟨a, ws, rfl, ha, ra⟩ := (k 0 _ _ rfl rfl).lst R.sub
    cases blsD_rep e1 ra
    exact cr_any hc pins s σ H _ us Q I rv ⟨a, l, rfl, .inl (.inl ha), hp0.val R rep_bl⟩
  · obtain ⟨l, e1, rfl⟩ := Option.map_eq_some_iff.mp er
    obtain ⟨v, rfl⟩ := one_of hl
    obtain ⟨a, ws, rfl, ha, ra⟩ := (k 0 _ _ rfl rfl).lst R.sub
    cases intsD_rep e1 ra
    refine cr_sortedI pins s σ H _ us Q I rv ⟨a, l, rfl, .inl (.inl ha), fun ns' p h1 h2 hn => ?_⟩
    obtain ⟨g1, g2⟩ := isort_ok l
    rw [sorted_uniq (h1.trans g1.symm) h2 g2]
    exact hp0.newLst R (repL_ints _) hn
  · cases er
    obtain ⟨v, w, rfl⟩ := two_of hl
    cases (k 0 _ _ rfl rfl).int; cases (k 1 _ _ rfl rfl).int
    exact cr_gcd pins s σ H _ us Q I rv ⟨_, _, rfl, hp0.val R rep_int⟩
  · cases er
end
end PL
end

section
namespace PL
open PySem PySem.Spec L2

/-! ## the readings -/
section
variable (T : GT) (C : G0) (n : Nat) (W : WX)
def RE (a : E) : TE := fun σ H Q => ∃ e F, SR C e F σ H ∧ PostE C W e F σ H (evE T (callF T n) false a e) Q
def RT (a : E) : TT := fun σ H Q => ∃ e F, SR C e F σ H ∧ PostB C W e F σ H (toB (evE T (callF T n) true a e)) Q
def RA (as : List E) : TA := fun σ H Q => ∃ e F, SR C e F σ H ∧ PostA C W e F σ H (evA T (callF T n) as e) Q
def RO (a : Option E) : TO := fun σ H Q => ∃ e F, SR C e F σ H ∧ PostO C W e F σ H (evO T (callF T n) a e) Q
def RV' (k : Bool) (as : List E) : TE := fun σ H Q => ∃ e F, SR C e F σ H ∧ PostE C W e F σ H (evV T (callF T n) false k as e) Q
def RW (k : Bool) (as : List E) : TT := fun σ H Q => ∃ e F, SR C e F σ H ∧ PostB C W e F σ H (toB (evV T (callF T n) true k as e)) Q
end
/-- what a def promises -/
def SpI (T : GT) (C : G0) (n g : Nat) (np : Nat) : Sp := fun vs H Q E => ∃ (as : List SV) (F : Hp), vs.length = np ∧ (∀ s ∈ as, (∃ d, s = .val d) ∨ ∃ d, s = .bor d) ∧ SR C as F (vs.map some) H ∧
  match callF T n g as with
  | .ok r as' => ∀ v F' H', TrE C as F (vs.map some) H as' F' H' → RVok C H F' (vs.map some) H' as' r v → Q v H'
  | .exc c p as' => ∀ F' H', TrE C as F (vs.map some) H as' F' H' → p = [] ∧ E (.ref (C.cv c)) none H'
  | .stuck => False
def bnames : List String := ["len", "abs", "tuple", "list", "int", "sum", "min", "max", "all", "any", "sorted", "isinstance", "bool", "str", "dict", "range", "enumerate", "zip"]
def kwG (ps ks : List Str) (np : Nat) {α : Type} (us ws : List α) : List α := if us.length = np ∧ ws.length = ks.length then kwSort ps ks us ws else []
/-! ### a dict of the module, whole numbers for keys -/
def KDI (K : PySem.W.Frag) (a : Addr) (k : Int) (v : V) : Prop :=
  ∃ es n u, K.lookup a = some ⟨.type "dict", none, .dict es n, #[]⟩ ∧ (∀ e ∈ es.toList, ∃ x t, e.key = .int x t ∧ e.hash = hashInt x) ∧ findBy Value.isInt es k = some u ∧ RelV v u
theorem ix_kint {X : Cx} : IxR X (fun x y H Q => ∃ a k v, x = .ref a ∧ y = .int k ∧ KDI X.K a k v ∧ Q v H) := by
  intro value slice pins s σ H x y v u Q I rx ry h hs
  obtain ⟨a, k, r, rfl, rfl, ⟨es, n, u0, hl, hk, e, ru⟩, q⟩ := h
  obtain rfl : v = Value.ref a := rx
  obtain ⟨t, rfl⟩ := ry
  have hm : s.heap.MapOf (PySem.intKind X.prog X.w) a (fun k => findBy Value.isInt es k) := ⟨_, es, n, I.kIn _ _ hl, ⟨rfl, rfl, rfl⟩, rfl, fun e he => by
    obtain ⟨x, t, e1, e2⟩ := hk e (Array.mem_toList_iff.mpr he)
    exact ⟨x, by rw [e1]; exact PySem.intKind_is X.prog X.w x t, e2⟩, fun _ => rfl⟩
  exact PyProof.Rows.tail_any hm.typeIs slot_dict_getitem.lookup (wpAny_getItem_of (PySem.intKind_is X.prog X.w k t) hm e ⟨r, H, I.tok _, ru, q⟩) hs
structure Glob (T : GT) (C : G0) (n : Nat) (c : CC) (P : Program) (w : World) (mg : Str → Option Value) (base : Heap) : Prop where
  names : ∀ (g : Nat) (x : Str), c.fn[g]? = some x → mg x = some (.ref (C.gv g)) ∧ g < T.fns.length
  fns : ∀ (g : Nat) (F : FnD), T.fns[g]? = some F → PySem.W.keepIn C.K (.ref (C.gv g)) = true ∧ ∃ fd, FnOk P w C.K mg base (CX P w) n (C.gv g) fd F.ps (SpI T C n g F.ps.length) ∧ Binds C.K fd F.ps [] ∧
    ∀ ks np, (g, ks, np) ∈ c.kw → KBinds C.K fd F.ps ks (kwG F.ps ks np) (kwG F.ps ks np)
  cons : ∀ (k : Nat) (x : Str) (d : D), c.cn[k]? = some x → T.cons[k]? = some d → ∃ v u, mg x = some u ∧ RelV v u ∧ ∀ H, Rep C H d v
  bi : ∀ s ∈ bnames, mg (Str.ofString s) = none
  gcd : c.gcd = true → mg (Str.ofString "gcd") = some (.builtin "math.gcd")
  dcs : ∀ (k : Nat) (x : Str) (p : List Key × List D), c.dn[k]? = some x → T.dcs[k]? = some p → ∃ a, mg x = some (.ref a) ∧ ∀ kk d, dlook p.1 p.2 kk = some d → ∃ i v, kk = .inl i ∧ KDI C.K a i v ∧ ∀ H, Rep C H d v
structure Good (T : GT) (C : G0) (n : Nat) (W : WX) (c : CC) (X : Cx) : Prop where
  K : X.K = C.K
  N : X.N = c.N
  nd : c.N.Nodup
  sc : X.env.scope = c.sc
  st : ∀ i x, stB c i x = true → Loc X.env.scope x ∧ (X.fn x = true ∨ X.env.scope.names.lookup x = some .local)
  cm : c.calm = true → X.calm = true
  hu : X.A.units + 64 < cLine
  room : c.calm = true → Room n X.A
  tk : Takes X W
  gl : Glob T C n c X.prog X.w X.mg X.base
theorem vis_of {sc : Scope} {x : Str} (h : visB sc x = true) : Vis sc x := by
  unfold visB at h
  split at h <;> first | exact .inl (by assumption) | exact .inr (.inl (by assumption)) | exact .inr (.inr (by assumption)) | cases h
theorem gl_of {sc : Scope} {x : Str} (h : glB sc x = true) : sc.names.lookup x = some .globalImplicit ∧ (x == ("__debug__" : Str)) = false ∧ x ≠ "__name__" := by
  unfold glB at h
  rw [Bool.and_eq_true, Bool.and_eq_true] at h
  obtain ⟨⟨h1, h2⟩, h3⟩ := h
  refine ⟨?_, by simpa using h2, fun e => by subst e; simp at h3⟩
  split at h1 <;> first | assumption | cases h1
section
variable {T : GT} {C : G0} {n : Nat} {W : WX} {c : CC} {X : Cx}
theorem Good.nm (G : Good T C n W c X) {i : Nat} {x : Str} {pos : Pos} (h : nmB c i x = true) : PE X (.Name x pos) (tVar i) := by
  unfold nmB at h
  rw [Bool.and_eq_true, Bool.and_eq_true] at h
  obtain ⟨⟨h1, h2⟩, h3⟩ := h
  unfold dbgB at h3
  rw [Bool.and_eq_true] at h3
  exact pe_var (by rw [G.N]; exact of_decide_eq_true h1) (by rw [G.sc]; exact vis_of h2) (by simpa using h3.1) (by simpa using h3.2)
theorem Good.glb (G : Good T C n W c X) {x : Str} (h : glB c.sc x = true) : Gl X x ∧ (x == ("__debug__" : Str)) = false ∧ x ≠ "__name__" := by
  obtain ⟨h1, h2⟩ := gl_of h
  refine ⟨?_, h2⟩
  show X.env.scope.names.lookup x = _
  rw [G.sc]; exact h1
/-! ### names, constants -/
theorem s_var (G : Good T C n W c X) {i : Nat} {x : Str} {pos : Pos} (h : nmB c i x = true) : PE X (.Name x pos) (RE T C n W (.var i)) := by
  refine (G.nm h).to fun σ H Q => ?_
  rintro ⟨e, F, R, q⟩
  simp only [evE, tst_false] at q
  cases es : e[i]? with
  | none => rw [es] at q; exact q.elim
  | some s =>
    rw [es] at q
    have z := R.slot i s es
    cases s with
    | un => exact q.elim
    | val d => obtain ⟨v, h1, h2⟩ := z; exact ⟨v, h1, q.val R h2⟩
    | fro d => obtain ⟨v, h1, h2⟩ := z; exact ⟨v, h1, q.val R h2⟩
    | own d => obtain ⟨a, h1, h2⟩ := z; exact ⟨_, h1, q _ _ _ (TrE.refl R) ⟨h1, _, es, rfl⟩⟩
    | bor d => obtain ⟨a, h1, h2⟩ := z; exact ⟨_, h1, q _ _ _ (TrE.refl R) ⟨h1, _, es, rfl⟩⟩
theorem s_int {k : Int} {j pos} : PE X (.Constant (.int k) j pos) (RE T C n W (.int k)) := pe_int.to fun σ H Q ⟨e, F, R, q⟩ => q.val R rep_int
theorem s_bl {k : Bool} {j pos} : PE X (.Constant (.bool k) j pos) (RE T C n W (.bl k)) := pe_bl.to fun σ H Q ⟨e, F, R, q⟩ => q.val R rep_bl
theorem s_non {j pos} : PE X (.Constant .none j pos) (RE T C n W .non) := pe_non.to fun σ H Q ⟨e, F, R, q⟩ => q.val R rep_non
theorem s_str {k : Str} {j pos} : PE X (.Constant (.str k) j pos) (RE T C n W (.str k)) := pe_str.to fun σ H Q ⟨e, F, R, q⟩ => q.val R rep_str
theorem s_con (G : Good T C n W c X) {k : Nat} {x : Str} {pos : Pos} (h : c.cn[k]? = some x) (hg : glB c.sc x = true) : PE X (.Name x pos) (RE T C n W (.con k)) := by
  obtain ⟨g1, g2, _⟩ := G.glb hg
  refine ⟨fun pins s σ H Q I h' => ?_⟩
  obtain ⟨e, F, R, q⟩ := h'
  obtain ⟨d, ed, q⟩ := PostE.opt (show PostE C W e F σ H (opt T.cons[k]? fun d => .ok (.v d) e) Q from q)
  obtain ⟨v, u, m, r, rep⟩ := G.gl.cons k x d h ed
  exact ld_glob I g1 m ⟨v, H, I, r, q.val R (rep F)⟩ g2
theorem s_fnv (G : Good T C n W c X) {g : Nat} {x : Str} {pos : Pos} (h : c.fn[g]? = some x) (hg : glB c.sc x = true) : PE X (.Name x pos) (RE T C n W (.fnv g)) := by
  obtain ⟨g1, g2, _⟩ := G.glb hg
  obtain ⟨m, hl⟩ := G.gl.names g x h
  refine ⟨fun pins s σ H Q I h' => ?_⟩
  obtain ⟨e, F, R, q⟩ := h'
  simp only [evE, tst_false, if_pos hl] at q
  exact ld_glob I g1 m ⟨.ref (C.gv g), H, I, rfl, q.val R (by rw [Rep])⟩ g2
/-! ### operators -/
theorem s_bin (G : Good T C n W c X) {o : Bop} {a b : E} {x y : Expr} {pos : Pos} (ha : PE X x (RE T C n W a)) (hb : PE X y (RE T C n W b)) : PE X (.BinOp x (opOf o) y pos) (RE T C n W (.bin o a b)) := by
  refine (pe_op (op_bin (W := W) G.K o) ha hb).to fun σ H Q => ?_
  rintro ⟨e, F, R, q⟩
  refine ⟨e, F, R, PostE.first (show PostE C W e F σ H ((evE T (callF T n) false a e).bd _) Q from q) fun ra e1 v1 F1 H1 t1 r1 q => ?_⟩
  refine ⟨e1, F1, t1.sr, PostE.first q fun rb e2 v2 F2 H2 t2 r2 q => ?_⟩
  obtain ⟨d1, k1, q⟩ := q.opt
  obtain ⟨d2, k2, q⟩ := q.opt
  refine ⟨d1, d2, e2, F2, σ, t2.sr, fun i d v h1 h2 => ?_, q⟩
  match i, h1, h2 with
  | 0, h1, h2 => cases h1; cases h2; exact cont_crp t2.sr (r1.mono t2) k1
  | 1, h1, h2 => cases h1; cases h2; exact cont_crp t2.sr r2 k2
theorem s_neg {a : E} {x : Expr} {pos : Pos} (ha : PE X x (RE T C n W a)) : PE X (.UnaryOp .USub x pos) (RE T C n W (.neg a)) := by
  refine (pe_un un_neg ha).to fun σ H Q => ?_
  rintro ⟨e, F, R, q⟩
  refine ⟨e, F, R, PostE.first (show PostE C W e F σ H ((evE T (callF T n) false a e).bd _) Q from q) fun ra e1 v1 F1 H1 t1 r1 q => ?_⟩
  obtain ⟨i, k1, q⟩ := q.opt
  obtain ⟨d, k1, k2⟩ := Option.bind_eq_some_iff.mp k1
  have z := cont_crp t1.sr r1 k1
  cases d <;> cases k2
  cases z.int
  exact ⟨_, rfl, q.val t1.sr rep_int⟩

theorem tru_V {H : Hp} {d : D} {v : V} {b : Bool} (h : Rep C H d v) (t : truth d = some b) : TruV C.K v H b := by
  rcases tru_rep h t with ⟨ks, xs, rfl, a, vs, rfl, e, k⟩ | h
  · exact .inr (.inr ⟨_, e, k⟩)
  · exact h
theorem tst_post {e : EV} {F : Hp} {σ : St} {H : Hp} {x : Out RV} {Q : Bool → Hp → Prop} (h : PostB C W e F σ H (toB (tst true x)) Q) : PostE C W e F σ H x fun v H' => ∃ k, TruV C.K v H' k ∧ Q k H' := by
  cases x with
  | ok r e' =>
    simp only [tst_true, bd_ok] at h
    cases k1 : (cont e' r).bind truth with
    | none => rw [k1] at h; exact h.elim
    | some b =>
      rw [k1] at h
      obtain ⟨d, k2, k3⟩ := Option.bind_eq_some_iff.mp k1
      exact fun v F' H' t r => ⟨b, tru_V (cont_rep t.sr r k2) k3, h F' H' t⟩
  | exc c p e' => exact h
  | stuck => exact h
/-- whose test is its value's truth -/
theorem s_plain (G : Good T C n W c X) {a : E} {x : Expr} (h : PE X x (RE T C n W a)) (ev : ∀ e, evE T (callF T n) true a e = tst true (evE T (callF T n) false a e))
    (he : ∀ whole, isTrue x X.env whole = (do let v ← whole; standAt x.pos; holding [v] (truthy v))) : PT X x (RT T C n W a) := by
  refine (pt_truth h he).to fun σ H Q ⟨e, F, R, q⟩ => ⟨e, F, R, ?_⟩
  rw [ev] at q
  rw [G.K]
  exact tst_post q
theorem rd_cmp {o : CmpOp} {a b : E} {σ : St} {H : Hp} {Q Q' : VK} (h : RE T C n W (.cmp o a b) σ H Q) (k : ∀ b H, Q (.bl b) H → Q' (.bl b) H) : tOp (rCmp C o) (RE T C n W a) (RE T C n W b) σ H Q' := by
  obtain ⟨e, F, R, q⟩ := h
  refine ⟨e, F, R, PostE.first (show PostE C W e F σ H ((evE T (callF T n) false a e).bd _) Q from q) fun ra e1 v1 F1 H1 t1 r1 q => ?_⟩
  refine ⟨e1, F1, t1.sr, PostE.first q fun rb e2 v2 F2 H2 t2 r2 q => ?_⟩
  obtain ⟨d1, k1, q⟩ := q.opt
  obtain ⟨d2, k2, q⟩ := q.opt
  obtain ⟨b, k3, q⟩ := q.opt
  exact ⟨d1, d2, b, k3, cont_rep t2.sr (r1.mono t2) k1, cont_rep t2.sr r2 k2, k _ _ (q.val t2.sr rep_bl)⟩
theorem s_cmp (G : Good T C n W c X) {o : CmpOp} {a b : E} {x y : Expr} {pos : Pos} (ha : PE X x (RE T C n W a)) (hb : PE X y (RE T C n W b)) (hm : behindInMarks o y = false) :
    PE X (.Compare x [o] [y] pos) (RE T C n W (.cmp o a b)) ∧ PT X (.Compare x [o] [y] pos) (RT T C n W (.cmp o a b)) := by
  refine ⟨(pe_cmpR (op_cmp G.K G.hu o) ha hb hm).to fun σ H Q h => rd_cmp h fun _ _ h => h, (pt_cmpR (op_cmp G.K G.hu o) ha hb hm).to fun σ H Q ⟨e, F, R, q⟩ => ?_⟩
  have q : PostB C W e F σ H (toB (tst true (evE T (callF T n) false (.cmp o a b) e))) Q := q
  exact rd_cmp ⟨e, F, R, tst_post q⟩ fun b H ⟨k, k1, k2⟩ => ⟨_, rfl, by cases (show k = b from k1); exact k2⟩
theorem rd_chain {o p : CmpOp} {a b d : E} {σ : St} {H : Hp} {Q Q' : VK} (h : RE T C n W (.chain o p a b d) σ H Q) (k : ∀ b H, Q (.bl b) H → Q' (.bl b) H) : tChain (rCmp C o) (rCmp C p) (RE T C n W a) (RE T C n W b) (RE T C n W d) σ H Q' := by
  obtain ⟨e, F, R, q⟩ := h
  refine ⟨e, F, R, PostE.first (show PostE C W e F σ H ((evE T (callF T n) false a e).bd _) Q from q) fun ra e1 v1 F1 H1 t1 r1 q => ?_⟩
  refine ⟨e1, F1, t1.sr, PostE.first q fun rb e2 v2 F2 H2 t2 r2 q => ?_⟩
  obtain ⟨d1, k1, q⟩ := q.opt
  obtain ⟨d2, k2, q⟩ := q.opt
  obtain ⟨z, k3, q⟩ := q.opt
  refine ⟨d1, d2, z, k3, cont_rep t2.sr (r1.mono t2) k1, cont_rep t2.sr r2 k2, z, rfl, ?_⟩
  cases z with
  | false =>
    rw [if_neg Bool.false_ne_true] at q ⊢
    exact k _ _ (q.val t2.sr rep_bl)
  | true =>
    rw [if_pos rfl] at q ⊢
    refine ⟨e2, F2, t2.sr, PostE.first q fun rc e3 v3 F3 H3 t3 r3 q => ?_⟩
    obtain ⟨d4, k4, q⟩ := q.opt
    obtain ⟨d5, k5, q⟩ := q.opt
    obtain ⟨b, k6, q⟩ := q.opt
    exact ⟨d4, d5, b, k6, cont_rep t3.sr (r2.mono t3) k4, cont_rep t3.sr r3 k5, k _ _ (q.val t3.sr rep_bl)⟩
theorem s_chain (G : Good T C n W c X) {o p : CmpOp} {a b d : E} {x y z : Expr} {pos : Pos} (ha : PE X x (RE T C n W a)) (hb : PE X y (RE T C n W b)) (hc : PE X z (RE T C n W d)) (hm : lastMarks [o, p] [y, z] = false) :
    PE X (.Compare x [o, p] [y, z] pos) (RE T C n W (.chain o p a b d)) ∧ PT X (.Compare x [o, p] [y, z] pos) (RT T C n W (.chain o p a b d)) := by
  refine ⟨(pe_chain (op_cmp G.K G.hu o) (op_cmp G.K G.hu p) ha hb hc hm).to fun σ H Q h => rd_chain h fun _ _ h => h, (pt_chain (op_cmp G.K G.hu o) (op_cmp G.K G.hu p) ha hb hc hm).to fun σ H Q ⟨e, F, R, q⟩ => ?_⟩
  have q : PostB C W e F σ H (toB (tst true (evE T (callF T n) false (.chain o p a b d) e))) Q := q
  exact rd_chain ⟨e, F, R, tst_post q⟩ fun b H ⟨k, k1, k2⟩ => ⟨_, rfl, by cases (show k = b from k1); exact k2⟩
/-! ### and, or, not, if-else -/
theorem PostB.of {e : EV} {F : Hp} {σ : St} {H : Hp} {x : Out RV} {Q : Bool → Hp → Prop} (h : PostB C W e F σ H (toB x) Q) : PostE C W e F σ H x fun v H' => ∃ b, v = .bl b ∧ Q b H' := by
  cases x with
  | ok r e' =>
    cases r with
    | v d =>
      cases d <;> first | exact h.elim | skip
      intro v F' H' t r
      refine ⟨_, (show v = .bl _ from by have q : Rep C F' (.bl _) v := r; rw [Rep] at q; exact q), h F' H' t⟩
    | t d => exact h.elim
    | h i => exact h.elim
  | exc c p e' => exact h
  | stuck => exact h
/-- in test mode a result is a bool -/
theorem toB_first {e : EV} {F : Hp} {σ : St} {H : Hp} {x : Out RV} {f : RV → EV → Out RV} {Q Q1 : Bool → Hp → Prop} (h : PostB C W e F σ H (toB (x.bd f)) Q) (hb : ∀ r e', x = .ok r e' → ∃ b, r = .v (.bl b))
    (k : ∀ b e1 F1 H1, TrE C e F σ H e1 F1 H1 → PostB C W e1 F1 σ H1 (toB (f (.v (.bl b)) e1)) Q → Q1 b H1) : PostB C W e F σ H (toB x) Q1 := by
  cases x with
  | ok r e1 =>
    obtain ⟨b, rfl⟩ := hb r e1 rfl
    exact fun F1 H1 t => k b e1 F1 H1 t (PostB.shift t h)
  | exc c p e1 => exact h
  | stuck => exact h
theorem tst_bool {x : Out RV} {r : RV} {e : EV} (h : tst true x = .ok r e) : ∃ b, r = .v (.bl b) := by
  cases x with
  | ok r' e' =>
    simp only [tst_true, bd_ok] at h
    cases k1 : (cont e' r').bind truth with
    | none => rw [k1] at h; cases h
    | some b => rw [k1] at h; cases h; exact ⟨b, rfl⟩
  | exc c p e' => cases h
  | stuck => cases h
theorem bd_eq {α β : Type} {x : Out α} {f : α → EV → Out β} {r : β} {e : EV} (h : x.bd f = .ok r e) : ∃ a e1, x = .ok a e1 ∧ f a e1 = .ok r e := by
  cases x with
  | ok a e1 => exact ⟨a, e1, rfl, h⟩
  | exc c p e1 => cases h
  | stuck => cases h
theorem opt_eq {α β : Type} {x : Option α} {f : α → Out β} {r : β} {e : EV} (h : opt x f = .ok r e) : ∃ a, x = some a ∧ f a = .ok r e := by
  cases x with
  | none => cases h
  | some a => exact ⟨a, rfl, h⟩
mutual
theorem evE_bool : ∀ (a : E) (e : EV) (r : RV) (e' : EV), evE T (callF T n) true a e = .ok r e' → ∃ b, r = .v (.bl b)
  | .var _, _, _, _, h => tst_bool h
  | .int _, _, _, _, h => tst_bool h
  | .bl _, _, _, _, h => tst_bool h
  | .non, _, _, _, h => tst_bool h
  | .str _, _, _, _, h => tst_bool h
  | .con _, _, _, _, h => tst_bool h
  | .fnv _, _, _, _, h => tst_bool h
  | .dix _ _, _, _, _, h => tst_bool h
  | .bin _ _ _, _, _, _, h => tst_bool h
  | .neg _, _, _, _, h => tst_bool h
  | .cmp _ _ _, _, _, _, h => tst_bool h
  | .chain _ _ _ _ _, _, _, _, h => tst_bool h
  | .andor k es, e, r, e', h => evV_bool es k e r e' h
  | .not_ a, e, r, e', h => by
    simp only [evE] at h
    obtain ⟨_, _, _, h⟩ := bd_eq h
    obtain ⟨b, _, h⟩ := opt_eq h
    cases h
    exact ⟨_, rfl⟩
  | .ite _ _ _, _, _, _, h => by simp only [evE, if_pos] at h; cases h
  | .tup _, _, _, _, h => tst_bool h
  | .lst _, _, _, _, h => tst_bool h
  | .ix _ _, _, _, _, h => tst_bool h
  | .sl _ _ _, _, _, _, h => tst_bool h
  | .rev _, _, _, _, h => tst_bool h
  | .call _ _, _, _, _, h => tst_bool h
  | .callk _ _ _ _, _, _, _, h => tst_bool h
  | .calld _ _, _, _, _, h => tst_bool h
  | .bi _ _, _, _, _, h => tst_bool h
  | .isi _ _, _, _, _, h => tst_bool h
  | .isx _ _ _, _, _, _, h => tst_bool h
  | .dnew _, _, _, _, h => tst_bool h
  | .dlit _ _ _ _, _, _, _, h => tst_bool h
  | .app _ _, _, _, _, h => tst_bool h
  | .ext _ _, _, _, _, h => tst_bool h
  | .pop _, _, _, _, h => tst_bool h
  | .popat _ _, _, _, _, h => tst_bool h
  | .comp _ _ _ _ _, _, _, _, h => tst_bool h
theorem evV_bool : ∀ (as : List E) (k : Bool) (e : EV) (r : RV) (e' : EV), evV T (callF T n) true k as e = .ok r e' → ∃ b, r = .v (.bl b)
  | [], _, _, _, _, h => by simp only [evV] at h; cases h
  | a :: as, k, e, r, e', h => by
    cases as with
    | nil => simp only [evV] at h; exact evE_bool a e r e' h
    | cons b bs =>
      rw [evV] at h
      obtain ⟨r1, e1, h1, h⟩ := bd_eq h
      obtain ⟨z, _, h⟩ := opt_eq h
      split at h
      · exact evV_bool (b :: bs) k e1 r e' h
      · cases h; exact evE_bool a e r e' h1
end
end
end PL
end

section
/-! the reverse of a tuple by a slice -/
namespace PL.RevT
open PySem PySem.Spec PyProof.Rows L2

section
variable {prog : Program} {w : World} {A : Around} {E : Value → Shared → Prop} {s : Shared}
theorem places_rev (n : Nat) : Builtin.Slice.slicePlaces ((n : Int) - 1) (-1) (-1) = n := by
  unfold Builtin.Slice.slicePlaces
  rw [if_neg (by decide)]
  by_cases h : ((n : Int) - 1) > -1
  · rw [if_pos h]
    simp
  · rw [if_neg h]
    omega
theorem applied_rev {sl : Addr} {vs : Value} {n : Nat} {Q : Int × Int × Nat → Shared → Prop} (hs : s.heap.IsSliceOf sl .none .none vs) (ps : IsPart vs (some (-1)))
    (h : Q ((n : Int) - 1, -1, n) s) : wpAny (model prog w) A (Builtin.Slice.sliceApplied (.ref sl) (pure (n : Int))) Q E s := by
  obtain ⟨os, hos, hcs, hds⟩ := id hs
  unfold Builtin.Slice.sliceApplied Builtin.Slice.sliceFields
  refine wpAny_bind (wpAny_bind (wpAny_field hos hds (x := .none) rfl (wpAny_bind (wpAny_field hos hds (x := .none) rfl (wpAny_bind (wpAny_field hos hds (x := vs) rfl (wpAny_pure ?_)))))))
  refine wpAny_bind (HT.slicePart_ ps ?_)
  show wpAny _ _ (if ((-1 : Int) == 0) = true then _ else _) _ _ s
  rw [if_neg (by decide)]
  refine wpAny_bind (HT.slicePart_ .none (wpAny_bind (HT.slicePart_ .none (wpAny_bind (wpAny_pure ?_)))))
  show wpAny _ _ (match Builtin.Slice.sliceAdjust none none (-1) (n : Int) with | (lo, hi) => pure (lo, (-1 : Int), Builtin.Slice.slicePlaces lo hi (-1))) _ _ s
  have e : Builtin.Slice.sliceAdjust none none (-1) (n : Int) = ((n : Int) - 1, -1) := rfl
  rw [e]
  show wpAny _ _ (pure ((n : Int) - 1, (-1 : Int), Builtin.Slice.slicePlaces ((n : Int) - 1) (-1) (-1))) _ _ s
  rw [places_rev]
  exact wpAny_pure h
theorem pick_rev (xs : Array Value) : ((List.range xs.size).filterMap fun (m : Nat) => xs[(((xs.size : Int) - 1) + (m : Int) * (-1)).toNat]?).toArray = xs.toList.reverse.toArray := by
  have h := PySem.W.krv_pick xs
  unfold slicePick at h
  rw [← h]
  congr 1
  rw [show (sliceBounds none none (some (-1)) xs.size).1 = (xs.size : Int) - 1 from rfl, show (sliceBounds none none (some (-1)) xs.size).2.1 = -1 from rfl, show (sliceBounds none none (some (-1)) xs.size).2.2 = -1 from rfl, PySem.W.krv_sliceRange, List.filterMap_map]
  have : ∀ l : List Nat, (∀ m ∈ l, m < xs.size) → l.filterMap (fun (m : Nat) => xs[(((xs.size : Int) - 1) + (m : Int) * (-1)).toNat]?) = l.filterMap ((fun x => xs[x]?) ∘ fun k => xs.size - 1 - k) := by
    intro l
    induction l with
    | nil => intro _; rfl
    | cons m l ih =>
      intro hm
      have hk := hm m (by simp)
      have e : (((xs.size : Int) - 1) + (m : Int) * (-1)).toNat = xs.size - 1 - m := by omega
      rw [List.filterMap_cons, List.filterMap_cons, ih (fun k hk => hm k (by simp [hk])), e]
      rfl
  exact this _ fun m hm => List.mem_range.mp hm
theorem getItem_tuple_rev {t sl : Addr} {items : Array Value} {vs : Value} {Q : Value → Shared → Prop} (ht : IsTup s.heap t items) (hs : s.heap.IsSliceOf sl .none .none vs) (ps : IsPart vs (some (-1)))
    (h : Q (.ref s.heap.objs.size) { s with heap := s.heap.push { cls := .type "tuple", data := .seq items.toList.reverse.toArray } })
    (hsz : items.size ≤ sizeLine) : wpAny (model prog w) A (getItem (.ref t) (.ref sl)) Q E s := by
  have htake : sizeOk (.seq items.toList.reverse.toArray) := by
    show items.toList.reverse.toArray.size ≤ sizeLine
    rw [List.size_toArray, List.length_reverse, Array.length_toList]
    exact hsz
  obtain ⟨os, hos, hcs, hds⟩ := id hs
  have hTs : s.TypeIs (.ref sl) "slice" := ⟨os, hos, hcs⟩
  unfold getItem
  try with_reducible refine wpAny_holding ?_
  first | refine wpAny_bind (wpAny_pure ?_) | skip
  refine wpAny_bind (wpAny_sequenceKey ht.typeIs (by decide) ?_)
  refine wpAny_bind (wpAny_callSpecial?_slot (name := Str.ofString "__getitem__") ht.typeIs PyProof.Rows.slot_tuple_getitem
    (wpAny_call_entry PyProof.Rows.slot_tuple_getitem ht.typeIs entry_tuple_getitem ?_ (args_tuple_getitem _ _)))
  show wpAny _ _ (Builtin.Tuple.tupleItemsOf (.ref t) >>= _) _ _ s
  refine wpAny_bind (tupleItemsOf_ ht ?_)
  refine wpAny_bind (wpAny_typeOf hTs ?_)
  rw [if_pos (by decide)]
  refine wpAny_bind (applied_rev hs ps ?_)
  have hno : ¬ ((((items.size : Int) - 1) == 0 && (-1 : Int) == 1 && items.size == items.size) = true) := by
    intro q
    rw [Bool.and_eq_true, Bool.and_eq_true] at q
    have := eq_of_beq q.1.2
    omega
  show wpAny _ _ (if (((items.size : Int) - 1) == 0 && (-1 : Int) == 1 && items.size == items.size) = true then _ else _) _ _ s
  rw [if_neg hno, pick_rev]
  first
    | exact wpAny_bind (m := Builtin.Tuple.tupleExact _) (wpAny_newObj_type (wpAny_pure ⟨_, rfl, wpAny_pure h⟩) htake)
    | exact wpAny_bind (m := Builtin.Tuple.tupleExact _) (wpAny_newObj_type (wpAny_bind (wpAny_pure (wpAny_pure ⟨_, rfl, wpAny_pure h⟩))) htake)
    | exact wpAny_bind (wpAny_bind (m := Builtin.Tuple.tupleExact _) (wpAny_newObj_type (wpAny_pure (wpAny_pure ⟨_, rfl, wpAny_pure h⟩)) htake))
    | exact wpAny_bind (wpAny_bind (m := Builtin.Tuple.tupleExact _) (wpAny_newObj_type (wpAny_pure ⟨_, rfl, wpAny_pure h⟩) htake))
end
section
variable {X : Cx}
/-- a list or a tuple, back to front -/
def tRevA (K : PySem.W.Frag) (te : TE) : TE := fun σ H Q => te σ H fun x H1 => (∃ a xs, x = .ref a ∧ SqL K H1 a xs ∧ ∀ p, H1 p = none → Q (.ref p) (upd H1 p (.lst xs.reverse))) ∨
  (∃ a xs, x = .ref a ∧ SqT K H1 a xs ∧ ∀ p, H1 p = none → Q (.ref p) (upd H1 p (.tup xs.reverse)))
theorem pe_revA {e : Expr} {te : TE} {k : Nat} {p1 p2 p3 pos : Pos} (he : PE X e te) : PE X (.Subscript e (.Slice none none (some (.UnaryOp .USub (.Constant (.int 1) k p1) p2)) p3) pos) (tRevA X.K te) := by
  refine ⟨fun pins s σ H Q I h => ?_⟩
  refine Subscript_ (thn (he.run pins s σ H _ I h) fun v s1 ⟨x, H1, I1, r1, q1⟩ => ?_)
  have hst : PO X (some (.UnaryOp .USub (.Constant (.int 1) k p1) p2)) (tPart (tUn (rU fun i => .int (-i)) (tC (.int 1)))) := po_some (pe_un un_neg pe_int)
  refine wpAny_Slice (thn (po_none.run pins s1 σ H1 (fun o H2 => o = none ∧ H2 = H1) I1 ⟨rfl, rfl⟩) fun vl s2 ⟨l, H2, I2, pl, el, e2⟩ => ?_)
  subst el e2
  refine thn (po_none.run pins s2 σ H2 (fun o H3 => o = none ∧ H3 = H2) I2 ⟨rfl, rfl⟩) fun vu s3 ⟨u, H3, I3, pu, eu, e3⟩ => ?_
  subst eu e3
  refine thn (hst.run pins s3 σ H3 (fun o H4 => o = some (-1) ∧ H4 = H3) I3 ⟨1, rfl, -1, rfl, rfl, rfl⟩) fun vs s4 ⟨o, H4, I4, ps, eo, e4⟩ => ?_
  subst eo e4
  have I5 : Inv X pins σ H4 { s4 with heap := s4.heap.push { cls := .type "slice", data := .fields #[vl, vu, vs] } } := I4.kept (t' := s4.toks) fun b ob q => Heap.get?_push_of_some _ q
  rcases q1 with ⟨a, xs, ex, hx, q⟩ | ⟨a, xs, ex, hx, q⟩
  · subst ex
    cases r1
    obtain ⟨its, r, ht, hz⟩ := I5.list hx
    have hlen := r.length
    show wpAny (model X.prog X.w) X.A (subscriptTail e (.Slice none none (some (.UnaryOp .USub (.Constant (.int 1) k p1) p2)) p3) (.ref a) (.ref s4.heap.objs.size)) (EP X pins σ Q) X.xe { s4 with heap := s4.heap.push { cls := .type "slice", data := .fields #[vl, vu, vs] } }
    refine tail_any (ops := [.ref a, .ref s4.heap.objs.size]) ht.isList.typeIs (PySem.slot_list_getitem.lookup) ?_ (by with_unfolding_all rfl)
    refine wpAny_getItem_list_slice ht.isList (Heap.IsSliceOf.new _ vl vu vs) pl pu ps (by decide) ?_ (by rw [List.size_toArray]; omega)
    rw [PySem.W.krv_pick]
    refine ⟨.ref _, _, I5.laid (t' := s4.toks) (o := .lst xs.reverse) (fun b ob q => Heap.get?_push_of_some _ q) (Nat.le_refl _) ?_, rfl, q _ (I5.hok.fresh (Nat.le_refl _))⟩
    exact ⟨by rw [List.length_reverse]; exact hz, _, 0, r.reverse, Heap.get?_push_size _ rfl⟩
  · subst ex
    cases r1
    obtain ⟨its, r, ht, hz⟩ := I5.tuple hx
    have hlen := r.length
    cases pl
    cases pu
    show wpAny (model X.prog X.w) X.A (subscriptTail e (.Slice none none (some (.UnaryOp .USub (.Constant (.int 1) k p1) p2)) p3) (.ref a) (.ref s4.heap.objs.size)) (EP X pins σ Q) X.xe { s4 with heap := s4.heap.push { cls := .type "slice", data := .fields #[.none, .none, vs] } }
    refine tail_any (ops := [.ref a, .ref s4.heap.objs.size]) ht.typeIs (PyProof.Rows.slot_tuple_getitem.lookup) ?_ (by with_unfolding_all rfl)
    refine getItem_tuple_rev ht (Heap.IsSliceOf.new _ .none .none vs) ps ?_ (by rw [List.size_toArray]; omega)
    refine ⟨.ref _, _, I5.laid (t' := s4.toks) (o := .tup xs.reverse) (fun b ob q => Heap.get?_push_of_some _ q) (Nat.le_refl _) ?_, rfl, q _ (I5.hok.fresh (Nat.le_refl _))⟩
    exact ⟨by rw [List.length_reverse]; exact hz, _, r.reverse, IsTup.new _ _⟩
end
end PL.RevT
end

section
namespace PL
open PySem PySem.Spec L2

section
variable {T : GT} {C : G0} {n : Nat} {W : WX} {c : CC} {X : Cx}
def bopOf (k : Bool) : BoolOp := if k then .And else .Or
theorem s_andor1 {k : Bool} {a : E} {x : Expr} {pos : Pos} (ha : PE X x (RE T C n W a)) : PE X (.BoolOp (bopOf k) [x] pos) (RE T C n W (.andor k [a])) := by
  refine (pe_one ha).to fun σ H Q ⟨e, F, R, q⟩ => ⟨e, F, R, ?_⟩
  simpa only [evE, evV] using q
theorem s_andor (G : Good T C n W c X) {k : Bool} {a b : E} {as : List E} {x y : Expr} {xs : List Expr} {pos : Pos} (ha : PE X x (RE T C n W a)) (hb : PE X (.BoolOp (bopOf k) (y :: xs) pos) (RE T C n W (.andor k (b :: as)))) :
    PE X (.BoolOp (bopOf k) (x :: y :: xs) pos) (RE T C n W (.andor k (a :: b :: as))) := by
  have main : ∀ {σ H Q}, RE T C n W (.andor k (a :: b :: as)) σ H Q → RE T C n W a σ H fun v H1 => ∃ z, TruV C.K v H1 z ∧ if z = k then RE T C n W (.andor k (b :: as)) σ H1 Q else Q v H1 := fun {σ H Q} ⟨e, F, R, q⟩ => by
    have q : PostE C W e F σ H ((evE T (callF T n) false a e).bd fun r e1 => opt ((cont e1 r).bind truth) fun z => if z = k then evV T (callF T n) false k (b :: as) e1 else .ok r e1) Q := q
    refine ⟨e, F, R, ?_⟩
    revert q
    generalize evE T (callF T n) false a e = o
    intro q
    cases o with
    | exc c p e' => exact q
    | stuck => exact q
    | ok r e1 =>
      intro v F1 H1 t1 r1
      obtain ⟨z, k1, q⟩ := PostE.opt (show PostE C W e F σ H (opt _ _) Q from q)
      obtain ⟨d, k1, k2⟩ := Option.bind_eq_some_iff.mp k1
      refine ⟨z, tru_V (cont_rep t1.sr r1 k1) k2, ?_⟩
      split at q
      · rename_i hz
        rw [if_pos hz]
        exact ⟨e1, F1, t1.sr, PostE.shift t1 q⟩
      · rename_i hz
        rw [if_neg hz]
        exact q _ _ _ t1 r1
  cases k with
  | true =>
    refine (pe_andT ha hb).to fun σ H Q h => ?_
    have := main h
    rw [← G.K] at this
    exact this
  | false =>
    refine (pe_orT ha hb).to fun σ H Q h => ?_
    obtain ⟨e, F, R, q⟩ := main h
    refine ⟨e, F, R, ?_⟩
    rw [G.K]
    revert q
    generalize evE T (callF T n) false a e = o
    intro q
    cases o with
    | ok r e' =>
      intro v F' H' t r
      obtain ⟨z, z1, z2⟩ := q v F' H' t r
      refine ⟨z, z1, ?_⟩
      cases z with
      | true => rw [if_neg (by simp)] at z2; rw [if_pos rfl]; exact z2
      | false => rw [if_pos rfl] at z2; rw [if_neg (by simp)]; exact z2
    | exc c p e' => exact q
    | stuck => exact q
theorem t_andor1 {k : Bool} {a : E} {x : Expr} {pos : Pos} (ha : PT X x (RT T C n W a)) : PW X (.BoolOp (bopOf k) [x] pos) (RT T C n W (.andor k [a])) := by
  have z : PW X (.BoolOp (bopOf k) [x] pos) (RT T C n W a) := by
    cases k with
    | true => exact pw_and1 ha
    | false => exact pw_or1 ha
  refine z.to fun σ H Q ⟨e, F, R, q⟩ => ⟨e, F, R, ?_⟩
  simpa only [evE, evV] using q
theorem t_andor {k : Bool} {a b : E} {as : List E} {x y : Expr} {xs : List Expr} {pos : Pos} (ha : PT X x (RT T C n W a)) (hb : PW X (.BoolOp (bopOf k) (y :: xs) pos) (RT T C n W (.andor k (b :: as)))) :
    PW X (.BoolOp (bopOf k) (x :: y :: xs) pos) (RT T C n W (.andor k (a :: b :: as))) := by
  have main : ∀ {σ H Q}, RT T C n W (.andor k (a :: b :: as)) σ H Q → RT T C n W a σ H fun z H1 => if z = k then RT T C n W (.andor k (b :: as)) σ H1 Q else Q z H1 := fun {σ H Q} ⟨e, F, R, q⟩ => by
    refine ⟨e, F, R, toB_first (f := fun r e1 => opt ((cont e1 r).bind truth) fun z => if z = k then evV T (callF T n) true k (b :: as) e1 else .ok r e1) q (fun r e' h => evE_bool a e r e' h) fun z e1 F1 H1 t1 q => ?_⟩
    have q : PostB C W e1 F1 σ H1 (toB (if z = k then evV T (callF T n) true k (b :: as) e1 else .ok (.v (.bl z)) e1)) Q := q
    split at q
    · rename_i hz
      rw [if_pos hz]
      exact ⟨e1, F1, t1.sr, q⟩
    · rename_i hz
      rw [if_neg hz]
      exact q _ _ (TrE.refl t1.sr)
  cases k with
  | true =>
    refine (pw_and ha hb).to fun σ H Q h => ?_
    obtain ⟨e, F, R, q⟩ := main h
    refine ⟨e, F, R, ?_⟩
    revert q
    generalize toB (evE T (callF T n) true a e) = o
    intro q
    cases o with
    | ok r e' =>
      intro F' H' t
      have z2 := q F' H' t
      cases r with
      | false => rw [if_neg (by simp)] at z2; rw [if_neg (by simp)]; exact z2
      | true => rw [if_pos rfl] at z2; rw [if_pos rfl]; exact z2
    | exc c p e' => exact q
    | stuck => exact q
  | false =>
    refine (pw_or ha hb).to fun σ H Q h => ?_
    obtain ⟨e, F, R, q⟩ := main h
    refine ⟨e, F, R, ?_⟩
    revert q
    generalize toB (evE T (callF T n) true a e) = o
    intro q
    cases o with
    | ok r e' =>
      intro F' H' t
      have z2 := q F' H' t
      cases r with
      | true => rw [if_neg (by simp)] at z2; rw [if_pos rfl]; exact z2
      | false => rw [if_pos rfl] at z2; rw [if_neg (by simp)]; exact z2
    | exc c p e' => exact q
    | stuck => exact q
theorem s_not (G : Good T C n W c X) {a : E} {x : Expr} {pos : Pos} (ha : PE X x (RE T C n W a)) : PE X (.UnaryOp .Not x pos) (RE T C n W (.not_ a)) := by
  refine (pe_notT ha).to fun σ H Q => ?_
  rintro ⟨e, F, R, q⟩
  rw [G.K]
  refine ⟨e, F, R, PostE.first (show PostE C W e F σ H ((evE T (callF T n) false a e).bd _) Q from q) fun ra e1 v1 F1 H1 t1 r1 q => ?_⟩
  obtain ⟨z, k1, q⟩ := q.opt
  obtain ⟨d, k1, k2⟩ := Option.bind_eq_some_iff.mp k1
  exact ⟨z, tru_V (cont_rep t1.sr r1 k1) k2, q.val t1.sr rep_bl⟩
theorem t_not {a : E} {x : Expr} {pos : Pos} (ha : PT X x (RT T C n W a)) : PT X (.UnaryOp .Not x pos) (RT T C n W (.not_ a)) := by
  refine (pt_not ha).to fun σ H Q => ?_
  rintro ⟨e, F, R, q⟩
  refine ⟨e, F, R, toB_first (show PostB C W e F σ H (toB ((evE T (callF T n) true a e).bd _)) Q from by simpa only [evE] using q) (fun r e' h => evE_bool a e r e' h) fun z e1 F1 H1 t1 q => ?_⟩
  exact q _ _ (TrE.refl t1.sr)
theorem s_ite {a b d : E} {x y z : Expr} {pos : Pos} (hd : PT X x (RT T C n W d)) (ha : PE X y (RE T C n W a)) (hb : PE X z (RE T C n W b)) : PE X (.IfExp x y z pos) (RE T C n W (.ite d a b)) := by
  refine (pe_ifExp hd ha hb).to fun σ H Q => ?_
  rintro ⟨e, F, R, q⟩
  refine ⟨e, F, R, PostE.firstB (show PostE C W e F σ H ((toB (evE T (callF T n) true d e)).bd _) Q from by simpa only [evE, Bool.false_eq_true, if_false] using q) fun r e1 F1 H1 t1 q => ?_⟩
  cases r with
  | true => exact ⟨e1, F1, t1.sr, q⟩
  | false => exact ⟨e1, F1, t1.sr, q⟩
theorem t_no {a : E} {x : Expr} (h : ∀ e, evE T (callF T n) true a e = .stuck) : PT X x (RT T C n W a) := by
  refine PT.to (t := fun _ _ _ => False) ⟨fun _ _ _ _ _ _ q => q.elim⟩ fun σ H Q ⟨e, F, R, q⟩ => ?_
  rw [h] at q
  exact q
/-! ### argument lists -/
theorem s_nil : PA X [] (RA T C n W []) := pa_nil.to fun σ H Q ⟨e, F, R, q⟩ => by
  simp only [evA] at q
  exact q [] F H (TrE.refl R) rfl
theorem s_cons {a : E} {as : List E} {x : Expr} {xs : List Expr} (ha : PE X x (RE T C n W a)) (hr : PA X xs (RA T C n W as)) (hs : starEach (x :: xs) X.env = (false, eval x X.env) :: starEach xs X.env) : PA X (x :: xs) (RA T C n W (a :: as)) := by
  refine (pa_cons ha hr hs).to fun σ H Q => ?_
  rintro ⟨e, F, R, q⟩
  simp only [evA] at q
  refine ⟨e, F, R, ?_⟩
  revert q
  generalize evE T (callF T n) false a e = o
  intro q
  cases o with
  | exc c p e' => exact q
  | stuck => exact q
  | ok r e1 =>
    intro v F1 H1 t r1
    refine ⟨e1, F1, t.sr, ?_⟩
    simp only [bd_ok] at q
    revert q
    generalize evA T (callF T n) as e1 = o
    intro q
    cases o with
    | exc c p e' => exact fun F' H' t' => q F' H' (t.trans t')
    | stuck => exact q
    | ok rs e2 => exact fun vs F2 H2 t2 r2 => q (v :: vs) F2 H2 (t.trans t2) ⟨v, vs, rfl, r1.mono t2, r2.back t.there⟩
/-! ### subscripts, slices -/
theorem s_ix (G : Good T C n W c X) {a i : E} {x y : Expr} {pos : Pos} (ha : PE X x (RE T C n W a)) (hb : PE X y (RE T C n W i)) (hs : PlainIx y) : PE X (.Subscript x y pos) (RE T C n W (.ix a i)) := by
  refine (pe_ix (ix_item (W := W) G.K (by have := G.hu; omega)) ha hb hs).to fun σ H Q => ?_
  rintro ⟨e, F, R, q⟩
  refine ⟨e, F, R, PostE.first (show PostE C W e F σ H ((evE T (callF T n) false a e).bd _) Q from q) fun ra e1 v1 F1 H1 t1 r1 q => ?_⟩
  refine ⟨e1, F1, t1.sr, PostE.first q fun rb e2 v2 F2 H2 t2 r2 q => ?_⟩
  obtain ⟨d1, k1, q⟩ := q.opt
  obtain ⟨d2, k2, q⟩ := q.opt
  obtain ⟨d3, k3, q⟩ := q.opt
  refine ⟨d1, d2, e2, F2, σ, t2.sr, fun i d v h1 h2 => ?_, ?_⟩
  · match i, h1, h2 with
    | 0, h1, h2 => cases h1; cases h2; exact cont_crp t2.sr (r1.mono t2) k1
    | 1, h1, h2 => cases h1; cases h2; exact cont_crp t2.sr r2 k2
  · rw [k3]; exact q
theorem s_dix (G : Good T C n W c X) {k : Nat} {i : E} {x : Str} {y : Expr} {p pos : Pos} (h : c.dn[k]? = some x) (hg : glB c.sc x = true) (hb : PE X y (RE T C n W i)) (hs : PlainIx y) : PE X (.Subscript (.Name x p) y pos) (RE T C n W (.dix k i)) := by
  obtain ⟨g1, g2, _⟩ := G.glb hg
  refine ⟨fun pins s σ H Q I h' => ?_⟩
  obtain ⟨e, F, R, q⟩ := h'
  obtain ⟨pp, hd, q⟩ := PostE.opt (show PostE C W e F σ H (opt T.dcs[k]? fun p => (evE T (callF T n) false i e).bd fun r e1 => opt ((cont e1 r).bind keyOf) fun x => opt (dlook p.1 p.2 x) fun d => .ok (.v d) e1) Q from q)
  obtain ⟨a, m, hv⟩ := G.gl.dcs k x pp h hd
  have ha : PE X (.Name x p) (fun σ H Q => Q (.ref a) H) := ⟨fun pins s σ H Q I h' => ld_glob I g1 m ⟨.ref a, H, I, rfl, h'⟩ g2⟩
  refine (pe_ix (pos := pos) ix_kint ha hb hs).run pins s σ H Q I ?_
  refine ⟨e, F, R, PostE.first q fun ra e1 v1 F1 H1 t1 r1 q => ?_⟩
  obtain ⟨kk, k0, q⟩ := q.opt
  obtain ⟨d, k3, q2⟩ := q.opt
  obtain ⟨d1, k1, k2⟩ := Option.bind_eq_some_iff.mp k0
  clear k0
  obtain ⟨i0, v, rfl, kd, rp⟩ := hv kk d k3
  have cr := cont_crp t1.sr r1 k1
  cases d1 <;> simp only [keyOf] at k2 <;> cases k2
  exact ⟨a, i0, v, rfl, cr.int, by rw [G.K]; exact kd, q2.val t1.sr (rp F1)⟩
structure POr (X : Cx) (a : Option Expr) (t : TO) : Prop where
  po : PO X a t
theorem s_po0 : PO X none (RO T C n W none) := ⟨fun pins s σ H Q I ⟨e, F, R, q⟩ => by
  simp only [evO] at q
  exact po_none.run pins s σ H Q I (q F H (TrE.refl R))⟩
theorem s_po1 {a : E} {x : Expr} (ha : PE X x (RE T C n W a)) : PO X (some x) (RO T C n W (some a)) := ⟨fun pins s σ H Q I ⟨e, F, R, q⟩ => by
  refine (po_some ha).run pins s σ H Q I ⟨e, F, R, ?_⟩
  simp only [evO] at q
  revert q
  generalize evE T (callF T n) false a e = o
  intro q
  cases o with
  | exc c p e' => exact q
  | stuck => exact q
  | ok r e1 =>
    intro v F1 H1 t r1
    simp only [bd_ok] at q
    cases k1 : (cont e1 r).bind intD with
    | none => rw [k1] at q; exact q.elim
    | some i =>
      rw [k1] at q
      obtain ⟨d, k1, k2⟩ := Option.bind_eq_some_iff.mp k1
      have z := cont_crp t.sr r1 k1
      cases d <;> cases k2
      cases z.int
      exact ⟨_, rfl, q F1 H1 t⟩⟩
theorem s_sl (G : Good T C n W c X) {a : E} {lo hi : Option E} {x : Expr} {l h : Option Expr} {p2 pos : Pos} (ha : PE X x (RE T C n W a)) (hl : PO X l (RO T C n W lo)) (hh : PO X h (RO T C n W hi)) : PE X (.Subscript x (.Slice l h none p2) pos) (RE T C n W (.sl a lo hi)) := by
  refine (pe_slice (sl_slice (W := W) G.K) ha hl hh).to fun σ H Q => ?_
  rintro ⟨e, F, R, q⟩
  refine ⟨e, F, R, PostE.first (show PostE C W e F σ H ((evE T (callF T n) false a e).bd _) Q from q) fun ra e1 v1 F1 H1 t1 r1 q => ?_⟩
  refine ⟨e1, F1, t1.sr, PostE.firstO q fun l e2 F2 H2 t2 q => ?_⟩
  refine ⟨e2, F2, t2.sr, PostE.firstO q fun h e3 F3 H3 t3 q => ?_⟩
  obtain ⟨d1, k1, q⟩ := q.opt
  refine ⟨d1, e3, F3, σ, t3.sr, fun i d v h1 h2 => ?_, q⟩
  match i, h1, h2 with
  | 0, h1, h2 => cases h1; cases h2; exact cont_crp t3.sr ((r1.mono t2).mono t3) k1
theorem s_rev (G : Good T C n W c X) {a : E} {x : Expr} {k : Nat} {p1 p2 p3 pos : Pos} (ha : PE X x (RE T C n W a)) : PE X (.Subscript x (.Slice none none (some (.UnaryOp .USub (.Constant (.int 1) k p1) p2)) p3) pos) (RE T C n W (.rev a)) := by
  refine (RevT.pe_revA ha).to fun σ H Q => ?_
  rintro ⟨e, F, R, q⟩
  refine ⟨e, F, R, PostE.first (show PostE C W e F σ H ((evE T (callF T n) false a e).bd _) Q from q) fun ra e1 v1 F1 H1 t1 r1 q => ?_⟩
  obtain ⟨d1, k1, q⟩ := q.opt
  obtain ⟨r, k2, q⟩ := q.opt
  have z := cont_crp t1.sr r1 k1
  cases d1 <;> cases k2
  · obtain ⟨a, vs, rfl, ha, ra⟩ := z.tup
    exact .inr ⟨a, vs, rfl, by rw [G.K]; exact t1.sr.sub.sqT ha, fun p hp => q.newTup t1.sr ra.reverse hp⟩
  · obtain ⟨a, vs, rfl, ha, ra⟩ := z.lst t1.sr.sub
    exact .inl ⟨a, vs, rfl, .inl (.inl ha), fun p hp => q.newLst t1.sr ra.reverse hp⟩
end
end PL
end

section
namespace PL
open PySem PySem.Spec L2

section
variable {C : G0} {e e1 e2 ek : EV} {F F1 F2 Fk H0 H H1 : Hp} {σ : St}
theorem shareT' {d : D} {a : Addr} (R : SR C e Fk σ H) (s : Sub F Fk) (mm : Mine C F H d a) (hn : ¬ OwnA e σ a) :
    ∃ F', Rep C F' d (.ref a) ∧ Sub Fk F' ∧ SR C e F' σ H ∧ (∀ b o, F' b = some o → Fk b = some o ∨ b = a) := by
  cases q : Fk a with
  | none => exact shareT (H0 := fun _ => none) R (mm.mono s q fun _ h => h) hn rfl
  | some u =>
    have hu := R.sub a u q
    refine ⟨Fk, ?_, Sub.refl _, R, fun b o h => .inl h⟩
    obtain ⟨_, mm⟩ := mm
    cases d <;> first | exact mm.elim | skip
    · obtain ⟨vs, z, r⟩ := mm; rw [hu] at z; cases z; rw [Rep]; exact ⟨a, vs, rfl, q, r.mono s⟩
    · obtain ⟨vs, z, l, r⟩ := mm; rw [hu] at z; cases z; rw [Rep]; exact ⟨a, vs, rfl, q, l, r.mono s⟩
    · obtain ⟨vs, z, l, r⟩ := mm; rw [hu] at z; cases z; rw [Rep]; exact ⟨a, vs, rfl, q, l, r.mono s⟩
/-- a result, its new things as they were at F1 -/
def RVw (C : G0) (H0 F1 F : Hp) (σ : St) (H : Hp) (e : EV) (r : RV) (v : V) : Prop := match r with
  | .v d => Rep C F d v
  | .t d => ∃ a, v = .ref a ∧ Mine C F1 H d a ∧ H0 a = none ∧ ¬ OwnA e σ a
  | .h i => σ[i]? = some (some v) ∧ ∃ s, e[i]? = some s ∧ s.dat.isSome = true
theorem RVw.grow {r : RV} {v : V} (h : RVw C H0 F1 Fk σ H e r v) (s : Sub Fk F2) : RVw C H0 F1 F2 σ H e r v := by
  cases r with
  | v d => exact Rep.mono s h
  | t d => exact h
  | h i => exact h
theorem RVw.step {r : RV} {v : V} (h : RVw C H0 F1 Fk σ H e r v) (t : TrE C e Fk σ H e1 F2 H) : RVw C H0 F1 F2 σ H e1 r v := by
  cases r with
  | v d => exact Rep.mono t.fs h
  | t d => obtain ⟨a, q1, q2, q3, q4⟩ := h; exact ⟨a, q1, q2, q3, fun q => q4 (t.ownA' q)⟩
  | h i =>
    obtain ⟨h1, s, h2, h3⟩ := h
    exact ⟨h1, t.dat i s h2 h3⟩
/-- one result shared, the others as they were -/
theorem frz_w {r : RV} {v : V} {d : D} (t : TrE C e F σ H ek Fk H1) (s : Sub F1 Fk) (h : RVw C H F1 Fk σ H1 ek r v) (k : frz ek r = some (d, e2)) :
    ∃ F2, TrE C e F σ H e2 F2 H1 ∧ Sub Fk F2 ∧ Rep C F2 d v ∧ ∀ r' v', RVw C H F1 Fk σ H1 ek r' v' → RVw C H F1 F2 σ H1 e2 r' v' := by
  cases r with
  | v d' => cases k; exact ⟨Fk, t, Sub.refl _, h, fun _ _ h => h⟩
  | t d' =>
    cases k
    obtain ⟨a, rfl, m, h0, n⟩ := h
    obtain ⟨F', q1, q2, q3, q4⟩ := shareT' t.sr s m n
    exact ⟨F', t.grow q2 q3 q4 h0, q2, q1, fun _ _ h => h.grow q2⟩
  | h i =>
    obtain ⟨h1, s', h2, h3⟩ := h
    have q := t.sr.slot i s' h2
    simp only [frz, h2] at k
    cases s' with
    | un => cases k
    | val d' => cases k; obtain ⟨v', e1, q⟩ := q; rw [h1] at e1; cases e1; exact ⟨Fk, t, Sub.refl _, q, fun _ _ h => h⟩
    | fro d' => cases k; obtain ⟨v', e1, q⟩ := q; rw [h1] at e1; cases e1; exact ⟨Fk, t, Sub.refl _, q, fun _ _ h => h⟩
    | own d' =>
      cases k; obtain ⟨a, e1, q⟩ := q; rw [h1] at e1; cases e1
      obtain ⟨F', q1, q2⟩ := share t.sr h2 rfl rfl h1 (.inl ⟨rfl, rfl⟩)
      exact ⟨F', t.trans q1, q1.fs, q2, fun _ _ h => h.step q1⟩
    | bor d' =>
      cases k; obtain ⟨a, e1, q⟩ := q; rw [h1] at e1; cases e1
      obtain ⟨F', q1, q2⟩ := share t.sr h2 rfl rfl h1 (.inr ⟨rfl, rfl⟩)
      exact ⟨F', t.trans q1, q1.fs, q2, fun _ _ h => h.step q1⟩
def RVsw (C : G0) (H0 F1 F : Hp) (σ : St) (H : Hp) (e : EV) : List RV → List V → Prop
  | [], vs => vs = []
  | r :: rs, vs => ∃ v ws, vs = v :: ws ∧ RVw C H0 F1 F σ H e r v ∧ RVsw C H0 F1 F σ H e rs ws
theorem RVsw.imp (k : ∀ r v, RVw C H0 F1 Fk σ H e r v → RVw C H0 F1 F2 σ H e2 r v) : ∀ {rs : List RV} {vs : List V}, RVsw C H0 F1 Fk σ H e rs vs → RVsw C H0 F1 F2 σ H e2 rs vs
  | [], _, h => h
  | r :: rs, _, ⟨v, ws, e, a, b⟩ => ⟨v, ws, e, k _ _ a, RVsw.imp k b⟩
theorem RVs.w : ∀ {rs : List RV} {vs : List V}, RVs C H0 F σ H e rs vs → RVsw C H0 F F σ H e rs vs
  | [], _, h => h
  | r :: rs, _, ⟨v, ws, e, a, b⟩ => ⟨v, ws, e, (by cases r <;> exact a), RVs.w b⟩
theorem frzs_w : ∀ {rs : List RV} {vs : List V} {ds : List D} {ek e2 : EV} {Fk : Hp}, TrE C e F σ H ek Fk H1 → Sub F1 Fk → RVsw C H F1 Fk σ H1 ek rs vs → frzs ek rs = some (ds, e2) → ∃ F2, TrE C e F σ H e2 F2 H1 ∧ Sub Fk F2 ∧ RepL C F2 ds vs
  | [], vs, ds, ek, e2, Fk, t, s, r, k => by
    cases k
    have r : vs = [] := r
    subst r
    exact ⟨Fk, t, Sub.refl _, .nil⟩
  | r :: rs, vs, ds, ek, e2, Fk, t, s, ⟨v, ws, ev, r1, r2⟩, k => by
    subst ev
    simp only [frzs] at k
    obtain ⟨⟨d, e3⟩, k1, k⟩ := Option.bind_eq_some_iff.mp k
    obtain ⟨F3, t3, s3, rp, im⟩ := frz_w t s r1 k1
    cases k2 : frzs e3 rs with
    | none => rw [k2] at k; cases k
    | some z =>
      obtain ⟨l, e4⟩ := z
      rw [k2] at k
      cases k
      obtain ⟨F4, t4, s4, rl⟩ := frzs_w t3 (s.trans s3) (r2.imp im) k2
      exact ⟨F4, t4, s3.trans s4, .cons (rp.mono s4) rl⟩
theorem frzs_ok {rs : List RV} {vs : List V} {ds : List D} (t : TrE C e F σ H e1 F1 H1) (r : RVs C H F1 σ H1 e1 rs vs) (k : frzs e1 rs = some (ds, e2)) : ∃ F2, TrE C e F σ H e2 F2 H1 ∧ Sub F1 F2 ∧ RepL C F2 ds vs :=
  frzs_w t (Sub.refl _) r.w k
/-- first x, then f; the point of view stays -/
theorem PostE.first0 {W : WX} {x : Out RV} {f : RV → EV → Out RV} {Q Q1 : VK} (h : PostE C W e F σ H (x.bd f) Q)
    (k : ∀ r e1 v F1 H1, TrE C e F σ H e1 F1 H1 → RVok C H F1 σ H1 e1 r v → PostE C W e F σ H (f r e1) Q → Q1 v H1) : PostE C W e F σ H x Q1 := by
  cases x with
  | ok r e1 => exact fun v F1 H1 t r1 => k r e1 v F1 H1 t r1 h
  | exc c p e1 => exact h
  | stuck => exact h
theorem PostE.firstA0 {W : WX} {x : Out (List RV)} {f : List RV → EV → Out RV} {Q : VK} {Q1 : List V → Hp → Prop} (h : PostE C W e F σ H (x.bd f) Q)
    (k : ∀ rs e1 vs F1 H1, TrE C e F σ H e1 F1 H1 → RVs C H F1 σ H1 e1 rs vs → PostE C W e F σ H (f rs e1) Q → Q1 vs H1) : PostA C W e F σ H x Q1 := by
  cases x with
  | ok r e1 => exact fun v F1 H1 t r1 => k r e1 v F1 H1 t r1 h
  | exc c p e1 => exact h
  | stuck => exact h
theorem PostE.newTup' {W : WX} {ds : List D} {vs : List V} {Q : VK} {p : Addr} (t : TrE C e F σ H e1 F1 H1) (h : PostE C W e F σ H (.ok (.v (.tup ds)) e1) Q) (r : RepL C F1 ds vs) (hp : H1 p = none) : Q (.ref p) (upd H1 p (.tup vs)) := by
  have t' := t.newT (o := .tup vs) hp
  have z := (TrE.refl t.sr).newT (o := .tup vs) hp
  refine h _ _ _ t' ?_
  show Rep C _ (.tup ds) _
  rw [Rep]
  exact ⟨p, vs, rfl, .inl (.inl upd_same), r.mono z.fs⟩
theorem PostE.newLst' {W : WX} {ds : List D} {vs : List V} {Q : VK} {p : Addr} (t : TrE C e F σ H e1 F1 H1) (h : PostE C W e F σ H (.ok (.t (.lst ds)) e1) Q) (r : RepL C F1 ds vs) (hp : H1 p = none) : Q (.ref p) (upd H1 p (.lst vs)) := by
  have t' := t.newL (o := .lst vs) hp
  refine h _ _ _ t' ⟨p, rfl, ⟨?_, vs, upd_same, r⟩, ?_, own_there t.sr hp⟩
  · cases q : F1 p with
    | none => rfl
    | some u => rw [t.sr.sub p u q] at hp; cases hp
  · by_cases q : H p = none
    · exact q
    · exact absurd hp (t.there p q)
end
section
variable {T : GT} {C : G0} {n : Nat} {W : WX} {c : CC} {X : Cx}
theorem s_tup {as : List E} {xs : List Expr} {x1} {pos : Pos} (ha : PA X xs (RA T C n W as)) : PE X (.Tuple xs x1 pos) (RE T C n W (.tup as)) := by
  refine (pe_tup ha).to fun σ H Q => ?_
  rintro ⟨e, F, R, q⟩
  refine ⟨e, F, R, PostE.firstA0 (show PostE C W e F σ H ((evA T (callF T n) as e).bd _) Q from q) fun rs e1 vs F1 H1 t1 r1 q => ?_⟩
  obtain ⟨⟨ds, e2⟩, k1, q⟩ := q.opt
  obtain ⟨F2, t2, s2, rl⟩ := frzs_ok t1 r1 k1
  dsimp only at q
  split at q
  · rename_i hz
    exact ⟨by rw [← sizeL_eq, ← rl.len]; exact hz, fun p hp => q.newTup' t2 rl hp⟩
  · exact q.elim
theorem s_lst {as : List E} {xs : List Expr} {pos : Pos} (ha : PA X xs (RA T C n W as)) : PE X (.List xs pos) (RE T C n W (.lst as)) := by
  refine (pe_lst ha).to fun σ H Q => ?_
  rintro ⟨e, F, R, q⟩
  refine ⟨e, F, R, PostE.firstA0 (show PostE C W e F σ H ((evA T (callF T n) as e).bd _) Q from q) fun rs e1 vs F1 H1 t1 r1 q => ?_⟩
  obtain ⟨⟨ds, e2⟩, k1, q⟩ := q.opt
  obtain ⟨F2, t2, s2, rl⟩ := frzs_ok t1 r1 k1
  dsimp only at q
  split at q
  · rename_i hz
    exact ⟨by rw [← sizeL_eq, ← rl.len]; exact hz, fun p hp => q.newLst' t2 rl hp⟩
  · exact q.elim
/-! ### built-in functions -/
theorem conts_len {e : EV} : ∀ {rs : List RV} {ds : List D}, conts e rs = some ds → ds.length = rs.length
  | [], ds, h => by cases h; rfl
  | r :: rs, ds, h => by
    simp only [conts] at h
    obtain ⟨d, _, h⟩ := Option.bind_eq_some_iff.mp h
    cases k : conts e rs with
    | none => rw [k] at h; cases h
    | some l => rw [k] at h; cases h; simp [conts_len k]
theorem RVs.len {H0 F H : Hp} {σ : St} {e : EV} : ∀ {rs : List RV} {vs : List V}, RVs C H0 F σ H e rs vs → rs.length = vs.length
  | [], _, h => by have h : _ = [] := h; subst h; rfl
  | r :: rs, _, ⟨v, ws, e, a, b⟩ => by subst e; simp [RVs.len b]
theorem RVs.get {H0 F H : Hp} {σ : St} {e : EV} : ∀ {rs : List RV} {vs : List V} {i : Nat} {r : RV}, RVs C H0 F σ H e rs vs → rs[i]? = some r → ∃ v, vs[i]? = some v ∧ RVok C H0 F σ H e r v
  | [], _, _, _, h, k => by simp at k
  | r :: rs, _, 0, _, ⟨v, ws, e, a, b⟩, k => by subst e; simp at k; subst k; exact ⟨v, rfl, a⟩
  | r :: rs, _, i + 1, _, ⟨v, ws, e, a, b⟩, k => by
    subst e
    obtain ⟨v', k1, k2⟩ := RVs.get (i := i) b (by simpa using k)
    exact ⟨v', by simpa using k1, k2⟩
theorem conts_get {H0 F H : Hp} {σ : St} {e : EV} (R : SR C e F σ H) : ∀ {rs : List RV} {ds : List D} {vs : List V} {i : Nat} {d : D} {v : V}, conts e rs = some ds → RVs C H0 F σ H e rs vs → ds[i]? = some d → vs[i]? = some v → CRp C F H d v
  | [], ds, vs, i, d, v, h, r, k1, k2 => by cases h; simp at k1
  | r :: rs, ds, vs, i, d, v, h, ⟨v', ws, ev, a, b⟩, k1, k2 => by
    subst ev
    simp only [conts] at h
    obtain ⟨d', h1, h⟩ := Option.bind_eq_some_iff.mp h
    cases k : conts e rs with
    | none => rw [k] at h; cases h
    | some l =>
      rw [k] at h; cases h
      cases i with
      | zero => simp at k1 k2; subst k1; subst k2; exact cont_crp R a h1
      | succ i => exact conts_get (i := i) R k b (by simpa using k1) (by simpa using k2)
theorem s_bi (G : Good T C n W c X) {b : Bi} {a : E} {as : List E} {x : Str} {y : Expr} {xs : List Expr} {p pos : Pos} (hx : x = Str.ofString (biNm b)) (hg : glB c.sc x = true) (hc : c.calm = true) (hgcd : b = .gcd → c.gcd = true) (ha : PA X (y :: xs) (RA T C n W as))
    (he : starEach (y :: xs) X.env = (false, eval y X.env) :: starEach xs X.env) (hpl : (backTo pos (starEach xs X.env)).any (·.1) = false) : PE X (.Call (.Name x p) (y :: xs) [] pos) (RE T C n W (.bi b as)) := by
  obtain ⟨g1, g2, g3⟩ := G.glb hg
  have main : PE X (.Call (.Name x p) (y :: xs) [] pos) (tCB (fun vs H Q => ∃ ds, OpP C W (biF b ds) ds vs H Q ∧ ds.length = vs.length) (RA T C n W as)) := by
    have hb := call_bi (W := W) G.K (G.cm hc) b
    subst hx
    cases b
    case gcd => exact pe_callBfun hb g1 (G.gl.gcd (hgcd rfl)) ha g2 he hpl
    case tuple => exact pe_callTy hb g1 (G.gl.bi _ (by decide)) (by decide +kernel) ha g3 g2 he hpl
    case list => exact pe_callTy hb g1 (G.gl.bi _ (by decide)) (by decide +kernel) ha g3 g2 he hpl
    case int1 => exact pe_callTy hb g1 (G.gl.bi _ (by decide)) (by decide +kernel) ha g3 g2 he hpl
    all_goals exact pe_callB hb g1 (G.gl.bi _ (by decide)) (by decide +kernel) ha g3 g2 he hpl
  refine main.to fun σ H Q => ?_
  rintro ⟨e, F, R, q⟩
  refine ⟨e, F, R, PostE.firstA (show PostE C W e F σ H ((evA T (callF T n) as e).bd _) Q from q) fun rs e1 vs F1 H1 t1 r1 q => ?_⟩
  obtain ⟨ds, k1, q⟩ := q.opt
  exact ⟨ds, ⟨e1, F1, σ, t1.sr, fun i d v h1 h2 => conts_get t1.sr k1 r1 h1 h2, q⟩, by rw [conts_len k1, r1.len]⟩
end
end PL
end

section
namespace PL
open PySem PySem.Spec L2

section
variable {C : G0} {e e1 e2 ek : EV} {F F1 F2 H0 H H1 : Hp} {σ : St}
def ArgR (C : G0) (F : Hp) (σ : St) (e : EV) (r : RV) (s : SV) (v : V) : Prop :=
  (∃ d, s = .val d ∧ Rep C F d v ∧ ∀ i, r = .h i → ∃ s0, e[i]? = some s0 ∧ s0.mine = false ∧ s0.dat.isSome = true) ∨
  (∃ i d, r = .h i ∧ s = .bor d ∧ σ[i]? = some (some v) ∧ (e[i]? = some (.own d) ∨ e[i]? = some (.bor d)))
def ArgRs (C : G0) (F : Hp) (σ : St) (e : EV) : List RV → List SV → List V → Prop
  | [], ss, vs => ss = [] ∧ vs = []
  | r :: rs, ss, vs => ∃ s st v vt, ss = s :: st ∧ vs = v :: vt ∧ ArgR C F σ e r s v ∧ ArgRs C F σ e rs st vt
theorem ArgR.mono {r : RV} {s : SV} {v : V} (h : ArgR C F σ e r s v) (k : Sub F F2) : ArgR C F2 σ e r s v := by
  rcases h with ⟨d, h1, h2, h3⟩ | h
  · exact .inl ⟨d, h1, h2.mono k, h3⟩
  · exact .inr h
theorem args_w : ∀ {rs : List RV} {vs : List V} {as : List SV} {Fk : Hp}, TrE C e F σ H e1 Fk H1 → Sub F1 Fk → RVsw C H F1 Fk σ H1 e1 rs vs → argsOf e1 rs = some as → ∃ F2, TrE C e F σ H e1 F2 H1 ∧ Sub Fk F2 ∧ ArgRs C F2 σ e1 rs as vs
  | [], vs, as, Fk, t, s, r, k => by
    cases k
    have r : vs = [] := r
    subst r
    exact ⟨Fk, t, Sub.refl _, rfl, rfl⟩
  | r :: rs, vs, as, Fk, t, s, ⟨v, ws, ev, r1, r2⟩, k => by
    subst ev
    simp only [argsOf] at k
    obtain ⟨a, k1, k⟩ := Option.bind_eq_some_iff.mp k
    cases k2 : argsOf e1 rs with
    | none => rw [k2] at k; cases k
    | some l =>
      rw [k2] at k
      cases k
      have step : ∃ F3, TrE C e F σ H e1 F3 H1 ∧ Sub Fk F3 ∧ ArgR C F3 σ e1 r a v := by
        cases r with
        | v d => cases k1; exact ⟨Fk, t, Sub.refl _, .inl ⟨d, rfl, r1, fun i z => by cases z⟩⟩
        | t d =>
          cases k1
          obtain ⟨a, rfl, m, h0, n⟩ := r1
          obtain ⟨F', q1, q2, q3, q4⟩ := shareT' t.sr s m n
          exact ⟨F', t.grow q2 q3 q4 h0, q2, .inl ⟨d, rfl, q1, fun i z => by cases z⟩⟩
        | h i =>
          obtain ⟨h1, s0, h2, h3⟩ := r1
          have z := t.sr.slot i s0 h2
          simp only [argOf, h2] at k1
          refine ⟨Fk, t, Sub.refl _, ?_⟩
          cases s0 with
          | un => cases k1
          | val d => cases k1; obtain ⟨v', q1, q2⟩ := z; rw [h1] at q1; cases q1; exact .inl ⟨d, rfl, q2, fun j z => by cases z; exact ⟨_, h2, rfl, rfl⟩⟩
          | fro d => cases k1; obtain ⟨v', q1, q2⟩ := z; rw [h1] at q1; cases q1; exact .inl ⟨d, rfl, q2, fun j z => by cases z; exact ⟨_, h2, rfl, rfl⟩⟩
          | own d => cases k1; exact .inr ⟨i, d, rfl, rfl, h1, .inl h2⟩
          | bor d => cases k1; exact .inr ⟨i, d, rfl, rfl, h1, .inr h2⟩
      obtain ⟨F3, t3, s3, ar⟩ := step
      obtain ⟨F4, t4, s4, rl⟩ := args_w t3 (s.trans s3) (r2.imp fun _ _ h => h.grow s3) k2
      exact ⟨F4, t4, s3.trans s4, a, l, v, ws, rfl, rfl, ar.mono s4, rl⟩
theorem ArgRs.get : ∀ {rs : List RV} {as : List SV} {vs : List V} {j : Nat} {s : SV}, ArgRs C F σ e rs as vs → as[j]? = some s → ∃ r v, rs[j]? = some r ∧ vs[j]? = some v ∧ ArgR C F σ e r s v
  | [], _, _, _, _, ⟨h, _⟩, k => by subst h; simp at k
  | r :: rs, _, _, 0, _, ⟨s, st, v, vt, h1, h2, h3, h4⟩, k => by subst h1 h2; simp at k; subst k; exact ⟨r, v, rfl, rfl, h3⟩
  | r :: rs, _, _, j + 1, _, ⟨s, st, v, vt, h1, h2, h3, h4⟩, k => by
    subst h1 h2
    obtain ⟨r', v', k1, k2, k3⟩ := ArgRs.get (j := j) h4 (by simpa using k)
    exact ⟨r', v', by simpa using k1, by simpa using k2, k3⟩
theorem ArgRs.len : ∀ {rs : List RV} {as : List SV} {vs : List V}, ArgRs C F σ e rs as vs → as.length = rs.length ∧ vs.length = rs.length
  | [], _, _, ⟨h, k⟩ => by subst h k; exact ⟨rfl, rfl⟩
  | r :: rs, _, _, ⟨s, st, v, vt, h1, h2, h3, h4⟩ => by subst h1 h2; have := ArgRs.len h4; simp [this.1, this.2]
theorem hands_mem : ∀ {rs : List RV} {i : Nat}, i ∈ hands rs ↔ ∃ j : Nat, rs[j]? = some (RV.h i)
  | [], i => by simp [hands]
  | .h k :: rs, i => by
    simp only [hands, List.mem_cons]
    rw [hands_mem (rs := rs)]
    constructor
    · rintro (rfl | ⟨j, h⟩)
      · exact ⟨0, rfl⟩
      · exact ⟨j + 1, by simpa using h⟩
    · rintro ⟨j, h⟩
      cases j with
      | zero => simp at h; exact .inl h.symm
      | succ j => exact .inr ⟨j, by simpa using h⟩
  | .v d :: rs, i => by
    simp only [hands]
    rw [hands_mem (rs := rs)]
    constructor
    · rintro ⟨j, h⟩; exact ⟨j + 1, by simpa using h⟩
    · rintro ⟨j, h⟩
      cases j with
      | zero => simp at h
      | succ j => exact ⟨j, by simpa using h⟩
  | .t d :: rs, i => by
    simp only [hands]
    rw [hands_mem (rs := rs)]
    constructor
    · rintro ⟨j, h⟩; exact ⟨j + 1, by simpa using h⟩
    · rintro ⟨j, h⟩
      cases j with
      | zero => simp at h
      | succ j => exact ⟨j, by simpa using h⟩
theorem hands_pos : ∀ {rs : List RV} {i j k : Nat}, (hands rs).Nodup → rs[j]? = some (.h i) → rs[k]? = some (.h i) → j = k
  | [], _, _, _, _, h, _ => by simp at h
  | r :: rs, i, j, k, nd, h1, h2 => by
    have tl : (hands rs).Nodup := by
      cases r <;> simp only [hands] at nd
      · exact nd
      · exact nd
      · exact (List.nodup_cons.mp nd).2
    cases j with
    | zero =>
      cases k with
      | zero => rfl
      | succ k =>
        simp at h1; subst h1
        simp only [hands] at nd
        exact absurd (hands_mem.mpr ⟨k, by simpa using h2⟩) (List.nodup_cons.mp nd).1
    | succ j =>
      cases k with
      | zero =>
        simp at h2; subst h2
        simp only [hands] at nd
        exact absurd (hands_mem.mpr ⟨j, by simpa using h1⟩) (List.nodup_cons.mp nd).1
      | succ k => rw [hands_pos (j := j) (k := k) tl (by simpa using h1) (by simpa using h2)]
def back1 (o : Option SV) (s : SV) : Option SV := match o, s with
  | some (.own _), .bor d => some (.own d)
  | some (.bor _), .bor d => some (.bor d)
  | some (.own _), .fro d => some (.val d)
  | some (.bor _), .fro d => some (.fro d)
  | o, _ => o
theorem putBack1_ne {r : RV} {s : SV} {i : Nat} (h : r ≠ .h i) : (putBack1 e r s)[i]? = e[i]? := by
  unfold putBack1
  split
  · rename_i k d
    have hk : k ≠ i := fun q => h (by rw [q])
    split <;> first | rfl | exact getE_set_ne hk
  · rename_i k d
    have hk : k ≠ i := fun q => h (by rw [q])
    split <;> first | rfl | exact getE_set_ne hk
  · rfl
theorem putBack1_eq {s : SV} {i : Nat} : (putBack1 e (.h i) s)[i]? = back1 e[i]? s := by
  unfold putBack1
  cases s with
  | bor d =>
    dsimp only
    split
    · rename_i d' h; rw [getE_set_self h, h]; rfl
    · rename_i d' h; rw [getE_set_self h, h]; rfl
    · rename_i h1 h2
      unfold back1
      split <;> first | rfl | (rename_i h; exact absurd h (by first | exact h1 _ | exact h2 _)) | skip
      all_goals first | rfl | (rename_i hh; simp_all)
  | fro d =>
    dsimp only
    split
    · rename_i d' h; rw [getE_set_self h, h]; rfl
    · rename_i d' h; rw [getE_set_self h, h]; rfl
    · rename_i h1 h2
      unfold back1
      split <;> first | rfl | (rename_i h; exact absurd h (by first | exact h1 _ | exact h2 _)) | skip
      all_goals first | rfl | (rename_i hh; simp_all)
  | un => show e[i]? = back1 e[i]? _; unfold back1; split <;> first | rfl | simp_all
  | val d => show e[i]? = back1 e[i]? _; unfold back1; split <;> first | rfl | simp_all
  | own d => show e[i]? = back1 e[i]? _; unfold back1; split <;> first | rfl | simp_all
theorem putBack1_len {r : RV} {s : SV} : (putBack1 e r s).length = e.length := by
  unfold putBack1
  split
  · split <;> simp
  · split <;> simp
  · rfl
theorem putBack_len : ∀ {rs : List RV} {ss : List SV} {e : EV}, (putBack e rs ss).length = e.length
  | [], _, e => by simp [putBack]
  | r :: rs, [], e => by simp [putBack]
  | r :: rs, s :: ss, e => by rw [putBack, putBack_len, putBack1_len]
theorem putBack_ne : ∀ {rs : List RV} {ss : List SV} {e : EV} {i : Nat}, i ∉ hands rs → (putBack e rs ss)[i]? = e[i]?
  | [], _, e, i, h => by simp [putBack]
  | r :: rs, [], e, i, h => by simp [putBack]
  | r :: rs, s :: ss, e, i, h => by
    rw [putBack, putBack_ne (rs := rs), putBack1_ne]
    · rintro rfl; exact h (by simp [hands])
    · intro q; apply h; cases r <;> simp [hands, q]
theorem putBack_eq : ∀ {rs : List RV} {ss : List SV} {e : EV} {i j : Nat} {s : SV}, (hands rs).Nodup → rs[j]? = some (.h i) → ss[j]? = some s → (putBack e rs ss)[i]? = back1 e[i]? s
  | [], _, e, i, j, s, _, h, _ => by simp at h
  | r :: rs, [], e, i, j, s, _, _, h => by simp at h
  | r :: rs, s' :: ss, e, i, j, s, nd, h1, h2 => by
    have tl : (hands rs).Nodup := by
      cases r <;> simp only [hands] at nd
      · exact nd
      · exact nd
      · exact (List.nodup_cons.mp nd).2
    rw [putBack]
    cases j with
    | zero =>
      simp at h1 h2; subst h1 h2
      simp only [hands] at nd
      rw [putBack_ne (List.nodup_cons.mp nd).1, putBack1_eq]
    | succ j =>
      have h3 : rs[j]? = some (.h i) := by simpa using h1
      rw [putBack_eq (j := j) (s := s) tl h3 (by simpa using h2), putBack1_ne]
      rintro rfl
      simp only [hands] at nd
      exact (List.nodup_cons.mp nd).1 (hands_mem.mpr ⟨j, h3⟩)
theorem call_ok {rs : List RV} {vs : List V} {as : List SV} (t : TrE C e F σ H e1 F1 H1) (r : RVs C H F1 σ H1 e1 rs vs) (nd : (hands rs).Nodup) (ha : argsOf e1 rs = some as) :
    ∃ F2, SR C as F2 (vs.map some) H1 ∧ as.length = vs.length ∧ (∀ s ∈ as, (∃ d, s = .val d) ∨ ∃ d, s = .bor d) ∧ ∀ as' F' H', TrE C as F2 (vs.map some) H1 as' F' H' → TrE C e F σ H (putBack e1 rs as') F' H' ∧
      (∀ d v, RVok C H1 F' (vs.map some) H' as' (.t d) v → RVok C H F' σ H' (putBack e1 rs as') (.t d) v) := by
  obtain ⟨F2, t2, s2, ar⟩ := args_w t (Sub.refl _) r.w ha
  obtain ⟨l1, l2⟩ := ar.len
  have R := t2.sr
  have vm : ∀ {j : Nat} {v : V}, vs[j]? = some v → (vs.map some)[j]? = some (some v) := fun {j v} h => by rw [List.getElem?_map, h]; rfl
  have ownAs : ∀ {b : Addr}, OwnA as (vs.map some) b → ∃ (i : Nat) (s : SV) (j : Nat), rs[j]? = some (RV.h i) ∧ e1[i]? = some s ∧ s.mine = true ∧ σ[i]? = some (some (V.ref b)) := fun {b} ⟨j, s, h1, h2, h3⟩ => by
    obtain ⟨r, v, k1, k2, k3⟩ := ar.get h1
    rw [vm k2] at h3; cases h3
    rcases k3 with ⟨d, rfl, _⟩ | ⟨i, d, rfl, rfl, q1, q2 | q2⟩
    · cases h2
    · exact ⟨i, _, j, k1, q2, rfl, q1⟩
    · exact ⟨i, _, j, k1, q2, rfl, q1⟩
  have ownE : ∀ {b : Addr}, OwnA as (vs.map some) b → OwnA e1 σ b := fun h => by
    obtain ⟨i, s, j, _, h1, h2, h3⟩ := ownAs h
    exact ⟨i, s, h1, h2, h3⟩
  have sr : SR C as F2 (vs.map some) H1 := by
    refine ⟨R.sub, fun j s h => ?_, fun j k s s' a h1 h2 m1 m2 a1 a2 => ?_, by simp [l1, l2]⟩
    · obtain ⟨r, v, k1, k2, k3⟩ := ar.get h
      rw [vm k2]
      rcases k3 with ⟨d, rfl, q, _⟩ | ⟨i, d, rfl, rfl, q1, q2 | q2⟩
      · exact ⟨v, rfl, q⟩
      · obtain ⟨a, z1, z2⟩ := R.slot i _ q2
        rw [q1] at z1; cases z1
        exact ⟨a, rfl, z2⟩
      · obtain ⟨a, z1, z2⟩ := R.slot i _ q2
        rw [q1] at z1; cases z1
        exact ⟨a, rfl, z2⟩
    · obtain ⟨r, v, k1, k2, k3⟩ := ar.get h1
      obtain ⟨r', v', k1', k2', k3'⟩ := ar.get h2
      rw [vm k2] at a1; cases a1
      rw [vm k2'] at a2; cases a2
      rcases k3 with ⟨d, rfl, q, _⟩ | ⟨i, d, rfl, rfl, q1, q2⟩
      · cases m1
      rcases k3' with ⟨d', rfl, q', _⟩ | ⟨i', d', rfl, rfl, q1', q2'⟩
      · cases m2
      have ei : i = i' := by
        rcases q2 with q2 | q2 <;> rcases q2' with q2' | q2' <;> exact R.dis i i' _ _ a q2 q2' rfl rfl q1 q1'
      subst ei
      exact hands_pos nd k1 k1'
  refine ⟨F2, sr, by rw [l1, l2], fun s hs => ?_, fun as' F' H' u => ?_⟩
  · obtain ⟨j, hj⟩ := List.getElem?_of_mem hs
    obtain ⟨r, v, k1, k2, k3⟩ := ar.get hj
    rcases k3 with ⟨d, rfl, _⟩ | ⟨i, d, _, rfl, _⟩
    · exact .inl ⟨d, rfl⟩
    · exact .inr ⟨d, rfl⟩
  · have char : ∀ i : Nat, ((putBack e1 rs as')[i]? = e1[i]? ∧ ∀ s, e1[i]? = some s → s.mine = true → i ∉ hands rs) ∨
        ∃ (j : Nat) (d d' : D) (v : V), vs[j]? = some v ∧ σ[i]? = some (some v) ∧ ((e1[i]? = some (.own d) ∧ ((as'[j]? = some (.bor d') ∧ (putBack e1 rs as')[i]? = some (.own d')) ∨ (as'[j]? = some (.fro d') ∧ (putBack e1 rs as')[i]? = some (.val d')))) ∨
          (e1[i]? = some (.bor d) ∧ ((as'[j]? = some (.bor d') ∧ (putBack e1 rs as')[i]? = some (.bor d')) ∨ (as'[j]? = some (.fro d') ∧ (putBack e1 rs as')[i]? = some (.fro d'))))) := fun i => by
      by_cases hi : i ∈ hands rs
      · obtain ⟨j, hj⟩ := hands_mem.mp hi
        have hjl : j < rs.length := (List.getElem?_eq_some_iff.mp hj).1
        obtain ⟨s, hs⟩ : ∃ s, as[j]? = some s := ⟨as[j]'(by omega), List.getElem?_eq_getElem _⟩
        obtain ⟨r, v, k1, k2, k3⟩ := ar.get hs
        rw [hj] at k1; cases k1
        have hl' : as'.length = as.length := u.len
        obtain ⟨s', hs'⟩ : ∃ s', as'[j]? = some s' := ⟨as'[j]'(by omega), List.getElem?_eq_getElem _⟩
        have pe := putBack_eq (e := e1) nd hj hs'
        rcases k3 with ⟨d, rfl, q, q0⟩ | ⟨i', d, ei, rfl, q1, q2⟩
        · obtain ⟨s0, z1, z2, z3⟩ := q0 i rfl
          refine .inl ⟨?_, fun s1 h1 h2 => ?_⟩
          · rw [pe, z1]
            cases s0 <;> first | cases z2 | skip
            all_goals cases s' <;> rfl
          · rw [z1] at h1; cases h1; rw [z2] at h2; cases h2
        · cases ei
          obtain ⟨_, d', z⟩ := u.bor j d hs
          refine .inr ⟨j, d, d', v, k2, q1, ?_⟩
          rcases q2 with q2 | q2
          · refine .inl ⟨q2, ?_⟩
            rcases z with z | z
            · rw [hs'] at z; cases z; exact .inl ⟨hs', by rw [pe, q2]; rfl⟩
            · rw [hs'] at z; cases z; exact .inr ⟨hs', by rw [pe, q2]; rfl⟩
          · refine .inr ⟨q2, ?_⟩
            rcases z with z | z
            · rw [hs'] at z; cases z; exact .inl ⟨hs', by rw [pe, q2]; rfl⟩
            · rw [hs'] at z; cases z; exact .inr ⟨hs', by rw [pe, q2]; rfl⟩
      · exact .inl ⟨putBack_ne hi, fun _ _ _ => hi⟩
    have nom : ∀ (i : Nat) (s' : SV), (putBack e1 rs as')[i]? = some s' → s'.mine = true → ∃ s, e1[i]? = some s ∧ s.mine = true := fun i s' h m => by
      rcases char i with ⟨q, _⟩ | ⟨j, d, d', v, hv, hσ, ⟨q1, q2 | q2⟩ | ⟨q1, q2 | q2⟩⟩
      · rw [q] at h; exact ⟨s', h, m⟩
      all_goals exact ⟨_, q1, rfl⟩
    have big : TrE C e1 F2 σ H1 (putBack e1 rs as') F' H' := by
      refine ⟨⟨⟨u.sr.sub, fun i s h => ?_, fun i k s s' a h1 h2 m1 m2 a1 a2 => ?_, by rw [putBack_len]; exact R.len⟩, u.fs, fun b o h k => u.keep b o h fun q => k (ownE q), u.there, fun b o h => ?_, fun i d a h1 h2 => ?_, fun i d' h => ?_, fun i d h => ⟨rfl, ?_⟩, fun i d h => ⟨rfl, ?_⟩, putBack_len⟩, fun i s h k => ?_, nom⟩
      · rcases char i with ⟨q, hq⟩ | ⟨j, d, d', v, hv, hσ, ⟨q1, ⟨q2, q3⟩ | ⟨q2, q3⟩⟩ | ⟨q1, ⟨q2, q3⟩ | ⟨q2, q3⟩⟩⟩
        · rw [q] at h
          have z := R.slot i s h
          have stay : ∀ {d : D} {a : Addr}, s.mine = true → σ[i]? = some (some (.ref a)) → Mine C F2 H1 d a → Mine C F' H' d a := fun {d a} ms ea mm => by
            have no : ¬ OwnA as (vs.map some) a := fun oa => by
              obtain ⟨i', s', j, w1, w2, w3, w4⟩ := ownAs oa
              have := R.dis i' i s' s a w2 h w3 ms w4 ea
              subst this
              exact hq s h ms (hands_mem.mpr ⟨j, w1⟩)
            refine mm.mono u.fs ?_ fun o ho => u.keep a o ho no
            cases fa : F' a with
            | none => rfl
            | some o =>
              obtain ⟨o', ho'⟩ := mm.there
              rcases u.new a o fa with w | w | w
              · rw [mm.1] at w; cases w
              · rw [ho'] at w; cases w
              · exact absurd w no
          cases s with
          | un => trivial
          | val d => obtain ⟨v, z1, z2⟩ := z; exact ⟨v, z1, z2.mono u.fs⟩
          | fro d => obtain ⟨v, z1, z2⟩ := z; exact ⟨v, z1, z2.mono u.fs⟩
          | own d => obtain ⟨a, z1, z2⟩ := z; exact ⟨a, z1, stay rfl z1 z2⟩
          | bor d => obtain ⟨a, z1, z2⟩ := z; exact ⟨a, z1, stay rfl z1 z2⟩
        · rw [q3] at h; cases h
          obtain ⟨a, z1, z2⟩ := u.sr.slot j _ q2
          rw [vm hv] at z1; cases z1
          exact ⟨a, hσ, z2⟩
        · rw [q3] at h; cases h
          obtain ⟨v', z1, z2⟩ := u.sr.slot j _ q2
          rw [vm hv] at z1; cases z1
          exact ⟨_, hσ, z2⟩
        · rw [q3] at h; cases h
          obtain ⟨a, z1, z2⟩ := u.sr.slot j _ q2
          rw [vm hv] at z1; cases z1
          exact ⟨a, hσ, z2⟩
        · rw [q3] at h; cases h
          obtain ⟨v', z1, z2⟩ := u.sr.slot j _ q2
          rw [vm hv] at z1; cases z1
          exact ⟨_, hσ, z2⟩
      · obtain ⟨t1, w1, w2⟩ := nom i s h1 m1
        obtain ⟨t2, w3, w4⟩ := nom k s' h2 m2
        exact R.dis i k t1 t2 a w1 w3 w2 w4 a1 a2
      · rcases u.new b o h with w | w | w
        · exact .inl w
        · exact .inr (.inl w)
        · exact .inr (.inr (ownE w))
      · rcases char i with ⟨q, hq⟩ | ⟨j, d0, d', v, hv, hσ, ⟨q1, ⟨q2, q3⟩ | ⟨q2, q3⟩⟩ | ⟨q1, ⟨q2, q3⟩ | ⟨q2, q3⟩⟩⟩
        · rw [q] at h1; exact .inl ⟨i, d, h1, h2⟩
        · exact .inl ⟨i, d0, q1, h2⟩
        all_goals (rw [q3] at h1; cases h1)
      · rcases char i with ⟨q, hq⟩ | ⟨j, d0, d', v, hv, hσ, ⟨q1, ⟨q2, q3⟩ | ⟨q2, q3⟩⟩ | ⟨q1, ⟨q2, q3⟩ | ⟨q2, q3⟩⟩⟩
        · rw [q] at h; exact ⟨d', h⟩
        · rw [q3] at h; cases h
        · rw [q3] at h; cases h
        · exact ⟨d0, q1⟩
        · exact ⟨d0, q1⟩
      · rcases char i with ⟨q, hq⟩ | ⟨j, d0, d', v, hv, hσ, ⟨q1, ⟨q2, q3⟩ | ⟨q2, q3⟩⟩ | ⟨q1, ⟨q2, q3⟩ | ⟨q2, q3⟩⟩⟩
        · exact ⟨d, .inl (by rw [q]; exact h)⟩
        · rw [q1] at h; cases h
        · rw [q1] at h; cases h
        · exact ⟨d', .inl q3⟩
        · exact ⟨d', .inr q3⟩
      · rcases char i with ⟨q, hq⟩ | ⟨j, d0, d', v, hv, hσ, ⟨q1, ⟨q2, q3⟩ | ⟨q2, q3⟩⟩ | ⟨q1, ⟨q2, q3⟩ | ⟨q2, q3⟩⟩⟩
        · rw [q]; exact h
        all_goals (rw [q1] at h; cases h)
      · rcases char i with ⟨q, hq⟩ | ⟨j, d0, d', v, hv, hσ, ⟨q1, ⟨q2, q3⟩ | ⟨q2, q3⟩⟩ | ⟨q1, ⟨q2, q3⟩ | ⟨q2, q3⟩⟩⟩
        · exact ⟨s, by rw [q]; exact h, k⟩
        all_goals exact ⟨_, q3, rfl⟩
    refine ⟨t2.trans big, fun d v h => ?_⟩
    obtain ⟨a, rfl, m, h0, no⟩ := h
    refine ⟨a, rfl, m, ?_, fun q => ?_⟩
    · by_cases z : H a = none
      · exact z
      · exact absurd h0 (t.there a z)
    · obtain ⟨_, o, ho⟩ := R.ownNone (big.ownA' q)
      rw [h0] at ho; cases ho
end
end PL
end

section
namespace PL
open PySem PySem.Spec L2

section
variable {T : GT} {C : G0} {n : Nat} {W : WX} {c : CC} {X : Cx}
theorem callF_stuck {n g : Nat} {as : List SV} (h : T.fns[g]? = none) : callF T n g as = .stuck := by
  cases n with
  | zero => rfl
  | succ n => simp only [callF, h]
theorem callF_len {n g : Nat} {as : List SV} {F : FnD} (h : T.fns[g]? = some F) (k : callF T n g as ≠ .stuck) : as.length = F.ps.length := by
  cases n with
  | zero => exact absurd rfl k
  | succ n =>
    simp only [callF, h] at k
    split at k
    · assumption
    · exact absurd rfl k
/-- what a def asks, from the outcome of the call -/
theorem spi_of {e e1 : EV} {F F1 H H1 : Hp} {σ : St} {rs : List RV} {vs : List V} {g : Nat} {Q : VK} (t : TrE C e F σ H e1 F1 H1) (r : RVs C H F1 σ H1 e1 rs vs)
    (q : PostE C W e F σ H (doCall (callF T n) g rs e1) Q) : ∃ fn, T.fns[g]? = some fn ∧ SpI T C n g fn.ps.length vs H1 Q (WE W σ) := by
  unfold doCall at q
  split at q
  · rename_i nd
    cases ha : argsOf e1 rs with
    | none => rw [ha] at q; exact q.elim
    | some as =>
      rw [ha] at q
      dsimp only at q
      obtain ⟨F2, sr, hl, hv, k⟩ := call_ok t r nd ha
      cases hf : T.fns[g]? with
      | none => rw [callF_stuck hf] at q; exact q.elim
      | some fn =>
        refine ⟨fn, rfl, as, F2, ?_, hv, sr, ?_⟩
        · rw [← hl]
          refine callF_len (n := n) hf fun z => ?_
          rw [z] at q; exact q
        · cases hc : callF T n g as with
          | stuck => rw [hc] at q; exact q
          | exc x p as' =>
            rw [hc] at q
            exact fun F' H' u => q F' H' (k as' F' H' u).1
          | ok z as' =>
            rw [hc] at q
            intro v F' H' u rv
            obtain ⟨k1, k2⟩ := k as' F' H' u
            refine q v F' H' k1 ?_
            cases z with
            | v d => exact rv
            | t d => exact k2 d v rv
            | h i =>
              exfalso
              have : ∀ as o, fin as o ≠ .ok (.h i) as' := fun as o => by
                unfold fin
                split <;> simp
              cases n with
              | zero => cases hc
              | succ n =>
                simp only [callF, hf] at hc
                split at hc
                · exact this _ _ hc
                · cases hc
  · exact q.elim
/-! ### no stars -/
def nst : Expr → Bool
  | .Starred .. => false
  | _ => true
theorem star_cons {x : Expr} {xs : List Expr} {env : Env} (h : nst x = true) : starEach (x :: xs) env = (false, eval x env) :: starEach xs env := by
  cases x <;> first | rfl | cases h
theorem star_any {pos : Pos} {env : Env} : ∀ {xs : List Expr}, xs.all nst = true → (backTo pos (starEach xs env)).any (·.1) = false
  | [], _ => rfl
  | x :: xs, h => by
    rw [List.all_cons, Bool.and_eq_true] at h
    rw [star_cons h.1]
    show (false || (backTo pos (starEach xs env)).any (·.1)) = false
    rw [star_any h.2]; rfl
theorem star_all {pos : Pos} {env : Env} : ∀ {xs : List Expr}, xs.all nst = true → (backTo pos (starEach xs env)).all (fun x => !x.1) = true
  | [], _ => rfl
  | x :: xs, h => by
    rw [List.all_cons, Bool.and_eq_true] at h
    rw [star_cons h.1]
    show (!false && (backTo pos (starEach xs env)).all (fun x => !x.1)) = true
    rw [star_all h.2]; rfl
theorem run_sp (G : Good T C n W c X) (hc : c.calm = true) {g : Nat} {fn : FnD} {pins : List (Addr × Obj)} {σ : St} {H : Hp} {s : Shared} {Q : VK} {us : List Value} {vs : List V} (hf : T.fns[g]? = some fn)
    (I : Inv X pins σ H s) (r : Vals vs us) (h : SpI T C n g fn.ps.length vs H Q (WE W σ)) : wpAny (model X.prog X.w) X.A (call (.ref (C.gv g)) us) (EP X pins σ Q) X.xe s := by
  obtain ⟨hk, fd, F, hb, _⟩ := G.gl.fns g fn hf
  rw [← G.K] at F hb
  exact run_fnSD (E := WE W) F (G.room hc) hb .nil (passAt G.tk σ) I r (by rw [List.append_nil]; exact h)
/-- the arguments, then the call -/
theorem call_with (G : Good T C n W c X) (hc : c.calm = true) {g : Nat} (hlt : g < T.fns.length) {as : List E} {xs : List Expr} {pos : Pos} {pins : List (Addr × Obj)} {σ : St} {H : Hp} {s : Shared} {Q : VK} (ha : PA X xs (RA T C n W as)) (hs : xs.all nst = true) (hl : as.length = xs.length)
    (I : Inv X pins σ H s) {e : EV} {F : Hp} (R : SR C e F σ H) (q : PostE C W e F σ H ((evA T (callF T n) as e).bd fun rs e1 => doCall (callF T n) g rs e1) Q) :
    wpAny (model X.prog X.w) X.A (callWith pos (.ref (C.gv g)) [] (backTo pos (starEach xs X.env)) (backToKw pos (keywordEach [] X.env))) (EP X pins σ Q) X.xe s := by
  have hk : ∀ {fn}, T.fns[g]? = some fn → PySem.W.keepIn X.K (.ref (C.gv g)) = true := fun {fn} hf => by rw [G.K]; exact (G.gl.fns g fn hf).1
  cases xs with
  | nil =>
    cases as with
    | cons a as => cases hl
    | nil =>
      simp only [evA, bd_ok] at q
      obtain ⟨fn, hf, sp⟩ := spi_of (TrE.refl R) (show RVs C H F σ H e [] [] from rfl) q
      exact PySem.W.callWith_K0 I.kIn (hk hf) (run_sp G hc hf I .nil sp)
  | cons x xs =>
    rw [List.all_cons, Bool.and_eq_true] at hs
    have main : RA T C n W as σ H fun vs H1 => ∃ fn, T.fns[g]? = some fn ∧ SpI T C n g fn.ps.length vs H1 Q (WE W σ) :=
      ⟨e, F, R, PostE.firstA0 q fun rs e1 vs F1 H1 t1 r1 q => spi_of t1 r1 q⟩
    refine PySem.W.callWith_K (h₀ := X.base) I.ok.mod.kin (hk (List.getElem?_eq_getElem hlt)) (thn (ha.run pos pins s σ H _ I main) fun us s1 ⟨vs, H1, I1, r, q⟩ => ⟨I1.kIn, ?_⟩) (star_cons hs.1) (star_any hs.2)
    obtain ⟨fn, hf, sp⟩ := q
    exact run_sp G hc hf I1 r sp
theorem s_call (G : Good T C n W c X) (hc : c.calm = true) {g : Nat} {as : List E} {x : Str} {xs : List Expr} {p pos : Pos} (h : c.fn[g]? = some x) (hg : glB c.sc x = true) (ha : PA X xs (RA T C n W as)) (hs : xs.all nst = true) (hl : as.length = xs.length) :
    PE X (.Call (.Name x p) xs [] pos) (RE T C n W (.call g as)) := by
  obtain ⟨g1, g2, g3⟩ := G.glb hg
  obtain ⟨hm, hlt⟩ := G.gl.names g x h
  refine ⟨fun pins s σ H Q I ⟨e, F, R, q⟩ => ?_⟩
  refine wpAny_Call_Name_kw (ld_glob I g1 hm ?_ g2)
  exact call_with G hc hlt ha hs hl I R (by simpa only [evE, tst_false] using q)
theorem s_calld (G : Good T C n W c X) (hc : c.calm = true) {i : Nat} {as : List E} {x : Str} {xs : List Expr} {p pos : Pos} (h : nmB c i x = true) (ha : PA X xs (RA T C n W as)) (hs : xs.all nst = true) (hl : as.length = xs.length) :
    PE X (.Call (.Name x p) xs [] pos) (RE T C n W (.calld i as)) := by
  refine ⟨fun pins s σ H Q I ⟨e, F, R, q⟩ => ?_⟩
  simp only [evE, tst_false] at q
  split at q
  · rename_i g eg
    obtain ⟨v, h1, h2⟩ := R.slot i _ eg
    rw [Rep] at h2
    subst h2
    refine wpAny_Call_Name_kw (thn ((G.nm (pos := p) h).run pins s σ H (fun v H1 => v = .ref (C.gv g) ∧ H1 = H) I ⟨_, h1, rfl, rfl⟩) fun u s1 ⟨v, H1, I1, r1, q1⟩ => ?_)
    obtain ⟨rfl, rfl⟩ := q1
    cases r1
    split at q
    · rename_i hlt
      exact call_with G hc hlt ha hs hl I1 R q
    · exact q.elim
  · exact q.elim
end
end PL
end

section
namespace PL
open PySem PySem.Spec L2

/-! ### calls with keywords -/
theorem Paired.lookup {α β : Type} {R : α → β → Prop} {p : Str} : ∀ {ks : List Str} {xs : List α} {ys : List β}, Paired R xs ys → ((ks.zip xs).lookup p = none ∧ (ks.zip ys).lookup p = none) ∨ ∃ x y, (ks.zip xs).lookup p = some x ∧ (ks.zip ys).lookup p = some y ∧ R x y
  | [], _, _, _ => .inl ⟨rfl, rfl⟩
  | k :: ks, _, _, .nil => .inl ⟨rfl, rfl⟩
  | k :: ks, x :: xs, y :: ys, .cons r t => by
    simp only [List.zip_cons_cons, List.lookup_cons]
    cases p == k with
    | true => exact .inr ⟨x, y, rfl, rfl, r⟩
    | false => exact Paired.lookup t
theorem Paired.fm {α β : Type} {R : α → β → Prop} {ks : List Str} {xs : List α} {ys : List β} (h : Paired R xs ys) : ∀ ps : List Str, Paired R (ps.filterMap fun p => (ks.zip xs).lookup p) (ps.filterMap fun p => (ks.zip ys).lookup p)
  | [] => .nil
  | p :: ps => by
    rcases Paired.lookup (p := p) (ks := ks) h with ⟨h1, h2⟩ | ⟨x, y, h1, h2, r⟩
    · simp only [List.filterMap_cons, h1, h2]; exact Paired.fm h ps
    · simp only [List.filterMap_cons, h1, h2]; exact .cons r (Paired.fm h ps)
theorem Paired.app {α β : Type} {R : α → β → Prop} {xs xs' : List α} {ys ys' : List β} (h : Paired R xs ys) (k : Paired R xs' ys') : Paired R (xs ++ xs') (ys ++ ys') := by
  induction h with
  | nil => exact k
  | cons r t ih => exact .cons r ih
theorem Paired.kw {α β : Type} {R : α → β → Prop} {ps ks : List Str} {xs zs : List α} {ys ws : List β} (h : Paired R xs ys) (k : Paired R zs ws) : Paired R (kwSort ps ks xs zs) (kwSort ps ks ys ws) := by
  unfold kwSort
  rw [Paired.length h]
  exact Paired.app h (Paired.fm k _)
theorem RVs.pair {C : G0} {H0 F H : Hp} {σ : St} {e : EV} : ∀ {rs : List RV} {vs : List V}, RVs C H0 F σ H e rs vs → Paired (RVok C H0 F σ H e) rs vs
  | [], _, h => by have h : _ = [] := h; subst h; exact .nil
  | r :: rs, _, ⟨v, ws, e, a, b⟩ => by subst e; exact .cons a (RVs.pair b)
theorem RVs.ofPair {C : G0} {H0 F H : Hp} {σ : St} {e : EV} : ∀ {rs : List RV} {vs : List V}, Paired (RVok C H0 F σ H e) rs vs → RVs C H0 F σ H e rs vs
  | _, _, .nil => rfl
  | _, _, .cons a b => ⟨_, _, rfl, a, RVs.ofPair b⟩
section
variable {T : GT} {C : G0} {n : Nat} {W : WX} {c : CC} {X : Cx}
theorem evA_len {cf : Nat → List SV → CO} : ∀ {as : List E} {e e' : EV} {rs : List RV}, evA T cf as e = .ok rs e' → rs.length = as.length
  | [], e, e', rs, h => by simp only [evA] at h; cases h; rfl
  | a :: as, e, e', rs, h => by
    simp only [evA] at h
    obtain ⟨r, e1, _, h⟩ := bd_eq h
    obtain ⟨rs', e2, h1, h⟩ := bd_eq h
    cases h
    simp [evA_len h1]
theorem run_fnkS {CX : CXT} {k : Nat} {f : Addr} {fd : FuncData} {ps ks : List Str} {sp : Sp} {E : St → XK} {g : List Value → List Value → List Value} {gV : List V → List V → List V} {pins : List (Addr × Obj)} {σ : St} {H : Hp} {s : Shared} {Q : VK} {us ws : List Value} {vs zs : List V} (F : FnOk X.prog X.w X.K X.mg X.base CX k f fd ps sp) (hr : Room k X.A) (hb : KBinds X.K fd ps ks g gV) (hx : PassesAt CX X σ (E σ))
    (I : Inv X pins σ H s) (r : Vals vs us) (rz : Vals zs ws) (h : sp (gV vs zs) H Q (E σ)) : wpAny (model X.prog X.w) X.A (call (.ref f) us (ks.zip ws)) (EP X pins σ Q) X.xe s := by
  have r2 := hb.rel r rz
  have hl : (g us ws).length = ps.length := by rw [← r2.length]; exact F.len _ _ _ _ h
  refine wpAny_call (codeAny_mono (F.run X.A X.stack s H ⟨us, ks.zip ws⟩ (g us ws) (gV vs zs) Q (E σ) hr I.env0 (hb.to s us ws I.kIn hl) r2 h) fun r s' hq => ?_)
  cases r with
  | error e => exact hx pins H s e s' I hq
  | ok fl =>
    cases fl with
    | ret u => exact I.after hq
    | next => exact False.elim hq
    | brk => exact False.elim hq
    | cont => exact False.elim hq
/-- keywords with names -/
def kwNames : List Keyword → List Str → Bool
  | [], [] => true
  | ⟨some n, _, _⟩ :: xs, k :: ks => decide (k = n) && kwNames xs ks
  | _, _ => false
theorem kw_all {pos : Pos} {env : Env} : ∀ {kws : List Keyword} {ks : List Str}, kwNames kws ks = true → (backToKw pos (keywordEach kws env)).all (·.1.isSome) = true ∧ (backToKw pos (keywordEach kws env)).filterMap (·.1) = ks ∧ (backToKw pos (keywordEach kws env)).any (·.1.isNone) = false
  | [], [], _ => ⟨rfl, rfl, rfl⟩
  | ⟨some n, x, p⟩ :: xs, k :: ks, h => by
    simp only [kwNames, Bool.and_eq_true] at h
    obtain ⟨h1, h2, h3⟩ := kw_all (pos := pos) (env := env) h.2
    have e := of_decide_eq_true h.1
    subst e
    refine ⟨?_, ?_, ?_⟩
    · show (true && (backToKw pos (keywordEach xs env)).all (·.1.isSome)) = true; rw [h1]; rfl
    · show k :: (backToKw pos (keywordEach xs env)).filterMap (·.1) = _; rw [h2]
    · show (false || (backToKw pos (keywordEach xs env)).any (·.1.isNone)) = false; rw [h3]; rfl
  | [], _ :: _, h => by simp [kwNames] at h
  | ⟨none, _, _⟩ :: _, _, h => by simp [kwNames] at h
  | ⟨some _, _, _⟩ :: _, [], h => by simp [kwNames] at h
theorem s_knil : PK X [] (RA T C n W []) := ⟨fun pos pins s σ H Q I ⟨e, F, R, q⟩ => by
  simp only [evA] at q
  exact pk_nil.run pos pins s σ H Q I (q [] F H (TrE.refl R) rfl)⟩
theorem s_kcons {a : E} {as : List E} {x : Expr} {nm : Option Str} {kp : Pos} {kws : List Keyword} (ha : PE X x (RE T C n W a)) (hr : PK X kws (RA T C n W as)) : PK X (⟨nm, x, kp⟩ :: kws) (RA T C n W (a :: as)) := ⟨fun pos pins s σ H Q I ⟨e, F, R, q⟩ => by
  refine (pk_cons ha hr).run pos pins s σ H Q I ⟨e, F, R, ?_⟩
  simp only [evA] at q
  revert q
  generalize evE T (callF T n) false a e = o
  intro q
  cases o with
  | exc c p e' => exact q
  | stuck => exact q
  | ok r e1 =>
    intro v F1 H1 t r1
    refine ⟨e1, F1, t.sr, ?_⟩
    simp only [bd_ok] at q
    revert q
    generalize evA T (callF T n) as e1 = o
    intro q
    cases o with
    | exc c p e' => exact fun F' H' t' => q F' H' (t.trans t')
    | stuck => exact q
    | ok rs e2 => exact fun vs F2 H2 t2 r2 => q (v :: vs) F2 H2 (t.trans t2) ⟨v, vs, rfl, r1.mono t2, r2.back t.there⟩⟩
theorem s_callk (G : Good T C n W c X) (hc : c.calm = true) {g : Nat} {as ws : List E} {ks : List Str} {x : Str} {xs : List Expr} {kws : List Keyword} {p pos : Pos} (h : c.fn[g]? = some x) (hg : glB c.sc x = true) (ha : PA X xs (RA T C n W as)) (hs : xs.all nst = true) (hl : as.length = xs.length)
    (hk : PK X kws (RA T C n W ws)) (hn : kwNames kws ks = true) (hw : ws.length = ks.length) (hkw : (g, ks, as.length) ∈ c.kw) : PE X (.Call (.Name x p) xs kws pos) (RE T C n W (.callk g as ks ws)) := by
  obtain ⟨g1, g2, g3⟩ := G.glb hg
  obtain ⟨hm, hlt⟩ := G.gl.names g x h
  obtain ⟨fn, hf⟩ : ∃ fn, T.fns[g]? = some fn := ⟨_, List.getElem?_eq_getElem hlt⟩
  obtain ⟨hkp, fd, F, hb, kb⟩ := G.gl.fns g fn hf
  have kb := kb ks as.length hkw
  rw [← G.K] at F kb hkp
  obtain ⟨n1, n2, n3⟩ := kw_all (pos := pos) (env := X.env) hn
  refine ⟨fun pins s σ H Q I ⟨e, F0, R, q⟩ => ?_⟩
  refine wpAny_Call_Name_kw (ld_glob I g1 hm ?_ g2)
  simp only [evE, tst_false] at q
  have inner : ∀ rs e1 vs F1 H1, rs.length = as.length → TrE C e F0 σ H e1 F1 H1 → RVs C H F1 σ H1 e1 rs vs → PostE C W e F0 σ H ((evA T (callF T n) ws e1).bd fun qs e2 => opt T.fns[g]? fun F => doCall (callF T n) g (kwSort F.ps ks rs qs) e2) Q →
      RA T C n W ws σ H1 fun zs H2 => zs.length = ks.length ∧ SpI T C n g fn.ps.length (kwSort fn.ps ks vs zs) H2 Q (WE W σ) := fun rs e1 vs F1 H1 hrl t1 r1 q => by
    refine ⟨e1, F1, t1.sr, ?_⟩
    cases ho : evA T (callF T n) ws e1 with
    | exc z p e' => rw [ho] at q; exact fun F' H' t' => q F' H' (t1.trans t')
    | stuck => rw [ho] at q; exact q
    | ok qs e2 =>
      rw [ho] at q
      simp only [bd_ok, hf, opt_some] at q
      intro zs F2 H2 t2 r2
      obtain ⟨fn', hf', sp⟩ := spi_of (t1.trans t2) (RVs.ofPair (Paired.kw (ps := fn.ps) (ks := ks) (r1.mono t2).pair (r2.back t1.there).pair)) q
      rw [hf] at hf'; cases hf'
      exact ⟨by rw [← r2.len, evA_len ho, hw], sp⟩
  have fin : ∀ {s2 : Shared} {H2 : Hp} {us uz : List Value} {vs zs : List V}, Inv X pins σ H2 s2 → Vals vs us → Vals zs uz → vs.length = as.length → zs.length = ks.length ∧ SpI T C n g fn.ps.length (kwSort fn.ps ks vs zs) H2 Q (WE W σ) →
      wpAny (model X.prog X.w) X.A (call (.ref (C.gv g)) us (ks.zip uz)) (EP X pins σ Q) X.xe s2 := fun {s2 H2 us uz vs zs} I2 r rz hvl q => by
    refine run_fnkS (E := WE W) F (G.room hc) kb (passAt G.tk σ) I2 r rz ?_
    unfold kwG
    rw [if_pos ⟨hvl, q.1⟩]
    exact q.2
  cases xs with
  | nil =>
    cases as with
    | cons a as => cases hl
    | nil =>
      simp only [evA, bd_ok] at q
      have q := inner [] e [] F0 H rfl (TrE.refl R) rfl q
      refine PySem.W.callWith_KW0 (h₀ := X.base) I.ok.mod.kin hkp n1 (thn (hk.run pos pins s σ H _ I q) fun uz s2 ⟨zs, H2, I2, rz, q2⟩ => ⟨I2.kIn, ?_⟩) (by rw [n3, Bool.or_false]; rfl)
      rw [n2]
      exact fin I2 .nil rz rfl q2
  | cons y xs =>
    rw [List.all_cons, Bool.and_eq_true] at hs
    have main : RA T C n W as σ H fun vs H1 => vs.length = as.length ∧ RA T C n W ws σ H1 fun zs H2 => zs.length = ks.length ∧ SpI T C n g fn.ps.length (kwSort fn.ps ks vs zs) H2 Q (WE W σ) := by
      refine ⟨e, F0, R, ?_⟩
      cases ho : evA T (callF T n) as e with
      | exc z p e' => rw [ho] at q; exact q
      | stuck => rw [ho] at q; exact q
      | ok rs e1 =>
        rw [ho] at q
        intro vs F1 H1 t1 r1
        exact ⟨by rw [← r1.len, evA_len ho], inner rs e1 vs F1 H1 (evA_len ho) t1 r1 q⟩
    refine PySem.W.callWith_KW (h₀ := X.base) I.ok.mod.kin hkp n1 (thn (ha.run pos pins s σ H _ I main) fun us s1 ⟨vs, H1, I1, r, hvl, q⟩ => ?_) (by rw [n3, star_any (by rw [List.all_cons, hs.1, hs.2]; rfl)]; rfl) (star_cons hs.1)
    refine thn (hk.run pos pins s1 σ H1 _ I1 q) fun uz s2 ⟨zs, H2, I2, rz, q2⟩ => ⟨I2.kIn, ?_⟩
    rw [n2]
    exact fin I2 r rz hvl q2
/-! ### isinstance -/
theorem tyX_rep {H : Hp} {d : D} {v : V} {t : String} (h : Rep C H d v) (k : tyNm d = some t) : TyX C.K H v (.type t) := by
  have sql : ∀ {a : Addr} {xs : List V}, SqL C.K H a xs → TyX C.K H (.ref a) (.type "list") := fun {a xs} h => by
    rcases h with (h | ⟨o, h⟩) | ⟨o, its, n, h1, h2, _⟩
    · exact .base (.lst h)
    · exact .base (.frz h)
    · exact .kList h1 h2
  cases d <;> simp only [tyNm] at k <;> cases k <;> rw [Rep] at h
  case non => subst h; exact .base .non
  case bl => subst h; exact .base (.bl _)
  case int => subst h; exact .base (.int _)
  case str => subst h; exact .base (.str _)
  case tup =>
    obtain ⟨a, vs, rfl, h1, h2⟩ := h
    rcases h1 with (h | ⟨o, h⟩) | ⟨o, its, n, h1, h2, _⟩
    · exact .base (.tup h)
    · exact .fTuple h
    · exact .kTuple h1 h2
  case lst => obtain ⟨a, vs, rfl, h1, h2⟩ := h; exact .base (.lst h1)
  case scr => obtain ⟨a, rfl, h1⟩ := h; exact sql h1
  case dk => obtain ⟨a, vs, rfl, h1, l, h2⟩ := h; exact .base (.dK h1)
theorem kit_nm {d : D} {t s : String} (k : tyNm d = some t) (h : tyOk.contains s = true) : kitB t s = some (isTy t s) := by
  have hs : s ∈ tyOk := List.contains_iff_mem.mp h
  have all : ∀ t ∈ ["NoneType", "bool", "int", "str", "tuple", "list", "dict"], ∀ s ∈ tyOk, kitB t s = some (isTy t s) := by decide +kernel
  refine all t ?_ s hs
  cases d <;> simp only [tyNm] at k <;> cases k <;> simp
theorem ty_boot : ∀ s ∈ tyOk, bootBuiltins (Str.ofString s) = some (.type s) ∧ s ∈ bnames := by decide +kernel
theorem s_ty (G : Good T C n W c X) {s : String} {x : Str} {p : Pos} (h : tyOk.contains s = true) (hx : x = Str.ofString s) (hg : glB c.sc x = true) : PE X (.Name x p) (tC (.ty s)) := by
  have hs : s ∈ tyOk := List.contains_iff_mem.mp h
  obtain ⟨g1, g2, g3⟩ := G.glb hg
  subst hx
  exact pe_bltn g1 (G.gl.bi s (ty_boot s hs).2) (ty_boot s hs).1 rfl g3 g2
theorem s_isi1 (G : Good T C n W c X) {a : E} {s : String} {y : Expr} {z : Str} {zp p pos : Pos} (ha : PE X y (RE T C n W a)) (hy : nst y = true) (hg : glB c.sc "isinstance" = true) (hs : tyOk.contains s = true) (hz : z = Str.ofString s) (hgz : glB c.sc z = true) :
    PE X (.Call (.Name "isinstance" p) [y, .Name z zp] [] pos) (RE T C n W (.isi a [s])) := by
  obtain ⟨g1, g2, g3⟩ := G.glb hg
  have hpa : PA X [y, .Name z zp] (tCons (RE T C n W a) (tCons (tC (.ty s)) tNil)) := pa_cons ha (pa_cons (s_ty G hs hz hgz) pa_nil) (star_cons hy)
  have hstar : [Expr.Name z zp].all nst = true := rfl
  refine (pe_callB call_isi g1 (G.gl.bi "isinstance" (by decide)) (by decide +kernel) hpa g3 g2 (star_cons hy) (star_any hstar)).to fun σ H Q => ?_
  rintro ⟨e, F, R, q⟩
  refine ⟨e, F, R, PostE.first (show PostE C W e F σ H ((evE T (callF T n) false a e).bd _) Q from q) fun ra e1 v1 F1 H1 t1 r1 q => ?_⟩
  obtain ⟨t, k1, q⟩ := q.opt
  obtain ⟨d, k1, k2⟩ := Option.bind_eq_some_iff.mp k1
  rw [if_pos (by rw [List.all_cons, hs]; rfl)] at q
  refine ⟨v1, .ty s, .type t, .type s, isTy t s, rfl, .ty s, ?_, kit_ty (kit_nm k2 hs), ?_⟩
  · rw [G.K]; exact tyX_rep (cont_rep t1.sr r1 k1) k2
  · have := q.val t1.sr (v := .bl (isTy t s)) (by simp only [List.any_cons, List.any_nil, Bool.or_false]; exact rep_bl)
    exact this
theorem kit_any {K : PySem.W.Frag} {d : D} {t : String} (k : tyNm d = some t) : ∀ {cs : List String}, cs.all tyOk.contains = true → PySem.W.kitAny K (.type t) (cs.map Value.type) = some (cs.any (isTy t))
  | [], _ => rfl
  | s :: cs, h => by
    rw [List.all_cons, Bool.and_eq_true] at h
    refine kitAny_cons (kit_ty (kit_nm k h.1)) (fun hf => ?_) fun ht => ?_
    · rw [List.any_cons, hf, Bool.false_or]; exact kit_any k h.2
    · rw [List.any_cons, ht, Bool.true_or]
theorem clsV_all : ∀ cs : List String, Paired ClsV (cs.map V.ty) (cs.map Value.type)
  | [] => .nil
  | s :: cs => .cons (.ty s) (clsV_all cs)
theorem names_pa (G : Good T C n W c X) : ∀ {cs : List String} {zs : List Expr}, cs.all tyOk.contains = true → tyNames cs zs = true → gNames c zs = true → PA X zs (fun _ H Q => Q (cs.map V.ty) H)
  | [], [], _, _, _ => pa_nil
  | s :: cs, .Name z p :: zs, h, h1, h2 => by
    rw [List.all_cons, Bool.and_eq_true] at h
    simp only [tyNames, tyName, Bool.and_eq_true] at h1
    simp only [gNames, Bool.and_eq_true] at h2
    exact pa_cons (s_ty G h.1 (of_decide_eq_true h1.1) h2.1) (names_pa G h.2 h1.2 h2.2)
  | [], _ :: _, _, h, _ => by simp [tyNames] at h
  | _ :: _, [], _, h, _ => by simp [tyNames] at h
  | s :: cs, z :: zs, h, h1, h2 => by
    cases z <;> first | (simp [gNames] at h2; done) | skip
    rename_i z p
    rw [List.all_cons, Bool.and_eq_true] at h
    simp only [tyNames, tyName, Bool.and_eq_true] at h1
    simp only [gNames, Bool.and_eq_true] at h2
    exact pa_cons (s_ty G h.1 (of_decide_eq_true h1.1) h2.1) (names_pa G h.2 h1.2 h2.2)
theorem s_isiT (G : Good T C n W c X) {a : E} {cs : List String} {y : Expr} {zs : List Expr} {k} {zp p pos : Pos} (ha : PE X y (RE T C n W a)) (hy : nst y = true) (hg : glB c.sc "isinstance" = true) (hz : tyNames cs zs = true) (hgz : gNames c zs = true) (hlen : cs.length ≤ 100) (hs : cs.all tyOk.contains = true) :
    PE X (.Call (.Name "isinstance" p) [y, .Tuple zs k zp] [] pos) (RE T C n W (.isi a cs)) := by
  obtain ⟨g1, g2, g3⟩ := G.glb hg
  have hpa : PA X [y, .Tuple zs k zp] (tCons (RE T C n W a) (tCons (tTup fun _ H Q => Q (cs.map V.ty) H) tNil)) := pa_cons ha (pa_cons (pe_tup (names_pa G hs hz hgz)) pa_nil) (star_cons hy)
  have hstar : [Expr.Tuple zs k zp].all nst = true := rfl
  refine (pe_callB call_isiT g1 (G.gl.bi "isinstance" (by decide)) (by decide +kernel) hpa g3 g2 (star_cons hy) (star_any hstar)).to fun σ H Q => ?_
  rintro ⟨e, F, R, q⟩
  refine ⟨e, F, R, PostE.first (show PostE C W e F σ H ((evE T (callF T n) false a e).bd _) Q from q) fun ra e1 v1 F1 H1 t1 r1 q => ?_⟩
  obtain ⟨t, k1, q⟩ := q.opt
  obtain ⟨d, k1, k2⟩ := Option.bind_eq_some_iff.mp k1
  rw [if_pos hs] at q
  refine ⟨by rw [List.length_map, ← sizeL_eq]; unfold sizeL; omega, fun tp htp => ?_⟩
  have t2 := (TrE.refl t1.sr).newT (o := .tup (cs.map V.ty)) htp
  refine ⟨v1, tp, cs.map V.ty, .type t, cs.map Value.type, cs.any (isTy t), rfl, upd_same, clsV_all cs, ?_, kit_any k2 hs, ?_⟩
  · rw [G.K]; exact tyX_rep ((cont_rep t1.sr r1 k1).mono fun b o h => by rw [upd_ne (ne_of_none h htp)]; exact h) k2
  · exact q (.bl _) _ _ t2 (show Rep C (upd F1 tp (.tup (cs.map V.ty))) (.bl _) (.bl _) from rep_bl)
end
end PL
end

section
namespace PL
open PySem PySem.Spec L2

section
variable {C : G0} {e e1 : EV} {F F1 H H1 : Hp} {σ σ1 : St}
theorem upS_self {i : Nat} {s : SV} {d : D} (h : e[i]? = some s) (m : s.mine = true) : ∃ s', (upS e i d)[i]? = some s' ∧ s'.mine = true ∧ s'.dat = some d ∧ ((∃ x, s = .own x) ↔ s' = .own d) ∧ ((∃ x, s = .bor x) ↔ s' = .bor d) := by
  cases s <;> first | cases m | skip
  · rename_i x
    refine ⟨.own d, ?_, rfl, rfl, by simp, by simp⟩
    unfold upS; rw [h]; exact getE_set_self h
  · rename_i x
    refine ⟨.bor d, ?_, rfl, rfl, by simp, by simp⟩
    unfold upS; rw [h]; exact getE_set_self h
theorem upS_ne {i j : Nat} {d : D} (h : i ≠ j) : (upS e i d)[j]? = e[j]? := by
  unfold upS; split <;> first | rfl | exact getE_set_ne h
theorem upS_len {i : Nat} {d : D} : (upS e i d).length = e.length := by
  unfold upS; split <;> simp
/-- a thing of one's own is changed -/
theorem mut_ok {i : Nat} {s : SV} {a : Addr} {d : D} {o : HO} (R : SR C e F σ H) (h : e[i]? = some s) (m : s.mine = true) (ha : σ[i]? = some (some (.ref a))) (mm : Mine C F (upd H a o) d a) :
    TrE C e F σ H (upS e i d) F (upd H a o) := by
  have own : OwnA e σ a := ⟨i, s, h, m, ha⟩
  obtain ⟨hF, o0, h0⟩ := R.ownNone own
  obtain ⟨s', g1, g2, g3, g4, g5⟩ := upS_self (d := d) h m
  have sub' : Sub F (upd H a o) := fun b u q => by
    rw [upd_ne fun e => by subst e; rw [hF] at q; cases q]; exact R.sub b u q
  have back : ∀ (j : Nat) (t : SV), (upS e i d)[j]? = some t → t.mine = true → ∃ t0, e[j]? = some t0 ∧ t0.mine = true := fun j t q mt => by
    by_cases ej : i = j
    · subst ej; exact ⟨s, h, m⟩
    · rw [upS_ne ej] at q; exact ⟨t, q, mt⟩
  refine ⟨⟨⟨sub', fun j t q => ?_, fun j k t u b q1 q2 m1 m2 a1 a2 => ?_, by rw [upS_len]; exact R.len⟩, Sub.refl _, fun b u q n => ?_, fun b q => ?_, fun b u q => .inl q, fun j d' b q1 q2 => ?_, fun j d' q => ?_, fun j d' q => ⟨rfl, ?_⟩, fun j d' q => ⟨rfl, ?_⟩, upS_len⟩, fun j t q dt => ?_, back⟩
  · by_cases ej : i = j
    · subst ej
      rw [g1] at q; cases q
      cases s' <;> first | cases g2 | skip
      · cases g3; exact ⟨a, ha, mm⟩
      · cases g3; exact ⟨a, ha, mm⟩
    · rw [upS_ne ej] at q
      have z := R.slot j t q
      cases t with
      | un => trivial
      | val d' => exact z
      | fro d' => exact z
      | own d' =>
        obtain ⟨b, q1, q2⟩ := z
        have hne : b ≠ a := fun eb => ej (R.dis i j s _ a h q m rfl ha (by rw [← eb]; exact q1))
        exact ⟨b, q1, q2.mono (Sub.refl _) q2.1 fun o ho => by rw [upd_ne hne]; exact ho⟩
      | bor d' =>
        obtain ⟨b, q1, q2⟩ := z
        have hne : b ≠ a := fun eb => ej (R.dis i j s _ a h q m rfl ha (by rw [← eb]; exact q1))
        exact ⟨b, q1, q2.mono (Sub.refl _) q2.1 fun o ho => by rw [upd_ne hne]; exact ho⟩
  · obtain ⟨t0, w1, w2⟩ := back j t q1 m1
    obtain ⟨u0, w3, w4⟩ := back k u q2 m2
    exact R.dis j k t0 u0 b w1 w3 w2 w4 a1 a2
  · rw [upd_ne fun e => by subst e; exact n own]; exact q
  · by_cases e : b = a
    · subst e; rw [upd_same]; simp
    · rw [upd_ne e]; exact q
  · by_cases ej : i = j
    · subst ej
      rw [g1] at q1; cases q1
      have q3 := R.slot i s h
      cases s <;> first | cases m | skip
      · exact .inl ⟨i, _, h, q2⟩
      · have := g5.mp ⟨_, rfl⟩; cases this
    · rw [upS_ne ej] at q1; exact .inl ⟨j, d', q1, q2⟩
  · by_cases ej : i = j
    · subst ej
      rw [g1] at q; cases q
      cases s <;> first | cases m | skip
      · have := g4.mp ⟨_, rfl⟩; cases this
      · exact ⟨_, h⟩
    · rw [upS_ne ej] at q; exact ⟨d', q⟩
  · by_cases ej : i = j
    · subst ej
      rw [h] at q; cases q
      have := g5.mp ⟨_, rfl⟩
      exact ⟨d, .inl (by rw [g1, this])⟩
    · exact ⟨d', .inl (by rw [upS_ne ej]; exact q)⟩
  · by_cases ej : i = j
    · subst ej; rw [h] at q; cases q; cases m
    · rw [upS_ne ej]; exact q
  · by_cases ej : i = j
    · subst ej; exact ⟨s', g1, by rw [g3]; rfl⟩
    · exact ⟨t, by rw [upS_ne ej]; exact q, dt⟩
theorem mineD_eq {i : Nat} {d : D} (h : mineD e i = some d) : ∃ s, e[i]? = some s ∧ s.mine = true ∧ s.dat = some d := by
  unfold mineD at h
  split at h
  · rename_i d' q; cases h; exact ⟨_, q, rfl, rfl⟩
  · rename_i d' q; cases h; exact ⟨_, q, rfl, rfl⟩
  · cases h
/-- the thing in the slot -/
theorem mineD_ok {i : Nat} {d : D} (R : SR C e F σ H) (h : mineD e i = some d) : ∃ s a, e[i]? = some s ∧ s.mine = true ∧ σ[i]? = some (some (.ref a)) ∧ Mine C F H d a := by
  obtain ⟨s, h1, h2, h3⟩ := mineD_eq h
  obtain ⟨d', a, k1, k2, k3⟩ := R.mine h1 h2
  rw [h3] at k1; cases k1
  exact ⟨s, a, h1, h2, k2, k3⟩
theorem Mine.lst' {a : Addr} {xs : List D} (h : Mine C F H (.lst xs) a) : F a = none ∧ ∃ vs, H a = some (.lst vs) ∧ RepL C F xs vs := h
end
section
variable {T : GT} {C : G0} {n : Nat} {W : WX} {c : CC} {X : Cx}
theorem PostE.fin {e e1 : EV} {F F1 H H1 : Hp} {σ : St} {d : D} {v : V} {Q : VK} (h : PostE C W e F σ H (.ok (.v d) e1) Q) (t : TrE C e F σ H e1 F1 H1) (r : Rep C F1 d v) : Q v H1 := h v F1 H1 t r
theorem s_dnew {t : Bool} {pos : Pos} : PE X (.Dict [] [] pos) (RE T C n W (.dnew t)) := by
  have new : ∀ {σ : St} {H : Hp} {e : EV} {F : Hp} {Q : VK} {d : D} {o : HO}, SR C e F σ H → PostE C W e F σ H (.ok (.t d) e) Q → (∀ p, H p = none → F p = none → Mine C F (upd H p o) d p) → ∀ p, H p = none → Q (.ref p) (upd H p o) := fun {σ H e F Q d o} R q hm p hp => by
    have t := (TrE.refl R).newL (o := o) hp
    have hF : F p = none := by
      cases z : F p with
      | none => rfl
      | some u => rw [R.sub p u z] at hp; cases hp
    exact q _ _ _ t ⟨p, rfl, hm p hp hF, hp, own_there R hp⟩
  cases t with
  | false =>
    refine pe_dnewK.to fun σ H Q ⟨e, F, R, q⟩ => ?_
    exact new R (d := .dk [] []) (show PostE C W e F σ H (.ok (.t (.dk [] [])) e) Q from q) fun p hp hF => ⟨hF, [], upd_same, rfl, .nil⟩
  | true =>
    refine pe_dnewT.to fun σ H Q ⟨e, F, R, q⟩ => ?_
    exact new R (d := .dt [] []) (show PostE C W e F σ H (.ok (.t (.dt [] [])) e) Q from q) fun p hp hF => ⟨hF, [], upd_same, rfl, .nil⟩
/-- one argument -/
theorem pa_one {y : Expr} {te : TE} (h : PE X y te) (hy : nst y = true) : PA X [y] (tCons te tNil) := pa_cons h pa_nil (star_cons hy)
theorem few_one {y : Expr} {pos : Pos} (hy : nst y = true) : ((backTo pos (starEach [y] X.env)).all (fun x => !x.1) && (backToKw pos (keywordEach [] X.env)).all (fun x => x.1.isSome)
      && decide ([y].length + ([] : List Keyword).length + (if ([] : List Keyword).isEmpty then 0 else 1) < 30)) = true := by
  rw [star_cons hy]; rfl

theorem lstAt_ok {i : Nat} {e : EV} {F H : Hp} {σ : St} (R : SR C e F σ H) (h : lstAt e i = true) : ∃ a, σ[i]? = some (some (.ref a)) ∧ ∃ vs, H a = some (.lst vs) := by
  unfold lstAt at h
  split at h
  · rename_i xs hx
    obtain ⟨s, a, h1, h2, h3, m⟩ := mineD_ok R hx
    obtain ⟨_, vs, h4, _⟩ := m.lst'
    exact ⟨a, h3, vs, h4⟩
  · cases h
theorem s_app (G : Good T C n W c X) {i : Nat} {a : E} {x : Str} {y : Expr} {xp ap pos : Pos} (hx : nmB c i x = true) (hm : mthB ap pos = true) (ha : PE X y (RE T C n W a)) (hy : nst y = true) :
    PE X (.Call (.Attribute (.Name x xp) "append" ap) [y] [] pos) (RE T C n W (.app i a)) := by
  refine (pe_bm (T := "list") PySem.F.plainAttrs_list PySem.F.slot_list_append PySem.F.type_list_append mt_append (G.nm hx) (pa_one ha hy) rfl (few_one hy) hm (star_cons hy) rfl).to fun σ H Q => ?_
  rintro ⟨e, F, R, q⟩
  simp only [evE, tst_false] at q
  split at q
  · rename_i hl
    obtain ⟨p, h1, vs, h2⟩ := lstAt_ok R hl
    refine ⟨.ref p, h1, .inl ⟨rfl, vs, .inl (.inl h2)⟩, e, F, R, PostE.first0 q fun r e1 v F1 H1 t1 r1 q => ?_⟩
    obtain ⟨⟨d, e2⟩, k1, q⟩ := q.opt
    obtain ⟨F2, t2, rp, s2⟩ := frz_ok t1 r1 k1
    dsimp only at q
    split at q
    · rename_i xs hx
      split at q
      · rename_i hz
        obtain ⟨s, p', g1, g2, g3, m⟩ := mineD_ok t2.sr hx
        rw [h1] at g3; cases g3
        obtain ⟨hF, ws, g4, g5⟩ := m.lst'
        exact ⟨p, ws, v, rfl, rfl, g4, by rw [← sizeL_eq, ← g5.len]; exact hz, q.fin (t2.trans (mut_ok t2.sr g1 g2 h1 ⟨hF, _, upd_same, g5.append (.cons rp .nil)⟩)) rep_non⟩
      · exact q.elim
    · exact q.elim
  · exact q.elim
theorem s_ext (G : Good T C n W c X) {i : Nat} {a : E} {x : Str} {y : Expr} {xp ap pos : Pos} (hx : nmB c i x = true) (hm : mthB ap pos = true) (ha : PE X y (RE T C n W a)) (hy : nst y = true) :
    PE X (.Call (.Attribute (.Name x xp) "extend" ap) [y] [] pos) (RE T C n W (.ext i a)) := by
  refine (pe_bm (T := "list") PySem.F.plainAttrs_list PySem.F.slot_list_extend PySem.F.type_list_extend mt_extend (G.nm hx) (pa_one ha hy) rfl (few_one hy) hm (star_cons hy) rfl).to fun σ H Q => ?_
  rintro ⟨e, F, R, q⟩
  simp only [evE, tst_false] at q
  split at q
  · rename_i hl
    obtain ⟨p, h1, vs, h2⟩ := lstAt_ok R hl
    refine ⟨.ref p, h1, .inl ⟨rfl, vs, .inl (.inl h2)⟩, e, F, R, PostE.first0 q fun r e1 v F1 H1 t1 r1 q => ?_⟩
    obtain ⟨d, k1, q⟩ := q.opt
    have z := cont_crp t1.sr r1 k1
    split at q
    · rename_i xs ys hx
      split at q
      · rename_i hz
        obtain ⟨s, p', g1, g2, g3, m⟩ := mineD_ok t1.sr hx
        rw [h1] at g3; cases g3
        obtain ⟨hF, ws, g4, g5⟩ := m.lst'
        obtain ⟨b, zs, rfl, hb, rb⟩ := z.lst t1.sr.sub
        exact ⟨p, b, ws, zs, rfl, rfl, g4, hb, by rw [← sizeL_eq, ← g5.len, ← rb.len]; exact hz, q.fin (t1.trans (mut_ok t1.sr g1 g2 h1 ⟨hF, _, upd_same, g5.append rb⟩)) rep_non⟩
      · exact q.elim
    · exact q.elim
  · exact q.elim
theorem s_pop (G : Good T C n W c X) {i : Nat} {x : Str} {xp ap pos : Pos} (hx : nmB c i x = true) (hm : mthB ap pos = true) : PE X (.Call (.Attribute (.Name x xp) "pop" ap) [] [] pos) (RE T C n W (.pop i)) := by
  refine (pe_bm0 (T := "list") PySem.F.plainAttrs_list PySem.F.slot_list_pop PySem.F.type_list_pop mt_pop (G.nm hx) rfl hm).to fun σ H Q => ?_
  rintro ⟨e, F, R, q⟩
  simp only [evE, tst_false] at q
  split at q
  · rename_i xs hx
    obtain ⟨d, k1, q⟩ := q.opt
    obtain ⟨s, p, g1, g2, g3, m⟩ := mineD_ok R hx
    obtain ⟨hF, ws, g4, g5⟩ := m.lst'
    obtain ⟨v, k2, k3⟩ := g5.get k1
    exact ⟨.ref p, g3, .inl ⟨rfl, ws, .inl (.inl g4)⟩, p, ws, v, rfl, rfl, g4, by rw [← g5.len]; exact k2, q.fin (mut_ok R g1 g2 g3 ⟨hF, _, upd_same, g5.dropLast⟩) k3⟩
  · exact q.elim
theorem s_popat (G : Good T C n W c X) {i : Nat} {a : E} {x : Str} {y : Expr} {xp ap pos : Pos} (hx : nmB c i x = true) (hm : mthB ap pos = true) (ha : PE X y (RE T C n W a)) (hy : nst y = true) :
    PE X (.Call (.Attribute (.Name x xp) "pop" ap) [y] [] pos) (RE T C n W (.popat i a)) := by
  refine (pe_bm (T := "list") PySem.F.plainAttrs_list PySem.F.slot_list_pop PySem.F.type_list_pop mt_popAt (G.nm hx) (pa_one ha hy) rfl (few_one hy) hm (star_cons hy) rfl).to fun σ H Q => ?_
  rintro ⟨e, F, R, q⟩
  simp only [evE, tst_false] at q
  split at q
  · rename_i hl
    obtain ⟨p, h1, vs, h2⟩ := lstAt_ok R hl
    refine ⟨.ref p, h1, .inl ⟨rfl, vs, .inl (.inl h2)⟩, e, F, R, PostE.first0 q fun r e1 v F1 H1 t1 r1 q => ?_⟩
    obtain ⟨k, k1, q⟩ := q.opt
    obtain ⟨d, k1, k2⟩ := Option.bind_eq_some_iff.mp k1
    have z := cont_crp t1.sr r1 k1
    cases d <;> cases k2
    cases z.int
    split at q
    · rename_i xs hx
      split at q
      · rename_i hz
        rw [Bool.and_eq_true] at hz
        obtain ⟨j, j1, q⟩ := q.opt
        obtain ⟨d, j2, q⟩ := q.opt
        obtain ⟨s, p', g1, g2, g3, m⟩ := mineD_ok t1.sr hx
        rw [h1] at g3; cases g3
        obtain ⟨hF, ws, g4, g5⟩ := m.lst'
        obtain ⟨v, k2, k3⟩ := g5.get j2
        exact ⟨p, ws, _, j, v, rfl, rfl, g4, of_decide_eq_true hz.1, of_decide_eq_true hz.2, by rw [← g5.len]; exact (L2.ixN_seq j1).1, k2, q.fin (t1.trans (mut_ok t1.sr g1 g2 h1 ⟨hF, _, upd_same, g5.eraseIdx _⟩)) k3⟩
      · exact q.elim
    · exact q.elim
  · exact q.elim
end
end PL
end

section
namespace PL
open PySem PySem.Spec L2

/-! ## slots are set -/
section
variable {C : G0} {e e1 : EV} {F F1 H H1 : Hp} {σ σ1 : St}
theorem setOk_not {i : Nat} (h : setOk e i = true) : i < e.length ∧ (∀ d, e[i]? ≠ some (.bor d)) ∧ ∀ d, e[i]? ≠ some (.fro d) := by
  unfold setOk at h
  split at h <;> first | (rename_i q; exact ⟨(List.getElem?_eq_some_iff.mp q).1, fun d z => by (rw [q] at z; cases z), fun d z => by (rw [q] at z; cases z)⟩) | cases h
theorem set0 {i : Nat} {s' : SV} {o : Option V} (t : Tr C e F σ H e1 F1 σ1 H1) (hl : i < e1.length) (nb : ∀ d, e[i]? ≠ some (.bor d)) (nf : ∀ d, e[i]? ≠ some (.fro d))
    (hs : (s' = .un) ∨ (∃ d v, s' = .val d ∧ o = some v ∧ Rep C F1 d v) ∨ ∃ d a, s' = .own d ∧ o = some (.ref a) ∧ Mine C F1 H1 d a ∧ ¬ OwnA e1 σ1 a ∧ ((∃ (j : Nat) (d' : D), e[j]? = some (.own d') ∧ σ[j]? = some (some (.ref a))) ∨ H a = none)) :
    Tr C e F σ H (e1.set i s') F1 (σ1.set i o) H1 := by
  have R := t.sr
  have hlσ : i < σ1.length := by rw [← R.len]; exact hl
  have ge : (e1.set i s')[i]? = some s' := by simp [hl]
  have gσ : (σ1.set i o)[i]? = some o := by simp [hlσ]
  have notown : ∀ {a : Addr} {j : Nat} {s : SV}, s'.mine = true → o = some (.ref a) → e1[j]? = some s → s.mine = true → σ1[j]? = some (some (.ref a)) → False := fun {a j s} m ho h1 h2 h3 => by
    rcases hs with rfl | ⟨d, v, rfl, _⟩ | ⟨d, a', rfl, e, mm, no, _⟩
    · cases m
    · cases m
    · rw [ho] at e; cases e; exact no ⟨j, s, h1, h2, h3⟩
  refine ⟨⟨R.sub, fun j s q => ?_, fun j k s s2 a q1 q2 m1 m2 a1 a2 => ?_, by simp [R.len]⟩, t.fs, t.keep, t.there, t.new, fun j d a q1 q2 => ?_, fun j d q => ?_, fun j d q => ?_, fun j d q => ?_, by simp [t.len]⟩
  · by_cases ej : i = j
    · subst ej
      rw [ge] at q; cases q
      rw [gσ]
      rcases hs with rfl | ⟨d, v, rfl, rfl, r⟩ | ⟨d, a', rfl, rfl, mm, no, _⟩
      · trivial
      · exact ⟨v, rfl, r⟩
      · exact ⟨a', rfl, mm⟩
    · rw [getE_set_ne ej] at q
      rw [getE_set_ne ej]
      exact R.slot j s q
  · by_cases ej : i = j
    · by_cases ek : i = k
      · rw [← ej, ← ek]
      · subst ej
        rw [ge] at q1; cases q1
        rw [gσ] at a1; cases a1
        rw [getE_set_ne ek] at q2 a2
        exact (notown m1 rfl q2 m2 a2).elim
    · by_cases ek : i = k
      · subst ek
        rw [ge] at q2; cases q2
        rw [gσ] at a2; cases a2
        rw [getE_set_ne ej] at q1 a1
        exact (notown m2 rfl q1 m1 a1).elim
      · rw [getE_set_ne ej] at q1 a1
        rw [getE_set_ne ek] at q2 a2
        exact R.dis j k s s2 a q1 q2 m1 m2 a1 a2
  · by_cases ej : i = j
    · subst ej
      rw [ge] at q1; cases q1
      rw [gσ] at q2; cases q2
      rcases hs with h | ⟨d, v, h, _⟩ | ⟨d', a', h, e, mm, no, hh⟩
      · cases h
      · cases h
      · cases e; exact hh
    · rw [getE_set_ne ej] at q1 q2
      exact t.own j d a q1 q2
  · by_cases ej : i = j
    · subst ej
      rw [ge] at q; cases q
      rcases hs with h | ⟨d, v, h, _⟩ | ⟨d', a', h, _⟩ <;> cases h
    · rw [getE_set_ne ej] at q
      exact t.nob j d q
  · obtain ⟨h1, d', h2⟩ := t.bor j d q
    have ej : i ≠ j := fun ej => by
      subst ej
      exact nb _ q
    rw [getE_set_ne ej, getE_set_ne ej]
    exact ⟨h1, d', h2⟩
  · obtain ⟨h1, h2⟩ := t.fro j d q
    have ej : i ≠ j := fun ej => by
      subst ej; exact nf _ q
    rw [getE_set_ne ej, getE_set_ne ej]
    exact ⟨h1, h2⟩
theorem set1 {i : Nat} {s' : SV} {o : Option V} (t : Tr C e F σ H e1 F1 σ1 H1) (ok : setOk e1 i = true)
    (hs : (s' = .un) ∨ (∃ d v, s' = .val d ∧ o = some v ∧ Rep C F1 d v) ∨ ∃ d a, s' = .own d ∧ o = some (.ref a) ∧ Mine C F1 H1 d a ∧ ¬ OwnA e1 σ1 a ∧ ((∃ (j : Nat) (d' : D), e[j]? = some (.own d') ∧ σ[j]? = some (some (.ref a))) ∨ H a = none)) :
    Tr C e F σ H (e1.set i s') F1 (σ1.set i o) H1 := by
  obtain ⟨hl, nb, nf⟩ := setOk_not ok
  refine set0 t hl (fun d q => ?_) (fun d q => ?_) hs
  · obtain ⟨_, d', h | h⟩ := t.bor i d q
    · exact nb _ h
    · exact nf _ h
  · exact nf _ (t.fro i d q).2
/-- what a store changes -/
structure AsgR (ix : List Nat) (e1 : EV) (σ1 : St) (e2 : EV) (σ2 : St) : Prop where
  len : σ2.length = σ1.length
  same : ∀ j, j ∉ ix → σ2[j]? = σ1[j]? ∧ e2[j]? = e1[j]?
  mine : ∀ (j : Nat) (s : SV), e2[j]? = some s → s.mine = true → e1[j]? = some s ∧ σ2[j]? = σ1[j]?
theorem AsgR.refl (ix : List Nat) (e : EV) (σ : St) : AsgR ix e σ e σ := ⟨rfl, fun _ _ => ⟨rfl, rfl⟩, fun _ _ h _ => ⟨h, rfl⟩⟩
theorem AsgR.trans {ix : List Nat} {e1 e2 e3 : EV} {σ1 σ2 σ3 : St} (a : AsgR ix e1 σ1 e2 σ2) (b : AsgR ix e2 σ2 e3 σ3) : AsgR ix e1 σ1 e3 σ3 :=
  ⟨b.len.trans a.len, fun j h => ⟨(b.same j h).1.trans (a.same j h).1, (b.same j h).2.trans (a.same j h).2⟩, fun j s h m => by
    obtain ⟨h1, h2⟩ := b.mine j s h m
    obtain ⟨h3, h4⟩ := a.mine j s h1 m
    exact ⟨h3, h2.trans h4⟩⟩
theorem AsgR.one {ix : List Nat} {i : Nat} {s' : SV} {o : Option V} (hi : i ∈ ix) (m : s'.mine = false) : AsgR ix e σ (e.set i s') (σ.set i o) :=
  ⟨by simp, fun j h => by
    have hne : i ≠ j := fun z => h (by rw [← z]; exact hi)
    exact ⟨getE_set_ne hne, getE_set_ne hne⟩, fun j s h ms => by
    by_cases z : i = j
    · subst z
      rw [List.getElem?_set_self'] at h
      cases q : e[i]? with
      | none => rw [q] at h; cases h
      | some u => rw [q] at h; cases h; exact absurd (show s'.mine = true from ms) (by rw [m]; simp)
    · rw [getE_set_ne z] at h; exact ⟨h, getE_set_ne z⟩⟩
/-- a target that is a name, several names -/
def gNms : List Nat → TGs
  | [] => gNil
  | i :: is => gCons (gName i) (gNms is)
def gTg (K : PySem.W.Frag) : Tg → TG
  | .nm i => gName i
  | .tp is => gTup K is.length (gNms is)
theorem setVals_ok : ∀ {is : List Nat} {ds : List D} {vs : List V} {e1 e2 : EV} {σ1 : St} {Q : St → Hp → Prop}, Tr C e F σ H e1 F1 σ1 H1 → RepL C F1 ds vs → setVals is ds e1 = some e2 → (∀ σ2, Tr C e F σ H e2 F1 σ2 H1 → AsgR is e1 σ1 e2 σ2 → Q σ2 H1) → gNms is vs σ1 H1 Q
  | [], [], vs, e1, e2, σ1, Q, t, r, k, q => by
    cases k
    rw [RepL] at r
    exact ⟨r, q σ1 t (AsgR.refl _ _ _)⟩
  | i :: is, d :: ds, vs, e1, e2, σ1, Q, t, r, k, q => by
    rw [RepL] at r
    obtain ⟨v, ws, rfl, r1, r2⟩ := r
    simp only [setVals] at k
    split at k
    · rename_i ok
      refine ⟨v, ws, rfl, setVals_ok (set1 t ok (.inr (.inl ⟨d, v, rfl, rfl, r1⟩))) r2 k fun σ2 t2 a => q σ2 t2 ?_⟩
      refine (AsgR.one (ix := i :: is) (by simp) rfl).trans ⟨a.len, fun j h => a.same j fun z => h (by simp [z]), a.mine⟩
    · cases k
  | [], _ :: _, _, _, _, _, _, _, _, k, _ => by simp [setVals] at k
  | _ :: _, [], _, _, _, _, _, _, _, k, _ => by simp [setVals] at k
theorem setVals_len : ∀ {is : List Nat} {ds : List D} {e1 e2 : EV}, setVals is ds e1 = some e2 → is.length = ds.length
  | [], [], _, _, _ => rfl
  | i :: is, d :: ds, e1, e2, k => by
    simp only [setVals] at k
    split at k
    · simp [setVals_len k]
    · cases k
  | [], _ :: _, _, _, k => by simp [setVals] at k
  | _ :: _, [], _, _, k => by simp [setVals] at k
theorem asg_ok {tg : Tg} {d : D} {v : V} {e2 : EV} {Q : St → Hp → Prop} (t : Tr C e F σ H e1 F1 σ1 H1) (r : Rep C F1 d v) (k : asg tg d e1 = some e2) (q : ∀ σ2, Tr C e F σ H e2 F1 σ2 H1 → AsgR (tgIx tg) e1 σ1 e2 σ2 → Q σ2 H1) : gTg C.K tg v σ1 H1 Q := by
  cases tg with
  | nm i =>
    simp only [asg] at k
    split at k
    · rename_i ok
      cases k
      exact q _ (set1 t ok (.inr (.inl ⟨d, v, rfl, rfl, r⟩))) (AsgR.one (by simp [tgIx]) rfl)
    · cases k
  | tp is =>
    cases d <;> simp only [asg] at k <;> first | cases k | skip
    rw [Rep] at r
    obtain ⟨a, vs, rfl, h1, h2⟩ := r
    exact ⟨a, vs, rfl, t.sr.sub.sqT h1, by rw [← h2.len, setVals_len k], setVals_ok t h2 k q⟩
end
section
variable {T : GT} {C : G0} {n : Nat} {W : WX} {c : CC} {X : Cx}
theorem s_tgName (G : Good T C n W c X) {i : Nat} {x : Str} {pos : Pos} (h : stB c i x = true) : PG X (.Name x pos) (gName i) := by
  obtain ⟨h1, h2⟩ := G.st i x h
  unfold stB at h
  rw [Bool.and_eq_true, Bool.and_eq_true] at h
  exact pg_name (by rw [G.N]; exact G.nd) (by rw [G.N]; exact of_decide_eq_true h.1.1) h1 h2
theorem s_tgNames (G : Good T C n W c X) : ∀ {is : List Nat} {xs : List Expr}, trTg.trNs c is xs = true → PGs X xs (gNms is) ∧ (assignEach xs X.env).length = is.length ∧ (assignEach xs X.env).findIdx? (·.1) = none
  | [], [], _ => ⟨pgs_nil, rfl, rfl⟩
  | i :: is, .Name x p :: xs, h => by
    simp only [trTg.trNs, Bool.and_eq_true] at h
    obtain ⟨h1, h2, h3⟩ := s_tgNames G h.2
    refine ⟨pgs_cons (s_tgName G h.1) h1, ?_, ?_⟩
    · show (assignEach xs X.env).length + 1 = _; rw [h2]; rfl
    · show List.findIdx? (·.1) ((false, _) :: assignEach xs X.env) = none
      rw [List.findIdx?_cons, h3]; rfl
  | [], _ :: _, h => by simp [trTg.trNs] at h
  | _ :: _, [], h => by simp [trTg.trNs] at h
  | i :: is, x :: xs, h => by
    cases x <;> first | (simp [trTg.trNs] at h; done) | skip
    rename_i x p
    simp only [trTg.trNs, Bool.and_eq_true] at h
    obtain ⟨h1, h2, h3⟩ := s_tgNames G h.2
    refine ⟨pgs_cons (s_tgName G h.1) h1, ?_, ?_⟩
    · show (assignEach xs X.env).length + 1 = _; rw [h2]; rfl
    · show List.findIdx? (·.1) ((false, _) :: assignEach xs X.env) = none
      rw [List.findIdx?_cons, h3]; rfl
theorem s_tg (G : Good T C n W c X) (hc : c.calm = true) {tg : Tg} {x : Expr} (h : trTg c tg x = true) : PG X x (gTg C.K tg) := by
  cases tg with
  | nm i =>
    cases x <;> simp only [trTg] at h <;> first | cases h | skip
    exact s_tgName G h
  | tp is =>
    cases x <;> simp only [trTg] at h <;> first | cases h | skip
    obtain ⟨h1, h2, h3⟩ := s_tgNames G h
    rw [← G.K]
    exact pg_tup (G.cm hc) h1 h2 h3
/-! ### what is walked -/
def YD (C : G0) (F1 : Hp) (ds : List D) : Nat → Hp → V → Hp → Prop := fun i H x H' => ∃ d, ds[i]? = some d ∧ ((H' = H ∧ Rep C F1 d x) ∨
  ∃ p d1 d2 x1 x2, x = .ref p ∧ H p = none ∧ H' = upd H p (.tup [x1, x2]) ∧ d = .tup [d1, d2] ∧ Rep C F1 d1 x1 ∧ Rep C F1 d2 x2)
def WalkD (C : G0) (F1 : Hp) (J : L2.It) (ds : List D) : Prop := Walk J ds.length (fun H => Sub F1 H) (YD C F1 ds)
def PostI (C : G0) (W : WX) (e : EV) (F : Hp) (σ : St) (H : Hp) (o : Out (List D)) (R : L2.It → Hp → Prop) : Prop := match o with
  | .ok ds e' => ∀ J F' H', TrE C e F σ H e' F' H' → WalkD C F' J ds → R J H'
  | .exc c p e' => ∀ F' H', TrE C e F σ H e' F' H' → ExW C W c p σ H'
  | .stuck => False
def RI (T : GT) (C : G0) (n : Nat) (W : WX) (it : It) : TI := fun σ H R => ∃ e F, SR C e F σ H ∧ PostI C W e F σ H (evI T (callF T n) it e) R
theorem PostI.opt {e : EV} {F : Hp} {σ : St} {H : Hp} {α : Type} {o : Option α} {f : α → Out (List D)} {R : L2.It → Hp → Prop} (h : PostI C W e F σ H (PL.opt o f) R) : ∃ a, o = some a ∧ PostI C W e F σ H (f a) R := by
  cases o with
  | none => exact h.elim
  | some a => exact ⟨a, rfl, h⟩
theorem PostI.first {e : EV} {F : Hp} {σ : St} {H : Hp} {x : Out RV} {f : RV → EV → Out (List D)} {R : L2.It → Hp → Prop} {Q1 : VK} (h : PostI C W e F σ H (x.bd f) R)
    (k : ∀ r e1 v F1 H1, x = .ok r e1 → TrE C e F σ H e1 F1 H1 → RVok C H F1 σ H1 e1 r v → PostI C W e F σ H (f r e1) R → Q1 v H1) : PostE C W e F σ H x Q1 := by
  cases x with
  | ok r e1 => exact fun v F1 H1 t r1 => k r e1 v F1 H1 rfl t r1 h
  | exc c p e1 => exact h
  | stuck => exact h
theorem PostI.firstA {e : EV} {F : Hp} {σ : St} {H : Hp} {x : Out (List RV)} {f : List RV → EV → Out (List D)} {R : L2.It → Hp → Prop} {Q1 : List V → Hp → Prop} (h : PostI C W e F σ H (x.bd f) R)
    (k : ∀ rs e1 vs F1 H1, x = .ok rs e1 → TrE C e F σ H e1 F1 H1 → RVs C H F1 σ H1 e1 rs vs → PostI C W e F σ H (f rs e1) R → Q1 vs H1) : PostA C W e F σ H x Q1 := by
  cases x with
  | ok r e1 => exact fun v F1 H1 t r1 => k r e1 v F1 H1 rfl t r1 h
  | exc c p e1 => exact h
  | stuck => exact h
theorem walkD_list {F1 : Hp} {a : Addr} {vs : List V} {ds : List D} (h : SqL C.K F1 a vs) (r : RepL C F1 ds vs) : WalkD C F1 (Itl C.K a) ds := by
  unfold WalkD
  rw [r.len]
  exact walk_list.mono (fun H s => s.sqL h) fun i H x H' hi s y => by
    obtain ⟨d, k1, k2⟩ := r.get' y.2
    exact ⟨d, k1, .inl ⟨y.1, k2⟩⟩
theorem walkD_tup {F1 : Hp} {a : Addr} {vs : List V} {ds : List D} (h : SqT C.K F1 a vs) (r : RepL C F1 ds vs) : WalkD C F1 (Itt C.K a) ds := by
  unfold WalkD
  rw [r.len]
  exact walk_tup.mono (fun H s => s.sqT h) fun i H x H' hi s y => by
    obtain ⟨d, k1, k2⟩ := r.get' y.2
    exact ⟨d, k1, .inl ⟨y.1, k2⟩⟩
theorem walkD_range {F1 : Hp} {lo : Int} {m : Nat} : WalkD C F1 (Itr lo m) ((List.range m).map fun (k : Nat) => .int (lo + (k : Int))) := by
  have hl : ((List.range m).map fun (k : Nat) => D.int (lo + (k : Int))).length = m := by simp
  unfold WalkD
  rw [hl]
  exact walk_range.mono (fun H s => trivial) fun i H x H' hi s y => ⟨.int (lo + i), by simp [hi], .inl ⟨y.1, by rw [y.2]; exact rep_int⟩⟩
theorem walkD_enum {F1 : Hp} {a : Addr} {vs : List V} {ds : List D} (h : SqL C.K F1 a vs) (r : RepL C F1 ds vs) : WalkD C F1 (Ite C.K a) (enumD ds) := by
  have hl : (enumD ds).length = vs.length := by simp [enumD, r.len]
  unfold WalkD
  rw [hl]
  exact walk_enum.mono (fun H s => s.sqL h) fun i H x H' hi s y => by
    obtain ⟨p, x1, x2, e1, e2, e3, e4, e5⟩ := y
    cases e4
    obtain ⟨d, k1, k2⟩ := r.get' e5
    refine ⟨.tup [.int i, d], ?_, .inr ⟨p, .int i, d, _, x2, e1, e2, e3, rfl, rep_int, k2⟩⟩
    have hi' : i < ds.length := by rw [r.len]; exact hi
    simp [enumD, List.getElem?_zipWith, hi']
    exact (List.getElem?_eq_some_iff.mp k1).2
theorem walkD_zip {F1 : Hp} {J : L2.It} {vs ws : List V} {xs ys : List D} (r1 : RepL C F1 xs vs) (r2 : RepL C F1 ys ws) {n : Nat} (hn : n = min vs.length ws.length) (w : Walk J n (fun H => Sub F1 H) (YPair (fun i => vs[i]?) (fun i => ws[i]?))) : WalkD C F1 J (zipD xs ys) := by
  have hl : (zipD xs ys).length = n := by simp [zipD, r1.len, r2.len, hn]
  unfold WalkD
  rw [hl]
  exact w.mono (fun H s => s) fun i H x H' hi s y => by
    obtain ⟨p, x1, x2, e1, e2, e3, e4, e5⟩ := y
    obtain ⟨d1, k1, k2⟩ := r1.get' e4
    obtain ⟨d2, k3, k4⟩ := r2.get' e5
    refine ⟨.tup [d1, d2], ?_, .inr ⟨p, d1, d2, x1, x2, e1, e2, e3, rfl, k2, k4⟩⟩
    simp [zipD, List.getElem?_zipWith, k1, k3]
theorem s_itE (G : Good T C n W c X) {a : E} {x tg : Expr} (ha : PE X x (RE T C n W a)) : PI X tg x (RI T C n W (.e a)) := by
  refine ⟨fun pins s σ H R I ⟨e, F, R0, q⟩ => ?_⟩
  simp only [evI] at q
  have hK := G.K
  cases he : evE T (callF T n) false a e with
  | exc z p e' =>
    rw [he] at q
    exact (pi_list ha).run pins s σ H R I ⟨e, F, R0, by rw [he]; exact q⟩
  | stuck => rw [he] at q; exact q.elim
  | ok r e1 =>
    rw [he] at q
    simp only [bd_ok] at q
    obtain ⟨⟨d, e2⟩, k1, q⟩ := q.opt
    obtain ⟨ds, k2, q⟩ := q.opt
    cases d <;> simp only [seqD] at k2 <;> cases k2
    case ok.tup.refl =>
      refine (pi_tup ha).run pins s σ H R I ⟨e, F, R0, ?_⟩
      rw [he]
      intro v F1 H1 t1 r1
      obtain ⟨F2, t2, rp, s2⟩ := frz_ok t1 r1 k1
      rw [Rep] at rp
      obtain ⟨a, vs, rfl, h1, h2⟩ := rp
      rw [hK]
      exact ⟨a, rfl, ⟨vs, t2.sr.sub.sqT h1⟩, q _ F2 H1 t2 (walkD_tup h1 h2)⟩
    case ok.lst.refl =>
      refine (pi_list ha).run pins s σ H R I ⟨e, F, R0, ?_⟩
      rw [he]
      intro v F1 H1 t1 r1
      obtain ⟨F2, t2, rp, s2⟩ := frz_ok t1 r1 k1
      rw [Rep] at rp
      obtain ⟨a, vs, rfl, h1, h2⟩ := rp
      have h1 : SqL C.K F2 a vs := .inl (.inl h1)
      rw [hK]
      exact ⟨a, rfl, ⟨vs, t2.sr.sub.sqL h1⟩, q _ F2 H1 t2 (walkD_list h1 h2)⟩
    case ok.scr.refl =>
      refine (pi_list ha).run pins s σ H R I ⟨e, F, R0, ?_⟩
      rw [he]
      intro v F1 H1 t1 r1
      obtain ⟨F2, t2, rp, s2⟩ := frz_ok t1 r1 k1
      rw [Rep] at rp
      obtain ⟨a, rfl, h1⟩ := rp
      rw [hK]
      exact ⟨a, rfl, ⟨_, t2.sr.sub.sqL h1⟩, q _ F2 H1 t2 (walkD_list h1 (repL_ints _))⟩
theorem conts_int {e : EV} {F H0 H : Hp} {σ : St} (R : SR C e F σ H) {rs : List RV} {vs : List V} {i : Int} (k : conts e rs = some [.int i]) (r : RVs C H0 F σ H e rs vs) : vs = [.int i] := by
  have l1 := conts_len k
  have l2 := r.len
  match vs, l2 with
  | [v], _ => rw [(conts_get (i := 0) R k r rfl rfl).int]
  | [], l2 => rw [← l1] at l2; cases l2
  | _ :: _ :: _, l2 => rw [← l1] at l2; simp at l2
theorem conts_int2 {e : EV} {F H0 H : Hp} {σ : St} (R : SR C e F σ H) {rs : List RV} {vs : List V} {i j : Int} (k : conts e rs = some [.int i, .int j]) (r : RVs C H0 F σ H e rs vs) : vs = [.int i, .int j] := by
  have l1 := conts_len k
  have l2 := r.len
  match vs, l2 with
  | [v, w], _ => rw [(conts_get (i := 0) R k r rfl rfl).int, (conts_get (i := 1) R k r rfl rfl).int]
  | [], l2 => rw [← l1] at l2; cases l2
  | [_], l2 => rw [← l1] at l2; cases l2
  | _ :: _ :: _ :: _, l2 => rw [← l1] at l2; simp at l2
theorem s_itR (G : Good T C n W c X) {as : List E} {xs : List Expr} {tg : Expr} {p pos : Pos} (hg : glB c.sc "range" = true) (ha : PA X xs (RA T C n W as)) (hs : xs.all nst = true) (hl : (xs.length == 1 || xs.length == 2) = true) (hla : as.length = xs.length) :
    PI X tg (.Call (.Name "range" p) xs [] pos) (RI T C n W (.rng as)) := by
  obtain ⟨g1, g2, g3⟩ := G.glb hg
  have hm := G.gl.bi "range" (by decide)
  match xs, hl, hs, ha, hla with
  | [x], _, hs, ha, hla =>
    rw [List.all_cons, Bool.and_eq_true] at hs
    refine ⟨fun pins s σ H R I ⟨e, F, R0, q⟩ => (pi_range1 g1 hm ha (star_cons hs.1)).run pins s σ H R I ⟨e, F, R0, PostI.firstA (by simpa only [evI] using q) fun rs e1 vs F1 H1 hx t1 r1 q => ?_⟩⟩
    obtain ⟨ds, k1, q⟩ := q.opt
    obtain ⟨zs, k2, q⟩ := q.opt
    unfold rngD at k2
    split at k2
    · rename_i j
      split at k2 <;> cases k2
      rename_i hz
      rw [Bool.and_eq_true] at hz
      refine ⟨j, conts_int t1.sr k1 r1, of_decide_eq_true hz.1, of_decide_eq_true hz.2, q _ F1 H1 t1 walkD_range⟩
    · have h := (conts_len k1).trans ((evA_len hx).trans hla); simp at h
    · cases k2
  | [x, y], _, hs, ha, hla =>
    rw [List.all_cons, Bool.and_eq_true, List.all_cons, Bool.and_eq_true] at hs
    refine ⟨fun pins s σ H R I ⟨e, F, R0, q⟩ => (pi_range2 g1 hm ha (by rw [star_cons hs.1, star_cons hs.2.1]; rfl) (by rw [star_cons hs.2.1]; rfl)).run pins s σ H R I ⟨e, F, R0, PostI.firstA (by simpa only [evI] using q) fun rs e1 vs F1 H1 hx t1 r1 q => ?_⟩⟩
    obtain ⟨ds, k1, q⟩ := q.opt
    obtain ⟨zs, k2, q⟩ := q.opt
    unfold rngD at k2
    split at k2
    · have h := (conts_len k1).trans ((evA_len hx).trans hla); simp at h
    · rename_i i j
      split at k2 <;> cases k2
      rename_i hz
      simp only [Bool.and_eq_true] at hz
      refine ⟨i, j, conts_int2 t1.sr k1 r1, ⟨of_decide_eq_true hz.1.1.1, of_decide_eq_true hz.1.1.2, of_decide_eq_true hz.1.2, of_decide_eq_true hz.2⟩, q _ F1 H1 t1 walkD_range⟩
    · cases k2
theorem seqL_ok {F H0 H : Hp} {d : D} {v : V} {xs : List D} (s : Sub F H) (k : seqL d = some xs) (r : Rep C F d v) : ∃ a vs, v = .ref a ∧ SqL C.K F a vs ∧ RepL C F xs vs := by
  cases d <;> simp only [seqL] at k <;> cases k <;> rw [Rep] at r
  · obtain ⟨a, vs, rfl, h1, h2⟩ := r
    exact ⟨a, vs, rfl, .inl (.inl h1), h2⟩
  · obtain ⟨a, rfl, h1⟩ := r
    exact ⟨a, _, rfl, h1, repL_ints _⟩
theorem s_itN (G : Good T C n W c X) {a : E} {x : Expr} {elts : List Expr} {k : Nat} {tp p pos : Pos} (hg : glB c.sc "enumerate" = true) (ha : PE X x (RE T C n W a)) (hx : nst x = true) :
    PI X (.Tuple elts k tp) (.Call (.Name "enumerate" p) [x] [] pos) (RI T C n W (.enum a)) := by
  obtain ⟨g1, g2, g3⟩ := G.glb hg
  have hm := G.gl.bi "enumerate" (by decide)
  refine ⟨fun pins s σ H R I ⟨e, F, R0, q⟩ => (pi_enum g1 hm (pa_one ha hx) (star_cons hx)).run pins s σ H R I ⟨e, F, R0, PostI.first (by simpa only [evI] using q) fun r e1 v F1 H1 hx t1 r1 q => ?_⟩⟩
  obtain ⟨⟨d, e2⟩, k1, q⟩ := q.opt
  obtain ⟨ds, k2, q⟩ := q.opt
  obtain ⟨F2, t2, rp, s2⟩ := frz_ok t1 r1 k1
  obtain ⟨a, vs, rfl, h1, h2⟩ := seqL_ok (H0 := H) t2.sr.sub k2 rp
  rw [G.K]
  exact ⟨a, vs, rfl, t2.sr.sub.sqL h1, q _ F2 H1 t2 (walkD_enum h1 h2)⟩
theorem s_itZ (G : Good T C n W c X) {as : List E} {xs : List Expr} {elts : List Expr} {k : Nat} {tp p pos : Pos} (hg : glB c.sc "zip" = true) (ha : PA X xs (RA T C n W as)) (hs : xs.all nst = true) (hl : (xs.length == 2) = true) :
    PI X (.Tuple elts k tp) (.Call (.Name "zip" p) xs [] pos) (RI T C n W (.zip as)) := by
  obtain ⟨g1, g2, g3⟩ := G.glb hg
  have hm := G.gl.bi "zip" (by decide)
  match xs, hl, hs, ha with
  | [x, y], _, hs, ha =>
    have hs0 := hs
    rw [List.all_cons, Bool.and_eq_true, List.all_cons, Bool.and_eq_true] at hs
    refine ⟨fun pins s σ H R I ⟨e, F, R0, q⟩ => (RZ.pi_zipA g1 hm ha (star_cons hs.1) (star_any (by simp only [List.all_cons, hs.2.1, List.all_nil, Bool.and_self]))).run pins s σ H R I ⟨e, F, R0, PostI.firstA (by simpa only [evI] using q) fun rs e1 vs F1 H1 hx t1 r1 q => ?_⟩⟩
    obtain ⟨⟨ds, e2⟩, k1, q⟩ := q.opt
    obtain ⟨F2, t2, s2, rl⟩ := frzs_ok t1 r1 k1
    have two : ∀ {d1 d2 : D}, ds = [d1, d2] → ∃ v1 v2, vs = [v1, v2] ∧ Rep C F2 d1 v1 ∧ Rep C F2 d2 v2 := fun {d1 d2} e => by
      subst e
      simp only [RepL] at rl
      obtain ⟨v1, r, rfl, h1, v2, r2, rfl, h2, rfl⟩ := rl
      exact ⟨v1, v2, rfl, h1, h2⟩
    rw [G.K]
    dsimp only at q
    split at q
    · rename_i ys zs
      obtain ⟨v1, v2, rfl, h1, h2⟩ := two rfl
      rw [Rep] at h1 h2
      obtain ⟨a, us, rfl, p1, p2⟩ := h1
      obtain ⟨b, ws, rfl, p3, p4⟩ := h2
      refine ⟨a, b, us, ws, rfl, .inr ⟨t2.sr.sub.sqT p1, t2.sr.sub.sqT p3, q _ F2 H1 t2 (walkD_zip p2 p4 rfl ?_)⟩⟩
      refine ⟨fun i H hi q => ?_, fun H q => ⟨us, ws, q.sqT p1, q.sqT p3, by omega⟩, fun i H v H' hi q y => ?_⟩
      · have h1 : i < us.length := by omega
        have h2 : i < ws.length := by omega
        exact ⟨us, ws, us[i], ws[i], q.sqT p1, q.sqT p3, by simp [h1], by simp [h2]⟩
      · obtain ⟨T, x, z, h1, h2, h3, h4, h5⟩ := y
        exact ⟨T, x, z, h1, h2, h3, h4 us (q.sqT p1), h5 ws (q.sqT p3)⟩
    · rename_i d1 d2 _
      obtain ⟨v1, v2, rfl, h1, h2⟩ := two rfl
      obtain ⟨ys, k2, q⟩ := q.opt
      obtain ⟨zs, k3, q⟩ := q.opt
      obtain ⟨a, us, rfl, p1, p2⟩ := seqL_ok (H0 := H) t2.sr.sub k2 h1
      obtain ⟨b, ws, rfl, p3, p4⟩ := seqL_ok (H0 := H) t2.sr.sub k3 h2
      exact ⟨a, b, us, ws, rfl, .inl ⟨t2.sr.sub.sqL p1, t2.sr.sub.sqL p3, q _ F2 H1 t2 (walkD_zip p2 p4 rfl ((walk_zip rfl).mono (fun H s => ⟨s.sqL p1, s.sqL p3⟩) fun _ _ _ _ _ _ y => y))⟩⟩
    · exact q.elim
end
end PL
end

section
namespace PL
open PySem PySem.Spec L2

section
variable {C : G0} {e e0 e1 : EV} {F F0 F1 H H0 H1 : Hp} {σ σ0 σ1 : St}
theorem wipe_get : ∀ {own : List Nat} {σ : St} {j : Nat}, j < σ.length → (wipe σ own)[j]? = if j ∈ own then some none else σ[j]?
  | [], σ, j, h => by simp [wipe]
  | i :: own, σ, j, h => by
    rw [wipe]
    by_cases e : i = j
    · subst e
      have : i < (wipe σ own).length := by rw [wipe_length]; exact h
      simp [this]
    · rw [getE_set_ne e, wipe_get h]
      have : j ≠ i := Ne.symm e
      simp [this]
theorem wipeE_len : ∀ {own : List Nat} {e : EV}, (wipeE e own).length = e.length
  | [], e => rfl
  | i :: own, e => by rw [wipeE, List.length_set, wipeE_len]
theorem wipeE_get : ∀ {own : List Nat} {e : EV} {j : Nat}, j < e.length → (wipeE e own)[j]? = if j ∈ own then some .un else e[j]?
  | [], e, j, h => by simp [wipeE]
  | i :: own, e, j, h => by
    rw [wipeE]
    by_cases q : i = j
    · subst q
      have : i < (wipeE e own).length := by rw [wipeE_len]; exact h
      simp [this]
    · rw [getE_set_ne q, wipeE_get h]
      have : j ≠ i := Ne.symm q
      simp [this]
theorem wipe_congr {own : List Nat} {σ2 : St} (hl : σ2.length = σ.length) (h : ∀ j, j ∉ own → σ2[j]? = σ[j]?) : wipe σ2 own = wipe σ own := by
  apply List.ext_getElem?
  intro j
  by_cases hj : j < σ.length
  · rw [wipe_get hj, wipe_get (by rw [hl]; exact hj)]
    split
    · rfl
    · rename_i q; exact h j q
  · rw [List.getElem?_eq_none (by rw [wipe_length, hl]; omega), List.getElem?_eq_none (by rw [wipe_length]; omega)]
theorem wipe_wipe {own : List Nat} : wipe (wipe σ own) own = wipe σ own := wipe_congr (wipe_length _ _) fun j h => by
  by_cases hj : j < σ.length
  · rw [wipe_get hj, if_neg h]
  · rw [List.getElem?_eq_none (by rw [wipe_length]; omega), List.getElem?_eq_none (by omega)]
theorem SR.unset {i : Nat} (R : SR C e F σ H) : SR C (e.set i .un) F (σ.set i none) H := by
  have old : ∀ (j : Nat) (t : SV), (e.set i .un)[j]? = some t → t.mine = true → j ≠ i ∧ e[j]? = some t := fun j t q mt => by
    by_cases ej : i = j
    · subst ej
      rw [List.getElem?_set_self'] at q
      cases z : e[i]? with
      | none => rw [z] at q; cases q
      | some u => rw [z] at q; cases q; cases mt
    · rw [getE_set_ne ej] at q; exact ⟨Ne.symm ej, q⟩
  refine ⟨R.sub, fun j s q => ?_, fun j k s t a q1 q2 m1 m2 a1 a2 => ?_, by simp [R.len]⟩
  · by_cases ej : i = j
    · subst ej
      rw [List.getElem?_set_self'] at q
      cases z : e[i]? with
      | none => rw [z] at q; cases q
      | some u => rw [z] at q; cases q; trivial
    · rw [getE_set_ne ej] at q; rw [getE_set_ne ej]; exact R.slot j s q
  · obtain ⟨n1, o1⟩ := old j s q1 m1
    obtain ⟨n2, o2⟩ := old k t q2 m2
    rw [getE_set_ne (Ne.symm n1)] at a1
    rw [getE_set_ne (Ne.symm n2)] at a2
    exact R.dis j k s t a o1 o2 m1 m2 a1 a2
theorem SR.wipe (R : SR C e F σ H) : ∀ own : List Nat, SR C (wipeE e own) F (L2.wipe σ own) H
  | [] => R
  | i :: own => (SR.wipe R own).unset
theorem Tr.wipe (t : Tr C e0 F0 σ0 H0 e F σ H) : ∀ own : List Nat, (∀ i ∈ own, ∀ d, e0[i]? ≠ some (.bor d) ∧ e0[i]? ≠ some (.fro d)) → Tr C e0 F0 σ0 H0 (wipeE e own) F (L2.wipe σ own) H
  | [], _ => t
  | i :: own, h => by
    have ih := Tr.wipe t own fun j hj => h j (by simp [hj])
    by_cases hl : i < (wipeE e own).length
    · exact set0 ih hl (fun d => (h i (by simp) d).1) (fun d => (h i (by simp) d).2) (.inl rfl)
    · have h2 : ¬ i < (L2.wipe σ own).length := by rw [wipe_length]; rw [wipeE_len] at hl; rw [← t.sr.len]; exact hl
      rw [wipeE, L2.wipe, List.set_eq_of_length_le (by omega), List.set_eq_of_length_le (by omega)]
      exact ih
theorem Tr.pad {p : Addr} {o : HO} (t : Tr C e F σ H e1 F1 σ1 H1) (hp : H p = none) (hF : F1 p = none) (hn : ¬ OwnA e1 σ1 p) : Tr C e F σ H e1 F1 σ1 (upd H1 p o) := by
  have R := t.sr
  refine ⟨⟨fun b u q => ?_, fun j s q => ?_, R.dis, R.len⟩, t.fs, fun b u q n => ?_, fun b q => ?_, t.new, t.own, t.nob, t.bor, t.fro, t.len⟩
  · rw [upd_ne fun e => by subst e; rw [hF] at q; cases q]; exact R.sub b u q
  · have z := R.slot j s q
    cases s with
    | un => trivial
    | val d' => exact z
    | fro d' => exact z
    | own d' =>
      obtain ⟨b, q1, q2⟩ := z
      have hne : b ≠ p := fun e => hn ⟨j, _, q, rfl, by rw [← e]; exact q1⟩
      exact ⟨b, q1, q2.mono (Sub.refl _) q2.1 fun o ho => by rw [upd_ne hne]; exact ho⟩
    | bor d' =>
      obtain ⟨b, q1, q2⟩ := z
      have hne : b ≠ p := fun e => hn ⟨j, _, q, rfl, by rw [← e]; exact q1⟩
      exact ⟨b, q1, q2.mono (Sub.refl _) q2.1 fun o ho => by rw [upd_ne hne]; exact ho⟩
  · rw [upd_ne (ne_of_none q hp)]; exact t.keep b u q n
  · by_cases e : b = p
    · subst e; rw [upd_same]; simp
    · rw [upd_ne e]; exact t.there b q
/-- what a turn leaves alone, but for its own slots -/
def Dn (own : List Nat) (e e' : EV) : Prop := (∀ (i : Nat) (s : SV), i ∉ own → e[i]? = some s → s.dat.isSome = true → ∃ s', e'[i]? = some s' ∧ s'.dat.isSome = true) ∧
  ∀ (i : Nat) (s' : SV), i ∉ own → e'[i]? = some s' → s'.mine = true → ∃ s, e[i]? = some s ∧ s.mine = true
theorem Dn.refl (own : List Nat) (e : EV) : Dn own e e := ⟨fun i s _ h k => ⟨s, h, k⟩, fun i s _ h k => ⟨s, h, k⟩⟩
theorem Dn.trans {own : List Nat} {a b d : EV} (x : Dn own a b) (y : Dn own b d) : Dn own a d :=
  ⟨fun i s n h k => by obtain ⟨s1, h1, k1⟩ := x.1 i s n h k; exact y.1 i s1 n h1 k1, fun i s n h k => by obtain ⟨s1, h1, k1⟩ := y.2 i s n h k; exact x.2 i s1 n h1 k1⟩
theorem Dn.same {own : List Nat} {a b : EV} (h : ∀ j, j ∉ own → b[j]? = a[j]?) : Dn own a b :=
  ⟨fun i s n q k => ⟨s, by rw [h i n]; exact q, k⟩, fun i s n q k => ⟨s, by rw [← h i n]; exact q, k⟩⟩
theorem Dn.ofE {own : List Nat} {H' F' : Hp} {e' : EV} (t : TrE C e F σ H e' F' H') : Dn own e e' := ⟨fun i s _ => t.dat i s, fun i s _ => t.nom i s⟩
theorem Dn.wipe {own : List Nat} {a : EV} : Dn own a (wipeE a own) := Dn.same fun j h => by
  by_cases hj : j < a.length
  · rw [wipeE_get hj, if_neg h]
  · rw [List.getElem?_eq_none (by rw [wipeE_len]; omega), List.getElem?_eq_none (by omega)]
theorem unwipe_len : ∀ {own : List Nat} {a b : EV}, (unwipe a b own).length = b.length
  | [], a, b => rfl
  | i :: own, a, b => by
    rw [unwipe]
    split
    · rw [List.length_set, unwipe_len]
    · rw [unwipe_len]
theorem unwipe_get : ∀ {own : List Nat} {a b : EV} {j : Nat}, a.length = b.length → j < b.length → (unwipe a b own)[j]? = if j ∈ own then a[j]? else b[j]?
  | [], a, b, j, _, h => by simp [unwipe]
  | i :: own, a, b, j, hl, h => by
    rw [unwipe]
    split
    · rename_i s hs
      by_cases q : i = j
      · subst q
        have : i < (unwipe a b own).length := by rw [unwipe_len]; exact h
        simp [this, hs]
      · rw [getE_set_ne q, unwipe_get hl h]
        have : j ≠ i := Ne.symm q
        simp [this]
    · rename_i hs
      have : j ≠ i := fun q => by subst q; rw [List.getElem?_eq_getElem (by omega)] at hs; cases hs
      rw [unwipe_get hl h]
      simp [this]
/-- behind a block -/
theorem unwipe_ok {own : List Nat} {eL : EV} {FL HL : Hp} (R : SR C e1 F1 σ H1) (u : Tr C (wipeE e1 own) F1 (wipe σ own) H1 eL FL (wipe σ own) HL) (dn : Dn own (wipeE e1 own) eL) : TrE C e1 F1 σ H1 (unwipe e1 eL own) FL HL := by
  have hlL : eL.length = e1.length := by rw [u.len, wipeE_len]
  have lt : ∀ {j : Nat} {s : SV} {l : EV}, l.length = e1.length → l[j]? = some s → j < e1.length := fun {j s l} h q => by rw [← h]; exact (List.getElem?_eq_some_iff.mp q).1
  have gu : ∀ {j : Nat}, j < e1.length → (unwipe e1 eL own)[j]? = if j ∈ own then e1[j]? else eL[j]? := fun {j} h => unwipe_get hlL.symm (by rw [hlL]; exact h)
  have ge : ∀ {j : Nat}, j < e1.length → (wipeE e1 own)[j]? = if j ∈ own then some .un else e1[j]? := fun {j} h => wipeE_get h
  have gs : ∀ {j : Nat}, j < e1.length → (L2.wipe σ own)[j]? = if j ∈ own then some none else σ[j]? := fun {j} h => wipe_get (by rw [← R.len]; exact h)
  have lu : (unwipe e1 eL own).length = e1.length := by rw [unwipe_len, hlL]
  have ownW : ∀ {b : Addr}, OwnA (wipeE e1 own) (L2.wipe σ own) b → ∃ (j : Nat) (s : SV), j ∉ own ∧ e1[j]? = some s ∧ s.mine = true ∧ σ[j]? = some (some (.ref b)) := fun {b} ⟨j, s, h1, h2, h3⟩ => by
    have hj := lt (wipeE_len) h1
    rw [ge hj] at h1
    rw [gs hj] at h3
    by_cases ho : j ∈ own
    · rw [if_pos ho] at h1; cases h1; cases h2
    · rw [if_neg ho] at h1 h3; exact ⟨j, s, ho, h1, h2, h3⟩
  have ownE : ∀ {b : Addr}, OwnA (wipeE e1 own) (L2.wipe σ own) b → OwnA e1 σ b := fun h => by
    obtain ⟨j, s, _, h1, h2, h3⟩ := ownW h
    exact ⟨j, s, h1, h2, h3⟩
  -- a mine slot of the end: own slot as it was, or another one
  have nom : ∀ (i : Nat) (s' : SV), (unwipe e1 eL own)[i]? = some s' → s'.mine = true → ∃ s, e1[i]? = some s ∧ s.mine = true := fun i s' h m => by
    have hi := lt lu h
    rw [gu hi] at h
    by_cases ho : i ∈ own
    · rw [if_pos ho] at h; exact ⟨s', h, m⟩
    · rw [if_neg ho] at h
      obtain ⟨s, h1, h2⟩ := dn.2 i s' ho h m
      rw [ge hi, if_neg ho] at h1
      exact ⟨s, h1, h2⟩
  refine ⟨⟨⟨u.sr.sub, fun i s h => ?_, fun i k s s' a h1 h2 m1 m2 a1 a2 => ?_, by rw [lu]; exact R.len⟩, u.fs, fun b o h n => u.keep b o h fun q => n (ownE q), u.there, fun b o h => ?_, fun i d a h1 h2 => ?_, fun i d h => ?_, fun i d h => ⟨rfl, ?_⟩, fun i d h => ⟨rfl, ?_⟩, lu⟩, fun i s h k => ?_, nom⟩
  · have hi := lt lu h
    rw [gu hi] at h
    by_cases ho : i ∈ own
    · rw [if_pos ho] at h
      have z := R.slot i s h
      have stay : ∀ {d : D} {a : Addr}, s.mine = true → σ[i]? = some (some (.ref a)) → Mine C F1 H1 d a → Mine C FL HL d a := fun {d a} ms ea mm => by
        have no : ¬ OwnA (wipeE e1 own) (L2.wipe σ own) a := fun oa => by
          obtain ⟨j, s', w0, w1, w2, w3⟩ := ownW oa
          have := R.dis j i s' s a w1 h w2 ms w3 ea
          subst this
          exact w0 ho
        refine mm.mono u.fs ?_ fun o ho => u.keep a o ho no
        cases fa : FL a with
        | none => rfl
        | some o =>
          obtain ⟨o', ho'⟩ := mm.there
          rcases u.new a o fa with w | w | w
          · rw [mm.1] at w; cases w
          · rw [ho'] at w; cases w
          · exact absurd w no
      cases s with
      | un => trivial
      | val d => obtain ⟨v, z1, z2⟩ := z; exact ⟨v, z1, z2.mono u.fs⟩
      | fro d => obtain ⟨v, z1, z2⟩ := z; exact ⟨v, z1, z2.mono u.fs⟩
      | own d => obtain ⟨a, z1, z2⟩ := z; exact ⟨a, z1, stay rfl z1 z2⟩
      | bor d => obtain ⟨a, z1, z2⟩ := z; exact ⟨a, z1, stay rfl z1 z2⟩
    · rw [if_neg ho] at h
      have z := u.sr.slot i s h
      rw [gs hi, if_neg ho] at z
      exact z
  · obtain ⟨t1, w1, w2⟩ := nom i s h1 m1
    obtain ⟨t2, w3, w4⟩ := nom k s' h2 m2
    exact R.dis i k t1 t2 a w1 w3 w2 w4 a1 a2
  · rcases u.new b o h with w | w | w
    · exact .inl w
    · exact .inr (.inl w)
    · exact .inr (.inr (ownE w))
  · have hi := lt lu h1
    have h0 := h1
    rw [gu hi] at h1
    by_cases ho : i ∈ own
    · rw [if_pos ho] at h1; exact .inl ⟨i, d, h1, h2⟩
    · rw [if_neg ho] at h1
      rcases u.own i d a h1 (by rw [gs hi, if_neg ho]; exact h2) with ⟨j, d', k1, k2⟩ | k
      · have hj := lt wipeE_len k1
        rw [ge hj] at k1
        rw [gs hj] at k2
        by_cases hjo : j ∈ own
        · rw [if_pos hjo] at k1; cases k1
        · rw [if_neg hjo] at k1 k2; exact .inl ⟨j, d', k1, k2⟩
      · exact .inr k
  · have hi := lt lu h
    rw [gu hi] at h
    by_cases ho : i ∈ own
    · rw [if_pos ho] at h; exact ⟨d, h⟩
    · rw [if_neg ho] at h
      obtain ⟨d', k⟩ := u.nob i d h
      rw [ge hi, if_neg ho] at k
      exact ⟨d', k⟩
  · have hi := lt rfl h
    rw [gu hi]
    by_cases ho : i ∈ own
    · rw [if_pos ho]; exact ⟨d, .inl h⟩
    · rw [if_neg ho]
      exact (u.bor i d (by rw [ge hi, if_neg ho]; exact h)).2
  · have hi := lt rfl h
    rw [gu hi]
    by_cases ho : i ∈ own
    · rw [if_pos ho]; exact h
    · rw [if_neg ho]
      exact (u.fro i d (by rw [ge hi, if_neg ho]; exact h)).2
  · have hi := lt rfl h
    rw [gu hi]
    by_cases ho : i ∈ own
    · rw [if_pos ho]; exact ⟨s, h, k⟩
    · rw [if_neg ho]
      exact dn.1 i s ho (by rw [ge hi, if_neg ho]; exact h) k
end
end PL
end

section
namespace PL
open PySem PySem.Spec L2

section
variable {T : GT} {C : G0} {n : Nat} {W : WX} {c : CC} {X : Cx}
abbrev W0 : WX := fun _ _ _ _ => False
theorem takes0 : Takes X W0 := fun u s' ⟨a, B, sI, pins, σ, H, cls, d, e, I, nb, up, sky, na, os, ag, w⟩ => w.elim
theorem Good.blk (G : Good T C n W c X) (scope : Scope) (s : Shared) (H : Hp) (cl : List (Str × Addr)) (p : Addr) (fp : List Addr) : Good T C n W0 (blkCC c scope) (X.blk s H scope (compEnvC scope cl p X.env) fp) where
  K := G.K
  N := G.N
  nd := G.nd
  sc := by
    show relS scope X.env.scope = relS scope c.sc
    rw [G.sc]
  st := fun i x h => by
    unfold stB at h
    rw [Bool.and_eq_true, Bool.and_eq_true] at h
    obtain ⟨⟨h1, h2⟩, h3⟩ := h
    have e : (X.blk s H scope (compEnvC scope cl p X.env) fp).env.scope = relS scope c.sc := by
      show relS scope X.env.scope = relS scope c.sc
      rw [G.sc]
    rw [e]
    have h3 : locB scope x = true := h3
    refine ⟨?_, ?_⟩
    · have h2 : locB (relS scope c.sc) x = true := h2
      unfold locB at h2
      split at h2 <;> first | exact .inl (by assumption) | exact .inr (by assumption) | cases h2
    · unfold locB at h3
      split at h3
      · rename_i q
        exact .inr (lookup_relS_keep (by simp) q)
      · rename_i q
        exact .inl (by show (scope.names.lookup x == some .cell) = true; rw [q]; rfl)
      · cases h3
  cm := G.cm
  hu := G.hu
  room := G.room
  tk := takes0
  gl := ⟨G.gl.names, G.gl.fns, G.gl.cons, G.gl.bi, G.gl.gcd, G.gl.dcs⟩
def RC (T : GT) (C : G0) (n : Nat) (W : WX) (a : Option E) : TT := fun σ H Q => ∃ e F, SR C e F σ H ∧ PostB C W e F σ H (evC T (callF T n) a e) Q
theorem s_no : PTs X [] (RC T C n W none) := ⟨fun pins s σ H Q I ⟨e, F, R, q⟩ => by
  simp only [evC] at q
  exact pts_nil.run pins s σ H Q I (q F H (TrE.refl R))⟩
theorem s_one {a : E} {x : Expr} (h : PT X x (RT T C n W a)) : PTs X [x] (RC T C n W (some a)) := ⟨fun pins s σ H Q I ⟨e, F, R, q⟩ => by
  simp only [evC] at q
  exact (pts_one h).run pins s σ H Q I ⟨e, F, R, q⟩⟩
def isSetE : Expr → Bool
  | .Set .. => true
  | _ => false
theorem folded_no {x : Expr} (h : isSetE x = false) {env : Env} : ∀ v, foldedSetIterable x env v = pure v := fun v => by
  cases x <;> first | rfl | cases h
/-- the turns' function -/
def turnF (T : GT) (n : Nat) (tg : Tg) (cond : Option E) (elt : E) : D → EV → Out (Option D) := fun d e => opt (asg tg d e) fun e1 => (evC T (callF T n) cond e1).bd fun k e2 => if k then (evE T (callF T n) false elt e2).bd fun r e3 => opt (frz e3 r) fun (x, e4) => .ok (some x) e4 else .ok none e2
theorem s_lcTurns {own : List Nat} {tg : Tg} {cond : Option E} {elt : E} {e1 : EV} {F1 H1 : Hp} {σ : St} {Q : VK} {J : L2.It} {ds : List D} (hix : (tgIx tg).all own.contains = true)
    (R1 : SR C e1 F1 σ H1) (wk : WalkD C F1 J ds) {D0 : Addr} (hD : H1 D0 = none) (q : match compL (turnF T n tg cond elt) own ds (wipeE e1 own) [] with
      | .ok acc eL => ∀ FL HL accV, Tr C (wipeE e1 own) F1 (wipe σ own) H1 eL FL (wipe σ own) HL → Dn own (wipeE e1 own) eL → HL D0 = some (.lst accV) → RepL C FL acc accV → FL D0 = none → ¬ OwnA eL (wipe σ own) D0 → Q (.ref D0) HL
      | _ => False) :
    ∃ W : Nat → Nat → Hp → Prop, (∃ m, W 0 m (upd H1 D0 (.lst []))) ∧ ∀ i m H, W i m H →
      (J.stop i H ∧ Q (.ref D0) H) ∨ (J.go i H ∧ ∃ Nx : Hp → Prop, (∀ H', Nx H' → ∃ m', m' < m ∧ W (i + 1) m' H') ∧ ∀ x H', J.yld i H x H' → gTg C.K tg x (wipe σ own) H' fun σ2 H2 => wipe σ2 own = wipe σ own ∧ RC T C n W0 cond σ2 H2 fun b H3 =>
        if b = true then RE T C n W0 elt σ2 H3 fun y H4 => ∃ acc, H4 D0 = some (.lst acc) ∧ acc.length < sizeLine ∧ Nx (upd H4 D0 (.lst (acc ++ [y]))) else Nx H3) := by
  have Rw : SR C (wipeE e1 own) F1 (wipe σ own) H1 := R1.wipe own
  have hF1 : F1 D0 = none := by
    cases z : F1 D0 with
    | none => rfl
    | some u => rw [R1.sub _ _ z] at hD; cases hD
  have nown0 : ¬ OwnA (wipeE e1 own) (wipe σ own) D0 := fun oa => by
    obtain ⟨_, o, h⟩ := Rw.ownNone oa
    rw [hD] at h; cases h
  have nob : ∀ i ∈ own, ∀ d, (wipeE e1 own)[i]? ≠ some (.bor d) ∧ (wipeE e1 own)[i]? ≠ some (.fro d) := fun i hi d => by
    by_cases hl : i < e1.length
    · rw [wipeE_get hl, if_pos hi]; simp
    · rw [List.getElem?_eq_none (by rw [wipeE_len]; omega)]; simp
  refine lc_it (Qd := fun H => Q (.ref D0) H) wk (fun i H => ∃ e' F' acc accV, Tr C (wipeE e1 own) F1 (wipe σ own) H1 e' F' (wipe σ own) H ∧ Dn own (wipeE e1 own) e' ∧ H D0 = some (.lst accV) ∧ RepL C F' acc accV ∧ F' D0 = none ∧ ¬ OwnA e' (wipe σ own) D0 ∧
      (match compL (turnF T n tg cond elt) own (ds.drop i) e' acc with
      | .ok acc eL => ∀ FL HL accV, Tr C (wipeE e1 own) F1 (wipe σ own) H1 eL FL (wipe σ own) HL → Dn own (wipeE e1 own) eL → HL D0 = some (.lst accV) → RepL C FL acc accV → FL D0 = none → ¬ OwnA eL (wipe σ own) D0 → Q (.ref D0) HL
      | _ => False)) ?_ ?_ ?_ ?_
  · exact ⟨wipeE e1 own, F1, [], [], (Tr.refl Rw).pad hD hF1 nown0, Dn.refl _ _, upd_same, .nil, hF1, nown0, by simpa using q⟩
  · rintro i H hi ⟨e', F', acc, accV, t, _⟩
    exact t.fs.trans t.sr.sub
  · rintro i x H H' hi ⟨e', F', acc, accV, t, dn, hd, racc, fd, no, q⟩ ⟨d, hdi, hy⟩
    have hdrop : ds.drop i = d :: ds.drop (i + 1) := by
      rw [List.drop_eq_getElem_cons hi]
      rw [List.getElem?_eq_getElem hi] at hdi; cases hdi; rfl
    rw [hdrop, compL] at q
    -- the state behind the yield
    obtain ⟨F'', t2, s2, rx, hd', fd'⟩ : ∃ F'', Tr C (wipeE e1 own) F1 (wipe σ own) H1 e' F'' (wipe σ own) H' ∧ Sub F' F'' ∧ Rep C F'' d x ∧ H' D0 = some (.lst accV) ∧ F'' D0 = none := by
      rcases hy with ⟨rfl, r⟩ | ⟨p, d1, d2, x1, x2, rfl, hp, rfl, rfl, r1, r2⟩
      · exact ⟨F', t, Sub.refl _, r.mono t.fs, hd, fd⟩
      · have u := (TrE.refl t.sr).newT (o := .tup [x1, x2]) hp
        have hne : D0 ≠ p := fun e => by subst e; rw [hd] at hp; cases hp
        refine ⟨_, t.trans u.toTr, u.fs, ?_, by rw [upd_ne hne]; exact hd, by rw [upd_ne hne]; exact fd⟩
        rw [Rep]
        exact ⟨p, [x1, x2], rfl, .inl (.inl upd_same), (RepL.cons r1 (.cons r2 .nil)).mono (t.fs.trans u.fs)⟩
    have racc := racc.mono s2
    cases ka : asg tg d e' with
    | none => simp only [turnF, ka, opt_none] at q
    | some e2 =>
      simp only [turnF, ka, opt_some] at q
      refine asg_ok t2 rx ka fun σ2 t3 ar => ⟨?_, e2, F'', t3.sr, ?_⟩
      · have : L2.wipe σ2 own = L2.wipe (L2.wipe σ own) own := wipe_congr ar.len fun j hj => (ar.same j fun z => hj (List.contains_iff_mem.mp (List.all_eq_true.mp hix j z))).1
        rw [this, wipe_wipe]
      have hw : L2.wipe σ2 own = L2.wipe σ own := by
        have : L2.wipe σ2 own = L2.wipe (L2.wipe σ own) own := wipe_congr ar.len fun j hj => (ar.same j fun z => hj (List.contains_iff_mem.mp (List.all_eq_true.mp hix j z))).1
        rw [this, wipe_wipe]
      have dn2 : Dn own (wipeE e1 own) e2 := dn.trans (Dn.same fun j hj => (ar.same j fun z => hj (List.contains_iff_mem.mp (List.all_eq_true.mp hix j z))).2)
      have no2 : ¬ OwnA e2 σ2 D0 := fun ⟨j, s, h1, h2, h3⟩ => by
        obtain ⟨k1, k2⟩ := ar.mine j s h1 h2
        exact no ⟨j, s, k1, h2, by rw [← k2]; exact h3⟩
      -- what an evaluation leaves of the new list
      have after : ∀ {e4 : EV} {F4 H4 : Hp}, TrE C e2 F'' σ2 H' e4 F4 H4 → H4 D0 = some (.lst accV) ∧ F4 D0 = none ∧ ¬ OwnA e4 σ2 D0 := fun {e4 F4 H4} u => by
        refine ⟨u.keep _ _ hd' no2, ?_, fun z => no2 (u.ownA' z)⟩
        cases z : F4 D0 with
        | none => rfl
        | some o =>
          rcases u.new _ _ z with w | w | w
          · rw [fd'] at w; cases w
          · rw [hd'] at w; cases w
          · exact absurd w no2
      have nown3 : ∀ {e4 : EV}, ¬ OwnA e4 σ2 D0 → ¬ OwnA (wipeE e4 own) (L2.wipe σ own) D0 := fun {e4} h ⟨j, s, h1, h2, h3⟩ => by
        have hj : j < (wipeE e4 own).length := (List.getElem?_eq_some_iff.mp h1).1
        rw [wipeE_len] at hj
        have hjs : j < (L2.wipe σ own).length := (List.getElem?_eq_some_iff.mp h3).1
        rw [← hw, wipe_length] at hjs
        rw [wipeE_get hj] at h1
        rw [← hw, wipe_get hjs] at h3
        by_cases ho : j ∈ own
        · rw [if_pos ho] at h1; cases h1; cases h2
        · rw [if_neg ho] at h1 h3; exact h ⟨j, s, h1, h2, h3⟩
      revert q
      generalize evC T (callF T n) cond e2 = o
      intro q
      cases o with
      | exc z p e' => exact q.elim
      | stuck => exact q.elim
      | ok b e3 =>
        intro F3 H3 t4
        simp only [bd_ok] at q
        cases b with
        | false =>
          simp only [Bool.false_eq_true, if_false] at q ⊢
          obtain ⟨a1, a2, a3⟩ := after t4
          refine ⟨wipeE e3 own, F3, acc, accV, ?_, dn2.trans ((Dn.ofE t4).trans Dn.wipe), a1, racc.mono t4.fs, a2, nown3 a3, q⟩
          have := (t3.trans t4.toTr).wipe own nob
          rw [hw] at this
          exact this
        | true =>
          simp only [if_true] at q ⊢
          refine ⟨e3, F3, t4.sr, ?_⟩
          revert q
          generalize evE T (callF T n) false elt e3 = o
          intro q
          cases o with
          | exc z p e' => exact q.elim
          | stuck => exact q.elim
          | ok r e4 =>
            intro v F4 H4 t5 r5
            simp only [bd_ok] at q
            cases kf : frz e4 r with
            | none => rw [kf] at q; exact q.elim
            | some z =>
              obtain ⟨xd, e5⟩ := z
              rw [kf] at q
              simp only [opt_some] at q
              obtain ⟨F5, t6, rp, s6⟩ := frz_ok t5 r5 kf
              obtain ⟨a1, a2, a3⟩ := after (t4.trans t6)
              by_cases hz : acc.length < sizeL
              · rw [if_pos hz] at q
                have racc := racc.mono (t4.trans t6).fs
                refine ⟨accV, a1, by rw [← sizeL_eq, ← racc.len]; exact hz, wipeE e5 own, F5, acc ++ [xd], accV ++ [v], ?_, dn2.trans (((Dn.ofE t4).trans (Dn.ofE t6)).trans Dn.wipe), upd_same, racc.append (.cons rp .nil), a2, nown3 a3, q⟩
                have := (t3.trans (t4.trans t6).toTr).wipe own nob
                rw [hw] at this
                exact this.pad hD a2 (nown3 a3)
              · rw [if_neg hz] at q; exact q.elim
  · rintro H ⟨e', F', acc, accV, t, dn, hd, racc, fd, no, q⟩
    rw [List.drop_length, compL] at q
    exact q F' H accV t dn hd racc fd no
/-- the iterable is walked; what the block gives -/
theorem rd_comp {own : List Nat} {it : It} {tg : Tg} {cond : Option E} {elt : E} {σ : St} {H : Hp} {Q : VK} (hix : (tgIx tg).all own.contains = true) (h : RE T C n W (.comp own it tg cond elt) σ H Q) :
    tLc (RI T C n W it) (gTg C.K tg) (RC T C n W0 cond) (RE T C n W0 elt) own σ H Q := by
  obtain ⟨e, F, R, q⟩ := h
  refine ⟨e, F, R, ?_⟩
  have q : PostE C W e F σ H ((evI T (callF T n) it e).bd fun ds e1 => (compL (turnF T n tg cond elt) own ds (wipeE e1 own) []).bd fun acc e2 => .ok (.t (.lst acc)) (unwipe e1 e2 own)) Q := q
  revert q
  generalize evI T (callF T n) it e = o
  intro q
  cases o with
  | exc z p e' => exact q
  | stuck => exact q
  | ok ds e1 =>
    intro J F1 H1 t1 wk D0 hD
    refine s_lcTurns (T := T) (n := n) hix t1.sr wk hD ?_
    simp only [bd_ok] at q
    revert q
    generalize ho : compL (turnF T n tg cond elt) own ds (wipeE e1 own) [] = o
    intro q
    cases o with
    | exc z p e' =>
      have : ∀ (ds : List D) (e : EV) (acc : List D), compL (turnF T n tg cond elt) own ds e acc ≠ .exc z p e' := fun ds => by
        induction ds with
        | nil => intro e acc; rw [compL]; simp
        | cons d ds ih =>
          intro e acc
          rw [compL]
          split
          · split
            · exact ih _ _
            · simp
          · exact ih _ _
          · simp
      exact absurd ho (this _ _ _)
    | stuck => exact q
    | ok acc eL =>
      intro FL HL accV t dn hd racc fd no
      have tt := t1.trans (unwipe_ok t1.sr t dn)
      refine q _ FL HL tt ⟨D0, rfl, ⟨fd, accV, hd, racc⟩, ?_, fun z => ?_⟩
      · by_cases z : H D0 = none
        · exact z
        · exact absurd hD (t1.there _ z)
      · obtain ⟨_, o, ho⟩ := t1.sr.ownNone ((unwipe_ok t1.sr t dn).ownA' z)
        rw [hD] at ho; cases ho
/-! ### a written dict, looked up -/
theorem repL_toV {F : Hp} : ∀ {ds : List D} {vs : List Expr}, valLs ds vs = true → RepL C F ds (ds.map toV)
  | [], _, _ => .nil
  | d :: ds, v :: vs, h => by
    cases d <;> cases v <;> first | (simp [valLs] at h; done) | skip
    all_goals (rename_i c0 _ _ ; cases c0 <;> first | (simp [valLs] at h; done) | skip)
    all_goals (simp only [valLs, Bool.and_eq_true] at h)
    · exact .cons (show Rep C F .non .non from rep_non) (repL_toV h)
    · exact .cons (show Rep C F (.bl _) (.bl _) from rep_bl) (repL_toV h.2)
    · exact .cons (show Rep C F (.int _) (.int _) from rep_int) (repL_toV h.2)
    · exact .cons (show Rep C F (.str _) (.str _) from rep_str) (repL_toV h.2)
  | d :: ds, [], h => by cases d <;> simp [valLs] at h
def litT (ks : List Key) (vs : List D) : List (TE × TE) := (ks.zip vs).map fun p => (tC (kV p.1), tC (toV p.2))
theorem pe_key {k : Key} {x : Expr} {ks : List Key} {r : List (Option Expr)} (h : keyLs (k :: ks) (some x :: r) = true) : PE X x (tC (kV k)) ∧ keyLs ks r = true := by
  cases k <;> cases x <;> first | (simp [keyLs] at h; done) | skip
  all_goals (rename_i c0 _ _ ; cases c0 <;> first | (simp [keyLs] at h; done) | skip)
  all_goals (simp only [keyLs, Bool.and_eq_true, decide_eq_true_eq] at h; obtain ⟨rfl, h⟩ := h)
  · exact ⟨pe_int, h⟩
  · exact ⟨pe_str, h⟩
theorem pe_lval {d : D} {x : Expr} {ds : List D} {r : List Expr} (h : valLs (d :: ds) (x :: r) = true) : PE X x (tC (toV d)) ∧ valLs ds r = true := by
  cases d <;> cases x <;> first | (simp [valLs] at h; done) | skip
  all_goals (rename_i c0 _ _ ; cases c0 <;> first | (simp [valLs] at h; done) | skip)
  · simp only [valLs] at h; exact ⟨pe_non, h⟩
  all_goals (simp only [valLs, Bool.and_eq_true, decide_eq_true_eq] at h; obtain ⟨rfl, h⟩ := h)
  · exact ⟨pe_bl, h⟩
  · exact ⟨pe_int, h⟩
  · exact ⟨pe_str, h⟩
theorem lit_pps {pos : Pos} : ∀ {ks : List Key} {vs : List D} {keys : List (Option Expr)} {values : List Expr}, keyLs ks keys = true → valLs vs values = true → ks.length = vs.length → PPs X pos keys values (litT ks vs) ∧ keys.all (·.isSome) = true ∧ keys.length = ks.length ∧ values.length = vs.length
  | [], [], [], [], _, _, _ => ⟨pps_nil, rfl, rfl, rfl⟩
  | k :: ks, d :: vs, some x :: keys, y :: values, h1, h2, hl => by
    obtain ⟨a1, a2⟩ := pe_key (X := X) h1
    obtain ⟨b1, b2⟩ := pe_lval (X := X) h2
    obtain ⟨p1, p2, p3, p4⟩ := lit_pps (pos := pos) a2 b2 (by simpa using hl)
    exact ⟨pps_cons a1 b1 p1, by rw [List.all_cons, p2]; rfl, by simp [p3], by simp [p4]⟩
  | k :: ks, d :: vs, none :: keys, _, h1, _, _ => by cases k <;> simp [keyLs] at h1
  | k :: ks, d :: vs, [], _, h1, _, _ => by cases k <;> simp [keyLs] at h1
  | [], [], _ :: _, _, h1, _, _ => by simp [keyLs] at h1
  | [], [], [], _ :: _, _, h2, _ => by simp [valLs] at h2
  | k :: ks, d :: vs, some x :: keys, [], _, h2, _ => by cases d <;> simp [valLs] at h2
  | [], _ :: _, _, _, _, _, hl => by cases hl
  | _ :: _, [], _, _, _, _, hl => by cases hl
theorem lit_pairs {σ : St} {H : Hp} : ∀ (l : List (Key × D)) (Q : List (V × V) → Hp → Prop), Q (l.map fun p => (kV p.1, toV p.2)) H → tPairs (l.map fun p => (tC (kV p.1), tC (toV p.2))) σ H Q
  | [], _, h => h
  | p :: l, Q, h => lit_pairs l (fun ps H3 => Q ((kV p.1, toV p.2) :: ps) H3) h
theorem merge_nodup : ∀ {l acc : List (Key × V)}, (acc.map (·.1) ++ l.map (·.1)).Nodup → mergeK acc l = acc ++ l
  | [], acc, _ => by simp [mergeK]
  | p :: l, acc, h => by
    have hn : valV acc p.1 = none := by
      unfold valV
      have : acc.find? (fun kv => decide (kv.1 = p.1)) = none := by
        rw [List.find?_eq_none]
        intro q hq e
        have e := of_decide_eq_true e
        have := (List.nodup_append.mp h).2.2 q.1 (List.mem_map.mpr ⟨q, hq, rfl⟩) p.1 (by simp)
        exact this e
      rw [this]; rfl
    show mergeK (putK acc p.1 p.2) l = _
    rw [putK_new p.2 hn, merge_nodup]
    · simp
    · simpa using h
theorem TrE.pad {e e1 : EV} {F F1 H H1 : Hp} {σ : St} {p : Addr} {o : HO} (t : TrE C e F σ H e1 F1 H1) (hp : H p = none) (hF : F1 p = none) (hn : ¬ OwnA e1 σ p) : TrE C e F σ H e1 F1 (upd H1 p o) := ⟨t.toTr.pad hp hF hn, t.dat, t.nom⟩
/-- the display is laid, then looked up -/
theorem rd_lit {ks : List Key} {vs : List D} {values : List Expr} {e : EV} {F H : Hp} {σ : St} (R : SR C e F σ H) (hv : valLs vs values = true) (hl : ks.length = vs.length) (hn : ks.Nodup) (h15 : ks.length ≤ 15) {Q : VK}
    (k : ∀ p, H p = none → ∀ H1, TrE C e F σ H e F H1 → H1 p = some (.dK (ks.zip (vs.map toV))) → Q (.ref p) H1) : tDisp (litT ks vs) σ H Q := fun p hp => by
  refine lit_pairs _ _ ⟨upd_same, ks.zip (vs.map toV), ?_, ?_, ?_⟩
  · rw [List.zip_map_right, List.map_map]
    rfl
  · rw [List.length_zip]; omega
  · have hm : mergeK [] (ks.zip (vs.map toV)) = ks.zip (vs.map toV) := by
      rw [merge_nodup]
      · rfl
      · simp only [List.map_nil, List.nil_append]
        rw [List.map_fst_zip (by simp [hl])]
        exact hn
    rw [hm, upd_upd]
    exact k p hp _ ((TrE.refl R).newL hp) upd_same
theorem own_lit {e : EV} {F H : Hp} {σ : St} (R : SR C e F σ H) {p : Addr} (hp : H p = none) : ¬ OwnA e σ p := fun q => by
  obtain ⟨_, o, ho⟩ := R.ownNone q
  rw [hp] at ho; cases ho
theorem dlook_none {H : Hp} {ks : List Key} {vs : List D} {ws : List V} {k : Key} (hl : ks.length = vs.length) (r : RepL C H vs ws) (h : dlook ks vs k = none) : valV (ks.zip ws) k = none := by
  obtain ⟨h1, _⟩ := dlook_val (k := k) hl r
  rw [h] at h1
  cases z : valV (ks.zip ws) k with
  | none => rfl
  | some v => rw [z] at h1; cases h1
theorem s_dlit1 (G : Good T C n W c X) {ks : List Key} {vs : List D} {a : E} {keys : List (Option Expr)} {values : List Expr} {y : Expr} {dp ap pos : Pos} (hm : mthB ap pos = true) (h1 : keyLs ks keys = true) (h2 : valLs vs values = true) (hn : ks.Nodup) (hl : ks.length = vs.length) (h15 : ks.length ≤ 15) (h0 : ks ≠ [])
    (ha : PE X y (RE T C n W a)) (hy : nst y = true) : PE X (.Call (.Attribute (.Dict keys values dp) "get" ap) [y] [] pos) (RE T C n W (.dlit ks vs a none)) := by
  obtain ⟨p1, p2, p3, p4⟩ := lit_pps (X := X) (pos := dp) h1 h2 hl
  have m : M1 X (.Dict keys values dp) "get" ap y pos := ⟨rfl, few_one hy, hm, by rw [star_cons hy]; rfl⟩
  refine (pe_dget1 (by have := G.hu; omega) (pe_disp p1 p2 (by rw [p3, p4, hl]) (fun e => h0 (by cases ks; rfl; subst e; simp at p3)) (by rw [p3]; exact h15)) ha m).to fun σ H Q => ?_
  rintro ⟨e, F, R, q⟩
  refine rd_lit R h2 hl hn h15 fun p hp H1 t1 g1 => ⟨p, rfl, .inl ⟨_, .inl g1⟩, e, F, t1.sr, ?_⟩
  simp only [evE, tst_false] at q
  refine PostE.first0 (f := fun rx e1 => (evM T (callF T n) none e1).bd fun rd e2 => opt ((cont e2 rx).bind keyOf) fun k => match dlook ks vs k with
        | some y => .ok (.v y) e2
        | none => opt (frz e2 rd) fun (y, e3) => .ok (.v y) e3) (PostE.shift t1 q) fun rx e2 v2 F2 H2 t2 r2 q => ?_
  simp only [evM, bd_ok] at q
  obtain ⟨k, k1, q⟩ := q.opt
  obtain ⟨d, k1, k2⟩ := Option.bind_eq_some_iff.mp k1
  have hk := keyOf_V (cont_rep t2.sr r2 k1) k2
  have g2 := t2.keep _ _ g1 (fun q => own_lit R hp q)
  refine ⟨valV (ks.zip (vs.map toV)) k, by rw [hk]; exact DGet.k g2, ?_⟩
  have rl : RepL C F2 vs (vs.map toV) := repL_toV h2
  cases hd : dlook ks vs k with
  | some y =>
    rw [hd] at q
    obtain ⟨v, z1, z2⟩ := (dlook_val (k := k) hl rl).2 y hd
    rw [z1]
    exact q v F2 H2 t2 z2
  | none =>
    rw [hd] at q
    rw [dlook_none hl rl hd]
    exact q .non F2 H2 t2 (show Rep C F2 .non .non from rep_non)
theorem s_dlit2 (G : Good T C n W c X) {ks : List Key} {vs : List D} {a b : E} {keys : List (Option Expr)} {values : List Expr} {y z : Expr} {dp ap pos : Pos} (hm : mthB ap pos = true) (h1 : keyLs ks keys = true) (h2 : valLs vs values = true) (hn : ks.Nodup) (hl : ks.length = vs.length) (h15 : ks.length ≤ 15) (h0 : ks ≠ [])
    (ha : PE X y (RE T C n W a)) (hy : nst y = true) (hb : PE X z (RE T C n W b)) (hz : nst z = true) : PE X (.Call (.Attribute (.Dict keys values dp) "get" ap) [y, z] [] pos) (RE T C n W (.dlit ks vs a (some b))) := by
  obtain ⟨p1, p2, p3, p4⟩ := lit_pps (X := X) (pos := dp) h1 h2 hl
  have m : M2 X (.Dict keys values dp) "get" ap y z pos := ⟨rfl, by rw [star_cons hy, star_cons hz]; rfl, hm, by rw [star_cons hy, star_cons hz]; rfl⟩
  refine (pe_dget2 (by have := G.hu; omega) (pe_disp p1 p2 (by rw [p3, p4, hl]) (fun e => h0 (by cases ks; rfl; subst e; simp at p3)) (by rw [p3]; exact h15)) ha hb m).to fun σ H Q => ?_
  rintro ⟨e, F, R, q⟩
  refine rd_lit R h2 hl hn h15 fun p hp H1 t1 g1 => ⟨p, rfl, .inl ⟨_, .inl g1⟩, e, F, t1.sr, ?_⟩
  simp only [evE, tst_false] at q
  have q := PostE.shift t1 q
  revert q
  generalize evE T (callF T n) false a e = o
  intro q
  cases o with
  | exc c p e' => exact q
  | stuck => exact q
  | ok rx e2 =>
    intro v2 F2 H2 t2 r2
    refine ⟨e2, F2, t2.sr, ?_⟩
    simp only [evM, bd_ok] at q
    revert q
    generalize evE T (callF T n) false b e2 = o
    intro q
    cases o with
    | exc c p e' => exact fun F' H' t => q F' H' (t2.trans t)
    | stuck => exact q
    | ok rd e3 =>
      intro v3 F3 H3 t3 r3
      simp only [bd_ok] at q
      obtain ⟨k, k1, q⟩ := q.opt
      obtain ⟨d, k1, k2⟩ := Option.bind_eq_some_iff.mp k1
      have t23 := t2.trans t3
      have hk := keyOf_V (cont_rep t3.sr (r2.mono t3) k1) k2
      have g2 := t23.keep _ _ g1 (fun q => own_lit R hp q)
      refine ⟨valV (ks.zip (vs.map toV)) k, by rw [hk]; exact DGet.k g2, ?_⟩
      have rl : RepL C F3 vs (vs.map toV) := repL_toV h2
      cases hd : dlook ks vs k with
      | some y =>
        rw [hd] at q
        obtain ⟨v, z1, z2⟩ := (dlook_val (k := k) hl rl).2 y hd
        rw [z1]
        exact q v F3 H3 t23 z2
      | none =>
        rw [hd] at q
        rw [dlook_none hl rl hd]
        obtain ⟨⟨y, e4⟩, kf, q⟩ := PostE.opt (show PostE C W e F σ H1 (opt _ _) Q from q)
        obtain ⟨F4, t4, rp, _⟩ := frz_ok t23 (r3.back t2.there) kf
        exact q v3 F4 H3 t4 rp
end
end PL
end

section
namespace PL
open PySem PySem.Spec L2

/-! ## what the checker has seen -/
section
variable {c : CC} {x : Expr}
theorem inv_var {i : Nat} (h : trE c (.var i) x = true) : ∃ y p, x = .Name y p ∧ nmB c i y = true := by
  cases x <;> first | (simp only [trE] at h; cases h; done) | skip
  simp only [trE] at h
  exact ⟨_, _, rfl, h⟩
theorem inv_int {k : Int} (h : trE c (.int k) x = true) : ∃ z p, x = .Constant (.int k) z p := by
  cases x <;> first | (simp only [trE] at h; cases h; done) | skip
  rename_i v z p
  cases v <;> first | (simp only [trE] at h; cases h; done) | skip
  simp only [trE] at h
  exact ⟨_, _, by rw [of_decide_eq_true h]⟩
theorem inv_bl {k : Bool} (h : trE c (.bl k) x = true) : ∃ z p, x = .Constant (.bool k) z p := by
  cases x <;> first | (simp only [trE] at h; cases h; done) | skip
  rename_i v z p
  cases v <;> first | (simp only [trE] at h; cases h; done) | skip
  simp only [trE] at h
  exact ⟨_, _, by rw [of_decide_eq_true h]⟩
theorem inv_non (h : trE c .non x = true) : ∃ z p, x = .Constant .none z p := by
  cases x <;> first | (simp only [trE] at h; cases h; done) | skip
  rename_i v z p
  cases v <;> first | (simp only [trE] at h; cases h; done) | skip
  exact ⟨_, _, rfl⟩
theorem inv_str {k : Str} (h : trE c (.str k) x = true) : ∃ z p, x = .Constant (.str k) z p := by
  cases x <;> first | (simp only [trE] at h; cases h; done) | skip
  rename_i v z p
  cases v <;> first | (simp only [trE] at h; cases h; done) | skip
  simp only [trE] at h
  exact ⟨_, _, by rw [of_decide_eq_true h]⟩
theorem inv_con {k : Nat} (h : trE c (.con k) x = true) : ∃ y p, x = .Name y p ∧ c.cn[k]? = some y ∧ glB c.sc y = true := by
  cases x <;> first | (simp only [trE] at h; cases h; done) | skip
  simp only [trE, Bool.and_eq_true] at h
  exact ⟨_, _, rfl, of_decide_eq_true h.1, h.2⟩
theorem inv_dix {k : Nat} {a : E} (h : trE c (.dix k a) x = true) : ∃ y p z q, x = .Subscript (.Name y p) z q ∧ c.dn[k]? = some y ∧ glB c.sc y = true ∧ trE c a z = true := by
  cases x <;> first | (simp only [trE] at h; cases h; done) | skip
  rename_i v z p
  cases v <;> first | (simp only [trE] at h; cases h; done) | skip
  simp only [trE, Bool.and_eq_true] at h
  exact ⟨_, _, _, _, rfl, of_decide_eq_true h.1.1, h.1.2, h.2⟩
theorem inv_fnv {k : Nat} (h : trE c (.fnv k) x = true) : ∃ y p, x = .Name y p ∧ c.fn[k]? = some y ∧ glB c.sc y = true := by
  cases x <;> first | (simp only [trE] at h; cases h; done) | skip
  simp only [trE, Bool.and_eq_true] at h
  exact ⟨_, _, rfl, of_decide_eq_true h.1, h.2⟩
theorem inv_bin {o : Bop} {a b : E} (h : trE c (.bin o a b) x = true) : ∃ y z p, x = .BinOp y (opOf o) z p ∧ trE c a y = true ∧ trE c b z = true := by
  cases x <;> first | (simp only [trE] at h; cases h; done) | skip
  simp only [trE, Bool.and_eq_true] at h
  exact ⟨_, _, _, by rw [of_decide_eq_true h.1.1], h.1.2, h.2⟩
theorem inv_neg {a : E} (h : trE c (.neg a) x = true) : ∃ y p, x = .UnaryOp .USub y p ∧ trE c a y = true := by
  cases x <;> first | (simp only [trE] at h; cases h; done) | skip
  rename_i o y p
  cases o <;> first | (simp only [trE] at h; cases h; done) | skip
  simp only [trE] at h
  exact ⟨_, _, rfl, h⟩
theorem inv_not {a : E} (h : trE c (.not_ a) x = true) : ∃ y p, x = .UnaryOp .Not y p ∧ trE c a y = true := by
  cases x <;> first | (simp only [trE] at h; cases h; done) | skip
  rename_i o y p
  cases o <;> first | (simp only [trE] at h; cases h; done) | skip
  simp only [trE] at h
  exact ⟨_, _, rfl, h⟩
theorem inv_cmp {o : CmpOp} {a b : E} (h : trE c (.cmp o a b) x = true) : ∃ y z p, x = .Compare y [o] [z] p ∧ trE c a y = true ∧ trE c b z = true := by
  cases x <;> first | (simp only [trE] at h; cases h; done) | skip
  rename_i y os zs p
  match os, zs, h with
  | [o'], [z], h =>
    simp only [trE, Bool.and_eq_true] at h
    exact ⟨_, _, _, by rw [of_decide_eq_true h.1.1], h.1.2, h.2⟩
  | [], _, h => simp only [trE] at h; cases h
  | [_], [], h => simp only [trE] at h; cases h
  | [_], _ :: _ :: _, h => simp only [trE] at h; cases h
  | _ :: _ :: _, _, h => simp only [trE] at h; cases h
theorem inv_chain {o o2 : CmpOp} {a b d : E} (h : trE c (.chain o o2 a b d) x = true) : ∃ y z w p, x = .Compare y [o, o2] [z, w] p ∧ trE c a y = true ∧ trE c b z = true ∧ trE c d w = true := by
  cases x <;> first | (simp only [trE] at h; cases h; done) | skip
  rename_i y os zs p
  match os, zs, h with
  | [o', o2'], [z, w], h =>
    simp only [trE, Bool.and_eq_true] at h
    exact ⟨_, _, _, _, by rw [of_decide_eq_true h.1.1.1.1, of_decide_eq_true h.1.1.1.2], h.1.1.2, h.1.2, h.2⟩
  | [], _, h => simp only [trE] at h; cases h
  | [_], _, h => simp only [trE] at h; cases h
  | [_, _], [], h => simp only [trE] at h; cases h
  | [_, _], [_], h => simp only [trE] at h; cases h
  | [_, _], _ :: _ :: _ :: _, h => simp only [trE] at h; cases h
  | _ :: _ :: _ :: _, _, h => simp only [trE] at h; cases h
theorem inv_andor {k : Bool} {es : List E} (h : trE c (.andor k es) x = true) : ∃ xs p, x = .BoolOp (bopOf k) xs p ∧ trA c es xs = true := by
  cases x <;> first | (simp only [trE] at h; cases h; done) | skip
  simp only [trE, Bool.and_eq_true] at h
  exact ⟨_, _, by rw [← of_decide_eq_true h.1]; rfl, h.2⟩
theorem inv_ite {d a b : E} (h : trE c (.ite d a b) x = true) : ∃ y z w p, x = .IfExp y z w p ∧ trE c d y = true ∧ trE c a z = true ∧ trE c b w = true := by
  cases x <;> first | (simp only [trE] at h; cases h; done) | skip
  simp only [trE, Bool.and_eq_true] at h
  exact ⟨_, _, _, _, rfl, h.1.1, h.1.2, h.2⟩
theorem inv_tup {es : List E} (h : trE c (.tup es) x = true) : ∃ xs k p, x = .Tuple xs k p ∧ trA c es xs = true := by
  cases x <;> first | (simp only [trE] at h; cases h; done) | skip
  simp only [trE] at h
  exact ⟨_, _, _, rfl, h⟩
theorem inv_lst {es : List E} (h : trE c (.lst es) x = true) : ∃ xs p, x = .List xs p ∧ trA c es xs = true := by
  cases x <;> first | (simp only [trE] at h; cases h; done) | skip
  simp only [trE] at h
  exact ⟨_, _, rfl, h⟩
theorem inv_ix {a i : E} (h : trE c (.ix a i) x = true) : ∃ y z p, x = .Subscript y z p ∧ trE c a y = true ∧ trE c i z = true := by
  cases x <;> first | (simp only [trE] at h; cases h; done) | skip
  simp only [trE, Bool.and_eq_true] at h
  exact ⟨_, _, _, rfl, h.1, h.2⟩
theorem inv_sl {a : E} {lo hi : Option E} (h : trE c (.sl a lo hi) x = true) : ∃ y l u p2 p, x = .Subscript y (.Slice l u none p2) p ∧ trE c a y = true ∧ trO c lo l = true ∧ trO c hi u = true := by
  cases x <;> first | (simp only [trE] at h; cases h; done) | skip
  rename_i y z p
  cases z <;> first | (simp only [trE] at h; cases h; done) | skip
  rename_i l u st p2
  cases st <;> first | (simp only [trE] at h; cases h; done) | skip
  simp only [trE, Bool.and_eq_true] at h
  exact ⟨_, _, _, _, _, rfl, h.1.1, h.1.2, h.2⟩
theorem inv_rev {a : E} (h : trE c (.rev a) x = true) : ∃ y k p1 p2 p3 p, x = .Subscript y (.Slice none none (some (.UnaryOp .USub (.Constant (.int 1) k p1) p2)) p3) p ∧ trE c a y = true := by
  cases x <;> first | (simp only [trE] at h; cases h; done) | skip
  rename_i y z p
  cases z <;> first | (simp only [trE] at h; cases h; done) | skip
  rename_i l u st p3
  cases l <;> first | (simp only [trE] at h; cases h; done) | skip
  cases u <;> first | (simp only [trE] at h; cases h; done) | skip
  cases st <;> first | (simp only [trE] at h; cases h; done) | skip
  rename_i w
  cases w <;> first | (simp only [trE] at h; cases h; done) | skip
  rename_i o w p2
  cases o <;> first | (simp only [trE] at h; cases h; done) | skip
  cases w <;> first | (simp only [trE] at h; cases h; done) | skip
  rename_i v k p1
  cases v <;> first | (simp only [trE] at h; cases h; done) | skip
  simp only [trE, Bool.and_eq_true] at h
  exact ⟨_, _, _, _, _, _, by rw [of_decide_eq_true h.2], h.1⟩
theorem inv_call {g : Nat} {es : List E} (h : trE c (.call g es) x = true) : ∃ y q xs p, x = .Call (.Name y q) xs [] p ∧ c.fn[g]? = some y ∧ glB c.sc y = true ∧ c.calm = true ∧ trA c es xs = true := by
  cases x <;> first | (simp only [trE] at h; cases h; done) | skip
  rename_i f xs kws p
  cases f <;> first | (simp only [trE] at h; cases h; done) | skip
  cases kws <;> first | (simp only [trE] at h; cases h; done) | skip
  simp only [trE, Bool.and_eq_true] at h
  exact ⟨_, _, _, _, rfl, of_decide_eq_true h.1.1.1, h.1.1.2, h.1.2, h.2⟩
theorem inv_callk {g : Nat} {es ws : List E} {ks : List Str} (h : trE c (.callk g es ks ws) x = true) : ∃ y q xs kws p, x = .Call (.Name y q) xs kws p ∧ c.fn[g]? = some y ∧ glB c.sc y = true ∧ c.calm = true ∧ trA c es xs = true ∧ trK c ks ws kws = true ∧ c.kw.contains (g, ks, es.length) = true := by
  cases x <;> first | (simp only [trE] at h; cases h; done) | skip
  rename_i f xs kws p
  cases f <;> first | (simp only [trE] at h; cases h; done) | skip
  simp only [trE, Bool.and_eq_true] at h
  exact ⟨_, _, _, _, _, rfl, of_decide_eq_true h.1.1.1.1.1, h.1.1.1.1.2, h.1.1.1.2, h.1.1.2, h.1.2, h.2⟩
theorem inv_calld {i : Nat} {es : List E} (h : trE c (.calld i es) x = true) : ∃ y q xs p, x = .Call (.Name y q) xs [] p ∧ nmB c i y = true ∧ c.calm = true ∧ trA c es xs = true := by
  cases x <;> first | (simp only [trE] at h; cases h; done) | skip
  rename_i f xs kws p
  cases f <;> first | (simp only [trE] at h; cases h; done) | skip
  cases kws <;> first | (simp only [trE] at h; cases h; done) | skip
  simp only [trE, Bool.and_eq_true] at h
  exact ⟨_, _, _, _, rfl, h.1.1.1, h.1.1.2, h.2⟩
theorem inv_bi {b : Bi} {es : List E} (h : trE c (.bi b es) x = true) : ∃ y q xs p, x = .Call (.Name y q) xs [] p ∧ y = Str.ofString (biNm b) ∧ glB c.sc y = true ∧ c.calm = true ∧ es.isEmpty = false ∧ (c.gcd || b != .gcd) = true ∧ trA c es xs = true := by
  cases x <;> first | (simp only [trE] at h; cases h; done) | skip
  rename_i f xs kws p
  cases f <;> first | (simp only [trE] at h; cases h; done) | skip
  cases kws <;> first | (simp only [trE] at h; cases h; done) | skip
  simp only [trE, Bool.and_eq_true] at h
  exact ⟨_, _, _, _, rfl, of_decide_eq_true h.1.1.1.1.1, h.1.1.1.1.2, h.1.1.1.2, by simpa using h.1.1.2, h.1.2, h.2⟩
end
end PL
end

section
namespace PL
open PySem PySem.Spec L2

section
variable {c : CC} {x : Expr}
theorem inv_isi {a : E} {cs : List String} (h : trE c (.isi a cs) x = true) : (∃ s q y z zp p, cs = [s] ∧ x = .Call (.Name "isinstance" q) [y, .Name z zp] [] p ∧ glB c.sc "isinstance" = true ∧ trE c a y = true ∧ glB c.sc z = true ∧ z = Str.ofString s ∧ tyOk.contains s = true) ∨
    ∃ q y zs k zp p, x = .Call (.Name "isinstance" q) [y, .Tuple zs k zp] [] p ∧ glB c.sc "isinstance" = true ∧ trE c a y = true ∧ gNames c zs = true ∧ tyNames cs zs = true ∧ cs.all tyOk.contains = true ∧ cs.length ≤ 100 := by
  cases x <;> first | (simp only [trE] at h; cases h; done) | skip
  rename_i f xs kws p
  cases f <;> first | (simp only [trE] at h; cases h; done) | skip
  rename_i fn fp
  match xs, kws, h with
  | [y, z], [], h =>
    match cs, h with
    | [s], h =>
      simp only [trE, Bool.and_eq_true] at h
      obtain ⟨⟨⟨⟨⟨h1, h2⟩, h3⟩, h4⟩, h5⟩, h6⟩ := h
      cases z <;> first | (simp only [tyName] at h5; cases h5; done) | skip
      simp only [gNames, Bool.and_eq_true] at h4
      have e := of_decide_eq_true h1
      subst e
      exact .inl ⟨s, _, _, _, _, _, rfl, rfl, h2, h3, h4.1, of_decide_eq_true h5, h6⟩
    | [], h =>
      cases z <;> first | (simp only [trE] at h; cases h; done) | skip
      simp only [trE, Bool.and_eq_true] at h
      obtain ⟨⟨⟨⟨⟨⟨h1, h2⟩, h3⟩, h4⟩, h5⟩, h6⟩, h7⟩ := h
      have e := of_decide_eq_true h1
      subst e
      exact .inr ⟨_, _, _, _, _, _, rfl, h2, h3, h4, h5, h6, of_decide_eq_true h7⟩
    | s :: s' :: cs, h =>
      cases z <;> first | (simp only [trE] at h; cases h; done) | skip
      simp only [trE, Bool.and_eq_true] at h
      obtain ⟨⟨⟨⟨⟨⟨h1, h2⟩, h3⟩, h4⟩, h5⟩, h6⟩, h7⟩ := h
      have e := of_decide_eq_true h1
      subst e
      exact .inr ⟨_, _, _, _, _, _, rfl, h2, h3, h4, h5, h6, of_decide_eq_true h7⟩
  | [], _, h => simp only [trE] at h; cases h
  | [_], _, h => simp only [trE] at h; cases h
  | _ :: _ :: _ :: _, _, h => simp only [trE] at h; cases h
  | [_, _], _ :: _, h => simp only [trE] at h; cases h
theorem inv_dnew {t : Bool} (h : trE c (.dnew t) x = true) : ∃ p, x = .Dict [] [] p := by
  cases x <;> first | (simp only [trE] at h; cases h; done) | skip
  rename_i ks vs p
  match ks, vs, h with
  | [], [], h => exact ⟨_, rfl⟩
  | _ :: _, _, h => simp only [trE] at h; cases h
  | [], _ :: _, h => simp only [trE] at h; cases h
theorem inv_app {i : Nat} {a : E} (h : trE c (.app i a) x = true) : ∃ z xp ap y p, x = .Call (.Attribute (.Name z xp) "append" ap) [y] [] p ∧ nmB c i z = true ∧ mthB ap p = true ∧ trE c a y = true := by
  cases x <;> first | (simp only [trE] at h; cases h; done) | skip
  rename_i f xs kws p
  cases f <;> first | (simp only [trE] at h; cases h; done) | skip
  rename_i o m ap
  cases o <;> first | (simp only [trE] at h; cases h; done) | skip
  match xs, kws, h with
  | [y], [], h =>
    simp only [trE, Bool.and_eq_true] at h
    have e := of_decide_eq_true h.1.1.2
    subst e
    exact ⟨_, _, _, _, _, rfl, h.1.1.1, h.1.2, h.2⟩
  | [], _, h => simp only [trE] at h; cases h
  | _ :: _ :: _, _, h => simp only [trE] at h; cases h
  | [_], _ :: _, h => simp only [trE] at h; cases h
theorem inv_ext {i : Nat} {a : E} (h : trE c (.ext i a) x = true) : ∃ z xp ap y p, x = .Call (.Attribute (.Name z xp) "extend" ap) [y] [] p ∧ nmB c i z = true ∧ mthB ap p = true ∧ trE c a y = true := by
  cases x <;> first | (simp only [trE] at h; cases h; done) | skip
  rename_i f xs kws p
  cases f <;> first | (simp only [trE] at h; cases h; done) | skip
  rename_i o m ap
  cases o <;> first | (simp only [trE] at h; cases h; done) | skip
  match xs, kws, h with
  | [y], [], h =>
    simp only [trE, Bool.and_eq_true] at h
    have e := of_decide_eq_true h.1.1.2
    subst e
    exact ⟨_, _, _, _, _, rfl, h.1.1.1, h.1.2, h.2⟩
  | [], _, h => simp only [trE] at h; cases h
  | _ :: _ :: _, _, h => simp only [trE] at h; cases h
  | [_], _ :: _, h => simp only [trE] at h; cases h
theorem inv_popat {i : Nat} {a : E} (h : trE c (.popat i a) x = true) : ∃ z xp ap y p, x = .Call (.Attribute (.Name z xp) "pop" ap) [y] [] p ∧ nmB c i z = true ∧ mthB ap p = true ∧ trE c a y = true := by
  cases x <;> first | (simp only [trE] at h; cases h; done) | skip
  rename_i f xs kws p
  cases f <;> first | (simp only [trE] at h; cases h; done) | skip
  rename_i o m ap
  cases o <;> first | (simp only [trE] at h; cases h; done) | skip
  match xs, kws, h with
  | [y], [], h =>
    simp only [trE, Bool.and_eq_true] at h
    have e := of_decide_eq_true h.1.1.2
    subst e
    exact ⟨_, _, _, _, _, rfl, h.1.1.1, h.1.2, h.2⟩
  | [], _, h => simp only [trE] at h; cases h
  | _ :: _ :: _, _, h => simp only [trE] at h; cases h
  | [_], _ :: _, h => simp only [trE] at h; cases h
theorem inv_pop {i : Nat} (h : trE c (.pop i) x = true) : ∃ z xp ap p, x = .Call (.Attribute (.Name z xp) "pop" ap) [] [] p ∧ nmB c i z = true ∧ mthB ap p = true := by
  cases x <;> first | (simp only [trE] at h; cases h; done) | skip
  rename_i f xs kws p
  cases f <;> first | (simp only [trE] at h; cases h; done) | skip
  rename_i o m ap
  cases o <;> first | (simp only [trE] at h; cases h; done) | skip
  match xs, kws, h with
  | [], [], h =>
    simp only [trE, Bool.and_eq_true] at h
    have e := of_decide_eq_true h.1.2
    subst e
    exact ⟨_, _, _, _, rfl, h.1.1, h.2⟩
  | _ :: _, _, h => simp only [trE] at h; cases h
  | [], _ :: _, h => simp only [trE] at h; cases h
theorem inv_comp {own : List Nat} {it : It} {tg : Tg} {cond : Option E} {elt : E} (h : trE c (.comp own it tg cond elt) x = true) : ∃ y t i ifs scope p, x = .ListComp y [⟨t, i, ifs, 0⟩] scope p ∧ c.calm = true ∧ blkC c.N c.sc scope (ownP c own) = true ∧ trI c it i = true ∧ (tgIx tg).all own.contains = true ∧
    trTg (blkCC c scope) tg t = true ∧ itTup it tg = true ∧ trC (blkCC c scope) cond ifs = true ∧ trE (blkCC c scope) elt y = true := by
  cases x <;> first | (simp only [trE] at h; cases h; done) | skip
  rename_i y gs scope p
  match gs, h with
  | [⟨t, i, ifs, z⟩], h =>
    by_cases hz : z = 0
    · subst hz
      simp only [trE, Bool.and_eq_true] at h
      obtain ⟨⟨⟨⟨⟨⟨⟨h1, h2⟩, h3⟩, h4⟩, h5⟩, h6⟩, h7⟩, h8⟩ := h
      exact ⟨_, _, _, _, _, _, rfl, h1, h2, h3, h4, h5, h6, h7, h8⟩
    · exfalso
      unfold trE at h
      split at h
      all_goals first | (cases h; done) | (rename_i q; cases q; exact hz rfl) | (rename_i q _ ; cases q; exact hz rfl) | simp_all
  | [], h => simp only [trE] at h; cases h
  | _ :: _ :: _, h => simp only [trE] at h; cases h
theorem inv_isx {i k : Nat} {o : Bool} (h : trE c (.isx i k o) x = true) : False := by
  cases x <;> (simp only [trE] at h; cases h)
theorem inv_dlit {ks : List Key} {vs : List D} {a : E} {d : Option E} (h : trE c (.dlit ks vs a d) x = true) : ∃ keys values dp ap y r p, x = .Call (.Attribute (.Dict keys values dp) "get" ap) (y :: r) [] p ∧ mthB ap p = true ∧ keyLs ks keys = true ∧ valLs vs values = true ∧ ks.Nodup ∧ ks.length = vs.length ∧ ks.length ≤ 15 ∧ ks ≠ [] ∧ trE c a y = true ∧ trC c d r = true := by
  cases x <;> first | (simp only [trE] at h; cases h; done) | skip
  rename_i f xs kws p
  cases f <;> first | (simp only [trE] at h; cases h; done) | skip
  rename_i o m ap
  cases o <;> first | (simp only [trE] at h; cases h; done) | skip
  match xs, kws, h with
  | y :: r, [], h =>
    simp only [trE, Bool.and_eq_true, decide_eq_true_eq] at h
    obtain ⟨⟨⟨⟨⟨⟨⟨⟨⟨h1, h2⟩, h3⟩, h4⟩, h5⟩, h6⟩, h7⟩, h8⟩, h9⟩, h10⟩ := h
    subst h1
    exact ⟨_, _, _, _, _, _, _, rfl, h2, h3, h4, h5, h6, h7, (by intro e; subst e; simp at h8), h9, h10⟩
  | [], _, h => simp only [trE] at h; cases h
  | _ :: _, _ :: _, h => simp only [trE] at h; cases h
/-! iterables -/
theorem inv_rng {es : List E} (h : trI c (.rng es) x = true) : ∃ q xs p, x = .Call (.Name "range" q) xs [] p ∧ glB c.sc "range" = true ∧ trA c es xs = true ∧ (xs.length == 1 || xs.length == 2) = true := by
  cases x <;> first | (simp only [trI] at h; cases h; done) | skip
  rename_i f xs kws p
  cases f <;> first | (simp only [trI] at h; cases h; done) | skip
  cases kws <;> first | (simp only [trI] at h; cases h; done) | skip
  simp only [trI, Bool.and_eq_true] at h
  have e := of_decide_eq_true h.1.1.1
  subst e
  exact ⟨_, _, _, rfl, h.1.1.2, h.1.2, h.2⟩
theorem inv_zip {es : List E} (h : trI c (.zip es) x = true) : ∃ q xs p, x = .Call (.Name "zip" q) xs [] p ∧ glB c.sc "zip" = true ∧ trA c es xs = true ∧ (xs.length == 2) = true := by
  cases x <;> first | (simp only [trI] at h; cases h; done) | skip
  rename_i f xs kws p
  cases f <;> first | (simp only [trI] at h; cases h; done) | skip
  cases kws <;> first | (simp only [trI] at h; cases h; done) | skip
  simp only [trI, Bool.and_eq_true] at h
  have e := of_decide_eq_true h.1.1.1
  subst e
  exact ⟨_, _, _, rfl, h.1.1.2, h.1.2, h.2⟩
theorem inv_enum {a : E} (h : trI c (.enum a) x = true) : ∃ q y p, x = .Call (.Name "enumerate" q) [y] [] p ∧ glB c.sc "enumerate" = true ∧ trE c a y = true := by
  cases x <;> first | (simp only [trI] at h; cases h; done) | skip
  rename_i f xs kws p
  cases f <;> first | (simp only [trI] at h; cases h; done) | skip
  match xs, kws, h with
  | [y], [], h =>
    simp only [trI, Bool.and_eq_true] at h
    have e := of_decide_eq_true h.1.1
    subst e
    exact ⟨_, _, _, rfl, h.1.2, h.2⟩
  | [], _, h => simp only [trI] at h; cases h
  | _ :: _ :: _, _, h => simp only [trI] at h; cases h
  | [_], _ :: _, h => simp only [trI] at h; cases h
end
end PL
end

section
namespace PL
open PySem PySem.Spec L2

section
variable {c : CC} {x : Expr}
theorem tr_nst {a : E} (h : trE c a x = true) : nst x = true := by
  cases x <;> first | rfl | (exfalso; cases a <;> (simp only [trE] at h; cases h))
theorem tr_set {a : E} (h : trE c a x = true) : isSetE x = false := by
  cases x <;> first | rfl | (exfalso; cases a <;> (simp only [trE] at h; cases h))
def isSl : Expr → Bool
  | .Slice .. => true
  | _ => false
theorem tr_slice {a : E} (h : trE c a x = true) : isSl x = false := by
  cases x <;> first | rfl | (exfalso; cases a <;> (simp only [trE] at h; cases h))
theorem marks_no {o : CmpOp} (h : isSetE x = false) : behindInMarks o x = false := by
  cases x <;> first | rfl | cases h
theorem plain_ix (h : isSl x = false) : PlainIx x := fun o i => by
  cases x <;> first | rfl | cases h
theorem tr_len : ∀ {as : List E} {xs : List Expr}, trA c as xs = true → as.length = xs.length ∧ xs.all nst = true
  | [], [], _ => ⟨rfl, rfl⟩
  | a :: as, x :: xs, h => by
    simp only [trA, Bool.and_eq_true] at h
    obtain ⟨h1, h2⟩ := tr_len h.2
    exact ⟨by simp [h1], by rw [List.all_cons, tr_nst h.1, h2]; rfl⟩
  | [], _ :: _, h => by simp only [trA] at h; cases h
  | _ :: _, [], h => by simp only [trA] at h; cases h
theorem trK_names : ∀ {ks : List Str} {as : List E} {kws : List Keyword}, trK c ks as kws = true → kwNames kws ks = true ∧ as.length = ks.length
  | [], [], [], _ => ⟨rfl, rfl⟩
  | k :: ks, a :: as, ⟨some n, x, p⟩ :: kws, h => by
    simp only [trK, Bool.and_eq_true] at h
    obtain ⟨h1, h2⟩ := trK_names h.2
    refine ⟨?_, by simp [h2]⟩
    simp only [kwNames, Bool.and_eq_true]
    exact ⟨h.1.1, h1⟩
  | [], [], _ :: _, h => by simp only [trK] at h; cases h
  | [], _ :: _, _, h => by simp only [trK] at h; cases h
  | _ :: _, [], _, h => by simp only [trK] at h; cases h
  | _ :: _, _ :: _, [], h => by simp only [trK] at h; cases h
  | _ :: _, _ :: _, ⟨none, _, _⟩ :: _, h => by simp only [trK] at h; cases h
theorem inv_tp {is : List Nat} (h : trTg c (.tp is) x = true) : ∃ xs k p, x = .Tuple xs k p := by
  cases x <;> first | (simp only [trTg] at h; cases h; done) | exact ⟨_, _, _, rfl⟩
end
variable {T : GT} {C : G0} {n : Nat}
mutual
theorem s_E : ∀ (a : E) {c : CC} {W : WX} {X : Cx} (G : Good T C n W c X) {x : Expr} (h : trE c a x = true), PE X x (RE T C n W a) ∧ PT X x (RT T C n W a)
  | .var i, c, W, X, G, x, h => by
    obtain ⟨y, p, rfl, h⟩ := inv_var h
    exact ⟨s_var G h, s_plain G (s_var G h) (fun _ => rfl) fun _ => rfl⟩
  | .int k, c, W, X, G, x, h => by
    obtain ⟨z, p, rfl⟩ := inv_int h
    exact ⟨s_int, s_plain G s_int (fun _ => rfl) fun _ => rfl⟩
  | .bl k, c, W, X, G, x, h => by
    obtain ⟨z, p, rfl⟩ := inv_bl h
    exact ⟨s_bl, s_plain G s_bl (fun _ => rfl) fun _ => rfl⟩
  | .non, c, W, X, G, x, h => by
    obtain ⟨z, p, rfl⟩ := inv_non h
    exact ⟨s_non, s_plain G s_non (fun _ => rfl) fun _ => rfl⟩
  | .str k, c, W, X, G, x, h => by
    obtain ⟨z, p, rfl⟩ := inv_str h
    exact ⟨s_str, s_plain G s_str (fun _ => rfl) fun _ => rfl⟩
  | .con k, c, W, X, G, x, h => by
    obtain ⟨y, p, rfl, h1, h2⟩ := inv_con h
    exact ⟨s_con G h1 h2, s_plain G (s_con G h1 h2) (fun _ => rfl) fun _ => rfl⟩
  | .fnv k, c, W, X, G, x, h => by
    obtain ⟨y, p, rfl, h1, h2⟩ := inv_fnv h
    exact ⟨s_fnv G h1 h2, s_plain G (s_fnv G h1 h2) (fun _ => rfl) fun _ => rfl⟩
  | .bin o a b, c, W, X, G, x, h => by
    obtain ⟨y, z, p, rfl, h1, h2⟩ := inv_bin h
    have k := s_bin (pos := p) G (o := o) (s_E a G h1).1 (s_E b G h2).1
    exact ⟨k, s_plain G k (fun _ => rfl) fun _ => rfl⟩
  | .neg a, c, W, X, G, x, h => by
    obtain ⟨y, p, rfl, h1⟩ := inv_neg h
    have k := s_neg (pos := p) (s_E a G h1).1
    exact ⟨k, s_plain G k (fun _ => rfl) fun _ => rfl⟩
  | .cmp o a b, c, W, X, G, x, h => by
    obtain ⟨y, z, p, rfl, h1, h2⟩ := inv_cmp h
    exact s_cmp G (s_E a G h1).1 (s_E b G h2).1 (marks_no (tr_set h2))
  | .chain o o2 a b d, c, W, X, G, x, h => by
    obtain ⟨y, z, w, p, rfl, h1, h2, h3⟩ := inv_chain h
    exact s_chain G (s_E a G h1).1 (s_E b G h2).1 (s_E d G h3).1 (marks_no (tr_set h3))
  | .andor k es, c, W, X, G, x, h => by
    obtain ⟨xs, p, rfl, h1⟩ := inv_andor h
    by_cases he : es = []
    · subst he
      have e0 : ∀ m e, evE T (callF T n) m (.andor k []) e = .stuck := fun m e => rfl
      refine ⟨?_, t_no (e0 true)⟩
      exact PE.to (t := fun _ _ _ => False) ⟨fun _ _ _ _ _ _ q => q.elim⟩ fun σ H Q ⟨e, F, R, q⟩ => by rw [e0] at q; exact q
    · obtain ⟨k1, k2⟩ := s_V es k p G h1 he
      exact ⟨k1, k2.pt⟩
  | .not_ a, c, W, X, G, x, h => by
    obtain ⟨y, p, rfl, h1⟩ := inv_not h
    obtain ⟨k1, k2⟩ := s_E a G h1
    exact ⟨s_not G k1, t_not k2⟩
  | .ite d a b, c, W, X, G, x, h => by
    obtain ⟨y, z, w, p, rfl, h1, h2, h3⟩ := inv_ite h
    exact ⟨s_ite (s_E d G h1).2 (s_E a G h2).1 (s_E b G h3).1, t_no fun _ => rfl⟩
  | .tup es, c, W, X, G, x, h => by
    obtain ⟨xs, k, p, rfl, h1⟩ := inv_tup h
    have k := s_tup (x1 := k) (pos := p) (s_A es G h1)
    exact ⟨k, s_plain G k (fun _ => rfl) fun _ => rfl⟩
  | .lst es, c, W, X, G, x, h => by
    obtain ⟨xs, p, rfl, h1⟩ := inv_lst h
    have k := s_lst (pos := p) (s_A es G h1)
    exact ⟨k, s_plain G k (fun _ => rfl) fun _ => rfl⟩
  | .ix a i, c, W, X, G, x, h => by
    obtain ⟨y, z, p, rfl, h1, h2⟩ := inv_ix h
    have k := s_ix (pos := p) G (s_E a G h1).1 (s_E i G h2).1 (plain_ix (tr_slice h2))
    exact ⟨k, s_plain G k (fun _ => rfl) fun _ => rfl⟩
  | .dix k i, c, W, X, G, x, h => by
    obtain ⟨y, p1, z, p, rfl, h1, h2, h3⟩ := inv_dix h
    have k := s_dix (p := p1) (pos := p) G h1 h2 (s_E i G h3).1 (plain_ix (tr_slice h3))
    exact ⟨k, s_plain G k (fun _ => rfl) fun _ => rfl⟩
  | .sl a lo hi, c, W, X, G, x, h => by
    obtain ⟨y, l, u, p2, p, rfl, h1, h2, h3⟩ := inv_sl h
    have k := s_sl (p2 := p2) (pos := p) G (s_E a G h1).1 (s_O lo G h2) (s_O hi G h3)
    exact ⟨k, s_plain G k (fun _ => rfl) fun _ => rfl⟩
  | .rev a, c, W, X, G, x, h => by
    obtain ⟨y, k, p1, p2, p3, p, rfl, h1⟩ := inv_rev h
    have k := s_rev (k := k) (p1 := p1) (p2 := p2) (p3 := p3) (pos := p) G (s_E a G h1).1
    exact ⟨k, s_plain G k (fun _ => rfl) fun _ => rfl⟩
  | .call g es, c, W, X, G, x, h => by
    obtain ⟨y, q, xs, p, rfl, h1, h2, h3, h4⟩ := inv_call h
    obtain ⟨l1, l2⟩ := tr_len h4
    have k := s_call (p := q) (pos := p) G h3 h1 h2 (s_A es G h4) l2 l1
    exact ⟨k, s_plain G k (fun _ => rfl) fun _ => rfl⟩
  | .callk g es ks ws, c, W, X, G, x, h => by
    obtain ⟨y, q, xs, kws, p, rfl, h1, h2, h3, h4, h5, h6⟩ := inv_callk h
    obtain ⟨l1, l2⟩ := tr_len h4
    obtain ⟨l3, l4⟩ := trK_names h5
    have k := s_callk (p := q) (pos := p) G h3 h1 h2 (s_A es G h4) l2 l1 (s_K ws G h5) l3 l4 (List.contains_iff_mem.mp h6)
    exact ⟨k, s_plain G k (fun _ => rfl) fun _ => rfl⟩
  | .calld i es, c, W, X, G, x, h => by
    obtain ⟨y, q, xs, p, rfl, h1, h2, h3⟩ := inv_calld h
    obtain ⟨l1, l2⟩ := tr_len h3
    have k := s_calld (p := q) (pos := p) G h2 h1 (s_A es G h3) l2 l1
    exact ⟨k, s_plain G k (fun _ => rfl) fun _ => rfl⟩
  | .bi b es, c, W, X, G, x, h => by
    obtain ⟨y, q, xs, p, rfl, h1, h2, h3, h4, h5, h6⟩ := inv_bi h
    obtain ⟨l1, l2⟩ := tr_len h6
    cases xs with
    | nil => cases es <;> simp at h4 l1
    | cons z zs =>
      have l3 := l2
      rw [List.all_cons, Bool.and_eq_true] at l3
      have k := s_bi (a := .non) (p := q) (pos := p) G h1 h2 h3 (fun e => by subst e; simpa using h5) (s_A es G h6) (star_cons l3.1) (star_any l3.2)
      exact ⟨k, s_plain G k (fun _ => rfl) fun _ => rfl⟩
  | .isi a cs, c, W, X, G, x, h => by
    rcases inv_isi h with ⟨s, q, y, z, zp, p, rfl, rfl, h1, h2, h3, h4, h5⟩ | ⟨q, y, zs, k, zp, p, rfl, h1, h2, h3, h4, h5, h6⟩
    · have k := s_isi1 (zp := zp) (p := q) (pos := p) G (s_E a G h2).1 (tr_nst h2) h1 h5 h4 h3
      exact ⟨k, s_plain G k (fun _ => rfl) fun _ => rfl⟩
    · have k := s_isiT (k := k) (zp := zp) (p := q) (pos := p) G (s_E a G h2).1 (tr_nst h2) h1 h4 h3 h6 h5
      exact ⟨k, s_plain G k (fun _ => rfl) fun _ => rfl⟩
  | .isx i k o, c, W, X, G, x, h => (inv_isx h).elim
  | .dnew t, c, W, X, G, x, h => by
    obtain ⟨p, rfl⟩ := inv_dnew h
    have k : PE X (.Dict [] [] p) (RE T C n W (.dnew t)) := s_dnew
    exact ⟨k, s_plain G k (fun _ => rfl) fun _ => rfl⟩
  | .dlit ks vs a none, c, W, X, G, x, h => by
    obtain ⟨keys, values, dp, ap, y, r, p, rfl, h1, h2, h3, h4, h5, h6, h7, h8, h9⟩ := inv_dlit h
    cases r with
    | cons _ _ => simp only [trC] at h9; cases h9
    | nil =>
      have k := s_dlit1 (dp := dp) G h1 h2 h3 h4 h5 h6 h7 (s_E a G h8).1 (tr_nst h8)
      exact ⟨k, s_plain G k (fun _ => rfl) fun _ => rfl⟩
  | .dlit ks vs a (some b), c, W, X, G, x, h => by
    obtain ⟨keys, values, dp, ap, y, r, p, rfl, h1, h2, h3, h4, h5, h6, h7, h8, h9⟩ := inv_dlit h
    match r, h9 with
    | [z], h9 =>
      simp only [trC] at h9
      have k := s_dlit2 (dp := dp) G h1 h2 h3 h4 h5 h6 h7 (s_E a G h8).1 (tr_nst h8) (s_E b G h9).1 (tr_nst h9)
      exact ⟨k, s_plain G k (fun _ => rfl) fun _ => rfl⟩
    | [], h9 => simp only [trC] at h9; cases h9
    | _ :: _ :: _, h9 => simp only [trC] at h9; cases h9
  | .app i a, c, W, X, G, x, h => by
    obtain ⟨z, xp, ap, y, p, rfl, h1, h2, h3⟩ := inv_app h
    have k := s_app (xp := xp) G h1 h2 (s_E a G h3).1 (tr_nst h3)
    exact ⟨k, s_plain G k (fun _ => rfl) fun _ => rfl⟩
  | .ext i a, c, W, X, G, x, h => by
    obtain ⟨z, xp, ap, y, p, rfl, h1, h2, h3⟩ := inv_ext h
    have k := s_ext (xp := xp) G h1 h2 (s_E a G h3).1 (tr_nst h3)
    exact ⟨k, s_plain G k (fun _ => rfl) fun _ => rfl⟩
  | .pop i, c, W, X, G, x, h => by
    obtain ⟨z, xp, ap, p, rfl, h1, h2⟩ := inv_pop h
    have k : PE X _ (RE T C n W (.pop i)) := s_pop (xp := xp) G h1 h2
    exact ⟨k, s_plain G k (fun _ => rfl) fun _ => rfl⟩
  | .popat i a, c, W, X, G, x, h => by
    obtain ⟨z, xp, ap, y, p, rfl, h1, h2, h3⟩ := inv_popat h
    have k := s_popat (xp := xp) G h1 h2 (s_E a G h3).1 (tr_nst h3)
    exact ⟨k, s_plain G k (fun _ => rfl) fun _ => rfl⟩
  | .comp own it tg cond elt, c, W, X, G, x, h => by
    obtain ⟨y, t, i, ifs, scope, p, rfl, h1, h2, h3, h4, h5, h6, h7, h8⟩ := inv_comp h
    obtain ⟨k1, k2⟩ := s_I it (tg := tg) (t := t) G h3 ⟨_, h5⟩ h6
    have hown : (ownP c own).map (·.2) = own := by
      unfold ownP
      rw [List.map_map]
      exact (List.map_congr_left (g := id) fun _ _ => rfl).trans (List.map_id _)
    have k : PE X (.ListComp y [⟨t, i, ifs, 0⟩] scope p) (RE T C n W (.comp own it tg cond elt)) := by
      refine (pe_lc (own := ownP c own) (G.cm h1) (by rw [G.N]; exact G.nd) k1 (blkOk_by (by rw [G.N, G.sc]; exact h2)) (fun s H C' cl fp => s_tg (G.blk scope s H cl C' fp) h1 h5)
        (fun s H C' cl fp => s_C cond (G.blk scope s H cl C' fp) h7) (fun s H C' cl fp => (s_E elt (G.blk scope s H cl C' fp) h8).1) (folded_no k2)).to fun σ H Q q => ?_
      rw [hown]
      exact rd_comp h4 q
    exact ⟨k, s_plain G k (fun _ => rfl) fun _ => rfl⟩
theorem s_A : ∀ (as : List E) {c : CC} {W : WX} {X : Cx} (G : Good T C n W c X) {xs : List Expr} (h : trA c as xs = true), PA X xs (RA T C n W as)
  | [], c, W, X, G, [], h => s_nil
  | a :: as, c, W, X, G, x :: xs, h => by
    simp only [trA, Bool.and_eq_true] at h
    exact s_cons (s_E a G h.1).1 (s_A as G h.2) (star_cons (tr_nst h.1))
  | [], _, _, _, _, _ :: _, h => by simp only [trA] at h; cases h
  | _ :: _, _, _, _, _, [], h => by simp only [trA] at h; cases h
theorem s_K : ∀ (as : List E) {c : CC} {W : WX} {X : Cx} (G : Good T C n W c X) {ks : List Str} {kws : List Keyword} (h : trK c ks as kws = true), PK X kws (RA T C n W as)
  | [], c, W, X, G, [], [], h => s_knil
  | a :: as, c, W, X, G, k :: ks, ⟨some m, x, p⟩ :: kws, h => by
    simp only [trK, Bool.and_eq_true] at h
    exact s_kcons (s_E a G h.1.2).1 (s_K as G h.2)
  | [], _, _, _, _, [], _ :: _, h => by simp only [trK] at h; cases h
  | [], _, _, _, _, _ :: _, _, h => by simp only [trK] at h; cases h
  | _ :: _, _, _, _, _, [], _, h => by simp only [trK] at h; cases h
  | _ :: _, _, _, _, _, _ :: _, [], h => by simp only [trK] at h; cases h
  | _ :: _, _, _, _, _, _ :: _, ⟨none, _, _⟩ :: _, h => by simp only [trK] at h; cases h
theorem s_V : ∀ (as : List E) (k : Bool) (p : Pos) {c : CC} {W : WX} {X : Cx} (G : Good T C n W c X) {xs : List Expr} (h : trA c as xs = true) (he : as ≠ []), PE X (.BoolOp (bopOf k) xs p) (RE T C n W (.andor k as)) ∧ PW X (.BoolOp (bopOf k) xs p) (RT T C n W (.andor k as))
  | [], _, _, _, _, _, _, _, _, he => absurd rfl he
  | a :: as, k, p, c, W, X, G, x :: xs, h, he => by
    simp only [trA, Bool.and_eq_true] at h
    obtain ⟨k1, k2⟩ := s_E a G h.1
    cases as with
    | nil =>
      cases xs with
      | nil => exact ⟨s_andor1 k1, t_andor1 k2⟩
      | cons _ _ => simp only [trA] at h; cases h.2
    | cons b bs =>
      cases xs with
      | nil => simp only [trA] at h; cases h.2
      | cons y ys =>
        obtain ⟨m1, m2⟩ := s_V (b :: bs) k p G h.2 (by simp)
        exact ⟨s_andor G k1 m1, t_andor k2 m2⟩
  | _ :: _, _, _, _, _, _, _, [], h, _ => by simp only [trA] at h; cases h
theorem s_O : ∀ (a : Option E) {c : CC} {W : WX} {X : Cx} (G : Good T C n W c X) {x : Option Expr} (h : trO c a x = true), PO X x (RO T C n W a)
  | none, c, W, X, G, none, h => s_po0
  | some a, c, W, X, G, some x, h => by
    simp only [trO] at h
    exact s_po1 (s_E a G h).1
  | none, _, _, _, _, some _, h => by simp only [trO] at h; cases h
  | some _, _, _, _, _, none, h => by simp only [trO] at h; cases h
theorem s_C : ∀ (a : Option E) {c : CC} {W : WX} {X : Cx} (G : Good T C n W c X) {xs : List Expr} (h : trC c a xs = true), PTs X xs (RC T C n W a)
  | none, c, W, X, G, [], h => s_no
  | some a, c, W, X, G, [x], h => by
    simp only [trC] at h
    exact s_one (s_E a G h).2
  | none, _, _, _, _, _ :: _, h => by simp only [trC] at h; cases h
  | some _, _, _, _, _, [], h => by simp only [trC] at h; cases h
  | some _, _, _, _, _, _ :: _ :: _, h => by simp only [trC] at h; cases h
theorem s_I : ∀ (it : It) {c : CC} {W : WX} {X : Cx} {tg : Tg} {t : Expr} (G : Good T C n W c X) {x : Expr} (h : trI c it x = true) (ht : ∃ c', trTg c' tg t = true) (hp : itTup it tg = true), PI X t x (RI T C n W it) ∧ isSetE x = false
  | .e a, c, W, X, tg, t, G, x, h, ht, hp => by
    simp only [trI] at h
    exact ⟨s_itE G (s_E a G h).1, tr_set h⟩
  | .rng es, c, W, X, tg, t, G, x, h, ht, hp => by
    obtain ⟨q, xs, p, rfl, h1, h2, h3⟩ := inv_rng h
    obtain ⟨l1, l2⟩ := tr_len h2
    exact ⟨s_itR G h1 (s_A es G h2) l2 h3 l1, rfl⟩
  | .enum a, c, W, X, tg, t, G, x, h, ht, hp => by
    obtain ⟨q, y, p, rfl, h1, h2⟩ := inv_enum h
    cases tg with
    | nm i => simp only [itTup] at hp; cases hp
    | tp is =>
      obtain ⟨c', ht⟩ := ht
      obtain ⟨ts, k, tp, rfl⟩ := inv_tp ht
      exact ⟨s_itN G h1 (s_E a G h2).1 (tr_nst h2), rfl⟩
  | .zip es, c, W, X, tg, t, G, x, h, ht, hp => by
    obtain ⟨q, xs, p, rfl, h1, h2, h3⟩ := inv_zip h
    obtain ⟨l1, l2⟩ := tr_len h2
    cases tg with
    | nm i => simp only [itTup] at hp; cases hp
    | tp is =>
      obtain ⟨c', ht⟩ := ht
      obtain ⟨ts, k, tp, rfl⟩ := inv_tp ht
      exact ⟨s_itZ G h1 (s_A es G h2) l2 h3, rfl⟩
end
end PL
end

section
namespace PL
open PySem PySem.Spec L2

/-! ## statements: what is wanted -/
section
variable {C : G0} {e e1 : EV} {F F1 H H1 : Hp} {σ σ1 : St} {W : WX}
def RetOk (C : G0) (e : EV) (σ : St) (H F' : Hp) (σ' : St) (H' : Hp) (e' : EV) (r : RV) (v : V) : Prop := match r with
  | .v d => Rep C F' d v
  | .t d => ∃ a, v = .ref a ∧ Mine C F' H' d a ∧ ¬ OwnA e' σ' a ∧ ((∃ (j : Nat) (d' : D), e[j]? = some (.own d') ∧ σ[j]? = some (some (.ref a))) ∨ H a = none)
  | .h _ => False
def PostS (C : G0) (W : WX) (e : EV) (F : Hp) (σ : St) (H : Hp) (o : Out Fl) (E : Ends) : Prop := match o with
  | .ok .next e' => ∀ F' σ' H', Tr C e F σ H e' F' σ' H' → E.nx σ' H'
  | .ok .brk e' => ∀ F' σ' H', Tr C e F σ H e' F' σ' H' → E.bk σ' H'
  | .ok .cnt e' => ∀ F' σ' H', Tr C e F σ H e' F' σ' H' → E.ct σ' H'
  | .ok (.ret r) e' => ∀ F' σ' H' v, Tr C e F σ H e' F' σ' H' → RetOk C e σ H F' σ' H' e' r v → E.rt v H'
  | .exc c p e' => ∀ F' σ' H', Tr C e F σ H e' F' σ' H' → ExW C W c p σ' H'
  | .stuck => False
theorem PostS.shift {o : Out Fl} {E : Ends} (t : Tr C e F σ H e1 F1 σ1 H1) (h : PostS C W e F σ H o E) : PostS C W e1 F1 σ1 H1 o E := by
  cases o with
  | ok f e' =>
    cases f with
    | next => exact fun F' σ' H' u => h F' σ' H' (t.trans u)
    | brk => exact fun F' σ' H' u => h F' σ' H' (t.trans u)
    | cnt => exact fun F' σ' H' u => h F' σ' H' (t.trans u)
    | ret r =>
      refine fun F' σ' H' v u k => h F' σ' H' v (t.trans u) ?_
      cases r with
      | v d => exact k
      | h i => exact k
      | t d =>
        obtain ⟨a, q1, q2, q3, q4⟩ := k
        refine ⟨a, q1, q2, q3, ?_⟩
        rcases q4 with ⟨j, d', k1, k2⟩ | k
        · exact t.own j d' a k1 k2
        · by_cases z : H a = none
          · exact .inr z
          · exact absurd k (t.there a z)
  | exc c p e' => exact fun F' σ' H' u => h F' σ' H' (t.trans u)
  | stuck => exact h
theorem PostS.opt {α : Type} {o : Option α} {f : α → Out Fl} {E : Ends} (h : PostS C W e F σ H (PL.opt o f) E) : ∃ a, o = some a ∧ PostS C W e F σ H (f a) E := by
  cases o with
  | none => exact h.elim
  | some a => exact ⟨a, rfl, h⟩
theorem PostS.first {x : Out RV} {f : RV → EV → Out Fl} {E : Ends} {Q1 : VK} (h : PostS C W e F σ H (x.bd f) E)
    (k : ∀ r e1 v F1 H1, TrE C e F σ H e1 F1 H1 → RVok C H F1 σ H1 e1 r v → PostS C W e F σ H (f r e1) E → Q1 v H1) : PostE C W e F σ H x Q1 := by
  cases x with
  | ok r e1 => exact fun v F1 H1 t r1 => k r e1 v F1 H1 t r1 h
  | exc c p e1 => exact fun F' H' t => h F' σ H' t.toTr
  | stuck => exact h
theorem PostS.firstB {x : Out Bool} {f : Bool → EV → Out Fl} {E : Ends} {Q1 : Bool → Hp → Prop} (h : PostS C W e F σ H (x.bd f) E)
    (k : ∀ r e1 F1 H1, TrE C e F σ H e1 F1 H1 → PostS C W e1 F1 σ H1 (f r e1) E → Q1 r H1) : PostB C W e F σ H x Q1 := by
  cases x with
  | ok r e1 => exact fun F1 H1 t => k r e1 F1 H1 t (PostS.shift t.toTr h)
  | exc c p e1 => exact fun F' H' t => h F' σ H' t.toTr
  | stuck => exact h
theorem PostS.firstI {x : Out (List D)} {f : List D → EV → Out Fl} {E : Ends} {R : L2.It → Hp → Prop} (h : PostS C W e F σ H (x.bd f) E)
    (k : ∀ ds e1 J F1 H1, TrE C e F σ H e1 F1 H1 → WalkD C F1 J ds → PostS C W e1 F1 σ H1 (f ds e1) E → R J H1) : PostI C W e F σ H x R := by
  cases x with
  | ok ds e1 => exact fun J F1 H1 t w => k ds e1 J F1 H1 t w (PostS.shift t.toTr h)
  | exc c p e1 => exact fun F' H' t => h F' σ H' t.toTr
  | stuck => exact h
/-- a result goes into a slot -/
theorem put_ok {r : RV} {v : V} {i : Nat} {r' : RV} {e2 e3 : EV} (t : TrE C e F σ H e1 F1 H1) (h : RVok C H F1 σ H1 e1 r v) (k1 : fzR e1 r = some (r', e2)) (k2 : setR i r' e2 = some e3) :
    ∃ F2, Tr C e F σ H e3 F2 (σ.set i (some v)) H1 := by
  cases r with
  | v d =>
    cases k1
    unfold setR at k2
    split at k2 <;> cases k2
    rename_i ok
    exact ⟨F1, set1 t.toTr ok (.inr (.inl ⟨d, v, rfl, rfl, h⟩))⟩
  | t d =>
    cases k1
    obtain ⟨a, rfl, m, h0, n⟩ := h
    unfold setR at k2
    split at k2 <;> cases k2
    rename_i ok
    exact ⟨F1, set1 t.toTr ok (.inr (.inr ⟨d, a, rfl, rfl, m, n, .inr h0⟩))⟩
  | h j =>
    simp only [fzR] at k1
    cases k3 : frz e1 (.h j) with
    | none => rw [k3] at k1; cases k1
    | some z =>
      obtain ⟨d, e4⟩ := z
      rw [k3] at k1
      cases k1
      obtain ⟨F2, t2, rp, s2⟩ := frz_ok t h k3
      unfold setR at k2
      split at k2 <;> cases k2
      rename_i ok
      exact ⟨F2, set1 t2.toTr ok (.inr (.inl ⟨d, v, rfl, rfl, rp⟩))⟩
end
section
variable (T : GT) (C : G0) (n : Nat) (W : WX)
def RS (s : S) : TS := fun E σ H => ∃ e F, SR C e F σ H ∧ PostS C W e F σ H (exS T (callF T n) s e) E
def RB (ss : List S) : TS := fun E σ H => ∃ e F, SR C e F σ H ∧ PostS C W e F σ H (exB T (callF T n) ss e) E
end
theorem _root_.L2.PS.to {X : Cx} {x : Stmt} {t t' : TS} (h : PS X x t) (k : ∀ E σ H, t' E σ H → t E σ H) : PS X x t' := ⟨fun pins s σ H E I q => h.run pins s σ H E I (k E σ H q)⟩
theorem _root_.L2.PSs.to {X : Cx} {x : List Stmt} {t t' : TS} (h : PSs X x t) (k : ∀ E σ H, t' E σ H → t E σ H) : PSs X x t' := ⟨fun pins s σ H E I q => h.run pins s σ H E I (k E σ H q)⟩
/-- in a def's body -/
structure GoodS (T : GT) (C : G0) (n : Nat) (W : WX) (c : CC) (X : Cx) : Prop extends Good T C n W c X where
  kind : X.env.scope.kind = .function
  po : PassesOwn (model X.prog X.w) X.A X.env X.xe
  stk : X.stack = X.env :: X.outer
  fr : X.env.frame = some X.env.locals
  cl : X.calm = true
  bs : c.bs = none
  fnx : ∀ x, X.fn x = true
section
variable {T : GT} {C : G0} {n : Nat} {W : WX} {c : CC} {X : Cx}
theorem GoodS.blk (G : GoodS T C n W c X) : X.env.blockKind = .function := by
  unfold Env.blockKind
  rw [G.kind]
  rfl
/-! ### simple statements -/
theorem s_ex (G : GoodS T C n W c X) {a : E} {x : Expr} {pos : Pos} (ha : PE X x (RE T C n W a)) (hd : ∀ l : Nat, swapsWith x none l X.env = pure false) : PS X (.Expr x pos) (RS T C n W (.ex a)) := by
  refine (ps_expr ha (hd _)).to fun E σ H => ?_
  rintro ⟨e, F, R, q⟩
  exact ⟨e, F, R, PostS.first (f := fun _ e1 => .ok .next e1) (by simpa only [exS] using q) fun r e1 v F1 H1 t1 r1 q => q F1 σ H1 t1.toTr⟩
theorem rd_set {i : Nat} {a : E} {E : Ends} {σ : St} {H : Hp} (h : RS T C n W (.set i a) E σ H) : RE T C n W a σ H fun v H1 => gName i v σ H1 E.nx := by
  obtain ⟨e, F, R, q⟩ := h
  refine ⟨e, F, R, PostS.first (by simpa only [exS] using q) fun r e1 v F1 H1 t1 r1 q => ?_⟩
  obtain ⟨⟨r', e2⟩, k1, q⟩ := q.opt
  obtain ⟨e3, k2, q⟩ := q.opt
  obtain ⟨F2, t2⟩ := put_ok t1 r1 k1 k2
  exact q F2 _ H1 t2
theorem stB_ix {i : Nat} {x : Str} (h : stB c i x = true) : c.N[i]? = some x := by
  unfold stB at h
  rw [Bool.and_eq_true, Bool.and_eq_true] at h
  exact of_decide_eq_true h.1.1
theorem swaps_no {x : Expr} (h : isLC x = false) {t : Expr} {l : Nat} {env : Env} (hc : ∀ a b c d, x ≠ .SetComp a b c d) (hd : ∀ a b c d e, x ≠ .DictComp a b c d e) : swapsWith x (some t) l env = pure false := by
  cases x <;> first | rfl | exact absurd rfl (hc _ _ _ _) | exact absurd rfl (hd _ _ _ _ _) | (cases h; done)
theorem swaps_no0 {x : Expr} (h : isLC x = false) {l : Nat} {env : Env} (hc : ∀ a b c d, x ≠ .SetComp a b c d) (hd : ∀ a b c d e, x ≠ .DictComp a b c d e) : swapsWith x none l env = pure false := by
  cases x <;> first | rfl | exact absurd rfl (hc _ _ _ _) | exact absurd rfl (hd _ _ _ _ _) | (cases h; done)
theorem tr_nosc {a : E} {x : Expr} (h : trE c a x = true) : (∀ a b c d, x ≠ .SetComp a b c d) ∧ ∀ a b c d e, x ≠ .DictComp a b c d e := by
  refine ⟨fun a1 b1 c1 d1 e => ?_, fun a1 b1 c1 d1 e1 e => ?_⟩
  · subst e; cases a <;> (simp only [trE] at h; cases h)
  · subst e; cases a <;> (simp only [trE] at h; cases h)
theorem s_set (G : GoodS T C n W c X) {i : Nat} {a : E} {x : Str} {y : Expr} {px p : Pos} (hx : stB c i x = true) (h : trE c a y = true) : PS X (.Assign [.Name x px] y p) (RS T C n W (.set i a)) := by
  obtain ⟨l1, l2⟩ := G.st i x hx
  have hi : X.N[i]? = some x := by rw [G.N]; exact stB_ix hx
  have hN : X.N.Nodup := by rw [G.N]; exact G.nd
  by_cases hlc : isLC y = true
  · cases y <;> first | cases hlc | skip
    rename_i elt gs scope lp
    by_cases hsw : (X.env.scope.names.lookup x == some .local && px.line == lp.line && !(scope.names.any fun (n, k) => n == x && (k == .local || k == .cell))) = true
    · -- swapped
      cases a <;> first | (simp only [trE] at h; cases h; done) | skip
      rename_i own it tg cond el
      obtain ⟨y, t, i', ifs, scope', p', e0, h1, h2, h3, h4, h5, h6, h7, h8⟩ := inv_comp h
      cases e0
      obtain ⟨k1, k2⟩ := s_I it (tg := tg) (t := t) G.toGood h3 ⟨_, h5⟩ h6
      have hown : (ownP c own).map (·.2) = own := by
        unfold ownP
        rw [List.map_map]
        exact (List.map_congr_left (g := id) fun _ _ => rfl).trans (List.map_id _)
      rw [Bool.and_eq_true, Bool.and_eq_true] at hsw
      have hl : X.env.scope.names.lookup x = some .local := by simpa using hsw.1.1
      refine (ps_setLc (own := ownP c own) G.cl hN hi hl ?_ k1 (blkOk_by (by rw [G.N, G.sc]; exact h2)) (fun s H C' cl fp => s_tg (G.toGood.blk scope s H cl C' fp) h1 h5)
        (fun s H C' cl fp => s_C cond (G.toGood.blk scope s H cl C' fp) h7) (fun s H C' cl fp => (s_E el (G.toGood.blk scope s H cl C' fp) h8).1) (folded_no k2)).to fun E σ H q => ?_
      · show (pure (X.env.blockKind == .function && X.env.kindOf x == some .local && px.line == lp.line && !(scope.names.any fun (n, k) => n == x && (k == .local || k == .cell))) : Sem Bool) = pure true
        have e1 : X.env.kindOf x = some .local := hl
        rw [G.blk, e1, hsw.1.2, hsw.2]
        rfl
      · have := rd_set q
        rw [hown]
        exact rd_comp h4 this
    · refine (ps_set hN hi l1 (s_E a G.toGood h).1 ?_ l2).to fun E σ H q => rd_set q
      show (pure (X.env.blockKind == .function && X.env.kindOf x == some .local && px.line == lp.line && !(scope.names.any fun (n, k) => n == x && (k == .local || k == .cell))) : Sem Bool) = pure false
      rw [G.blk]
      have : (X.env.kindOf x == some .local && px.line == lp.line && !(scope.names.any fun (n, k) => n == x && (k == .local || k == .cell))) = false := Bool.eq_false_iff.mpr hsw
      rw [show (ScopeKind.function == ScopeKind.function) = true from rfl, Bool.true_and, this]
  · have hlc : isLC y = false := by simpa using hlc
    obtain ⟨n1, n2⟩ := tr_nosc h
    exact (ps_set hN hi l1 (s_E a G.toGood h).1 (swaps_no hlc n1 n2) l2).to fun E σ H q => rd_set q
end
end PL
end

section
namespace PL
open PySem PySem.Spec L2
section
variable {T : GT} {C : G0} {n : Nat} {W : WX} {c : CC} {X : Cx}
theorem ids_len : ∀ {is : List Nat} {ts : List Expr}, trTg.trNs c is ts = true → is.length = ts.length ∧ (idsOf ts).length = ts.length
  | [], [], _ => ⟨rfl, rfl⟩
  | i :: is, t :: ts, h => by
    cases t <;> first | (simp only [trTg.trNs] at h; cases h; done) | skip
    rename_i x p
    simp only [trTg.trNs, Bool.and_eq_true] at h
    obtain ⟨h1, h2⟩ := ids_len h.2
    exact ⟨by simp [h1], by show (idsOf ts).length + 1 = _; rw [h2]; rfl⟩
  | [], _ :: _, h => by simp [trTg.trNs] at h
  | _ :: _, [], h => by simp [trTg.trNs] at h
def nmF (env : Env) (line : Nat) : Expr → Option Str
  | .Name id pos => if env.kindOf id == some .local && pos.line == line then some id else none
  | _ => none
theorem names_all {env : Env} {line : Nat} (hs : env.scope = c.sc) : ∀ {is : List Nat} {ts : List Expr}, trTg.trNs c is ts = true → (ts.all fun t => t.pos.line == line) = true → (locAll c ts = true → ts.filterMap (nmF env line) = idsOf ts) ∧ (locAll c ts = false → (ts.filterMap (nmF env line)).length < ts.length) ∧ (ts.filterMap (nmF env line)).length ≤ ts.length
  | [], [], _, _ => ⟨fun _ => rfl, fun h => by simp [locAll] at h, Nat.le_refl _⟩
  | i :: is, t :: ts, h, hl => by
    cases t <;> first | (simp only [trTg.trNs] at h; cases h; done) | skip
    rename_i x p
    simp only [trTg.trNs, Bool.and_eq_true] at h
    rw [List.all_cons, Bool.and_eq_true] at hl
    obtain ⟨h1, h2, h3⟩ := names_all hs h.2 hl.2
    have hp : (p.line == line) = true := hl.1
    have hk : env.kindOf x = c.sc.names.lookup x := by show env.scope.names.lookup x = _; rw [hs]
    have hla : locAll c (.Name x p :: ts) = ((c.sc.names.lookup x == some .local) && locAll c ts) := rfl
    have hid : idsOf (.Name x p :: ts) = x :: idsOf ts := rfl
    by_cases hx : (c.sc.names.lookup x == some .local) = true
    · have hf : nmF env line (.Name x p) = some x := by simp only [nmF, hk, hx, hp]; rfl
      rw [List.filterMap_cons_some hf, hla, hx, Bool.true_and, hid]
      exact ⟨fun q => by rw [h1 q], fun q => Nat.succ_lt_succ (h2 q), Nat.succ_le_succ h3⟩
    · have hx : (c.sc.names.lookup x == some .local) = false := by simpa using hx
      have hf : nmF env line (.Name x p) = none := by simp only [nmF, hk, hx]; rfl
      rw [List.filterMap_cons_none hf, hla, hx, Bool.false_and]
      exact ⟨fun q => by simp at q, fun _ => Nat.lt_succ_of_le h3, Nat.le_succ_of_le h3⟩
  | [], _ :: _, h, _ => by simp [trTg.trNs] at h
  | _ :: _, [], h, _ => by simp [trTg.trNs] at h
theorem any_star : ∀ {vs : List Expr}, vs.all nst = true → (vs.any fun | .Starred .. => true | _ => false) = false
  | [], _ => rfl
  | v :: vs, h => by
    rw [List.all_cons, Bool.and_eq_true] at h
    rw [List.any_cons, any_star h.2, Bool.or_false]
    cases v <;> first | rfl | cases h.1
theorem swapped_eq (G : GoodS T C n W c X) {is : List Nat} {ts vs : List Expr} {k k2 : Nat} {p p2 : Pos} (ht : trTg.trNs c is ts = true) (hv : vs.all nst = true) (hl : vs.length = ts.length) (hp : parB c ts vs = true) :
    swappedStores [.Tuple ts k p] (.Tuple vs k2 p2) X.env = pure (if swN c ts vs then some (idsOf ts) else none) := by
  unfold parB at hp
  rw [Bool.and_eq_true, Bool.and_eq_true] at hp
  obtain ⟨⟨p1, p2'⟩, p3⟩ := hp
  obtain ⟨l1, l2⟩ := ids_len ht
  obtain ⟨n1, n2, n3⟩ := names_all (env := X.env) (line := (ts.head?.map fun (t : Expr) => t.pos.line).getD 0) G.sc ht p1
  unfold swappedStores
  simp only [G.blk, hl]
  show (if (!(ts.length == 2 || ts.length == 3) || ts.length != ts.length || (ScopeKind.function != ScopeKind.function)) = true then _ else _) = _
  have hb : (ScopeKind.function != ScopeKind.function) = false := rfl
  rw [hb]
  simp only [bne_self_eq_false, Bool.or_false]
  by_cases hlen : (ts.length == 2 || ts.length == 3) = true
  · rw [hlen]
    simp only [Bool.not_true, Bool.false_eq_true, if_false]
    split
    · rename_i h; exact absurd h (Bool.eq_false_iff.mp (any_star hv))
    show (if ((ts.filterMap (nmF X.env ((ts.head?.map (·.pos.line)).getD 0))).length != ts.length || (ts.filterMap (nmF X.env ((ts.head?.map (·.pos.line)).getD 0))).eraseDups.length != (ts.filterMap (nmF X.env ((ts.head?.map (·.pos.line)).getD 0))).length) = true then pure none else _) = _
    cases hla : locAll c ts with
    | false =>
      have := n2 hla
      have hne : ((ts.filterMap (nmF X.env ((ts.head?.map (·.pos.line)).getD 0))).length != ts.length) = true := bne_iff_ne.mpr (Nat.ne_of_lt this)
      rw [hne, Bool.true_or, if_pos rfl]
      simp [swN, hla]
    | true =>
      rw [n1 hla, l2]
      have e2 : (idsOf ts).eraseDups.length = ts.length := by simpa using p2'
      rw [e2]
      simp only [bne_self_eq_false, Bool.or_false, Bool.false_eq_true, if_false]
      cases hf : vs.all (foldedForSure 8) with
      | true => simp [swN, hla, hlen, hf]
      | false =>
        have hsn : swN c ts vs = true := by simp only [swN, hla, hlen, hf]; rfl
        rw [hsn] at p3
        have hc : vs.all (constantsAlone 8) = false := by simpa using p3
        simp only [hc]
        show (pure (some (ts.filterMap (nmF X.env ((ts.head?.map fun (t : Expr) => t.pos.line).getD 0)))) : Sem (Option (List Str))) = _
        rw [n1 hla, hsn]
        rfl
  · have hlen : (ts.length == 2 || ts.length == 3) = false := by simpa using hlen
    rw [hlen]
    simp only [Bool.not_false, if_true]
    simp only [swN, hlen, Bool.and_false, Bool.false_and]
    rfl

/-! ### several stores -/
theorem len_two {α : Type} {l : List α} (h : l.length = 2) : ∃ a b, l = [a, b] := by
  match l, h with
  | [a, b], _ => exact ⟨a, b, rfl⟩
theorem len_three {α : Type} {l : List α} (h : l.length = 3) : ∃ a b c, l = [a, b, c] := by
  match l, h with
  | [a, b, c], _ => exact ⟨a, b, c, rfl⟩
def DisT (rs : List RV) (vs : List V) : Prop := ∀ (i j : Nat) (d d' : D), rs[i]? = some (.t d) → rs[j]? = some (.t d') → i ≠ j → vs[i]? ≠ vs[j]?
def PostA2 (C : G0) (W : WX) (e : EV) (F : Hp) (σ : St) (H : Hp) (o : Out (List RV)) (Q : List V → Hp → Prop) : Prop := match o with
  | .ok rs e' => ∀ vs F' H', TrE C e F σ H e' F' H' → RVs C H F' σ H' e' rs vs → DisT rs vs → Q vs H'
  | .exc c p e' => ∀ F' H', TrE C e F σ H e' F' H' → ExW C W c p σ H'
  | .stuck => False
def RA2 (T : GT) (C : G0) (n : Nat) (W : WX) (as : List E) : TA := fun σ H Q => ∃ e F, SR C e F σ H ∧ PostA2 C W e F σ H (evA T (callF T n) as e) Q
theorem s_nil2 : PA X [] (RA2 T C n W []) := pa_nil.to fun σ H Q ⟨e, F, R, q⟩ => by
  simp only [evA] at q
  exact q [] F H (TrE.refl R) rfl fun i j d d' h => by simp at h
theorem RVs.tnew {H0 F H : Hp} {σ : St} {e : EV} {rs : List RV} {vs : List V} {j : Nat} {d : D} (h : RVs C H0 F σ H e rs vs) (k : rs[j]? = some (.t d)) : ∃ a, vs[j]? = some (.ref a) ∧ H0 a = none := by
  obtain ⟨v, k1, a, rfl, _, h0, _⟩ := h.get k
  exact ⟨a, k1, h0⟩
theorem s_cons2 {a : E} {as : List E} {x : Expr} {xs : List Expr} (ha : PE X x (RE T C n W a)) (hr : PA X xs (RA2 T C n W as)) (hs : starEach (x :: xs) X.env = (false, eval x X.env) :: starEach xs X.env) : PA X (x :: xs) (RA2 T C n W (a :: as)) := by
  refine (pa_cons ha hr hs).to fun σ H Q => ?_
  rintro ⟨e, F, R, q⟩
  simp only [evA] at q
  refine ⟨e, F, R, ?_⟩
  revert q
  generalize evE T (callF T n) false a e = o
  intro q
  cases o with
  | exc c p e' => exact q
  | stuck => exact q
  | ok r e1 =>
    intro v F1 H1 t r1
    refine ⟨e1, F1, t.sr, ?_⟩
    simp only [bd_ok] at q
    revert q
    generalize evA T (callF T n) as e1 = o
    intro q
    cases o with
    | exc c p e' => exact fun F' H' t' => q F' H' (t.trans t')
    | stuck => exact q
    | ok rs e2 =>
      intro vs F2 H2 t2 r2 ds
      refine q (v :: vs) F2 H2 (t.trans t2) ⟨v, vs, rfl, r1.mono t2, r2.back t.there⟩ ?_
      have key : ∀ (j : Nat) (d d' : D), r = .t d → rs[j]? = some (.t d') → some v ≠ vs[j]? := fun j d d' hr hj z => by
        subst hr
        obtain ⟨b, rfl, m, _⟩ := r1
        obtain ⟨o, ho⟩ := m.there
        obtain ⟨b', k1, k2⟩ := r2.tnew hj
        rw [k1] at z; cases z
        rw [ho] at k2; cases k2
      intro i j d d' hi hj hne
      cases i with
      | zero =>
        cases j with
        | zero => exact absurd rfl hne
        | succ j => simp at hi hj; simpa using key j d d' hi hj
      | succ i =>
        cases j with
        | zero => simp at hi hj; simpa using (key i d' d hj hi).symm
        | succ j => simp at hi hj; simpa using ds i j d d' hi hj (by omega)
theorem s_A2 (G : Good T C n W c X) : ∀ {as : List E} {xs : List Expr} (h : trA c as xs = true), PA X xs (RA2 T C n W as)
  | [], [], h => s_nil2
  | a :: as, x :: xs, h => by
    simp only [trA, Bool.and_eq_true] at h
    exact s_cons2 (s_E a G h.1).1 (s_A2 G h.2) (star_cons (tr_nst h.1))
  | [], _ :: _, h => by simp only [trA] at h; cases h
  | _ :: _, [], h => by simp only [trA] at h; cases h
theorem fzRs_ok {e : EV} {F H H1 : Hp} {σ : St} : ∀ {rs : List RV} {vs : List V} {rs' : List RV} {ek e2 : EV} {Fk : Hp}, TrE C e F σ H ek Fk H1 → RVs C H Fk σ H1 ek rs vs → fzRs ek rs = some (rs', e2) →
    ∃ F2, TrE C e F σ H e2 F2 H1 ∧ TrE C ek Fk σ H1 e2 F2 H1 ∧ RVs C H F2 σ H1 e2 rs' vs ∧ ∀ (j : Nat) (d : D), rs'[j]? = some (.t d) → rs[j]? = some (.t d)
  | [], vs, rs', ek, e2, Fk, t, r, k => by
    cases k
    exact ⟨Fk, t, TrE.refl t.sr, r, fun _ _ h => h⟩
  | r :: rs, vs, rs', ek, e2, Fk, t, ⟨v, ws, ev, r1, r2⟩, k => by
    subst ev
    simp only [fzRs] at k
    obtain ⟨⟨r', e3⟩, k1, k⟩ := Option.bind_eq_some_iff.mp k
    cases k2 : fzRs e3 rs with
    | none => rw [k2] at k; cases k
    | some z =>
      obtain ⟨l, e4⟩ := z
      rw [k2] at k
      cases k
      have step : ∃ F3, TrE C ek Fk σ H1 e3 F3 H1 ∧ RVok C H F3 σ H1 e3 r' v ∧ ∀ d, r' = .t d → r = .t d := by
        cases r with
        | v d => cases k1; exact ⟨Fk, TrE.refl t.sr, r1, fun d z => by cases z⟩
        | t d => cases k1; exact ⟨Fk, TrE.refl t.sr, r1, fun d z => z⟩
        | h i =>
          simp only [fzR] at k1
          cases k3 : frz ek (.h i) with
          | none => rw [k3] at k1; cases k1
          | some z =>
            obtain ⟨d, e5⟩ := z
            rw [k3] at k1
            cases k1
            obtain ⟨F', q1, q2, _⟩ := frz_ok (TrE.refl t.sr) (show RVok C H1 Fk σ H1 ek (.h i) v from r1) k3
            exact ⟨F', q1, q2, fun d z => by cases z⟩
      obtain ⟨F3, t3, q3, q4⟩ := step
      obtain ⟨F4, t4, t4', r4, s4⟩ := fzRs_ok (t.trans t3) (r2.mono t3) k2
      refine ⟨F4, t4, t3.trans t4', ⟨v, ws, rfl, q3.mono t4', r4⟩, fun j d h => ?_⟩
      cases j with
      | zero => simp at h; simp [q4 d h]
      | succ j => simp at h; simpa using s4 j d h
def sets : List Nat → List V → St → St
  | i :: is, v :: vs, σ => sets is vs (σ.set i (some v))
  | _, _, σ => σ
theorem setRs_ok {e : EV} {F H H1 Fk : Hp} {σ : St} : ∀ {is : List Nat} {rs : List RV} {vs : List V} {ek e3 : EV} {σk : St}, Tr C e F σ H ek Fk σk H1 →
    (∀ (j : Nat) (r : RV) (v : V), rs[j]? = some r → vs[j]? = some v → (∃ d, r = .v d ∧ Rep C Fk d v) ∨ (∃ d a, r = .t d ∧ v = .ref a ∧ Mine C Fk H1 d a ∧ H a = none ∧ ¬ OwnA ek σk a) ∨ ∃ i, r = .h i) →
    rs.length = vs.length → DisT rs vs → setRs is rs ek = some e3 → is.length = vs.length ∧ Tr C e F σ H e3 Fk (sets is vs σk) H1
  | [], [], vs, ek, e3, σk, t, _, hl, _, k => by
    cases k
    cases vs with
    | nil => exact ⟨rfl, t⟩
    | cons _ _ => cases hl
  | i :: is, r :: rs, vs, ek, e3, σk, t, p, hl, ds, k => by
    cases vs with
    | nil => cases hl
    | cons v vs =>
      simp only [setRs] at k
      obtain ⟨e4, k1, k2⟩ := Option.bind_eq_some_iff.mp k
      have hl' : rs.length = vs.length := by simpa using hl
      have ds' : DisT rs vs := fun a b d d' h1 h2 hne => by
        have := ds (a + 1) (b + 1) d d' (by simpa using h1) (by simpa using h2) (by omega)
        simpa using this
      unfold setR at k1
      split at k1
      · rename_i ok
        rcases p 0 r v rfl rfl with ⟨d, rfl, rp⟩ | ⟨d, a, rfl, rfl, m, h0, no⟩ | ⟨i', rfl⟩
        · cases k1
          have t1 := set1 t ok (.inr (.inl ⟨d, v, rfl, rfl, rp⟩))
          obtain ⟨z1, z2⟩ := setRs_ok t1 (fun j r' v' h1 h2 => by
            rcases p (j + 1) r' v' (by simpa using h1) (by simpa using h2) with h | ⟨d', a', e1, e2, m', h0', no'⟩ | h
            · exact .inl h
            · refine .inr (.inl ⟨d', a', e1, e2, m', h0', fun ⟨q, s, w1, w2, w3⟩ => ?_⟩)
              by_cases z : i = q
              · subst z
                have hlt := (setOk_not ok).1
                rw [List.getElem?_set_self hlt] at w1; cases w1; cases w2
              · rw [getE_set_ne z] at w1 w3; exact no' ⟨q, s, w1, w2, w3⟩
            · exact .inr (.inr h)) hl' ds' k2
          exact ⟨by simp [z1], z2⟩
        · cases k1
          have t1 := set1 t ok (.inr (.inr ⟨d, a, rfl, rfl, m, no, .inr h0⟩))
          obtain ⟨z1, z2⟩ := setRs_ok t1 (fun j r' v' h1 h2 => by
            rcases p (j + 1) r' v' (by simpa using h1) (by simpa using h2) with h | ⟨d', a', e1, e2, m', h0', no'⟩ | h
            · exact .inl h
            · refine .inr (.inl ⟨d', a', e1, e2, m', h0', fun ⟨q, s, w1, w2, w3⟩ => ?_⟩)
              by_cases z : i = q
              · subst z
                have hlt := (setOk_not ok).1
                have hlt2 : i < σk.length := by rw [← t.sr.len]; exact hlt
                rw [List.getElem?_set_self hlt2] at w3
                cases w3
                subst e1 e2
                have := ds 0 (j + 1) d d' rfl (by simpa using h1) (by omega)
                apply this
                simp [h2]
              · rw [getE_set_ne z] at w1 w3; exact no' ⟨q, s, w1, w2, w3⟩
            · exact .inr (.inr h)) hl' ds' k2
          exact ⟨by simp [z1], z2⟩
        · cases k1
      · cases k1
  | [], _ :: _, _, _, _, _, _, _, _, _, k => by simp [setRs] at k
  | _ :: _, [], _, _, _, _, _, _, _, _, k => by simp [setRs] at k
theorem rd_par {is : List Nat} {as : List E} {E : Ends} {σ : St} {H : Hp} (h : RS T C n W (.par is as) E σ H) :
    RA2 T C n W as σ H fun vs H1 => is.length = vs.length ∧ E.nx (sets is vs σ) H1 ∧ ∀ p o, H1 p = none → E.nx (sets is vs σ) (upd H1 p o) := by
  obtain ⟨e, F, R, q⟩ := h
  refine ⟨e, F, R, ?_⟩
  simp only [exS] at q
  revert q
  generalize evA T (callF T n) as e = o
  intro q
  cases o with
  | exc c p e' => exact fun F' H' t => q F' σ H' t.toTr
  | stuck => exact q
  | ok rs e1 =>
    intro vs F1 H1 t1 r1 ds
    simp only [bd_ok] at q
    obtain ⟨⟨rs', e2⟩, k1, q⟩ := q.opt
    obtain ⟨e3, k2, q⟩ := q.opt
    obtain ⟨F2, t2, t2', r2, sh⟩ := fzRs_ok t1 r1 k1
    obtain ⟨hl, t3⟩ := setRs_ok t2.toTr (fun j r v h1 h2 => by
      obtain ⟨v', k3, k4⟩ := r2.get h1
      rw [h2] at k3; cases k3
      cases r with
      | v d => exact .inl ⟨d, rfl, k4⟩
      | t d => obtain ⟨a, e1, m, h0, no⟩ := k4; exact .inr (.inl ⟨d, a, rfl, e1, m, h0, no⟩)
      | h i => exact .inr (.inr ⟨i, rfl⟩)) r2.len (fun i j d d' h1 h2 => ds i j d d' (sh i d h1) (sh j d' h2)) k2
    refine ⟨hl, q _ _ _ t3, fun p o hp => q _ _ _ (t3.pad ?_ ?_ (own_there t3.sr hp))⟩
    · by_cases z : H p = none
      · exact z
      · exact absurd hp (t3.there p z)
    · cases z : F2 p with
      | none => rfl
      | some u => rw [t3.sr.sub p u z] at hp; cases hp
theorem gNms_sets {E : St → Hp → Prop} {H : Hp} : ∀ {is : List Nat} {vs : List V} {σ : St}, is.length = vs.length → E (sets is vs σ) H → gNms is vs σ H E
  | [], [], σ, _, h => ⟨rfl, h⟩
  | i :: is, v :: vs, σ, hl, h => ⟨v, vs, rfl, gNms_sets (by simpa using hl) h⟩
  | [], _ :: _, _, hl, _ => by cases hl
  | _ :: _, [], _, hl, _ => by cases hl
theorem loc_ix : ∀ {is : List Nat} {ts : List Expr}, trTg.trNs c is ts = true → locAll c ts = true → ∀ (j i : Nat) (x : Str), is[j]? = some i → (idsOf ts)[j]? = some x → c.N[i]? = some x ∧ c.sc.names.lookup x = some .local
  | [], [], _, _, j, i, x, h1, _ => by simp at h1
  | i :: is, t :: ts, h, hl, j, i', x', h1, h2 => by
    cases t <;> first | (simp only [trTg.trNs] at h; cases h; done) | skip
    rename_i x p
    simp only [trTg.trNs, Bool.and_eq_true] at h
    have hl : ((c.sc.names.lookup x == some .local) && locAll c ts) = true := hl
    rw [Bool.and_eq_true] at hl
    cases j with
    | zero =>
      simp at h1; subst h1
      have h2 : (x :: idsOf ts)[0]? = some x' := h2
      simp at h2; subst h2
      exact ⟨stB_ix h.1, by simpa using hl.1⟩
    | succ j => exact loc_ix h.2 hl.2 j i' x' (by simpa using h1) (by have h2 : (x :: idsOf ts)[j + 1]? = some x' := h2; simpa using h2)
  | [], _ :: _, h, _, _, _, _, _, _ => by simp [trTg.trNs] at h
  | _ :: _, [], h, _, _, _, _, _, _ => by simp [trTg.trNs] at h
theorem s_par (G : GoodS T C n W c X) {is : List Nat} {as : List E} {ts xs : List Expr} {k k2 : Nat} {tp p2 pos : Pos} (ht : trTg.trNs c is ts = true) (ha : trA c as xs = true) (hl : as.length = is.length) (hnd : is.Nodup) (h100 : is.length ≤ 100) (hp : parB c ts xs = true) :
    PS X (.Assign [.Tuple ts k tp] (.Tuple xs k2 p2) pos) (RS T C n W (.par is as)) := by
  obtain ⟨a1, a2⟩ := tr_len ha
  obtain ⟨l1, l2⟩ := ids_len ht
  have hw := swapped_eq G (k := k) (k2 := k2) (p := tp) (p2 := p2) ht a2 (by rw [← a1, hl, l1]) hp
  have hA := s_A2 G.toGood ha
  have hN : X.N.Nodup := by rw [G.N]; exact G.nd
  by_cases hs : swN c ts xs = true
  · rw [hs, if_pos rfl] at hw
    unfold swN at hs
    rw [Bool.and_eq_true, Bool.and_eq_true] at hs
    obtain ⟨⟨h1, h2⟩, h3⟩ := hs
    have lx := loc_ix ht h1
    have hlen : is.length = 2 ∨ is.length = 3 := by
      rw [Bool.or_eq_true, beq_iff_eq, beq_iff_eq] at h2; omega
    rcases hlen with hlen | hlen
    · obtain ⟨i, j, rfl⟩ := len_two hlen
      obtain ⟨t1, t2, rfl⟩ := len_two (l1.symm.trans hlen)
      obtain ⟨x1, x2, rfl⟩ := len_two (a1.symm.trans (hl.trans hlen))
      cases t1 <;> first | (simp only [trTg.trNs] at ht; cases ht; done) | skip
      rename_i n1 q1
      cases t2 <;> first | (simp [trTg.trNs] at ht; done) | skip
      rename_i n2 q2
      obtain ⟨u1, v1⟩ := lx 0 i n1 rfl rfl
      obtain ⟨u2, v2⟩ := lx 1 j n2 rfl rfl
      have hne : i ≠ j := by simpa using hnd
      refine (ps_par G.cl hN (by rw [G.N]; exact u1) (by rw [G.N]; exact u2) hne (by rw [G.sc]; exact v1) (by rw [G.sc]; exact v2) hA hw).to fun E σ H q => ?_
      obtain ⟨e, F, R, q⟩ := rd_par q
      refine ⟨e, F, R, ?_⟩
      revert q
      generalize evA T (callF T n) as e = o
      intro q
      cases o with
      | exc c p e' => exact q
      | stuck => exact q
      | ok rs e1 =>
        intro vs F1 H1 t r d
        obtain ⟨z1, z2, _⟩ := q vs F1 H1 t r d
        match vs, z1, z2 with
        | [v, w], _, z2 => exact ⟨v, w, rfl, z2⟩
    · obtain ⟨i, j, l, rfl⟩ := len_three hlen
      obtain ⟨t1, t2, t3, rfl⟩ := len_three (l1.symm.trans hlen)
      obtain ⟨x1, x2, x3, rfl⟩ := len_three (a1.symm.trans (hl.trans hlen))
      cases t1 <;> first | (simp only [trTg.trNs] at ht; cases ht; done) | skip
      rename_i n1 q1
      cases t2 <;> first | (simp [trTg.trNs] at ht; done) | skip
      rename_i n2 q2
      cases t3 <;> first | (simp [trTg.trNs] at ht; done) | skip
      rename_i n3 q3
      obtain ⟨u1, v1⟩ := lx 0 i n1 rfl rfl
      obtain ⟨u2, v2⟩ := lx 1 j n2 rfl rfl
      obtain ⟨u3, v3⟩ := lx 2 l n3 rfl rfl
      have n12 : i ≠ j := fun e => by subst e; simp at hnd
      have n13 : i ≠ l := fun e => by subst e; simp at hnd
      have n23 : j ≠ l := fun e => by subst e; simp at hnd
      refine (ps_par3 G.cl hN (by rw [G.N]; exact u1) (by rw [G.N]; exact u2) (by rw [G.N]; exact u3) n12 n13 n23 (by rw [G.sc]; exact v1) (by rw [G.sc]; exact v2) (by rw [G.sc]; exact v3) hA hw).to fun E σ H q => ?_
      obtain ⟨e, F, R, q⟩ := rd_par q
      refine ⟨e, F, R, ?_⟩
      revert q
      generalize evA T (callF T n) as e = o
      intro q
      cases o with
      | exc c p e' => exact q
      | stuck => exact q
      | ok rs e1 =>
        intro vs F1 H1 t r d
        obtain ⟨z1, z2, _⟩ := q vs F1 H1 t r d
        match vs, z1, z2 with
        | [u, v, w], _, z2 => exact ⟨u, v, w, rfl, z2⟩
  · have hs : swN c ts xs = false := by simpa using hs
    rw [hs, if_neg (by simp)] at hw
    obtain ⟨h1, h2, h3⟩ := s_tgNames G.toGood ht
    refine (ps_asg (pe_tup hA) (pg_tup G.cl h1 h2 h3) rfl hw rfl).to fun E σ H q => ?_
    obtain ⟨e, F, R, q⟩ := rd_par q
    refine ⟨e, F, R, ?_⟩
    have hlen : ∀ rs e1, evA T (callF T n) as e = .ok rs e1 → rs.length = as.length := fun rs e1 h => evA_len h
    revert q hlen
    generalize evA T (callF T n) as e = o
    intro q hlen
    cases o with
    | exc c p e' => exact q
    | stuck => exact q
    | ok rs e1 =>
      intro vs F1 H1 t r d
      obtain ⟨z1, _, z3⟩ := q vs F1 H1 t r d
      have hle : vs.length ≤ sizeLine := by
        rw [← sizeL_eq, ← r.len, hlen rs e1 rfl, hl]
        unfold sizeL
        omega
      refine ⟨hle, fun p hp => ⟨p, vs, rfl, .inl (.inl upd_same), z1.symm, ?_⟩⟩
      exact gNms_sets z1 (z3 p _ hp)
end
end PL
end

section
namespace PL
open PySem PySem.Spec L2

section
variable {T : GT} {C : G0} {n : Nat} {W : WX} {c : CC} {X : Cx}
theorem s_unp (G : GoodS T C n W c X) {is : List Nat} {a : E} {ts : List Expr} {y : Expr} {k : Nat} {tp pos : Pos} (ht : trTg.trNs c is ts = true) (ha : trE c a y = true) (hy : isTup y = false) : PS X (.Assign [.Tuple ts k tp] y pos) (RS T C n W (.unp is a)) := by
  obtain ⟨h1, h2, h3⟩ := s_tgNames G.toGood ht
  have hs : swapsWithSole [.Tuple ts k tp] y pos.line X.env = pure false := by
    show swapsWith y (some (.Tuple ts k tp)) pos.line X.env = pure false
    cases y <;> rfl
  have hw : swappedStores [.Tuple ts k tp] y X.env = pure none := by
    cases y <;> first | rfl | cases hy
  refine (ps_asg (s_E a G.toGood ha).1 (pg_tup G.cl h1 h2 h3) hs hw rfl).to fun E σ H => ?_
  rintro ⟨e, F, R, q⟩
  refine ⟨e, F, R, PostS.first (by simpa only [exS] using q) fun r e1 v F1 H1 t1 r1 q => ?_⟩
  obtain ⟨d, k1, q⟩ := q.opt
  have z := cont_crp t1.sr r1 k1
  cases d <;> try exact q.elim
  rename_i ds
  obtain ⟨e2, k2, q⟩ := PostS.opt (show PostS C W e F σ H (opt _ _) E from q)
  obtain ⟨p, vs, rfl, p1, p2⟩ := z.tup
  rw [G.K]
  exact ⟨p, vs, rfl, t1.sr.sub.sqT p1, by rw [← p2.len, setVals_len k2], setVals_ok t1.toTr p2 k2 fun σ2 t2 _ => q F1 σ2 H1 t2⟩
def rIp (o : Bop) : TIp := fun x y H Q => ∃ i j z, x = .int i ∧ y = .int j ∧ augop o (.int i) (.int j) = some (.int z) ∧ Q (.int z) H
theorem ip_ok (o : Bop) (ho : (o == .add || o == .sub) = true) : PIp X (opOf o) (rIp o) := by
  intro pins s σ H x y v u Q I r1 r2 h
  obtain ⟨i, j, z, rfl, rfl, k, q⟩ := h
  cases o <;> first | (simp at ho; done) | skip
  · cases k; exact ip_add pins s σ H _ _ v u Q I r1 r2 ⟨i, j, rfl, rfl, q⟩
  · cases k; exact ip_sub pins s σ H _ _ v u Q I r1 r2 ⟨i, j, rfl, rfl, q⟩
theorem s_aug (G : GoodS T C n W c X) {i : Nat} {o : Bop} {a : E} {x : Str} {y : Expr} {p pos : Pos} (hx : stB c i x = true) (ho : (o == .add || o == .sub) = true) (ha : trE c a y = true) : PS X (.AugAssign (.Name x p) (opOf o) y pos) (RS T C n W (.aug i o a)) := by
  obtain ⟨l1, l2⟩ := G.st i x hx
  refine (ps_aug (by rw [G.N]; exact G.nd) (by rw [G.N]; exact stB_ix hx) l1 (s_E a G.toGood ha).1 (ip_ok o ho) l2).to fun E σ H => ?_
  rintro ⟨e, F, R, q⟩
  simp only [exS] at q
  split at q
  · rename_i d ed
    obtain ⟨v0, h1, h2⟩ := R.slot i _ ed
    refine ⟨v0, h1, e, F, R, PostS.first q fun r e1 v F1 H1 t1 r1 q => ?_⟩
    obtain ⟨y, k1, q⟩ := q.opt
    obtain ⟨z, k2, qz⟩ := q.opt
    obtain ⟨e2, k3, qf⟩ := qz.opt
    have hz := cont_crp t1.sr r1 k1
    unfold augop at k2
    split at k2 <;> cases k2
    · rw [Rep] at h2; subst h2; cases hz.int
      obtain ⟨F2, t2⟩ := put_ok (r := .v (.int _)) (v := .int _) t1 (show Rep C F1 _ _ from rep_int) rfl k3
      exact ⟨_, _, _, rfl, rfl, rfl, qf F2 _ H1 t2⟩
    · rw [Rep] at h2; subst h2; cases hz.int
      obtain ⟨F2, t2⟩ := put_ok (r := .v (.int _)) (v := .int _) t1 (show Rep C F1 _ _ from rep_int) rfl k3
      exact ⟨_, _, _, rfl, rfl, rfl, qf F2 _ H1 t2⟩
  · exact q.elim
theorem s_six (G : GoodS T C n W c X) {i : Nat} {k a : E} {x : Str} {y z : Expr} {p tp pos : Pos} (hx : nmB c i x = true) (hk : trE c k y = true) (ha : trE c a z = true) (hsl : isSl y = false) : PS X (.Assign [.Subscript (.Name x p) y tp] z pos) (RS T C n W (.six i k a)) := by
  have hs : swapsWithSole [.Subscript (.Name x p) y tp] z pos.line X.env = pure false := by
    show swapsWith z (some (.Subscript (.Name x p) y tp)) pos.line X.env = pure false
    cases z <;> rfl
  have hw : swappedStores [.Subscript (.Name x p) y tp] z X.env = pure none := by
    cases z <;> rfl
  refine (ps_asg (s_E a G.toGood ha).1 (pg_sub (G.nm hx) (s_E k G.toGood hk).1 set_list (by intro v; cases y <;> first | rfl | cases hsl)) hs hw rfl).to fun E σ H => ?_
  rintro ⟨e, F, R, q⟩
  refine ⟨e, F, R, PostS.first (by simpa only [exS] using q) fun r e1 v F1 H1 t1 r1 q => ?_⟩
  obtain ⟨⟨d, e2⟩, k1, q⟩ := q.opt
  obtain ⟨F2, t2, rp, s2⟩ := frz_ok t1 r1 k1
  dsimp only at q
  split at q
  · rename_i hl
    obtain ⟨a, h1, vs, h2⟩ := lstAt_ok t2.sr hl
    refine ⟨.ref a, h1, e2, F2, t2.sr, PostS.first (PostS.shift t2.toTr q) fun rk e3 v3 F3 H3 t3 r3 q => ?_⟩
    obtain ⟨kd, k2, q⟩ := q.opt
    obtain ⟨e4, k3, qf⟩ := q.opt
    have hz := cont_crp t3.sr r3 k2
    unfold sixE at k3
    split at k3
    · rename_i xs hxs
      obtain ⟨zi, k4, k6⟩ := Option.bind_eq_some_iff.mp k3
      cases kd <;> cases k4
      cases hz.int
      cases k5 : ixN xs.length zi with
      | none => rw [k5] at k6; cases k6
      | some j =>
        rw [k5] at k6
        cases k6
        obtain ⟨s, a', g1, g2, g3, m⟩ := mineD_ok t3.sr hxs
        rw [h1] at g3; cases g3
        obtain ⟨hF, ws, g4, g5⟩ := m.lst'
        have mm := mut_ok t3.sr g1 g2 h1 (d := .lst (xs.set j d)) (o := .lst (ws.set j v)) ⟨hF, _, upd_same, g5.set (rp.mono t3.fs) j⟩
        exact ⟨a, ws, zi, j, rfl, rfl, g4, by rw [← g5.len]; exact k5, qf F3 σ _ (t3.trans mm).toTr⟩
    · cases k3
  · exact q.elim
/-! ### control -/
theorem s_if {d : E} {a b : List S} {x : Expr} {ys zs : List Stmt} {pos : Pos} (hd : PT X x (RT T C n W d)) (ha : PSs X ys (RB T C n W a)) (hb : PSs X zs (RB T C n W b)) : PS X (.If x ys zs pos) (RS T C n W (.if_ d a b)) := by
  refine (ps_if hd ha hb).to fun E σ H => ?_
  rintro ⟨e, F, R, q⟩
  refine ⟨e, F, R, PostS.firstB (by simpa only [exS] using q) fun k e1 F1 H1 t1 q => ?_⟩
  cases k with
  | true => exact ⟨e1, F1, t1.sr, q⟩
  | false => exact ⟨e1, F1, t1.sr, q⟩
theorem s_ret {a : E} {x : Expr} {pos : Pos} (ha : PE X x (RE T C n W a)) : PS X (.Return (some x) pos) (RS T C n W (.ret a)) := by
  refine (ps_ret ha).to fun E σ H => ?_
  rintro ⟨e, F, R, q⟩
  refine ⟨e, F, R, PostS.first (by simpa only [exS] using q) fun r e1 v F1 H1 t1 r1 q => ?_⟩
  obtain ⟨⟨r2, e2⟩, k1, q⟩ := q.opt
  cases r with
  | v d => cases k1; exact q F1 σ H1 v t1.toTr r1
  | t d =>
    cases k1
    obtain ⟨a, rfl, m, h0, no⟩ := r1
    exact q F1 σ H1 _ t1.toTr ⟨a, rfl, m, no, .inr h0⟩
  | h i =>
    have r0 := r1
    obtain ⟨h1, s, h2, h3⟩ := r1
    have hz := t1.sr.slot i s h2
    simp only [retR, h2] at k1
    cases s with
    | un => cases k1
    | val d => cases k1; obtain ⟨v', z1, z2⟩ := hz; rw [h1] at z1; cases z1; exact q F1 σ H1 v t1.toTr z2
    | fro d => cases k1; obtain ⟨v', z1, z2⟩ := hz; rw [h1] at z1; cases z1; exact q F1 σ H1 v t1.toTr z2
    | bor d =>
      cases k1
      obtain ⟨F2, t2, rp, s2⟩ := frz_ok t1 (show RVok C H F1 σ H1 e1 (.h i) v from r0) (show frz e1 (.h i) = some (d, e1.set i (.fro d)) from by simp only [frz, h2])
      exact q F2 σ H1 v t2.toTr rp
    | own d =>
      cases k1
      obtain ⟨a, z1, z2⟩ := hz
      rw [h1] at z1; cases z1
      have hl : i < e1.length := (List.getElem?_eq_some_iff.mp h2).1
      have t2 : Tr C e F σ H (e1.set i .un) F1 (σ.set i (some (.ref a))) H1 := by
        refine set0 t1.toTr hl (fun d q => ?_) (fun d q => ?_) (.inl rfl)
        · obtain ⟨_, d', h | h⟩ := t1.toTr.bor i d q <;> (rw [h2] at h; cases h)
        · have h := (t1.toTr.fro i d q).2; rw [h2] at h; cases h
      have hσ : σ.set i (some (.ref a)) = σ := by
        apply List.ext_getElem?
        intro j
        by_cases z : i = j
        · subst z
          have hl2 : i < σ.length := by rw [← t1.sr.len]; exact hl
          rw [List.getElem?_set_self hl2, h1]
        · rw [getE_set_ne z]
      rw [hσ] at t2
      refine q F1 σ H1 _ t2 ⟨a, rfl, z2, fun ⟨j, s, w1, w2, w3⟩ => ?_, t1.toTr.own i d a h2 h1⟩
      by_cases z : i = j
      · subst z; rw [List.getElem?_set_self hl] at w1; cases w1; cases w2
      · rw [getE_set_ne z] at w1; exact z (t1.sr.dis i j _ s a h2 w1 rfl w2 h1 w3)
theorem s_nop : PSs X [] (RB T C n W []) := pss_nil.to fun E σ H ⟨e, F, R, q⟩ => by
  simp only [exB] at q
  exact q F σ H (Tr.refl R)
theorem s_seq {s : S} {ss : List S} {x : Stmt} {xs : List Stmt} (h1 : PS X x (RS T C n W s)) (h2 : PSs X xs (RB T C n W ss)) : PSs X (x :: xs) (RB T C n W (s :: ss)) := by
  refine (pss_cons h1 h2).to fun E σ H => ?_
  rintro ⟨e, F, R, q⟩
  refine ⟨e, F, R, ?_⟩
  simp only [exB] at q
  revert q
  generalize exS T (callF T n) s e = o
  intro q
  cases o with
  | exc c p e' => exact q
  | stuck => exact q
  | ok f e1 =>
    cases f with
    | next => exact fun F1 σ1 H1 t => ⟨e1, F1, t.sr, PostS.shift t q⟩
    | brk => exact q
    | cnt => exact q
    | ret r => exact q
theorem s_wh (G : GoodS T C n W c X) {d : E} {b : List S} {x : Expr} {ys : List Stmt} {pos : Pos} (hd : PT X x (RT T C n W d)) (hb : PSs X ys (RB T C n W b)) : PS X (.While x ys [] pos) (RS T C n W (.wh d b)) := by
  refine (ps_while G.po hd hb).to fun E σ H => ?_
  rintro ⟨e, F, R, q⟩
  refine ⟨fun m σ' H' => ∃ e' F', SR C e' F' σ' H' ∧ PostS C W e' F' σ' H' (whL (fun e => toB (evE T (callF T n) true d e)) (fun e => exB T (callF T n) b e) m e') E, ⟨T.wf, e, F, R, by simpa only [exS] using q⟩, ?_⟩
  rintro m σ' H' ⟨e', F', R', q⟩
  cases m with
  | zero => exact q.elim
  | succ m =>
    simp only [whL] at q
    refine ⟨e', F', R', PostS.firstB q fun k e1 F1 H1 t1 q => ?_⟩
    cases k with
    | false => rw [if_neg (by simp)] at q ⊢; exact q F1 σ' H1 (Tr.refl t1.sr)
    | true =>
      rw [if_pos rfl] at q ⊢
      refine ⟨fun σ2 H2 => ∃ e' F', SR C e' F' σ2 H2 ∧ PostS C W e' F' σ2 H2 (whL (fun e => toB (evE T (callF T n) true d e)) (fun e => exB T (callF T n) b e) m e') E, fun σ2 H2 w => ⟨m, Nat.lt_succ_self m, w⟩, e1, F1, t1.sr, ?_⟩
      revert q
      generalize exB T (callF T n) b e1 = o
      intro q
      cases o with
      | exc c p e' => exact q
      | stuck => exact q
      | ok f e2 =>
        cases f with
        | next => exact fun F2 σ2 H2 t => ⟨e2, F2, t.sr, PostS.shift t q⟩
        | cnt => exact fun F2 σ2 H2 t => ⟨e2, F2, t.sr, PostS.shift t q⟩
        | brk => exact q
        | ret r => exact q
theorem s_for (G : GoodS T C n W c X) {tg : Tg} {it : It} {b : List S} {t i : Expr} {ys : List Stmt} {pos : Pos} (hi : PI X t i (RI T C n W it)) (hg : PG X t (gTg C.K tg)) (hb : PSs X ys (RB T C n W b)) (hs : isSetE i = false) : PS X (.For t i ys [] pos) (RS T C n W (.for_ tg it b)) := by
  refine (ps_for G.po G.cl hi hg hb (folded_no hs)).to fun E σ H => ?_
  rintro ⟨e, F, R, q⟩
  refine ⟨e, F, R, PostS.firstI (by simpa only [exS] using q) fun ds e1 J F1 H1 t1 wk q => ?_⟩
  refine for_it (D := E) wk (fun i σ' H' => ∃ e' F', SR C e' F' σ' H' ∧ Sub F1 F' ∧ PostS C W e' F' σ' H' (forL (fun d e => opt (asg tg d e) fun e1 => exB T (callF T n) b e1) (ds.drop i) e') E) ⟨e1, F1, t1.sr, Sub.refl _, q⟩ ?_ ?_ ?_
  · rintro i σ' H' _ ⟨e', F', R', s', _⟩
    exact s'.trans R'.sub
  · rintro i x σ' H' H2 hlt ⟨e', F', R', s', q⟩ ⟨d, hdi, hy⟩
    have hdrop : ds.drop i = d :: ds.drop (i + 1) := by
      rw [List.drop_eq_getElem_cons hlt]
      rw [List.getElem?_eq_getElem hlt] at hdi; cases hdi; rfl
    rw [hdrop, forL] at q
    obtain ⟨F'', t2, s2, rx⟩ : ∃ F'', Tr C e' F' σ' H' e' F'' σ' H2 ∧ Sub F' F'' ∧ Rep C F'' d x := by
      rcases hy with ⟨rfl, r⟩ | ⟨p, d1, d2, x1, x2, rfl, hp, rfl, rfl, r1, r2⟩
      · exact ⟨F', Tr.refl R', Sub.refl _, r.mono s'⟩
      · have u := (TrE.refl R').newT (o := .tup [x1, x2]) hp
        refine ⟨_, u.toTr, u.fs, ?_⟩
        rw [Rep]
        exact ⟨p, [x1, x2], rfl, .inl (.inl upd_same), (RepL.cons r1 (.cons r2 .nil)).mono (s'.trans u.fs)⟩
    cases ka : asg tg d e' with
    | none => simp only [ka, opt_none, bd_stuck] at q; exact q.elim
    | some e2 =>
      simp only [ka, opt_some] at q
      refine asg_ok t2 rx ka fun σ3 t3 _ => ⟨e2, F'', t3.sr, ?_⟩
      have q := PostS.shift t3 q
      have ss : Sub F1 F'' := s'.trans s2
      revert q
      generalize exB T (callF T n) b e2 = o
      intro q
      cases o with
      | exc c p e' => exact q
      | stuck => exact q
      | ok f e3 =>
        cases f with
        | next => exact fun F3 σ4 H4 t => ⟨e3, F3, t.sr, ss.trans t.fs, PostS.shift t q⟩
        | cnt => exact fun F3 σ4 H4 t => ⟨e3, F3, t.sr, ss.trans t.fs, PostS.shift t q⟩
        | brk => exact q
        | ret r => exact q
  · rintro σ' H' ⟨e', F', R', _, q⟩
    rw [List.drop_length, forL] at q
    exact q F' σ' H' (Tr.refl R')
end
end PL
end

section
namespace PL
open PySem PySem.Spec L2
open PyProof.Rows hiding St

/-! ## try with several named clauses -/
abbrev HL := List (Value × Nat × (Addr → Value → Option Addr → TS))
/-- behind a clause its name is gone -/
def offS (i : Nat) (E : Ends) : Ends := { nx := fun σ H => E.nx (σ.set i none) H, rt := E.rt, bk := fun σ H => E.bk (σ.set i none) H, ct := fun σ H => E.ct (σ.set i none) H }
def wNm (K : PySem.W.Frag) (Wo : WX) (E : Ends) : HL → WX
  | [] => Wo
  | (k, i, ts) :: r => fun cls d σ H => ∃ b, PySem.W.exmOne K cls k = some b ∧ (b = true → ∀ a, H a = none → ts a cls d (offS i E) (σ.set i (some (.ref a))) H) ∧ (b = false → wNm K Wo E r cls d σ H)
inductive HdN (X : Cx) : List ExceptHandler → HL → Prop
  | nil : HdN X [] []
  | cons {x m : Str} {k : Value} {i : Nat} {ts : Addr → Value → Option Addr → TS} {y : Stmt} {ys : List Stmt} {np hp : Pos} {hs : List ExceptHandler} {l : HL} (hk : Names X x k) (hi : X.N[i]? = some m) (hm : X.env.kindOf m = some .local)
      (hy : ∀ (a : Addr) (o : Obj) (cls : Value) (d : Option Addr) (pn : List (Addr × Obj)), Zc cls d o → (∃ fs, o.data = .fields fs) → PSs (X.suite a ((a, o) :: pn)) (y :: ys) (ts a cls d)) (r : HdN X hs l) :
      HdN X (.ExceptHandler (some (.Name x np)) (some m) (y :: ys) hp :: hs) ((k, i, ts) :: l)
section
variable {X : Cx} {ys : List Stmt} {h0 : ExceptHandler} {hs : List ExceptHandler} {l : HL} {pos : Pos} {tb : WX → TS} {Wo : WX}
theorem ps_try_nm (stk : X.stack = X.env :: X.outer) (fr : X.env.frame = some X.env.locals) (nd : X.N.Nodup) (tk : Takes X Wo)
    (body : ∀ (V : WX) (q : List (Addr × Obj)) (xw : Value → Shared → Prop), Takes (X.tr q xw) V → PassesOwn (model X.prog X.w) X.A X.env xw → PSs (X.tr q xw) ys (tb V))
    (cl : HdN X (h0 :: hs) l) : PS X (.Try ys (h0 :: hs) [] [] pos) (fun E σ H => tb (wNm X.K Wo E l) E σ H) := by
  refine ⟨fun pins s σ H E I want => ?_⟩
  have good := I.ok
  have fr0 : X.A.frames = some (X.env :: X.outer) := by rw [good.frames, stk]
  refine wpAny_Try_except ?_
  have caught : Takes (X.tr (X.pn ++ pins) fun x z => wpAny (model X.prog X.w) X.A (noteFrame x X.env) (fun _ z2 => wpAny (model X.prog X.w) X.A (setFlight x none) (fun _ z3 =>
      wpAny (model X.prog X.w) X.A (handleBy x X.env (h0 :: hs)) (SP X pins E) X.xe z3) X.xe z2) X.xe z) (wNm X.K Wo E l) := by
    rintro x z ⟨a, B, sI, pins2, σ2, H2, cls, d, rfl, J2, below, slots, sky, fresh, same, bare, w⟩
    have J : Inv X pins σ2 H2 sI := J2.ofTry good
    have sky : Sky B (X.env :: X.outer) a (Zc cls d) X.env.locals z.heap := by rw [← stk]; exact sky
    show wpAny (model X.prog X.w) X.A (noteFrame (.ref a) X.env) _ _ z
    refine Sky.land Zc.steady fr0 fr sky fun g fly slots2 => ?_
    have at3 : Inv X pins σ2 H2 { z with heap := g } := J.landed below fly.1 (slots.trans slots2) same bare
    obtain ⟨ob, fs, look, isz, data⟩ := fly.there
    have off : a ∉ frs (X.env :: X.outer) := fun hm => by
      obtain ⟨_, ob2, look2, nofs⟩ := fly.2.2.1.mem hm
      rw [look] at look2
      cases look2
      exact nofs _ data
    have offL : a ≠ X.env.locals := fun e => off (List.mem_filterMap.mpr ⟨X.env, List.mem_cons_self, by rw [fr, e]⟩)
    have offF : a ∉ X.fs := fun hm => by
      obtain ⟨v, mv, ev⟩ := List.mem_filterMap.mp hm
      exact off (List.mem_filterMap.mpr ⟨v, List.mem_cons_of_mem _ mv, ev⟩)
    have inSuite := at3.suite look data fresh offL offF
    have tried : ∀ {hs' : List ExceptHandler} {l' : HL}, HdN X hs' l' → wNm X.K Wo E l' cls d σ2 H2 → wpAny (model X.prog X.w) X.A (handleBy (.ref a) X.env hs') (SP X pins E) X.xe { z with heap := g } := fun {hs' l'} hd => by
      induction hd with
      | nil =>
        intro w
        refine wpAny_handleBy_nil ?_
        obtain ⟨_, _, _, ob5, fs5, tr, otr, sl5, look5, _, data5, one5, _⟩ := id fly
        unfold PySem.passOn
        refine wpAny_bind (wpAny_field look5 data5 one5 ?_)
        rw [if_neg (show ¬ ((Value.ref tr == Value.none) = true) from by simp)]
        have onward : wpAny (model X.prog X.w) X.A (setFlight (.ref a) X.env.frame) (fun _ z4 => wpAny (model X.prog X.w) X.A (throw (.ref a) : Sem Flow) (SP X pins E) X.xe z4) X.xe { z with heap := g } := by
          rw [fr]
          refine HandSPX.setFlight_upZ fly fun g4 held slots4 => wpAny_throw (tk (.ref a) _ ?_)
          exact ⟨a, B, sI, pins, σ2, H2, cls, d, rfl, J, below, (slots.trans slots2).trans slots4, .inr (.inr (by rw [stk]; exact held)), fresh, same, bare, w⟩
        first | exact wpAny_bind onward | exact wpAny_bind (wpAny_pure (wpAny_bind onward))
      | @cons x m k i ts y yr np hp hs2 l2 named slot loc suite rest ih =>
        rintro ⟨b, asks, yes, no⟩
        refine wpAny_handleBy_cons (codeAny_handlers_test ?_) (by intro bad; cases bad)
        have typ : PySem.W.Looks (model X.prog X.w) g (typeOf (.ref a)) cls := fun _ _ _ _ keep q => wpAny_typeOf_ref (keep _ _ look) (by rw [isz.1]; exact q)
        have answer := PySem.W.exm_one (M := model X.prog X.w) at3.kIn typ asks
        have cls0 : ∀ {Q R : Value → Shared → Prop}, Q k { z with heap := g } → wpAny (model X.prog X.w) (X.A.mark (some (.ref a))) (eval (.Name x np) X.env) Q R { z with heap := g } := fun {Q R} q => by
          obtain ⟨isg, nodbg, mod | ⟨nomod, boot, noname⟩⟩ := named
          · exact ld_glob (X := X.suite a ((a, ob) :: (X.pn ++ pins))) inSuite isg mod q nodbg
          · exact ld_blt (X := X.suite a ((a, ob) :: (X.pn ++ pins))) inSuite isg nomod boot q noname nodbg
        refine cls0 (answer.here ?_)
        cases b with
        | false =>
          show wpAny _ X.A (handleBy (.ref a) X.env hs2) _ _ _
          exact ih (no rfl)
        | true =>
          refine codeAny_handlers_suite_as (HandSPX.lands_againZ fly fun g6 fly6 slots6 => ?_)
          have at6 : Inv X pins σ2 H2 { z with heap := g6 } := J.landed below fly6.1 ((slots.trans slots2).trans slots6) same bare
          obtain ⟨ob6, fs6, look6, isz6, data6⟩ := fly6.there
          refine store_ok (X := X.suite a ((a, ob6) :: (X.pn ++ pins))) (v := .ref a) (at6.suite look6 data6 fresh offL offF) nd slot (.inl loc) rfl (fun z7 at7 => ?_) (.inr loc)
          refine wpAny_mono ((suite a ob6 cls d (X.pn ++ pins) isz6 ⟨_, data6⟩).run [] z7 _ H2 _ at7 (yes rfl a fresh)) (fun flow z8 got => ?_) fun _ _ never => never.elim
          have gone : ∀ {σ8 : St} {H8 : Hp} {Q : Shared → Prop}, Inv (X.suite a ((a, ob6) :: (X.pn ++ pins))) [] σ8 H8 z8 → (∀ z9, Inv X pins (σ8.set i none) H8 z9 → Q z9) →
              wpAny (model X.prog X.w) X.A (do bindName X.env m .none; unbindBehindTheSuite X.env m hp) (fun _ z9 => Q z9) X.xe z8 := fun {σ8 H8 Q} at8 q => gone_ok (at8.unsuite good) nd slot loc q
          cases flow with
          | next => obtain ⟨σ8, H8, at8, q8⟩ := got; exact gone at8 fun z9 at9 => ⟨_, _, at9, q8⟩
          | brk => obtain ⟨σ8, H8, at8, q8⟩ := got; exact gone at8 fun z9 at9 => ⟨_, _, at9, q8⟩
          | cont => obtain ⟨σ8, H8, at8, q8⟩ := got; exact gone at8 fun z9 at9 => ⟨_, _, at9, q8⟩
          | ret u => obtain ⟨v8, σ8, H8, at8, r8, q8⟩ := got; exact gone at8 fun z9 at9 => ⟨_, _, _, at9, r8, q8⟩
    exact tried cl w
  refine wpAny_mono ((body (wNm X.K Wo E l) (X.pn ++ pins) _ caught PassesOwn.looking).run [] s σ H E (I.toTry _) want) (fun flow z got => ?_) fun _ _ x => x
  cases flow with
  | next => obtain ⟨σ2, H2, at2, q⟩ := got; exact wpAny_execs_nil ⟨σ2, H2, at2.ofTry good, q⟩
  | brk => obtain ⟨σ2, H2, at2, q⟩ := got; exact ⟨σ2, H2, at2.ofTry good, q⟩
  | cont => obtain ⟨σ2, H2, at2, q⟩ := got; exact ⟨σ2, H2, at2.ofTry good, q⟩
  | ret u => obtain ⟨v2, σ2, H2, at2, r2, q⟩ := got; exact ⟨v2, σ2, H2, at2.ofTry good, r2, q⟩
end
end PL
end

section
namespace PL
open PySem PySem.Spec L2
open PyProof.Rows hiding St

/-- a class of exceptions -/
structure ExK (K : PySem.W.Frag) (p : Addr) : Prop where
  base : ∃ B newId initId bm, ExcBaseFacts B newId initId bm ∧ PySem.W.excIn K p bm newId = true
  sub : PySem.W.subIn K (.ref p) (.type "BaseException") = some true
  ty : PySem.W.typeIn K (.ref p) = some (.type "type")
  exc : ExcC K p
  keep : PySem.W.keepIn K (.ref p) = true
structure GEx (T : GT) (C : G0) (c : CC) (X : Cx) : Prop where
  en : ∀ (k : Nat) (x : Str), c.en[k]? = some x → X.mg x = some (.ref (C.cv k)) ∧ ExK C.K (C.cv k)
  exm : ∀ (k k' : Nat) (x : Str), k < T.nex → c.en[k']? = some x → PySem.W.exmOne C.K (.ref (C.cv k)) (.ref (C.cv k')) = some (decide (k = k'))
  isx : ∀ p ∈ c.isx, PySem.W.kitOne C.K (.ref (C.cv p.1)) (.type p.2) = some true
  mgx : ∀ s ∈ ["ValueError", "LookupError"], X.mg (Str.ofString s) = none
section
variable {X : Cx}
theorem pmk_own0 {p : Addr} {bm : List Value} {B newId initId : String} {x : Str} {np pos : Pos} (f : ExcBaseFacts B newId initId bm) (q : PySem.W.excIn X.K p bm newId = true) (g : X.mg x = some (.ref p)) (kp : PySem.W.keepIn X.K (.ref p) = true) (r : Raises X (.ref p)) (hg : Gl X x) (hd : (x == ("__debug__" : Str)) = false) :
    PMk X (.Call (.Name x np) [] [] pos) (fun _ H Q => Q (.ref p) none H) := by
  intro pins s σ H Q I want
  refine wpAny_Call_Name_kw (ld_glob I hg g ?_ hd)
  refine PySem.W.callWith_K0 I.kIn kp ?_
  obtain ⟨bs, N, nm, qn, b2, hdct, sn, sub, ab, col, dd, k0, k1, k2, k3, k4, mN, hC, hN, hni, T⟩ := exc_obj I.kIn q
  exact wpAny_call_exc_subT f T hC hN hni (fun g2 e made => mk_of I made r want (I.hok.gone made.new)) (Nat.zero_le _)
end
section
variable {T : GT} {C : G0} {n : Nat} {W : WX} {c : CC} {X : Cx}
theorem s_raise (G : GoodS T C n W c X) (GX : GEx T C c X) {k : Nat} {x : Str} {np p2 pos : Pos} (hk : c.en[k]? = some x) (hg : glB c.sc x = true) : PS X (.Raise (some (.Call (.Name x np) [] [] p2)) none pos) (RS T C n W (.raise_ k)) := by
  obtain ⟨g1, g2, g3⟩ := G.glb hg
  obtain ⟨m, ex⟩ := GX.en k x hk
  obtain ⟨B, newId, initId, bm, f, q⟩ := ex.base
  refine (ps_raise G.cl G.tk (pmk_own0 (X := X) f (by rw [G.K]; exact q) m (by rw [G.K]; exact ex.keep) (raises_own (by rw [G.K]; exact ex.sub) (by rw [G.K]; exact ex.ty)) g1 g2)).to fun E σ H => ?_
  rintro ⟨e, F, R, q⟩
  simp only [exS] at q
  exact (q F σ H (Tr.refl R)).2
/-- the suite of a clause -/
def tSuite (C : G0) (h : Hd) (a : Addr) (cls : Value) (d : Option Addr) : TS := fun E σ H => cls = .ref (C.cv h.c) ∧ d = none ∧ σ[h.i]? = some (some (.ref a)) ∧ ∀ p, H p = none → E.nx (σ.set h.j (some (.ref p))) (upd H p (.lst [.str h.lab, .bl true]))
theorem exc_boot : ∀ s ∈ ["ValueError", "LookupError"], bootBuiltins (Str.ofString s) = some (.type s) := by decide +kernel
theorem s_suite (G : GoodS T C n W c X) (GX : GEx T C c X) {h : Hd} {m y cl : Str} {a : Addr} {oe : Obj} {cls : Value} {d : Option Addr} {pn : List (Addr × Obj)} {yp np fp cp lp kp sp sp2 : Pos} {z : Nat} (hm : nmB c h.i m = true) (hy : stB c h.j y = true)
    (hi : glB c.sc "isinstance" = true) (hcl : cl = Str.ofString h.cls) (hg : glB c.sc cl = true) (ht : (trHd.tyExc).contains h.cls = true) (hx : c.isx.contains (h.c, h.cls) = true) (hex : ∃ x, c.en[h.c]? = some x) (hz : Zc cls d oe) (hf : ∃ fs, oe.data = .fields fs) :
    PSs (X.suite a ((a, oe) :: pn)) [.Assign [.Name y yp] (.List [.Constant (.str h.lab) z kp, .Call (.Name "isinstance" fp) [.Name m np, .Name cl cp] [] lp] sp2) sp] (tSuite C h a cls d) := by
  refine ⟨fun pins s σ H E I => ?_⟩
  rintro ⟨rfl, rfl, hσ, want⟩
  obtain ⟨g1, g2, g3⟩ := G.glb hi
  obtain ⟨u1, u2, u3⟩ := G.glb hg
  have hs : h.cls ∈ ["ValueError", "LookupError"] := List.contains_iff_mem.mp ht
  obtain ⟨x, hen⟩ := hex
  obtain ⟨_, ex⟩ := GX.en h.c x hen
  have kit := GX.isx _ (List.contains_iff_mem.mp hx)
  unfold nmB dbgB at hm
  simp only [Bool.and_eq_true] at hm
  have pv : PE (X.suite a ((a, oe) :: pn)) (.Name m np) (tVar h.i) := pe_var (by show X.N[h.i]? = _; rw [G.N]; exact of_decide_eq_true hm.1.1) (by show Vis X.env.scope m; rw [G.sc]; exact vis_of hm.1.2) (by simpa using hm.2.1) (by simpa using hm.2.2)
  subst hcl
  have pc : PE (X.suite a ((a, oe) :: pn)) (.Name (Str.ofString h.cls) cp) (tC (.ty h.cls)) := pe_bltn u1 (GX.mgx _ hs) (exc_boot _ hs) rfl u3 u2
  have pcall := pe_callB (X := X.suite a ((a, oe) :: pn)) (p := fp) (pos := lp) (call_isE (by show ExcC X.K _; rw [G.K]; exact ex.exc) hz hf) g1 (G.gl.bi "isinstance" (by decide)) (by decide +kernel) (pa_cons pv (pa_cons pc pa_nil)) g3 g2
  obtain ⟨l1, l2⟩ := G.st h.j y hy
  have ps := ps_set (X := X.suite a ((a, oe) :: pn)) (pos' := yp) (pos := sp) (by show X.N.Nodup; rw [G.N]; exact G.nd) (by show X.N[h.j]? = _; rw [G.N]; exact stB_ix hy) l1 (pe_lst (pos := sp2) (pa_cons (pe_str (x := h.lab) (j := z) (pos := kp)) (pa_cons pcall pa_nil))) rfl l2
  refine (pss_one ps).run pins s σ H E I ?_
  refine ⟨.ref a, hσ, .ty h.cls, .type h.cls, true, rfl, fun u r => r, ?_, ?_⟩
  · show PySem.W.kitOne X.K _ _ = _; rw [G.K]; exact kit
  · exact ⟨by rw [← sizeL_eq]; unfold sizeL; simp, want⟩
theorem setOk_set {e : EV} {i j : Nat} {s : SV} (h : setOk (e.set i s) j = true) (hne : i ≠ j) : setOk e j = true := by
  unfold setOk at h ⊢
  rw [getE_set_ne hne] at h
  exact h
/-- what the clauses wish -/
def hL (C : G0) (hs : List Hd) : HL := hs.map fun h => (.ref (C.cv h.c), h.i, tSuite C h)
theorem exH_w (GX : GEx T C c X) {e e1 : EV} {F H F1 H1 : Hp} {σ σ1 : St} {E : Ends} {k : Nat} (hk : k < T.nex) (t : Tr C e F σ H e1 F1 σ1 H1) : ∀ {hs : List Hd}, (∀ h ∈ hs, ∃ x, c.en[h.c]? = some x) → PostS C W e F σ H (exH hs k [] e1) E → wNm C.K W E (hL C hs) (.ref (C.cv k)) none σ1 H1
  | [], _, q => (q F1 σ1 H1 t).2
  | h :: hs, hen, q => by
    obtain ⟨x, hx⟩ := hen h (by simp)
    refine ⟨decide (k = h.c), GX.exm k h.c x hk hx, fun hb a ha => ?_, fun hb => ?_⟩
    · have e0 := of_decide_eq_true hb
      subst e0
      simp only [exH, if_pos] at q
      split at q
      · rename_i ok
        simp only [Bool.and_eq_true, bne_iff_ne, ne_eq] at ok
        obtain ⟨⟨ok1, ok2⟩, hne⟩ := ok
        have ok3 := setOk_set ok2 hne
        have hl : h.i < σ1.length := by rw [← t.sr.len]; exact (setOk_not ok1).1
        refine ⟨rfl, rfl, by simp [hl], fun p hp => ?_⟩
        show E.nx (((σ1.set h.i (some (.ref a))).set h.j (some (.ref p))).set h.i none) _
        have e1' : ((σ1.set h.i (some (.ref a))).set h.j (some (.ref p))).set h.i none = (σ1.set h.j (some (.ref p))).set h.i none := by
          rw [List.set_comm _ _ hne, List.set_set]
        rw [e1']
        have hF : F1 p = none := by
          cases z : F1 p with
          | none => rfl
          | some u => rw [t.sr.sub p u z] at hp; cases hp
        have hH : H p = none := by
          by_cases z : H p = none
          · exact z
          · exact absurd hp (t.there p z)
        have no := own_there t.sr hp
        have t2 := set1 (t.pad (o := .lst [.str h.lab, .bl true]) hH hF no) ok3 (s' := .own (.lst [.str h.lab, .bl true])) (o := some (.ref p)) (.inr (.inr ⟨_, p, rfl, rfl, ⟨hF, _, upd_same, .cons rep_str (.cons rep_bl .nil)⟩, no, .inr hH⟩))
        have ok4 : setOk (e1.set h.j (.own (.lst [.str h.lab, .bl true]))) h.i = true := by
          unfold setOk at ok1 ⊢
          rw [getE_set_ne (Ne.symm hne)]
          exact ok1
        exact q F1 _ _ (set1 t2 ok4 (.inl rfl))
      · exact q.elim
    · have hne : ¬ k = h.c := of_decide_eq_false hb
      simp only [exH, if_neg hne] at q
      exact exH_w GX hk t (fun h' hh => hen h' (by simp [hh])) q
theorem inv_hd {h : Hd} {x : ExceptHandler} (hh : trHd c h x = true) : ∃ y np m s hp, x = .ExceptHandler (some (.Name y np)) (some m) [s] hp ∧ c.en[h.c]? = some y ∧ glB c.sc y = true ∧ c.sc.names.lookup m = some .local ∧ stB c h.i m = true ∧
    ∃ y2 yp l z kp fp np2 cl cp lp sp pos, s = .Assign [.Name y2 yp] (.List [.Constant (.str l) z kp, .Call (.Name "isinstance" fp) [.Name m np2, .Name cl cp] [] lp] sp) pos ∧ nmB c h.i m = true ∧ stB c h.j y2 = true ∧ h.lab = l ∧ glB c.sc "isinstance" = true ∧ cl = Str.ofString h.cls ∧ glB c.sc cl = true ∧ (trHd.tyExc).contains h.cls = true ∧ c.isx.contains (h.c, h.cls) = true := by
  unfold trHd at hh
  split at hh
  · simp only [Bool.and_eq_true, decide_eq_true_eq] at hh
    obtain ⟨⟨⟨⟨⟨⟨⟨⟨⟨⟨⟨⟨h1, h2⟩, h3⟩, h4⟩, h5⟩, h6⟩, h7⟩, h8⟩, h9⟩, h10⟩, h11⟩, h12⟩, h13⟩ := hh
    rename_i x1 np m y2 yp l z kp f fp m2 np2 cl cp lp sp pos hp
    have h4' : c.sc.names.lookup m = some NameKind.local := by
      split at h4
      · assumption
      · cases h4
    have em : m2 = m := by
      have a1 := stB_ix h3
      unfold nmB at h5
      rw [Bool.and_eq_true, Bool.and_eq_true] at h5
      have a2 := of_decide_eq_true h5.1.1
      rw [a1] at a2; cases a2; rfl
    subst em h8
    exact ⟨x1, np, m2, _, hp, rfl, h1, h2, h4', h3, y2, yp, l, z, kp, fp, np2, cl, cp, lp, sp, pos, rfl, h5, h6, h7, h9, h10, h11, h12, h13⟩
  · cases hh
theorem s_hds (G : GoodS T C n W c X) (GX : GEx T C c X) : ∀ {hs : List Hd} {xs : List ExceptHandler}, trHs c hs xs = true → HdN X xs (hL C hs) ∧ ∀ h ∈ hs, ∃ x, c.en[h.c]? = some x
  | [], [], _ => ⟨.nil, fun h hh => by simp at hh⟩
  | h :: hs, x :: xs, hh => by
    simp only [trHs, Bool.and_eq_true] at hh
    obtain ⟨y, np, m, s, hp, rfl, h1, h2, h3, h4, y2, yp, l, z, kp, fp, np2, cl, cp, lp, sp, pos, rfl, k1, k2, rfl, k4, k5, k6, k7, k8⟩ := inv_hd hh.1
    obtain ⟨r1, r2⟩ := s_hds G GX hh.2
    obtain ⟨g1, g2, g3⟩ := G.glb h2
    refine ⟨.cons ⟨g1, g2, .inl (GX.en h.c y h1).1⟩ (by rw [G.N]; exact stB_ix h4) (by show X.env.scope.names.lookup m = _; rw [G.sc]; exact h3) (fun a o cls d pn hz hf => s_suite G GX k1 k2 k4 k5 k6 k7 k8 ⟨y, h1⟩ hz hf) r1, fun h' hm => ?_⟩
    rcases List.mem_cons.mp hm with rfl | hm
    · exact ⟨y, h1⟩
    · exact r2 h' hm
  | [], _ :: _, hh => by simp [trHs] at hh
  | _ :: _, [], hh => by simp [trHs] at hh
theorem GoodS.try_ (G : GoodS T C n W c X) {V : WX} {q : List (Addr × Obj)} {xw : Value → Shared → Prop} (tk : Takes (X.tr q xw) V) (po : PassesOwn (model X.prog X.w) X.A X.env xw) : GoodS T C n V c (X.tr q xw) where
  K := G.K
  N := G.N
  nd := G.nd
  sc := G.sc
  st := G.st
  cm := G.cm
  hu := G.hu
  room := G.room
  tk := tk
  gl := G.gl
  kind := G.kind
  po := po
  stk := G.stk
  fr := G.fr
  cl := G.cl
  bs := G.bs
  fnx := G.fnx
theorem s_try (G : GoodS T C n W c X) (GX : GEx T C c X) {b : List S} {hs : List Hd} {ys : List Stmt} {x : ExceptHandler} {xs : List ExceptHandler} {pos : Pos} (hb : ∀ {V : WX} {X' : Cx}, GoodS T C n V c X' → GEx T C c X' → PSs X' ys (RB T C n V b)) (hh : trHs c hs (x :: xs) = true) :
    PS X (.Try ys (x :: xs) [] [] pos) (RS T C n W (.try_ b hs)) := by
  obtain ⟨h1, h2⟩ := s_hds G GX hh
  refine (ps_try_nm (tb := fun V => RB T C n V b) G.stk G.fr (by rw [G.N]; exact G.nd) G.tk (fun V q xw tk po => hb (G.try_ tk po) ⟨GX.en, GX.exm, GX.isx, GX.mgx⟩) h1).to fun E σ H => ?_
  rintro ⟨e, F, R, q⟩
  refine ⟨e, F, R, ?_⟩
  simp only [exS] at q
  revert q
  generalize exB T (callF T n) b e = o
  intro q
  cases o with
  | stuck => exact q
  | ok f e1 => cases f <;> exact q
  | exc k p e1 =>
    intro F1 σ1 H1 t
    dsimp only at q
    split at q
    · rename_i ok
      rw [Bool.and_eq_true] at ok
      have hp : p = [] := by simpa using ok.2
      subst hp
      exact ⟨rfl, by rw [G.K]; exact exH_w GX (of_decide_eq_true ok.1) t h2 q⟩
    · exact q.elim
end
end PL
end

section
namespace PL
open PySem PySem.Spec L2

section
variable {c : CC} {x : Stmt}
theorem one_t {ts : List Expr} (h : ts.length = 1) : ∃ t, ts = [t] := by
  match ts, h with
  | [t], _ => exact ⟨t, rfl⟩
theorem i_set {i : Nat} {a : E} (h : trS c (.set i a) x = true) : ∃ z zp y p, x = .Assign [.Name z zp] y p ∧ stB c i z = true ∧ trE c a y = true := by
  cases x <;> first | (simp only [trS] at h; cases h; done) | skip
  rename_i ts y p
  match ts, h with
  | [], h => simp only [trS] at h; cases h
  | t :: _ :: _, h => cases t <;> first | (cases h; done) | (cases y <;> (cases h; done))
  | [t], h =>
    cases t <;> first | (simp only [trS] at h; cases h; done) | skip
    simp only [trS, Bool.and_eq_true] at h
    exact ⟨_, _, _, _, rfl, h.1, h.2⟩
theorem i_par {is : List Nat} {as : List E} (h : trS c (.par is as) x = true) : ∃ ts k tp xs k2 p2 p, x = .Assign [.Tuple ts k tp] (.Tuple xs k2 p2) p ∧ trTg.trNs c is ts = true ∧ trA c as xs = true ∧ as.length = is.length ∧ is.Nodup ∧ is.length ≤ 100 ∧ parB c ts xs = true := by
  cases x <;> first | (simp only [trS] at h; cases h; done) | skip
  rename_i ts y p
  match ts, h with
  | [], h => simp only [trS] at h; cases h
  | t :: _ :: _, h => cases t <;> first | (cases h; done) | (cases y <;> (cases h; done))
  | [t], h =>
    cases t <;> first | (simp only [trS] at h; cases h; done) | skip
    cases y <;> first | (simp only [trS] at h; cases h; done) | skip
    simp only [trS, Bool.and_eq_true, decide_eq_true_eq] at h
    obtain ⟨⟨⟨⟨⟨⟨h1, h2⟩, h3⟩, h4⟩, h5⟩, h6⟩, h7⟩ := h
    exact ⟨_, _, _, _, _, _, _, rfl, h2, h3, h4, h5, h6, h7⟩
theorem i_unp {is : List Nat} {a : E} (h : trS c (.unp is a) x = true) : ∃ ts k tp y p, x = .Assign [.Tuple ts k tp] y p ∧ trTg.trNs c is ts = true ∧ trE c a y = true ∧ isTup y = false := by
  cases x <;> first | (simp only [trS] at h; cases h; done) | skip
  rename_i ts y p
  match ts, h with
  | [], h => simp only [trS] at h; cases h
  | t :: _ :: _, h => cases t <;> first | (cases h; done) | (cases y <;> (cases h; done))
  | [t], h =>
    cases t <;> first | (simp only [trS] at h; cases h; done) | skip
    simp only [trS, Bool.and_eq_true] at h
    obtain ⟨⟨⟨h1, h2⟩, h3⟩, h4⟩ := h
    exact ⟨_, _, _, _, _, rfl, h2, h3, by simpa using h4⟩
theorem i_six {i : Nat} {k a : E} (h : trS c (.six i k a) x = true) : ∃ z zp y tp w p, x = .Assign [.Subscript (.Name z zp) y tp] w p ∧ nmB c i z = true ∧ trE c k y = true ∧ trE c a w = true := by
  cases x <;> first | (simp only [trS] at h; cases h; done) | skip
  rename_i ts y p
  match ts, h with
  | [], h => simp only [trS] at h; cases h
  | t :: _ :: _, h => cases t <;> first | (cases h; done) | (rename_i o _ _ ; cases o <;> (cases h; done))
  | [t], h =>
    cases t <;> first | (simp only [trS] at h; cases h; done) | skip
    rename_i o z tp
    cases o <;> first | (simp only [trS] at h; cases h; done) | skip
    simp only [trS, Bool.and_eq_true] at h
    exact ⟨_, _, _, _, _, _, rfl, h.1.1, h.1.2, h.2⟩
end
section
variable {T : GT} {C : G0} {n : Nat} {c : CC}
mutual
theorem s_S : ∀ (s : S) {W : WX} {X : Cx} (G : GoodS T C n W c X) (GX : GEx T C c X) {x : Stmt} (h : trS c s x = true), PS X x (RS T C n W s)
  | .ex a, W, X, G, GX, x, h => by
    cases x <;> first | (simp only [trS] at h; cases h; done) | skip
    simp only [trS, Bool.and_eq_true] at h
    obtain ⟨n1, n2⟩ := tr_nosc h.1
    exact s_ex G (s_E a G.toGood h.1).1 fun l => swaps_no0 (by simpa using h.2) n1 n2
  | .set i a, W, X, G, GX, x, h => by
    obtain ⟨z, zp, y, p, rfl, h1, h2⟩ := i_set h
    exact s_set G h1 h2
  | .par is as, W, X, G, GX, x, h => by
    obtain ⟨ts, k, tp, xs, k2, p2, p, rfl, h2, h3, h4, h5, h6, h7⟩ := i_par h
    exact s_par G h2 h3 h4 h5 h6 h7
  | .unp is a, W, X, G, GX, x, h => by
    obtain ⟨ts, k, tp, y, p, rfl, h2, h3, h4⟩ := i_unp h
    exact s_unp G h2 h3 h4
  | .aug i o a, W, X, G, GX, x, h => by
    cases x <;> first | (simp only [trS] at h; cases h; done) | skip
    rename_i t p y pos
    cases t <;> first | (simp only [trS] at h; cases h; done) | skip
    simp only [trS, Bool.and_eq_true] at h
    obtain ⟨⟨⟨⟨h1, h2⟩, h3⟩, h4⟩, h5⟩ := h
    rw [← of_decide_eq_true h3]
    exact s_aug G h1 h4 h5
  | .six i k a, W, X, G, GX, x, h => by
    obtain ⟨z, zp, y, tp, w, p, rfl, h1, h2, h3⟩ := i_six h
    exact s_six G h1 h2 h3 (tr_slice h2)
  | .unpx ts a, W, X, G, GX, x, h => by cases x <;> (simp only [trS] at h; cases h)
  | .if_ d a b, W, X, G, GX, x, h => by
    cases x <;> first | (simp only [trS] at h; cases h; done) | skip
    simp only [trS, Bool.and_eq_true] at h
    exact s_if (s_E d G.toGood h.1.1).2 (s_B a G GX h.1.2) (s_B b G GX h.2)
  | .wh d b, W, X, G, GX, x, h => by
    cases x <;> first | (simp only [trS] at h; cases h; done) | skip
    rename_i y ys zs p
    cases zs <;> first | (simp only [trS] at h; cases h; done) | skip
    simp only [trS, Bool.and_eq_true] at h
    exact s_wh G (s_E d G.toGood h.1).2 (s_B b G GX h.2)
  | .for_ tg it b, W, X, G, GX, x, h => by
    cases x <;> first | (simp only [trS] at h; cases h; done) | skip
    rename_i t i ys zs p
    cases zs <;> first | (simp only [trS] at h; cases h; done) | skip
    simp only [trS, Bool.and_eq_true] at h
    obtain ⟨⟨⟨⟨h1, h2⟩, h3⟩, h4⟩, h5⟩ := h
    obtain ⟨k1, k2⟩ := s_I it (tg := tg) (t := t) G.toGood h2 ⟨c, h3⟩ h4
    exact s_for G k1 (s_tg G.toGood h1 h3) (s_B b G GX h5) k2
  | .ret a, W, X, G, GX, x, h => by
    cases x <;> first | (simp only [trS] at h; cases h; done) | skip
    rename_i v p
    cases v <;> first | (simp only [trS] at h; cases h; done) | skip
    simp only [trS] at h
    exact s_ret (s_E a G.toGood h).1
  | .retN, W, X, G, GX, x, h => by
    cases x <;> first | (simp only [trS] at h; cases h; done) | skip
    rename_i v p
    cases v <;> first | (simp only [trS] at h; cases h; done) | skip
    exact ps_retN.to fun E σ H ⟨e, F, R, q⟩ => q F σ H .non (Tr.refl R) (show Rep C F .non .non from rep_non)
  | .raise_ k, W, X, G, GX, x, h => by
    cases x <;> first | (simp only [trS] at h; cases h; done) | skip
    rename_i v w p
    cases v <;> first | (simp only [trS] at h; cases h; done) | skip
    rename_i v
    cases v <;> first | (simp only [trS] at h; cases h; done) | skip
    rename_i f xs kws p2
    cases f <;> first | (simp only [trS] at h; cases h; done) | skip
    cases xs <;> first | (simp only [trS] at h; cases h; done) | skip
    cases kws <;> first | (simp only [trS] at h; cases h; done) | skip
    cases w <;> first | (simp only [trS] at h; cases h; done) | skip
    simp only [trS, Bool.and_eq_true, decide_eq_true_eq] at h
    exact s_raise G GX h.1.2 h.2
  | .brk, W, X, G, GX, x, h => by
    cases x <;> first | (simp only [trS] at h; cases h; done) | skip
    exact ps_break.to fun E σ H ⟨e, F, R, q⟩ => q F σ H (Tr.refl R)
  | .cnt, W, X, G, GX, x, h => by
    cases x <;> first | (simp only [trS] at h; cases h; done) | skip
    exact ps_continue.to fun E σ H ⟨e, F, R, q⟩ => q F σ H (Tr.refl R)
  | .pass, W, X, G, GX, x, h => by
    cases x <;> first | (simp only [trS] at h; cases h; done) | skip
    exact ps_pass.to fun E σ H ⟨e, F, R, q⟩ => q F σ H (Tr.refl R)
  | .try_ b hs, W, X, G, GX, x, h => by
    cases x <;> first | (simp only [trS] at h; cases h; done) | skip
    rename_i ys xs us vs p
    cases xs <;> first | (simp only [trS] at h; cases h; done) | skip
    cases us <;> first | (simp only [trS] at h; cases h; done) | skip
    cases vs <;> first | (simp only [trS] at h; cases h; done) | skip
    simp only [trS, Bool.and_eq_true] at h
    exact s_try G GX (fun {V X'} G' GX' => s_B b G' GX' h.1.2) h.2
theorem s_B : ∀ (ss : List S) {W : WX} {X : Cx} (G : GoodS T C n W c X) (GX : GEx T C c X) {xs : List Stmt} (h : trB c ss xs = true), PSs X xs (RB T C n W ss)
  | [], W, X, G, GX, [], h => s_nop
  | s :: ss, W, X, G, GX, x :: xs, h => by
    simp only [trB, Bool.and_eq_true] at h
    exact s_seq (s_S s G GX h.1) (s_B ss G GX h.2)
  | [], _, _, _, _, _ :: _, h => by simp only [trB] at h; cases h
  | _ :: _, _, _, _, _, [], h => by simp only [trB] at h; cases h
end
end
end PL
end

section
namespace PL
open PySem PySem.Spec L2
open PyProof.Rows hiding St

/-! ## the defs -/
structure NG where
  fn : List Str
  cn : List Str
  en : List Str
  kw : List (Nat × List Str × Nat)
  gcd : Bool
  isx : List (Nat × String)
  dn : List Str
def ccOf (g : NG) (N : List Str) (sc : Scope) : CC := ⟨N, sc, none, g.fn, g.cn, g.en, true, g.kw, g.gcd, g.isx, g.dn⟩
def scB (N P : List Str) (sc : Scope) : Bool := (match sc.kind with | .function => true | _ => false) && !sc.isCoroutine && !sc.isGenerator && decide N.Nodup && decide (N.take P.length = P) &&
  (P.all fun x => sc.names.lookup x == some .local || sc.names.lookup x == some .cell) && (sc.names.all fun y => y.2 != .free)
theorem scB_ok {N P : List Str} {sc : Scope} (h : scB N P sc = true) : FnScope N P sc := by
  unfold scB at h
  simp only [Bool.and_eq_true, decide_eq_true_eq, List.all_eq_true, Bool.or_eq_true, beq_iff_eq, bne_iff_ne, ne_eq, Bool.not_eq_true'] at h
  obtain ⟨⟨⟨⟨⟨⟨h1, h2⟩, h3⟩, h4⟩, h5⟩, h6⟩, h7⟩ := h
  refine ⟨?_, h2, h3, h4, h5, h6, h7⟩
  split at h1
  · assumption
  · cases h1
theorem kwG_rel {ps ks : List Str} {np : Nat} {vs zs : List V} {us ws : List Value} (h : Vals vs us) (k : Vals zs ws) : Vals (kwG ps ks np vs zs) (kwG ps ks np us ws) := by
  unfold kwG
  rw [Paired.length h, Paired.length k]
  split
  · exact Paired.kw h k
  · exact .nil
theorem kb_mk {K : PySem.W.Frag} {fd : FuncData} {ps ks : List Str} {np : Nat} (hp : 0 < ps.length) (h : ∀ us ws : List Value, us.length = np → ws.length = ks.length → bindArgs fd ⟨us, ks.zip ws⟩ = pure (ps.zip (kwSort ps ks us ws))) : KBinds K fd ps ks (kwG ps ks np) (kwG ps ks np) where
  to := fun s us ws _ hl => by
    unfold kwG at hl ⊢
    by_cases c : us.length = np ∧ ws.length = ks.length
    · rw [if_pos c]; exact .of_eq (h us ws c.1 c.2)
    · rw [if_neg c] at hl; exact absurd hl (by simp; omega)
  rel := fun h k => kwG_rel h k
structure FnB (C : G0) (ng : NG) (g : Nat) (F : FnD) (fd : FuncData) : Prop where
  ex : ∃ (x qual : Str) (st : Stmt), Fun C.K x qual st (C.gv g) fd ∧ FnScope F.N F.ps (defScope st) ∧ trB (ccOf ng F.N (defScope st)) F.body (defBody st) = true
  bind : Binds C.K fd F.ps []
  kws : ∀ ks np, (g, ks, np) ∈ ng.kw → KBinds C.K fd F.ps ks (kwG F.ps ks np) (kwG F.ps ks np)
structure Base (T : GT) (C : G0) (ng : NG) (mg : Str → Option Value) : Prop where
  names : ∀ (g : Nat) (x : Str), ng.fn[g]? = some x → mg x = some (.ref (C.gv g)) ∧ g < T.fns.length
  fns : ∀ (g : Nat) (F : FnD), T.fns[g]? = some F → ∃ fd, FnB C ng g F fd
  cons : ∀ (k : Nat) (x : Str) (d : D), ng.cn[k]? = some x → T.cons[k]? = some d → ∃ v u, mg x = some u ∧ RelV v u ∧ ∀ H, Rep C H d v
  bi : ∀ s ∈ bnames, mg (Str.ofString s) = none
  gcd : ng.gcd = true → mg (Str.ofString "gcd") = some (.builtin "math.gcd")
  dcs : ∀ (k : Nat) (x : Str) (p : List Key × List D), ng.dn[k]? = some x → T.dcs[k]? = some p → ∃ a, mg x = some (.ref a) ∧ ∀ kk d, dlook p.1 p.2 kk = some d → ∃ i v, kk = .inl i ∧ KDI C.K a i v ∧ ∀ H, Rep C H d v
  en : ∀ (k : Nat) (x : Str), ng.en[k]? = some x → mg x = some (.ref (C.cv k)) ∧ ExK C.K (C.cv k)
  exm : ∀ (k k' : Nat) (x : Str), k < T.nex → ng.en[k']? = some x → PySem.W.exmOne C.K (.ref (C.cv k)) (.ref (C.cv k')) = some (decide (k = k'))
  isx : ∀ p ∈ ng.isx, PySem.W.kitOne C.K (.ref (C.cv p.1)) (.type p.2) = some true
  mgx : ∀ s ∈ ["ValueError", "LookupError"], mg (Str.ofString s) = none
section
variable {C : G0} {F F' H H' : Hp} {vs : List V} {as : List SV}
theorem outs_get : ∀ {as : List SV} {e : EV} {j : Nat} {s : SV}, as.length ≤ e.length → as[j]? = some s → (outs as e)[j]? = (match s with | .bor _ => e[j]? | s => some s)
  | [], _, _, _, _, h => by simp at h
  | a :: as, [], _, _, hl, _ => by simp at hl
  | a :: as, z :: e, 0, s, hl, h => by
    simp at h; subst h
    cases a <;> rfl
  | a :: as, z :: e, j + 1, s, hl, h => by
    have ih := outs_get (as := as) (e := e) (j := j) (s := s) (by simpa using hl) (by simpa using h)
    cases a <;> (simp only [outs, List.getElem?_cons_succ]; exact ih)
theorem outs_len : ∀ {as : List SV} {e : EV}, as.length ≤ e.length → (outs as e).length = as.length
  | [], _, _ => rfl
  | a :: as, [], hl => by simp at hl
  | a :: as, z :: e, hl => by
    have ih := outs_len (as := as) (e := e) (by simpa using hl)
    cases a <;> (simp only [outs, List.length_cons]; rw [ih])
theorem SR.ext {e : EV} {σ : St} (R : SR C e F σ H) (m : Nat) : SR C (e ++ List.replicate m .un) F (σ ++ List.replicate m none) H := by
  have lt : ∀ {j : Nat} {s : SV}, (e ++ List.replicate m SV.un)[j]? = some s → s.mine = true → j < e.length := fun {j s} h ms => by
    by_cases hj : j < e.length
    · exact hj
    · rw [List.getElem?_append_right (by omega), List.getElem?_replicate] at h
      split at h
      · cases h; cases ms
      · cases h
  refine ⟨R.sub, fun j s h => ?_, fun j k s t a h1 h2 m1 m2 a1 a2 => ?_, by simp [R.len]⟩
  · by_cases hj : j < e.length
    · rw [List.getElem?_append_left hj] at h
      rw [List.getElem?_append_left (by rw [← R.len]; exact hj)]
      exact R.slot j s h
    · rw [List.getElem?_append_right (by omega), List.getElem?_replicate] at h
      split at h
      · cases h; trivial
      · cases h
  · have l1 := lt h1 m1
    have l2 := lt h2 m2
    rw [List.getElem?_append_left l1] at h1
    rw [List.getElem?_append_left l2] at h2
    rw [List.getElem?_append_left (by rw [← R.len]; exact l1)] at a1
    rw [List.getElem?_append_left (by rw [← R.len]; exact l2)] at a2
    exact R.dis j k s t a h1 h2 m1 m2 a1 a2
/-- behind a def's body -/
theorem outs_ok {m : Nat} {e' : EV} {σ' : St} (R : SR C as F (vs.map some) H) (hv : ∀ s ∈ as, (∃ d, s = .val d) ∨ ∃ d, s = .bor d) (t : Tr C (as ++ List.replicate m .un) F (vs.map some ++ List.replicate m none) H e' F' σ' H') :
    TrE C as F (vs.map some) H (outs as e') F' H' ∧ ∀ a, OwnA (outs as e') (vs.map some) a → OwnA e' σ' a := by
  have hle : as.length ≤ e'.length := by rw [t.len]; simp
  have lt : ∀ {j : Nat} {s : SV}, (outs as e')[j]? = some s → j < as.length := fun {j s} h => by rw [← outs_len hle]; exact (List.getElem?_eq_some_iff.mp h).1
  have big : ∀ {j : Nat} {s : SV}, as[j]? = some s → (as ++ List.replicate m SV.un)[j]? = some s := fun {j s} h => by rw [List.getElem?_append_left (List.getElem?_eq_some_iff.mp h).1]; exact h
  have bigσ : ∀ {j : Nat}, j < as.length → (vs.map some ++ List.replicate m none)[j]? = (vs.map some)[j]? := fun {j} h => List.getElem?_append_left (by rw [← R.len]; exact h)
  have char : ∀ j, j < as.length → (∃ d, as[j]? = some (.val d) ∧ (outs as e')[j]? = some (.val d)) ∨ ∃ d d', as[j]? = some (.bor d) ∧ σ'[j]? = (vs.map some)[j]? ∧ (outs as e')[j]? = e'[j]? ∧ (e'[j]? = some (.bor d') ∨ e'[j]? = some (.fro d')) := fun j hj => by
    have hs : as[j]? = some as[j] := List.getElem?_eq_getElem hj
    rcases hv as[j] (List.getElem_mem hj) with ⟨d, e⟩ | ⟨d, e⟩
    · rw [e] at hs
      exact .inl ⟨d, hs, by rw [outs_get hle hs]⟩
    · rw [e] at hs
      obtain ⟨h1, d', h2⟩ := t.bor j d (big hs)
      rw [bigσ hj] at h1
      exact .inr ⟨d, d', hs, h1, by rw [outs_get hle hs], h2⟩
  have ownS : ∀ b, OwnA as (vs.map some) b → OwnA (as ++ List.replicate m .un) (vs.map some ++ List.replicate m none) b := fun b ⟨j, s, h1, h2, h3⟩ =>
    ⟨j, s, big h1, h2, by rw [bigσ (List.getElem?_eq_some_iff.mp h1).1]; exact h3⟩
  have ownB : ∀ b, OwnA (as ++ List.replicate m .un) (vs.map some ++ List.replicate m none) b → OwnA as (vs.map some) b := fun b ⟨j, s, h1, h2, h3⟩ => by
    by_cases hj : j < as.length
    · rw [List.getElem?_append_left hj] at h1
      rw [bigσ hj] at h3
      exact ⟨j, s, h1, h2, h3⟩
    · rw [List.getElem?_append_right (by omega), List.getElem?_replicate] at h1
      split at h1
      · cases h1; cases h2
      · cases h1
  have R' := t.sr
  refine ⟨⟨⟨⟨R'.sub, fun j s h => ?_, fun j k s s2 a h1 h2 m1 m2 a1 a2 => ?_, by rw [outs_len hle]; exact R.len⟩, t.fs, fun b o h n => t.keep b o h fun q => n (ownB b q), t.there, fun b o h => ?_, fun j d a h1 h2 => ?_, fun j d h => ?_, fun j d h => ⟨rfl, ?_⟩, fun j d h => ⟨rfl, ?_⟩, outs_len hle⟩, fun j s h k => ?_, fun j s h k => ?_⟩, fun a ⟨j, s, h1, h2, h3⟩ => ?_⟩
  · have hj := lt h
    rcases char j hj with ⟨d, k1, k2⟩ | ⟨d, d', k1, k2, k3, k4⟩
    · rw [k2] at h; cases h
      obtain ⟨v, z1, z2⟩ := R.slot j _ k1
      exact ⟨v, z1, z2.mono t.fs⟩
    · rw [k3] at h
      have z := R'.slot j s h
      rw [k2] at z; exact z
  · have hj := lt h1
    have hk := lt h2
    rcases char j hj with ⟨d, k1, k2⟩ | ⟨d, d', k1, k2, k3, k4⟩
    · rw [k2] at h1; cases h1; cases m1
    rcases char k hk with ⟨d2, l1, l2⟩ | ⟨d2, d2', l1, l2, l3, l4⟩
    · rw [l2] at h2; cases h2; cases m2
    rw [k3] at h1; rw [l3] at h2
    exact R'.dis j k s s2 a h1 h2 m1 m2 (by rw [k2]; exact a1) (by rw [l2]; exact a2)
  · rcases t.new b o h with w | w | w
    · exact .inl w
    · exact .inr (.inl w)
    · exact .inr (.inr (ownB b w))
  · have hj := lt h1
    rcases char j hj with ⟨d2, k1, k2⟩ | ⟨d2, d', k1, k2, k3, k4 | k4⟩
    · rw [k2] at h1; cases h1
    · rw [k3, k4] at h1; cases h1
    · rw [k3, k4] at h1; cases h1
  · have hj := lt h
    rcases char j hj with ⟨d2, k1, k2⟩ | ⟨d2, d', k1, k2, k3, k4⟩
    · rw [k2] at h; cases h
    · exact ⟨d2, k1⟩
  · rcases char j (List.getElem?_eq_some_iff.mp h).1 with ⟨d2, k1, k2⟩ | ⟨d2, d', k1, k2, k3, k4⟩
    · rw [k1] at h; cases h
    · exact ⟨d', by rw [k3]; exact k4⟩
  · rcases char j (List.getElem?_eq_some_iff.mp h).1 with ⟨d2, k1, k2⟩ | ⟨d2, d', k1, k2, k3, k4⟩
    · rw [k1] at h; cases h
    · rw [k1] at h; cases h
  · rcases char j (List.getElem?_eq_some_iff.mp h).1 with ⟨d2, k1, k2⟩ | ⟨d2, d', k1, k2, k3, k4 | k4⟩
    · exact ⟨_, k2, rfl⟩
    · exact ⟨_, by rw [k3]; exact k4, rfl⟩
    · exact ⟨_, by rw [k3]; exact k4, rfl⟩
  · rcases char j (lt h) with ⟨d2, k1, k2⟩ | ⟨d2, d', k1, k2, k3, k4⟩
    · rw [k2] at h; cases h; cases k
    · exact ⟨_, k1, rfl⟩
  · rcases char j (lt h1) with ⟨d2, k1, k2⟩ | ⟨d2, d', k1, k2, k3, k4⟩
    · rw [k2] at h1; cases h1; cases h2
    · exact ⟨j, s, by rw [← k3]; exact h1, h2, by rw [k2]; exact h3⟩
end
section
variable {T : GT} {C : G0} {ng : NG} {P : Program} {w : World} {mg : Str → Option Value} {base : Heap}
theorem fn_all (B : Base T C ng mg) : ∀ (n g : Nat) (F : FnD) (fd : FuncData), T.fns[g]? = some F → FnB C ng g F fd → FnOk P w C.K mg base (CX P w) n (C.gv g) fd F.ps (SpI T C n g F.ps.length)
  | 0, g, F, fd, hF, b => ⟨fun vs H Q E ⟨as, F0, h, _⟩ => h, fun A outer s H args us vs Q E _ _ _ _ ⟨as, F0, _, _, _, h⟩ => h.elim⟩
  | n + 1, g, F, fd, hF, b => by
    obtain ⟨x, qual, st, fu, S, tr⟩ := b.ex
    refine fu.okX S (fun vs H Q E ⟨as, F0, h, _⟩ => h) fun cdv A outer s H vs Q E hr sp => ?_
    obtain ⟨as, F0, hl, hv, R, sp⟩ := sp
    have G : GoodS T C n (fun cls d _ H => E cls d H) (ccOf ng F.N (defScope st)) (cxOf (L2.CX P w) P w C.K mg base F.N qual (defScope st) (C.gv g) cdv A outer s H E) :=
      { K := rfl, N := rfl, nd := S.nd, sc := rfl,
        st := fun i x h => by
          unfold stB at h
          rw [Bool.and_eq_true, Bool.and_eq_true] at h
          refine ⟨?_, .inl rfl⟩
          have h2 := h.1.2
          unfold locB at h2
          show Loc (defScope st) x
          split at h2
          · exact .inl (by assumption)
          · exact .inr (by assumption)
          · cases h2
        cm := fun _ => rfl, hu := hr.units, room := fun _ => hr, tk := takes_of rfl rfl rfl rfl,
        gl := ⟨B.names, fun g' F' h' => by
          obtain ⟨fd', b'⟩ := B.fns g' F' h'
          obtain ⟨x', q', st', fu', _⟩ := b'.ex
          exact ⟨fu'.kp, fd', fn_all B n g' F' fd' h' b', b'.bind, b'.kws⟩, B.cons, B.bi, B.gcd, B.dcs⟩,
        kind := S.kind, po := passes_of rfl, stk := rfl, fr := rfl, cl := rfl, bs := rfl, fnx := fun _ => rfl }
    have GX : GEx T C (ccOf ng F.N (defScope st)) (cxOf (L2.CX P w) P w C.K mg base F.N qual (defScope st) (C.gv g) cdv A outer s H E) := ⟨B.en, B.exm, B.isx, B.mgx⟩
    refine ⟨_, s_B F.body G GX tr, as ++ List.replicate (F.N.length - as.length) .un, F0, ?_, ?_⟩
    · have hla : as.length = vs.length := by rw [R.len]; simp
      have := R.ext (F.N.length - as.length)
      rw [hla] at this ⊢
      exact this
    · have hla : as.length = vs.length := by rw [R.len]; simp
      simp only [callF, hF] at sp
      rw [if_pos (by rw [hla]; exact hl)] at sp
      revert sp
      have hst : L2.start F.N vs = vs.map some ++ List.replicate (F.N.length - as.length) none := by unfold L2.start; rw [hla]
      rw [hst]
      generalize exB T (callF T n) F.body (as ++ List.replicate (F.N.length - as.length) .un) = o
      intro sp
      cases o with
      | stuck => exact sp
      | exc k p e' =>
        intro F' σ' H' t
        exact sp F' H' (outs_ok R hv t).1
      | ok f e' =>
        cases f with
        | brk => exact sp.elim
        | cnt => exact sp.elim
        | next =>
          intro F' σ' H' t
          exact sp .non F' H' (outs_ok R hv t).1 (show Rep C F' .non .non from rep_non)
        | ret r =>
          intro F' σ' H' v t k
          obtain ⟨o1, o2⟩ := outs_ok R hv t
          cases r with
          | v d => exact sp v F' H' o1 k
          | h i => exact k.elim
          | t d =>
            obtain ⟨a, rfl, m, no, hh⟩ := k
            refine sp _ F' H' o1 ⟨a, rfl, m, ?_, fun q => no (o2 a q)⟩
            rcases hh with ⟨j, d', h1, _⟩ | hh
            · by_cases hj : j < as.length
              · rw [List.getElem?_append_left hj] at h1
                rcases hv _ (List.mem_of_getElem? h1) with ⟨_, z⟩ | ⟨_, z⟩ <;> cases z
              · rw [List.getElem?_append_right (by omega), List.getElem?_replicate] at h1
                split at h1 <;> cases h1
            · exact hh
end
end PL
end

section
namespace PL
open PySem PySem.Spec L2
open PyProof.Rows hiding St

/-! ## facts in rows -/
def AllIx {α : Type} (P : Nat → α → Prop) : Nat → List α → Prop
  | _, [] => True
  | i, a :: l => P i a ∧ AllIx P (i + 1) l
theorem AllIx.get {α : Type} {P : Nat → α → Prop} : ∀ {l : List α} {j i : Nat} {a : α}, AllIx P j l → l[i]? = some a → P (j + i) a
  | [], _, _, _, _, h => by simp at h
  | b :: l, j, 0, a, ⟨h, _⟩, k => by simp at k; subst k; exact h
  | b :: l, j, i + 1, a, ⟨_, h⟩, k => by
    have := AllIx.get (i := i) h (by simpa using k)
    rw [show j + (i + 1) = j + 1 + i by omega]; exact this
theorem AllIx.all {α : Type} {P : Nat → α → Prop} {l : List α} (h : AllIx P 0 l) (i : Nat) (a : α) (k : l[i]? = some a) : P i a := by
  have := AllIx.get h k
  rwa [Nat.zero_add] at this
theorem fn_mk {C : G0} {ng : NG} {g : Nat} {F : FnD} {st : Stmt} {x : Str} {oc : Value} {od an : Option Addr} {sl : Array (Option Value)} {kV dc pm cd ct : Value}
    (l : C.K.lookup (C.gv g) = some ⟨oc, od, .func (PySem.W.fnOf x x (defArgs st) (defBody st) (defScope st) .none kV dc pm an cd ct), sl⟩) (c : PySem.W.codeIn C.K cd x = true) (k : PySem.W.keepIn C.K (.ref (C.gv g)) = true)
    (S : scB F.N F.ps (defScope st) = true) (tr : trB (ccOf ng F.N (defScope st)) F.body (defBody st) = true)
    (b : ∀ (kV doc pm : Value) (an : Option Addr) (cdv ct : Value) (us : List Value), us.length = F.ps.length → bindArgs (PySem.W.fnOf x x (defArgs st) (defBody st) (defScope st) .none kV doc pm an cdv ct) ⟨us, []⟩ = pure (F.ps.zip us))
    (kw : ∀ (kV doc pm : Value) (an : Option Addr) (cdv ct : Value) (ks : List Str) (np : Nat), (g, ks, np) ∈ ng.kw → KBinds C.K (PySem.W.fnOf x x (defArgs st) (defBody st) (defScope st) .none kV doc pm an cdv ct) F.ps ks (kwG F.ps ks np) (kwG F.ps ks np)) :
    FnB C ng g F (PySem.W.fnOf x x (defArgs st) (defBody st) (defScope st) .none kV dc pm an cd ct) where
  ex := ⟨x, x, st, L2.fun_mk (st := st) l c k, scB_ok S, tr⟩
  bind := (L2.fun_mk (st := st) l c k).binds b
  kws := kw kV dc pm an cd ct
theorem kw_of {l r : List (Nat × List Str × Nat)} {g : Nat} {ks : List Str} {np : Nat} (q : (g, ks, np) ∈ l) (h : (l.filter fun t => t.1 == g) = r) : (g, ks, np) ∈ r := by
  rw [← h]
  exact List.mem_filter.mpr ⟨q, by simp⟩
/-- a constant of the module -/
def KRep (K : PySem.W.Frag) : D → Value → Prop
  | .non, u => u = .none
  | .bl b, u => u = .bool b
  | .int i, u => ∃ t, u = .int i t
  | .str x, u => ∃ t, u = .str x t
  | .tup ds, u => ∃ (a : Addr) (o : Obj) (its : Array Value) (m : Nat), u = .ref a ∧ K.lookup a = some o ∧ o.cls = .type "tuple" ∧ o.data = .seq its m ∧ its.size ≤ sizeLine ∧ KRepL ds its.toList
  | _, _ => False
where KRepL : List D → List Value → Prop
  | [], us => us = []
  | d :: ds, us => ∃ u r, us = u :: r ∧ KRep K d u ∧ KRepL ds r
mutual
theorem krep {C : G0} : ∀ (d : D) (u : Value), KRep C.K d u → ∃ v, RelV v u ∧ ∀ H, Rep C H d v
  | .non, u, h => ⟨.non, h, fun H => rep_non⟩
  | .bl b, u, h => ⟨.bl b, h, fun H => rep_bl⟩
  | .int i, u, h => ⟨.int i, h, fun H => rep_int⟩
  | .str x, u, h => ⟨.str x, h, fun H => rep_str⟩
  | .tup ds, u, h => by
    unfold KRep at h
    obtain ⟨a, o, its, m, rfl, h1, h2, h3, h4, h5⟩ := h
    obtain ⟨vs, r1, r2⟩ := krepL ds _ h5
    exact ⟨.ref a, rfl, fun H => by rw [Rep]; exact ⟨a, vs, rfl, .inr ⟨o, its, m, h1, h2, h3, h4, r1⟩, r2 H⟩⟩
  | .lst _, _, h => by unfold KRep at h; exact h.elim
  | .scr _, _, h => by unfold KRep at h; exact h.elim
  | .dk _ _, _, h => by unfold KRep at h; exact h.elim
  | .dt _ _, _, h => by unfold KRep at h; exact h.elim
  | .fn _, _, h => by unfold KRep at h; exact h.elim
  | .exn _ _, _, h => by unfold KRep at h; exact h.elim
theorem krepL {C : G0} : ∀ (ds : List D) (us : List Value), KRep.KRepL C.K ds us → ∃ vs, Vals vs us ∧ ∀ H, RepL C H ds vs
  | [], us, h => by unfold KRep.KRepL at h; subst h; exact ⟨[], .nil, fun H => .nil⟩
  | d :: ds, us, h => by
    unfold KRep.KRepL at h
    obtain ⟨u, r, rfl, h1, h2⟩ := h
    obtain ⟨v, k1, k2⟩ := krep d u h1
    obtain ⟨vs, k3, k4⟩ := krepL ds r h2
    exact ⟨v :: vs, .cons k1 k3, fun H => .cons (k2 H) (k4 H)⟩
end
theorem kdi_mk {K : PySem.W.Frag} {a : Addr} {n : Nat} {es : List (Int × Tok × Value)} {k : Int} {u : Value} {v : V} (l : K.lookup a = some ⟨.type "dict", none, .dict (es.map fun e => ⟨hashInt e.1, .int e.1 e.2.1, e.2.2⟩).toArray n, #[]⟩) (h : (es.find? fun e => decide (e.1 = k)).map (·.2.2) = some u) (r : RelV v u) : KDI K a k v := by
  refine ⟨_, n, u, l, fun e he => ?_, ?_, r⟩
  · simp only [List.mem_map] at he
    obtain ⟨x, _, rfl⟩ := he
    exact ⟨_, _, rfl, rfl⟩
  · have : ∀ es : List (Int × Tok × Value), (es.find? fun e => decide (e.1 = k)).map (·.2.2) = some u → ((es.map fun e => (⟨hashInt e.1, .int e.1 e.2.1, e.2.2⟩ : DictEntry)).find? fun d => Value.isInt k d.key).map (·.val) = some u := by
      intro es
      induction es with
      | nil => intro h; simp at h
      | cons e es ih =>
        intro h
        rw [List.map_cons, List.find?_cons]
        rw [List.find?_cons] at h
        have q : Value.isInt k (.int e.1 e.2.1) = decide (e.1 = k) := by
          by_cases z : e.1 = k
          · subst z; simp [Value.isInt]
          · simp [Value.isInt, z]
        simp only [q]
        by_cases z : e.1 = k
        · simp [z] at h ⊢; exact h
        · simp [z] at h ⊢; simpa using ih (by simpa using h)
    unfold findBy
    rw [List.find?_toArray]
    exact this es h
theorem dlk_3 {a b c : Key} {x y z : D} {k : Key} {d : D} (h : dlook [a, b, c] [x, y, z] k = some d) : (k = a ∧ d = x) ∨ (k = b ∧ d = y) ∨ (k = c ∧ d = z) := by
  simp only [dlook] at h
  split at h
  · rename_i q; cases h; exact .inl ⟨q.symm, rfl⟩
  · split at h
    · rename_i q; cases h; exact .inr (.inl ⟨q.symm, rfl⟩)
    · split at h
      · rename_i q; cases h; exact .inr (.inr ⟨q.symm, rfl⟩)
      · cases h
theorem exk_mk {K : PySem.W.Frag} {p : Addr} {B newId initId : String} {bm : List Value} (f : ExcBaseFacts B newId initId bm) (x : PySem.W.excIn K p bm newId = true) (kp : PySem.W.keepIn K (.ref p) = true) (sb : PySem.W.subIn K (.ref p) (.type "BaseException") = some true) (ty : PySem.W.typeIn K (.ref p) = some (.type "type"))
    (e1 : PySem.W.findIn K (.ref p) "__getattribute__" = some (some (.builtin "BaseException.__getattribute__"))) (e2 : PySem.W.findIn K (.ref p) "__getattr__" = some none) (e3 : PySem.W.hasDictIn K p = true) (e4 : PySem.W.findIn K (.ref p) "__class__" = some (some (.builtin "object.__class__")))
    (e5 : PySem.W.specialIn K (.builtin "object.__class__") "__get__" = some (some (.builtin "getset_descriptor.__get__"))) (e6 : PySem.W.takesIn K (.builtin "object.__class__") = some true) (e7 : PySem.W.mroIn K p (.type "object") = some true) : ExK K p :=
  ⟨⟨B, newId, initId, bm, f, x⟩, sb, ty, ⟨e1, e2, sb, e3, e4, e5, e6, e7⟩, kp⟩
theorem kit_sub {K : PySem.W.Frag} {p : Addr} {s : String} {b : Bool} (h : PySem.W.subIn K (.ref p) (.type s) = some b) (m : PySem.W.kitMeta s = true) : PySem.W.kitOne K (.ref p) (.type s) = some b := by
  show (if (Value.ref p == Value.type s) = true then some true else PySem.W.kitCls K (.ref p) (.type s)) = _
  rw [if_neg (by intro e; exact absurd (beq_iff_eq.mp e) (by simp))]
  show (if PySem.W.kitMeta s = true then PySem.W.subIn K (.ref p) (.type s) else none) = _
  rw [if_pos m]; exact h
theorem bi_mk {K : PySem.W.Frag} {h : Heap} {mg : Str → Option Value} (X : K.In h) (G : h.Ns mainGlobals mg) (z : AllIx (fun _ s => PySem.W.nsIn K mainGlobals (Str.ofString s) = some none) 0 bnames) : ∀ s ∈ bnames, mg (Str.ofString s) = none := fun s hs => by
  obtain ⟨i, hi⟩ := List.getElem?_of_mem hs
  exact PySem.W.mg_none_of X G (z.all i s hi)
/-! ## the law's def -/
def spLaw (K : PySem.W.Frag) : Sp := fun vs H Q _ => ∃ (a : Addr) (ns : List Int), vs = [.ref a] ∧ ns.length ≤ 63 ∧ SqL K H a (ns.map V.int) ∧ ∀ H', Q (.bl true) H'
theorem law_sp {T : GT} {C : G0} {n g : Nat} (ok : ∀ ns : List Int, ns.length ≤ 63 → ∃ as', callF T n g [.val (.scr ns)] = .ok (.v (.bl true)) as') {vs : List V} {H : Hp} {Q : VK} {E : XK} (h : spLaw C.K vs H Q E) : SpI T C n g 1 vs H Q E := by
  obtain ⟨a, ns, rfl, hl, hs, q⟩ := h
  obtain ⟨as', e⟩ := ok ns hl
  refine ⟨[.val (.scr ns)], H, rfl, fun s hs => ?_, ⟨Sub.refl H, fun i s h => ?_, fun i j s t a h1 h2 m1 _ _ _ => ?_, rfl⟩, ?_⟩
  · simp at hs; exact .inl ⟨_, hs⟩
  · cases i with
    | zero => simp at h; subst h; exact ⟨.ref a, rfl, by rw [Rep]; exact ⟨a, rfl, hs⟩⟩
    | succ i => simp at h
  · cases i with
    | zero => simp at h1; subst h1; cases m1
    | succ i => simp at h1
  · rw [e]
    intro v F' H' _ r
    have r : Rep C F' (.bl true) v := r
    rw [Rep] at r
    subst r
    exact q H'
theorem cx_no {P : Program} {w : World} {H : Hp} {s : Shared} {e : Value} {s' : Shared} (h : CX P w [] H s (fun _ _ _ => False) e s') : False := by
  obtain ⟨a, B, H', cls, d, _, _, _, _, _, _, _, h⟩ := h
  exact h
end PL
end

section
namespace PL
open PySem PySem.Spec L2

/-! ## the interpreter's rows, for simp -/
section
variable (T : GT) (cf : Nat → List SV → CO) (m : Bool) (e : EV)
@[simp] theorem x_var (i : Nat) : evE T cf m (.var i) e = tst m (match e[i]? with
    | some (.val d) => .ok (.v d) e
    | some (.fro d) => .ok (.v d) e
    | some (.own _) => .ok (.h i) e
    | some (.bor _) => .ok (.h i) e
    | _ => .stuck) := by first | (rw [evE]; done) | (rw [evE]; rfl)
@[simp] theorem x_int (k : Int) : evE T cf m (.int k) e = tst m (.ok (.v (.int k)) e) := by first | (rw [evE]; done) | (rw [evE]; rfl)
@[simp] theorem x_bl (k : Bool) : evE T cf m (.bl k) e = tst m (.ok (.v (.bl k)) e) := by first | (rw [evE]; done) | (rw [evE]; rfl)
@[simp] theorem x_non : evE T cf m .non e = tst m (.ok (.v .non) e) := by first | (rw [evE]; done) | (rw [evE]; rfl)
@[simp] theorem x_str (k : Str) : evE T cf m (.str k) e = tst m (.ok (.v (.str k)) e) := by first | (rw [evE]; done) | (rw [evE]; rfl)
@[simp] theorem x_con (k : Nat) : evE T cf m (.con k) e = tst m (opt T.cons[k]? fun d => .ok (.v d) e) := by first | (rw [evE]; done) | (rw [evE]; rfl)
@[simp] theorem x_fnv (g : Nat) : evE T cf m (.fnv g) e = tst m (if g < T.fns.length then .ok (.v (.fn g)) e else .stuck) := by first | (rw [evE]; done) | (rw [evE]; rfl)
@[simp] theorem x_bin (o : Bop) (a b : E) : evE T cf m (.bin o a b) e = tst m ((evE T cf false a e).bd fun ra e1 => (evE T cf false b e1).bd fun rb e2 =>
      opt (cont e2 ra) fun x => opt (cont e2 rb) fun y => opt (binop o x y) fun r => .ok r e2) := by first | (rw [evE]; done) | (rw [evE]; rfl)
@[simp] theorem x_dix (k : Nat) (a : E) : evE T cf m (.dix k a) e = tst m (opt T.dcs[k]? fun p => (evE T cf false a e).bd fun r e1 => opt ((cont e1 r).bind keyOf) fun x => opt (dlook p.1 p.2 x) fun d => .ok (.v d) e1) := by first | (rw [evE]; done) | (rw [evE]; rfl)
@[simp] theorem x_neg (a : E) : evE T cf m (.neg a) e = tst m ((evE T cf false a e).bd fun ra e1 => opt ((cont e1 ra).bind intD) fun i => .ok (.v (.int (-i))) e1) := by first | (rw [evE]; done) | (rw [evE]; rfl)
@[simp] theorem x_cmp (o : CmpOp) (a b : E) : evE T cf m (.cmp o a b) e = tst m ((evE T cf false a e).bd fun ra e1 => (evE T cf false b e1).bd fun rb e2 =>
      opt (cont e2 ra) fun x => opt (cont e2 rb) fun y => opt (cmpop o x y) fun r => .ok (.v (.bl r)) e2) := by first | (rw [evE]; done) | (rw [evE]; rfl)
@[simp] theorem x_chain (o p : CmpOp) (a b c : E) : evE T cf m (.chain o p a b c) e = tst m ((evE T cf false a e).bd fun ra e1 => (evE T cf false b e1).bd fun rb e2 =>
      opt (cont e2 ra) fun x => opt (cont e2 rb) fun y => opt (cmpop o x y) fun r =>
        if r then (evE T cf false c e2).bd fun rc e3 => opt (cont e3 rb) fun y => opt (cont e3 rc) fun z => opt (cmpop p y z) fun r => .ok (.v (.bl r)) e3
        else .ok (.v (.bl false)) e2) := by first | (rw [evE]; done) | (rw [evE]; rfl)
@[simp] theorem x_andor (k : Bool) (es : List E) : evE T cf m (.andor k es) e = evV T cf m k es e := by first | (rw [evE]; done) | (rw [evE]; rfl)
@[simp] theorem x_v1 (k : Bool) (a : E) : evV T cf m k [a] e = evE T cf m a e := by first | (rw [evV]; done) | (rw [evV]; rfl)
@[simp] theorem x_v2 (k : Bool) (a b : E) (r : List E) : evV T cf m k (a :: b :: r) e = (evE T cf m a e).bd fun x e1 => opt ((cont e1 x).bind truth) fun z => if z = k then evV T cf m k (b :: r) e1 else .ok x e1 := by first | (rw [evV]; done) | (rw [evV]; rfl)
@[simp] theorem x_not (a : E) : evE T cf m (.not_ a) e = (evE T cf m a e).bd fun r e1 => opt ((cont e1 r).bind truth) fun b => .ok (.v (.bl (!b))) e1 := by first | (rw [evE]; done) | (rw [evE]; rfl)
@[simp] theorem x_ite (c a b : E) : evE T cf false (.ite c a b) e = (toB (evE T cf true c e)).bd fun k e1 => if k then evE T cf false a e1 else evE T cf false b e1 := by rw [evE]; rfl
@[simp] theorem x_tup (es : List E) : evE T cf m (.tup es) e = tst m ((evA T cf es e).bd fun rs e1 => opt (frzs e1 rs) fun (ds, e2) => if ds.length ≤ sizeL then .ok (.v (.tup ds)) e2 else .stuck) := by first | (rw [evE]; done) | (rw [evE]; rfl)
@[simp] theorem x_lst (es : List E) : evE T cf m (.lst es) e = tst m ((evA T cf es e).bd fun rs e1 => opt (frzs e1 rs) fun (ds, e2) => if ds.length ≤ sizeL then .ok (.t (.lst ds)) e2 else .stuck) := by first | (rw [evE]; done) | (rw [evE]; rfl)
@[simp] theorem x_ix (a i : E) : evE T cf m (.ix a i) e = tst m ((evE T cf false a e).bd fun ra e1 => (evE T cf false i e1).bd fun ri e2 =>
      opt (cont e2 ra) fun x => opt (cont e2 ri) fun y => opt (item x y) fun d => .ok (.v d) e2) := by first | (rw [evE]; done) | (rw [evE]; rfl)
@[simp] theorem x_sl (a : E) (lo hi : Option E) : evE T cf m (.sl a lo hi) e = tst m ((evE T cf false a e).bd fun ra e1 => (evO T cf lo e1).bd fun l e2 => (evO T cf hi e2).bd fun h e3 =>
      opt (cont e3 ra) fun x => opt (sliceD x l h) fun r => .ok r e3) := by first | (rw [evE]; done) | (rw [evE]; rfl)
@[simp] theorem x_rev (a : E) : evE T cf m (.rev a) e = tst m ((evE T cf false a e).bd fun ra e1 => opt (cont e1 ra) fun x => opt (revD x) fun r => .ok r e1) := by first | (rw [evE]; done) | (rw [evE]; rfl)
@[simp] theorem x_call (g : Nat) (es : List E) : evE T cf m (.call g es) e = tst m ((evA T cf es e).bd fun rs e1 => doCall cf g rs e1) := by first | (rw [evE]; done) | (rw [evE]; rfl)
@[simp] theorem x_callk (g : Nat) (es ws : List E) (ks : List Str) : evE T cf m (.callk g es ks ws) e = tst m ((evA T cf es e).bd fun rs e1 => (evA T cf ws e1).bd fun qs e2 =>
      opt T.fns[g]? fun F => doCall cf g (kwSort F.ps ks rs qs) e2) := by first | (rw [evE]; done) | (rw [evE]; rfl)
@[simp] theorem x_calld (i : Nat) (es : List E) : evE T cf m (.calld i es) e = tst m (match e[i]? with
    | some (.val (.fn g)) => if g < T.fns.length then (evA T cf es e).bd fun rs e1 => doCall cf g rs e1 else .stuck
    | _ => .stuck) := by first | (rw [evE]; done) | (rw [evE]; rfl)
@[simp] theorem x_bi (b : Bi) (es : List E) : evE T cf m (.bi b es) e = tst m ((evA T cf es e).bd fun rs e1 => opt (conts e1 rs) fun ds => opt (biF b ds) fun r => .ok r e1) := by first | (rw [evE]; done) | (rw [evE]; rfl)
@[simp] theorem x_isi (a : E) (cs : List String) : evE T cf m (.isi a cs) e = tst m ((evE T cf false a e).bd fun ra e1 => opt ((cont e1 ra).bind tyNm) fun t => if cs.all tyOk.contains then .ok (.v (.bl (cs.any (isTy t)))) e1 else .stuck) := by first | (rw [evE]; done) | (rw [evE]; rfl)
@[simp] theorem x_dlit (ks : List Key) (vs : List D) (x : E) (d : Option E) : evE T cf m (.dlit ks vs x d) e = tst m ((evE T cf false x e).bd fun rx e1 => (evM T cf d e1).bd fun rd e2 =>
      opt ((cont e2 rx).bind keyOf) fun k => match dlook ks vs k with
        | some y => .ok (.v y) e2
        | none => opt (frz e2 rd) fun (y, e3) => .ok (.v y) e3) := by first | (rw [evE]; done) | (rw [evE]; rfl)
@[simp] theorem x_comp (own : List Nat) (it : It) (tg : Tg) (cond : Option E) (elt : E) : evE T cf m (.comp own it tg cond elt) e = tst m ((evI T cf it e).bd fun ds e1 =>
      (compL (fun d e => opt (asg tg d e) fun e1 => (evC T cf cond e1).bd fun k e2 => if k then (evE T cf false elt e2).bd fun r e3 => opt (frz e3 r) fun (x, e4) => .ok (some x) e4 else .ok none e2) own ds (wipeE e1 own) []).bd
        fun acc e2 => .ok (.t (.lst acc)) (unwipe e1 e2 own)) := by first | (rw [evE]; done) | (rw [evE]; rfl)
@[simp] theorem x_a0 : evA T cf [] e = .ok [] e := by first | (rw [evA]; done) | (rw [evA]; rfl)
@[simp] theorem x_a1 (a : E) (r : List E) : evA T cf (a :: r) e = (evE T cf false a e).bd fun x e1 => (evA T cf r e1).bd fun xs e2 => .ok (x :: xs) e2 := by first | (rw [evA]; done) | (rw [evA]; rfl)
@[simp] theorem x_c0 : evC T cf none e = .ok true e := by first | (rw [evC]; done) | (rw [evC]; rfl)
@[simp] theorem x_c1 (a : E) : evC T cf (some a) e = toB (evE T cf true a e) := by first | (rw [evC]; done) | (rw [evC]; rfl)
@[simp] theorem x_o0 : evO T cf none e = .ok none e := by first | (rw [evO]; done) | (rw [evO]; rfl)
@[simp] theorem x_o1 (a : E) : evO T cf (some a) e = (evE T cf false a e).bd fun r e1 => opt ((cont e1 r).bind intD) fun i => .ok (some i) e1 := by first | (rw [evO]; done) | (rw [evO]; rfl)
@[simp] theorem x_m0 : evM T cf none e = .ok (.v .non) e := by first | (rw [evM]; done) | (rw [evM]; rfl)
@[simp] theorem x_m1 (a : E) : evM T cf (some a) e = evE T cf false a e := by first | (rw [evM]; done) | (rw [evM]; rfl)
@[simp] theorem x_ie (a : E) : evI T cf (.e a) e = (evE T cf false a e).bd fun r e1 => opt (frz e1 r) fun (d, e2) => opt (seqD d) fun xs => .ok xs e2 := by first | (rw [evI]; done) | (rw [evI]; rfl)
@[simp] theorem x_ir (es : List E) : evI T cf (.rng es) e = (evA T cf es e).bd fun rs e1 => opt (conts e1 rs) fun ds => opt (rngD ds) fun xs => .ok xs e1 := by first | (rw [evI]; done) | (rw [evI]; rfl)
@[simp] theorem x_in (a : E) : evI T cf (.enum a) e = (evE T cf false a e).bd fun r e1 => opt (frz e1 r) fun (d, e2) => opt (seqL d) fun xs => .ok (enumD xs) e2 := by first | (rw [evI]; done) | (rw [evI]; rfl)
@[simp] theorem x_iz (es : List E) : evI T cf (.zip es) e = (evA T cf es e).bd fun rs e1 => opt (frzs e1 rs) fun (ds, e2) => match ds with
    | [.tup xs, .tup ys] => .ok (zipD xs ys) e2
    | [x, y] => opt (seqL x) fun xs => opt (seqL y) fun ys => .ok (zipD xs ys) e2
    | _ => .stuck := by first | (rw [evI]; done) | (rw [evI]; rfl)
@[simp] theorem x_b0 : exB T cf [] e = .ok .next e := by first | (rw [exB]; done) | (rw [exB]; rfl)
@[simp] theorem x_b1 (s : S) (ss : List S) : exB T cf (s :: ss) e = (exS T cf s e).bd fun fl e1 => match fl with
    | .next => exB T cf ss e1
    | fl => .ok fl e1 := by first | (rw [exB]; done) | (rw [exB]; rfl)
@[simp] theorem x_ex (a : E) : exS T cf (.ex a) e = (evE T cf false a e).bd fun _ e1 => .ok .next e1 := by first | (rw [exS]; done) | (rw [exS]; rfl)
@[simp] theorem x_set (i : Nat) (a : E) : exS T cf (.set i a) e = (evE T cf false a e).bd fun r e1 => opt (fzR e1 r) fun (r', e2) => opt (setR i r' e2) fun e3 => .ok .next e3 := by first | (rw [exS]; done) | (rw [exS]; rfl)
@[simp] theorem x_par (is : List Nat) (es : List E) : exS T cf (.par is es) e = (evA T cf es e).bd fun rs e1 => opt (fzRs e1 rs) fun (rs', e2) => opt (setRs is rs' e2) fun e3 => .ok .next e3 := by first | (rw [exS]; done) | (rw [exS]; rfl)
@[simp] theorem x_unp (is : List Nat) (a : E) : exS T cf (.unp is a) e = (evE T cf false a e).bd fun r e1 => opt (cont e1 r) fun d => match d with
    | .tup ds => opt (setVals is ds e1) fun e2 => .ok .next e2
    | _ => .stuck := by first | (rw [exS]; done) | (rw [exS]; rfl)
@[simp] theorem x_six (i : Nat) (k a : E) : exS T cf (.six i k a) e = (evE T cf false a e).bd fun r e1 => opt (frz e1 r) fun (d, e2) => if lstAt e2 i then (evE T cf false k e2).bd fun rk e3 => opt (cont e3 rk) fun kd =>
      opt (sixE e3 i kd d) fun e4 => .ok .next e4
    else .stuck := by first | (rw [exS]; done) | (rw [exS]; rfl)
@[simp] theorem x_if (c : E) (a b : List S) : exS T cf (.if_ c a b) e = (toB (evE T cf true c e)).bd fun k e1 => if k then exB T cf a e1 else exB T cf b e1 := by first | (rw [exS]; done) | (rw [exS]; rfl)
@[simp] theorem x_wh (c : E) (b : List S) : exS T cf (.wh c b) e = whL (fun e => toB (evE T cf true c e)) (fun e => exB T cf b e) T.wf e := by first | (rw [exS]; done) | (rw [exS]; rfl)
@[simp] theorem x_for (tg : Tg) (it : It) (b : List S) : exS T cf (.for_ tg it b) e = (evI T cf it e).bd fun ds e1 => forL (fun d e => opt (asg tg d e) fun e1 => exB T cf b e1) ds e1 := by first | (rw [exS]; done) | (rw [exS]; rfl)
@[simp] theorem x_ret (a : E) : exS T cf (.ret a) e = (evE T cf false a e).bd fun r e1 => opt (retR e1 r) fun (r2, e2) => .ok (.ret r2) e2 := by first | (rw [exS]; done) | (rw [exS]; rfl)
@[simp] theorem x_raise (c : Nat) : exS T cf (.raise_ c) e = .exc c [] e := by first | (rw [exS]; done) | (rw [exS]; rfl)
@[simp] theorem x_try (b : List S) (hs : List Hd) : exS T cf (.try_ b hs) e = (match exB T cf b e with
    | .exc c p e1 => if decide (c < T.nex) && p.isEmpty then exH hs c p e1 else .stuck
    | r => r) := by first | (rw [exS]; done) | (rw [exS]; rfl)
@[simp] theorem x_cont_v (d : D) : cont e (.v d) = some d := rfl
@[simp] theorem x_cont_t (d : D) : cont e (.t d) = some d := rfl
@[simp] theorem x_cont_h (i : Nat) : cont e (.h i) = (e[i]?).bind SV.dat := rfl
@[simp] theorem x_frz_v (d : D) : frz e (.v d) = some (d, e) := rfl
@[simp] theorem x_frz_t (d : D) : frz e (.t d) = some (d, e) := rfl
@[simp] theorem x_frz_h (i : Nat) : frz e (.h i) = (match e[i]? with
    | some (.own d) => some (d, e.set i (.val d))
    | some (.bor d) => some (d, e.set i (.fro d))
    | some (.val d) => some (d, e)
    | some (.fro d) => some (d, e)
    | _ => none) := rfl
@[simp] theorem x_frzs0 : frzs e [] = some ([], e) := rfl
@[simp] theorem x_frzs1 (r : RV) (rs : List RV) : frzs e (r :: rs) = (frz e r).bind fun (d, e1) => (frzs e1 rs).map fun (l, e2) => (d :: l, e2) := rfl
@[simp] theorem x_conts0 : conts e [] = some [] := rfl
@[simp] theorem x_conts1 (r : RV) (rs : List RV) : conts e (r :: rs) = (cont e r).bind fun d => (conts e rs).map fun l => d :: l := rfl
@[simp] theorem x_fz_v (d : D) : fzR e (.v d) = some (.v d, e) := rfl
@[simp] theorem x_fz_t (d : D) : fzR e (.t d) = some (.t d, e) := rfl
@[simp] theorem x_fz_h (i : Nat) : fzR e (.h i) = (frz e (.h i)).map fun (d, e') => (.v d, e') := rfl
@[simp] theorem x_fzs0 : fzRs e [] = some ([], e) := rfl
@[simp] theorem x_fzs1 (r : RV) (rs : List RV) : fzRs e (r :: rs) = (fzR e r).bind fun (r', e1) => (fzRs e1 rs).map fun (l, e2) => (r' :: l, e2) := rfl
@[simp] theorem x_setR_v (i : Nat) (d : D) : setR i (.v d) e = if setOk e i then some (e.set i (.val d)) else none := rfl
@[simp] theorem x_setR_t (i : Nat) (d : D) : setR i (.t d) e = if setOk e i then some (e.set i (.own d)) else none := rfl
@[simp] theorem x_setRs0 : setRs [] [] e = some e := rfl
@[simp] theorem x_setRs1 (i : Nat) (is : List Nat) (r : RV) (rs : List RV) : setRs (i :: is) (r :: rs) e = (setR i r e).bind (setRs is rs) := rfl
@[simp] theorem x_sv0 : setVals [] [] e = some e := rfl
@[simp] theorem x_sv1 (i : Nat) (is : List Nat) (d : D) (ds : List D) : setVals (i :: is) (d :: ds) e = if setOk e i then setVals is ds (e.set i (.val d)) else none := rfl
@[simp] theorem x_retR_v (d : D) : retR e (.v d) = some (.v d, e) := rfl
@[simp] theorem x_retR_t (d : D) : retR e (.t d) = some (.t d, e) := rfl
@[simp] theorem x_asg (i : Nat) (d : D) : asg (.nm i) d e = if setOk e i then some (e.set i (.val d)) else none := rfl
@[simp] theorem x_asgt (is : List Nat) (ds : List D) : asg (.tp is) (.tup ds) e = setVals is ds e := rfl
end
@[simp] theorem x_dat_v (d : D) : SV.dat (.val d) = some d := rfl
@[simp] theorem x_dat_o (d : D) : SV.dat (.own d) = some d := rfl
@[simp] theorem x_dat_b (d : D) : SV.dat (.bor d) = some d := rfl
@[simp] theorem x_dat_f (d : D) : SV.dat (.fro d) = some d := rfl
theorem x_callF (T : GT) (n g : Nat) (as : List SV) {F : FnD} (h : T.fns[g]? = some F) (hl : as.length = F.ps.length) : callF T (n + 1) g as = fin as (exB T (callF T n) F.body (as ++ List.replicate (F.N.length - as.length) .un)) := by
  simp only [callF, h, hl, if_pos]
end PL
end

section
namespace PL
open PySem PySem.Spec L2

@[simp] theorem truth_bl (b : Bool) : truth (.bl b) = some b := rfl
@[simp] theorem truth_int (i : Int) : truth (.int i) = some (i != 0) := rfl
@[simp] theorem truth_non : truth .non = some false := rfl
@[simp] theorem truth_tup (xs : List D) : truth (.tup xs) = some (!xs.isEmpty) := rfl
@[simp] theorem truth_lst (xs : List D) : truth (.lst xs) = some (!xs.isEmpty) := rfl
@[simp] theorem cmp_gt (i j : Int) : cmpop .Gt (.int i) (.int j) = some (decide (j < i)) := rfl
@[simp] theorem cmp_lt (i j : Int) : cmpop .Lt (.int i) (.int j) = some (decide (i < j)) := rfl
@[simp] theorem cmp_le (i j : Int) : cmpop .LtE (.int i) (.int j) = some (decide (i ≤ j)) := rfl
@[simp] theorem cmp_ge (i j : Int) : cmpop .GtE (.int i) (.int j) = some (decide (j ≤ i)) := rfl
@[simp] theorem cmp_eq (a b : D) : cmpop .Eq a b = eqD a b := rfl
@[simp] theorem cmp_ne (a b : D) : cmpop .NotEq a b = (eqD a b).map not := rfl
@[simp] theorem cmp_is (a : D) : cmpop .Is a .non = some (isNon a) := by cases a <;> rfl
@[simp] theorem eqD_int (i j : Int) : eqD (.int i) (.int j) = some (decide (i = j)) := by
  simp [eqD, toPy, SeqAt.shaped, PyData.canLay0, PyData.depth, PyData.eqv]; rfl
@[simp] theorem eqD_bl (i j : Bool) : eqD (.bl i) (.bl j) = some (i == j) := by
  simp [eqD, toPy, SeqAt.shaped, PyData.canLay0, PyData.depth, PyData.eqv]
/-- whether two lists of ints are the same, as the language sees it -/
theorem shaped_ints : ∀ xs : List Int, PyData.canLayAll0 (toPys (xs.map D.int)) = true ∧ PyData.depthAll (toPys (xs.map D.int)) = 0
  | [] => by simp [toPys, PyData.canLayAll0, PyData.depthAll]
  | x :: xs => by
    obtain ⟨h1, h2⟩ := shaped_ints xs
    simp [toPys, toPy, PyData.canLayAll0, PyData.depthAll, PyData.canLay0, PyData.depth, h1, h2]
theorem eqv_ints : ∀ xs ys : List Int, PyData.eqvAll (toPys (xs.map D.int)) (toPys (ys.map D.int)) = decide (xs = ys)
  | [], [] => by simp [toPys, PyData.eqvAll]
  | x :: xs, y :: ys => by
    simp only [List.map_cons, toPys, toPy, PyData.eqvAll, PyData.eqv, eqv_ints xs ys]
    by_cases h : x = y <;> simp [h]
  | [], _ :: _ => by simp [toPys, PyData.eqvAll]
  | _ :: _, [] => by simp [toPys, PyData.eqvAll]
theorem eqD_ints (xs ys : List Int) : eqD (.tup (xs.map D.int)) (.tup (ys.map D.int)) = some (decide (xs = ys)) := by
  unfold eqD SeqAt.shaped
  simp [toPy, PyData.canLay0, PyData.depth, shaped_ints xs, shaped_ints ys, PyData.eqv, eqv_ints]
@[simp] theorem setOk_un (e : EV) (i : Nat) (h : e[i]? = some .un) : setOk e i = true := by unfold setOk; rw [h]
theorem setOk_of {e : EV} {i : Nat} (h : e[i]? = some .un ∨ (∃ d, e[i]? = some (.val d)) ∨ ∃ d, e[i]? = some (.own d)) : setOk e i = true := by
  unfold setOk
  rcases h with h | ⟨d, h⟩ | ⟨d, h⟩ <;> rw [h]
/-- a comprehension whose turns leave the slots as they were -/
theorem compL_map {f : D → EV → Out (Option D)} {own : List Nat} {e0 : EV} (h : D → D) : ∀ (ds : List D) (acc : List D), (∀ d ∈ ds, ∃ e1, f d e0 = .ok (some (h d)) e1 ∧ wipeE e1 own = e0) → acc.length + ds.length ≤ sizeL → compL f own ds e0 acc = .ok (acc ++ ds.map h) e0
  | [], acc, _, _ => by simp [compL]
  | d :: ds, acc, k, hl => by
    obtain ⟨e1, h1, h2⟩ := k d (by simp)
    rw [compL, h1]
    simp only [List.length_cons] at hl
    dsimp only
    rw [if_pos (by omega), h2, compL_map h ds (acc ++ [h d]) (fun x hx => k x (by simp [hx])) (by simp; omega)]
    simp
/-- .. with a test -/
theorem compL_filter {f : D → EV → Out (Option D)} {own : List Nat} {e0 : EV} (h : D → D) (p : D → Bool) : ∀ (ds : List D) (acc : List D), (∀ d ∈ ds, ∃ e1, f d e0 = .ok (if p d then some (h d) else none) e1 ∧ wipeE e1 own = e0) → acc.length + ds.length ≤ sizeL → compL f own ds e0 acc = .ok (acc ++ (ds.filter p).map h) e0
  | [], acc, _, _ => by simp [compL]
  | d :: ds, acc, k, hl => by
    obtain ⟨e1, h1, h2⟩ := k d (by simp)
    simp only [List.length_cons] at hl
    rw [compL, h1]
    by_cases hp : p d = true
    · rw [if_pos hp]
      dsimp only
      rw [if_pos (by omega), h2, compL_filter h p ds (acc ++ [h d]) (fun x hx => k x (by simp [hx])) (by simp; omega)]
      simp [hp]
    · rw [if_neg hp]
      dsimp only
      rw [h2, compL_filter h p ds acc (fun x hx => k x (by simp [hx])) (by omega)]
      simp [hp]
/-- bounds, for products -/
def Bd (b : Nat) (i : Int) : Prop := i.natAbs < 2 ^ b
theorem Bd.mono {a b : Nat} {i : Int} (h : Bd a i) (k : a ≤ b) : Bd b i := Nat.lt_of_lt_of_le h (Nat.pow_le_pow_right (by decide) k)
theorem Bd.neg {a : Nat} {i : Int} (h : Bd a i) : Bd a (-i) := by unfold Bd at *; rw [Int.natAbs_neg]; exact h
theorem Bd.add {a b : Nat} {i j : Int} (h : Bd a i) (k : Bd b j) : Bd (max a b + 1) (i + j) := by
  have h1 := h.mono (Nat.le_max_left a b)
  have h2 := k.mono (Nat.le_max_right a b)
  unfold Bd at *
  have := Int.natAbs_add_le i j
  rw [Nat.pow_succ]
  omega
theorem Bd.sub {a b : Nat} {i j : Int} (h : Bd a i) (k : Bd b j) : Bd (max a b + 1) (i - j) := by
  rw [Int.sub_eq_add_neg]; exact h.add k.neg
theorem Bd.mul {a b : Nat} {i j : Int} (h : Bd a i) (k : Bd b j) : Bd (a + b) (i * j) := by
  unfold Bd at *
  rw [Int.natAbs_mul, Nat.pow_add]
  exact Nat.mul_lt_mul'' h k
theorem Bd.mulOk {a b : Nat} {i j : Int} (h : Bd a i) (k : Bd b j) (l : a + b ≤ 900000) : mulOk i j = true := by
  unfold PL.mulOk
  rw [Bool.or_eq_true]
  refine .inr (decide_eq_true ?_)
  have lg : ∀ {a : Nat} {i : Int}, Bd a i → i.natAbs.log2 ≤ a := fun {a i} h => by
    by_cases z : i.natAbs = 0
    · rw [z]; simp
    · exact Nat.le_of_lt_succ (Nat.lt_succ_of_lt ((Nat.log2_lt z).mpr h))
  have := lg h
  have := lg k
  omega

/-! ### rows for written lists -/
@[simp] theorem item_tup (xs : List D) (i : Int) : item (.tup xs) (.int i) = atI xs i := rfl
@[simp] theorem item_lst (xs : List D) (i : Int) : item (.lst xs) (.int i) = atI xs i := rfl
@[simp] theorem item_scr (xs : List Int) (i : Int) : item (.scr xs) (.int i) = (atI xs i).map D.int := rfl
theorem atI_nat {α : Type} (xs : List α) (k : Nat) : atI xs (k : Int) = xs[k]? := by
  unfold atI ixN
  by_cases h : k < xs.length
  · have : (k : Int) < xs.length := by omega
    simp [this]
  · have : ¬ (k : Int) < xs.length := by omega
    simp [this]
    omega
@[simp] theorem atI_0 {α : Type} (xs : List α) : atI xs 0 = xs[0]? := atI_nat xs 0
@[simp] theorem atI_1 {α : Type} (xs : List α) : atI xs 1 = xs[1]? := atI_nat xs 1
@[simp] theorem atI_2 {α : Type} (xs : List α) : atI xs 2 = xs[2]? := atI_nat xs 2
@[simp] theorem atI_3 {α : Type} (xs : List α) : atI xs 3 = xs[3]? := atI_nat xs 3
@[simp] theorem atI_4 {α : Type} (xs : List α) : atI xs 4 = xs[4]? := atI_nat xs 4
@[simp] theorem atI_5 {α : Type} (xs : List α) : atI xs 5 = xs[5]? := atI_nat xs 5
@[simp] theorem atI_6 {α : Type} (xs : List α) : atI xs 6 = xs[6]? := atI_nat xs 6
@[simp] theorem atI_7 {α : Type} (xs : List α) : atI xs 7 = xs[7]? := atI_nat xs 7
@[simp] theorem atI_8 {α : Type} (xs : List α) : atI xs 8 = xs[8]? := atI_nat xs 8
@[simp] theorem atI_9 {α : Type} (xs : List α) : atI xs 9 = xs[9]? := atI_nat xs 9
@[simp] theorem atI_10 {α : Type} (xs : List α) : atI xs 10 = xs[10]? := atI_nat xs 10
@[simp] theorem atI_11 {α : Type} (xs : List α) : atI xs 11 = xs[11]? := atI_nat xs 11
@[simp] theorem setOk_def (e : EV) (i : Nat) : setOk e i = (match e[i]? with
  | some .un => true
  | some (.val _) => true
  | some (.own _) => true
  | _ => false) := rfl
@[simp] theorem seqD_tup (xs : List D) : seqD (.tup xs) = some xs := rfl
@[simp] theorem seqD_lst (xs : List D) : seqD (.lst xs) = some xs := rfl
@[simp] theorem seqD_scr (xs : List Int) : seqD (.scr xs) = some (xs.map D.int) := rfl
@[simp] theorem seqL_lst (xs : List D) : seqL (.lst xs) = some xs := rfl
@[simp] theorem seqL_scr (xs : List Int) : seqL (.scr xs) = some (xs.map D.int) := rfl
@[simp] theorem bin_add (i j : Int) : binop .add (.int i) (.int j) = some (.v (.int (i + j))) := rfl
@[simp] theorem bin_sub (i j : Int) : binop .sub (.int i) (.int j) = some (.v (.int (i - j))) := rfl
@[simp] theorem bin_mul (i j : Int) : binop .mul (.int i) (.int j) = if mulOk i j then some (.v (.int (i * j))) else none := rfl
@[simp] theorem bin_fdiv (i j : Int) : binop .fdiv (.int i) (.int j) = if divOk j then some (.v (.int (i / j))) else if decide (j ≠ 0) && decide (j.natAbs < 1073741824) then some (.v (.int (i.fdiv j))) else none := rfl
@[simp] theorem bin_pow (i j : Int) : binop .pow (.int i) (.int j) = if powOk i j then some (.v (.int (i ^ j.toNat))) else none := rfl
@[simp] theorem bin_mod (i j : Int) : binop .mod (.int i) (.int j) = if 0 < j then some (.v (.int (i % j))) else none := rfl
@[simp] theorem bin_cat (xs ys : List D) : binop .add (.lst xs) (.lst ys) = if xs.length + ys.length ≤ sizeL then some (.t (.lst (xs ++ ys))) else none := rfl
@[simp] theorem wipeE_nil (e : EV) : wipeE e [] = e := rfl
@[simp] theorem wipeE_cons (e : EV) (i : Nat) (is : List Nat) : wipeE e (i :: is) = (wipeE e is).set i .un := rfl
@[simp] theorem unwipe_nil (e e2 : EV) : unwipe e e2 [] = e2 := rfl
@[simp] theorem unwipe_cons (e e2 : EV) (i : Nat) (is : List Nat) : unwipe e e2 (i :: is) = (match e[i]? with
    | some s => (unwipe e e2 is).set i s
    | none => unwipe e e2 is) := rfl
@[simp] theorem compL_nil (f : D → EV → Out (Option D)) (own : List Nat) (e : EV) (acc : List D) : compL f own [] e acc = .ok acc e := rfl
@[simp] theorem compL_cons (f : D → EV → Out (Option D)) (own : List Nat) (d : D) (ds : List D) (e : EV) (acc : List D) : compL f own (d :: ds) e acc = (match f d e with
    | .ok (some x) e1 => if acc.length < sizeL then compL f own ds (wipeE e1 own) (acc ++ [x]) else .stuck
    | .ok none e1 => compL f own ds (wipeE e1 own) acc
    | _ => .stuck) := rfl
@[simp] theorem forL_nil (f : D → EV → Out Fl) (e : EV) : forL f [] e = .ok .next e := rfl
@[simp] theorem forL_cons (f : D → EV → Out Fl) (d : D) (ds : List D) (e : EV) : forL f (d :: ds) e = (f d e).bd fun fl e1 => match fl with
    | .next => forL f ds e1
    | .cnt => forL f ds e1
    | .brk => .ok .next e1
    | .ret r => .ok (.ret r) e1 := rfl
@[simp] theorem bi_len_t (xs : List D) : biF .len [.tup xs] = some (.v (.int xs.length)) := rfl
@[simp] theorem bi_len_l (xs : List D) : biF .len [.lst xs] = some (.v (.int xs.length)) := rfl
@[simp] theorem bi_len_s (xs : List Int) : biF .len [.scr xs] = some (.v (.int xs.length)) := rfl
@[simp] theorem bi_abs (i : Int) : biF .abs [.int i] = some (.v (.int (if i < 0 then -i else i))) := rfl
@[simp] theorem bi_tuple_t (xs : List D) : biF .tuple [.tup xs] = some (.v (.tup xs)) := rfl
@[simp] theorem bi_tuple_l (xs : List D) : biF .tuple [.lst xs] = some (.v (.tup xs)) := rfl
@[simp] theorem bi_list_t (xs : List D) : biF .list [.tup xs] = some (.t (.lst xs)) := rfl
@[simp] theorem bi_list_l (xs : List D) : biF .list [.lst xs] = some (.t (.lst xs)) := rfl
@[simp] theorem bi_list_s (xs : List Int) : biF .list [.scr xs] = some (.t (.lst (xs.map D.int))) := rfl
@[simp] theorem bi_int_i (i : Int) : biF .int1 [.int i] = some (.v (.int i)) := rfl
@[simp] theorem bi_int_b (b : Bool) : biF .int1 [.bl b] = some (.v (.int (if b then 1 else 0))) := rfl
@[simp] theorem bi_gcd (i j : Int) : biF .gcd [.int i, .int j] = some (.v (.int ((Nat.gcd i.natAbs j.natAbs : Nat) : Int))) := rfl
theorem blsD_map : ∀ bs : List Bool, blsD (bs.map D.bl) = some bs
  | [] => rfl
  | b :: bs => by simp [blsD, blsD_map bs]
@[simp] theorem bi_all (xs : List D) : biF .all [.lst xs] = (blsD xs).map fun l => .v (.bl (l.all id)) := rfl
@[simp] theorem bi_any (xs : List D) : biF .any [.lst xs] = (blsD xs).map fun l => .v (.bl (l.any id)) := rfl
@[simp] theorem bls_nil : blsD [] = some [] := rfl
@[simp] theorem bls_cons (b : Bool) (xs : List D) : blsD (.bl b :: xs) = (blsD xs).map fun l => b :: l := rfl
@[simp] theorem ty_int (i : Int) : tyNm (.int i) = some "int" := rfl
@[simp] theorem ty_bl (i : Bool) : tyNm (.bl i) = some "bool" := rfl
@[simp] theorem ty_str (i : Str) : tyNm (.str i) = some "str" := rfl
@[simp] theorem ty_non : tyNm .non = some "NoneType" := rfl
@[simp] theorem ty_tup (xs : List D) : tyNm (.tup xs) = some "tuple" := rfl
@[simp] theorem ty_lst (xs : List D) : tyNm (.lst xs) = some "list" := rfl
@[simp] theorem ty_scr (xs : List Int) : tyNm (.scr xs) = some "list" := rfl
@[simp] theorem sz (n : Nat) (h : n ≤ 1000) : (n ≤ sizeL) = True := by simp [sizeL]; omega
@[simp] theorem sz' (n : Nat) (h : n ≤ 1000) : (n < sizeL) = True := by simp [sizeL]; omega
@[simp] theorem outs_nil (e : EV) : outs [] e = [] := by cases e <;> rfl
@[simp] theorem outs_v (d : D) (as : List SV) (x : SV) (e : EV) : outs (.val d :: as) (x :: e) = .val d :: outs as e := rfl
@[simp] theorem outs_b (d : D) (as : List SV) (x : SV) (e : EV) : outs (.bor d :: as) (x :: e) = x :: outs as e := rfl
@[simp] theorem fin_next (as : List SV) (e : EV) : fin as (.ok .next e) = .ok (.v .non) (outs as e) := rfl
@[simp] theorem fin_v (as : List SV) (d : D) (e : EV) : fin as (.ok (.ret (.v d)) e) = .ok (.v d) (outs as e) := rfl
@[simp] theorem fin_t (as : List SV) (d : D) (e : EV) : fin as (.ok (.ret (.t d)) e) = .ok (.t d) (outs as e) := rfl
@[simp] theorem fin_x (as : List SV) (c : Nat) (p : List D) (e : EV) : fin as (.exc c p e) = .exc c p (outs as e) := rfl
@[simp] theorem argOf_v (e : EV) (d : D) : argOf e (.v d) = some (.val d) := rfl
@[simp] theorem argOf_t (e : EV) (d : D) : argOf e (.t d) = some (.val d) := rfl
@[simp] theorem argOf_h (e : EV) (i : Nat) : argOf e (.h i) = (match e[i]? with
    | some (.own d) => some (.bor d)
    | some (.bor d) => some (.bor d)
    | some (.val d) => some (.val d)
    | some (.fro d) => some (.val d)
    | _ => none) := rfl
@[simp] theorem argsOf_nil (e : EV) : argsOf e [] = some [] := rfl
@[simp] theorem argsOf_cons (e : EV) (r : RV) (rs : List RV) : argsOf e (r :: rs) = (argOf e r).bind fun a => (argsOf e rs).map fun l => a :: l := rfl
@[simp] theorem hands_nil : hands [] = [] := rfl
@[simp] theorem hands_v (d : D) (rs : List RV) : hands (.v d :: rs) = hands rs := rfl
@[simp] theorem hands_t (d : D) (rs : List RV) : hands (.t d :: rs) = hands rs := rfl
@[simp] theorem hands_h (i : Nat) (rs : List RV) : hands (.h i :: rs) = i :: hands rs := rfl
@[simp] theorem pb_nil (e : EV) (ss : List SV) : putBack e [] ss = e := by cases ss <;> rfl
@[simp] theorem pb_cons (e : EV) (r : RV) (rs : List RV) (s : SV) (ss : List SV) : putBack e (r :: rs) (s :: ss) = putBack (putBack1 e r s) rs ss := rfl
@[simp] theorem pb_v (e : EV) (d : D) (s : SV) : putBack1 e (.v d) s = e := by cases s <;> rfl
@[simp] theorem pb_t (e : EV) (d : D) (s : SV) : putBack1 e (.t d) s = e := by cases s <;> rfl
@[simp] theorem pb_hb (e : EV) (i : Nat) (d : D) : putBack1 e (.h i) (.bor d) = (match e[i]? with
    | some (.own _) => e.set i (.own d)
    | some (.bor _) => e.set i (.bor d)
    | _ => e) := rfl
@[simp] theorem pb_hf (e : EV) (i : Nat) (d : D) : putBack1 e (.h i) (.fro d) = (match e[i]? with
    | some (.own _) => e.set i (.val d)
    | some (.bor _) => e.set i (.fro d)
    | _ => e) := rfl
@[simp] theorem pb_hv (e : EV) (i : Nat) (d : D) : putBack1 e (.h i) (.val d) = e := rfl
@[simp] theorem x_do (cf : Nat → List SV → CO) (g : Nat) (rs : List RV) (e : EV) : doCall cf g rs e = (if (hands rs).Nodup then
    match argsOf e rs with
    | none => .stuck
    | some as => match cf g as with
      | .ok r as' => .ok r (putBack e rs as')
      | .exc c p as' => .exc c p (putBack e rs as')
      | .stuck => .stuck
  else .stuck) := rfl
theorem wh_step {T : GT} {cf : Nat → List SV → CO} {c : E} {b : List S} {e e1 e2 : EV} {n : Nat} (hc : toB (evE T cf true c e) = .ok true e1) (hb : exB T cf b e1 = .ok .next e2) :
    whL (fun e => toB (evE T cf true c e)) (fun e => exB T cf b e) (n + 1) e = whL (fun e => toB (evE T cf true c e)) (fun e => exB T cf b e) n e2 := by
  simp only [whL, hc, bd_ok, if_pos, hb]
theorem wh_end {T : GT} {cf : Nat → List SV → CO} {c : E} {b : List S} {e e1 : EV} {n : Nat} (hc : toB (evE T cf true c e) = .ok false e1) :
    whL (fun e => toB (evE T cf true c e)) (fun e => exB T cf b e) (n + 1) e = .ok .next e1 := by
  simp only [whL, hc, bd_ok, Bool.false_eq_true, if_false]
/-- a slot that may be stored into -/
def Fre (s : SV) : Prop := s = .un ∨ (∃ d, s = .val d) ∨ ∃ d, s = .own d
theorem Fre.un : Fre .un := .inl rfl
theorem Fre.val (d : D) : Fre (.val d) := .inr (.inl ⟨d, rfl⟩)
theorem Fre.own (d : D) : Fre (.own d) := .inr (.inr ⟨d, rfl⟩)
theorem Fre.ok {s : SV} (h : Fre s) : (match some s with
  | some .un => true
  | some (.val _) => true
  | some (.own _) => true
  | _ => false) = true := by
  rcases h with rfl | ⟨d, rfl⟩ | ⟨d, rfl⟩ <;> rfl
end PL
end

section
namespace PL
open PySem PySem.Spec L2
section
variable (T : GT) (cf : Nat → List SV → CO) (m : Bool) (e : EV)
@[simp] theorem x_app (i : Nat) (a : E) : evE T cf m (.app i a) e = tst m (if lstAt e i then (evE T cf false a e).bd fun ra e1 => opt (frz e1 ra) fun (d, e2) => match mineD e2 i with
    | some (.lst xs) => if xs.length < sizeL then .ok (.v .non) (upS e2 i (.lst (xs ++ [d]))) else .stuck
    | _ => .stuck
    else .stuck) := by first | (rw [evE]; done) | (rw [evE]; rfl)
@[simp] theorem x_ext (i : Nat) (a : E) : evE T cf m (.ext i a) e = tst m (if lstAt e i then (evE T cf false a e).bd fun ra e1 => opt (cont e1 ra) fun d => match mineD e1 i, d with
    | some (.lst xs), .lst ys => if xs.length + ys.length ≤ sizeL then .ok (.v .non) (upS e1 i (.lst (xs ++ ys))) else .stuck
    | _, _ => .stuck
    else .stuck) := by first | (rw [evE]; done) | (rw [evE]; rfl)
@[simp] theorem x_pop (i : Nat) : evE T cf m (.pop i) e = tst m (match mineD e i with
    | some (.lst xs) => opt (xs[xs.length - 1]?) fun d => .ok (.v d) (upS e i (.lst xs.dropLast))
    | _ => .stuck) := by first | (rw [evE]; done) | (rw [evE]; rfl)
end
@[simp] theorem cmp_isb (a b : Bool) : cmpop .Is (.bl a) (.bl b) = some (decide (a = b)) := rfl
@[simp] theorem cmp_isnb (a b : Bool) : cmpop .IsNot (.bl a) (.bl b) = some (!decide (a = b)) := rfl
@[simp] theorem mine_own (e : EV) (i : Nat) (d : D) (h : e[i]? = some (.own d)) : mineD e i = some d := by unfold mineD; rw [h]
@[simp] theorem lst_own (e : EV) (i : Nat) (xs : List D) (h : e[i]? = some (.own (.lst xs))) : lstAt e i = true := by unfold lstAt; rw [mine_own e i _ h]
@[simp] theorem up_own (e : EV) (i : Nat) (d c : D) (h : e[i]? = some (.own c)) : upS e i d = e.set i (.own d) := by unfold upS; rw [h]
end PL
end

section
/-! slots by what is known of them -/
namespace PL
open PySem PySem.Spec L2

theorem lt_of_get {e : EV} {i : Nat} {s : SV} (h : e[i]? = some s) : i < e.length := by
  rcases Nat.lt_or_ge i e.length with h1 | h1
  · exact h1
  · rw [List.getElem?_eq_none h1] at h; cases h
theorem set_same {e : EV} {i : Nat} {s : SV} (h : e[i]? = some s) : e.set i s = e := by
  apply List.ext_getElem?
  intro j
  rw [List.getElem?_set]
  by_cases hj : i = j
  · subst hj
    have := lt_of_get h
    rw [List.getElem?_eq_getElem this] at h
    simp [this]
    exact (Option.some.inj h).symm
  · simp [hj]
theorem get_set {e : EV} {i : Nat} (t : SV) (h : i < e.length) : (e.set i t)[i]? = some t := by simp [h]
theorem get_ne (e : EV) (i j : Nat) (t : SV) (h : i ≠ j) : (e.set i t)[j]? = e[j]? := by
  rw [List.getElem?_set]; simp [h]
theorem setOk_fre {e : EV} {i : Nat} {s : SV} (h : e[i]? = some s) (f : Fre s) : setOk e i = true := by
  rw [setOk_def, h]; exact f.ok
def Q (N : Nat) (kv : List (Nat × SV)) (e : EV) : Prop := e.length = N ∧ (∀ i, 1 ≤ i → i < N → ∃ s, e[i]? = some s ∧ Fre s) ∧ ∀ p ∈ kv, e[p.1]? = some p.2
section
variable {N : Nat} {kv : List (Nat × SV)} {e : EV}
theorem Q.len (h : Q N kv e) : e.length = N := h.1
theorem Q.get (h : Q N kv e) {i : Nat} {s : SV} (m : (i, s) ∈ kv) : e[i]? = some s := h.2.2 _ m
theorem Q.g0 {i : Nat} {s : SV} {kv : List (Nat × SV)} (h : Q N ((i, s) :: kv) e) : e[i]? = some s := h.2.2 (i, s) (List.mem_cons_self ..)
theorem Q.tl {p : Nat × SV} {kv : List (Nat × SV)} (h : Q N (p :: kv) e) : Q N kv e := ⟨h.1, h.2.1, fun q m => h.2.2 q (List.mem_cons_of_mem _ m)⟩
theorem Q.ok (h : Q N kv e) {i : Nat} (h1 : 1 ≤ i) (h2 : i < N) : setOk e i = true := by
  obtain ⟨s, a, b⟩ := h.2.1 i h1 h2
  exact setOk_fre a b
theorem Q.fre (h : Q N kv e) {i : Nat} (h1 : 1 ≤ i) (h2 : i < N) : ∃ s, e[i]? = some s ∧ Fre s := h.2.1 i h1 h2
theorem Q.set (h : Q N kv e) {i : Nat} {t : SV} (h1 : 1 ≤ i) (h2 : i < N) (f : Fre t) : Q N ((i, t) :: kv.filter fun p => p.1 != i) (e.set i t) := by
  refine ⟨by simp [h.1], fun j j1 j2 => ?_, fun p m => ?_⟩
  · by_cases hj : i = j
    · subst hj; exact ⟨t, get_set t (by rw [h.1]; exact h2), f⟩
    · rw [get_ne _ _ _ _ hj]; exact h.2.1 j j1 j2
  · rcases List.mem_cons.mp m with rfl | m
    · exact get_set t (by rw [h.1]; exact h2)
    · have := List.mem_filter.mp m
      rw [get_ne _ _ _ _ (by have := this.2; simp at this; exact fun q => this q.symm)]
      exact h.2.2 p this.1
theorem Q.sub (h : Q N kv e) {kv' : List (Nat × SV)} (s : ∀ p ∈ kv', p ∈ kv) : Q N kv' e := ⟨h.1, h.2.1, fun p m => h.2.2 p (s p m)⟩
theorem Q.add (h : Q N kv e) {i : Nat} {s : SV} (g : e[i]? = some s) : Q N ((i, s) :: kv) e := ⟨h.1, h.2.1, fun p m => by
  rcases List.mem_cons.mp m with rfl | m
  · exact g
  · exact h.2.2 p m⟩
end
section
variable {T : GT} {cf : Nat → List SV → CO} {e e1 : EV}
theorem st_v {i : Nat} {a : E} {d : D} (he : evE T cf false a e = .ok (.v d) e1) (ho : setOk e1 i = true) : exS T cf (.set i a) e = .ok .next (e1.set i (.val d)) := by
  rw [x_set, he]; simp [fzR, setR, ho, opt, -setOk_def]
theorem st_t {i : Nat} {a : E} {d : D} (he : evE T cf false a e = .ok (.t d) e1) (ho : setOk e1 i = true) : exS T cf (.set i a) e = .ok .next (e1.set i (.own d)) := by
  rw [x_set, he]; simp [fzR, setR, ho, opt, -setOk_def]
theorem st_if {c : E} {b : List S} (he : evE T cf true c e = .ok (.v (.bl false)) e1) : exS T cf (.if_ c b []) e = .ok .next e1 := by
  rw [x_if, he]; simp [toB]
theorem st_ifn {c : E} {b : List S} (he : evE T cf true c e = .ok (.v (.bl true)) e1) : exS T cf (.if_ (.not_ c) b []) e = .ok .next e1 := by
  rw [x_if, x_not, he]; simp [toB, truth, opt]
theorem st_or {es : List E} {b : List S} (he : evV T cf true false es e = .ok (.v (.bl false)) e1) : exS T cf (.if_ (.andor false es) b []) e = .ok .next e1 := st_if (by rw [x_andor]; exact he)
theorem or1 {a b : E} {r : List E} (he : evE T cf true a e = .ok (.v (.bl false)) e1) : evV T cf true false (a :: b :: r) e = evV T cf true false (b :: r) e1 := by
  rw [x_v2, he]; simp [truth, opt]
theorem andf {a b : E} {r : List E} (he : evE T cf true a e = .ok (.v (.bl false)) e1) : evV T cf true true (a :: b :: r) e = .ok (.v (.bl false)) e1 := by
  rw [x_v2, he]; simp [truth, opt]
theorem and1 {a b : E} {r : List E} (he : evE T cf true a e = .ok (.v (.bl true)) e1) : evV T cf true true (a :: b :: r) e = evV T cf true true (b :: r) e1 := by
  rw [x_v2, he]; simp [truth, opt]
theorem ntrue {a : E} {b : Bool} (he : evE T cf true a e = .ok (.v (.bl b)) e1) : evE T cf true (.not_ a) e = .ok (.v (.bl (!b))) e1 := by
  rw [x_not, he]; simp [truth, opt]
theorem tst_v {a : Out RV} {b : Bool} (he : a = .ok (.v (.bl b)) e1) : tst true a = .ok (.v (.bl b)) e1 := by
  subst he; simp [tst, truth, opt]
theorem pbn : ∀ (rs : List RV) (as : List SV) (e : EV), hands rs = [] → putBack e rs as = e
  | [], as, e, _ => by cases as <;> rfl
  | r :: rs, [], e, _ => rfl
  | .v d :: rs, s :: as, e, h => by rw [pb_cons, pb_v]; exact pbn rs as e h
  | .t d :: rs, s :: as, e, h => by rw [pb_cons, pb_t]; exact pbn rs as e h
  | .h i :: rs, s :: as, e, h => by simp at h
/-- a call whose arguments are no handles -/
theorem ev_call {m : Bool} {g : Nat} {es : List E} {rs : List RV} {as as' : List SV} {r : RV} (ha : evA T cf es e = .ok rs e1) (hh : hands rs = []) (hs : argsOf e1 rs = some as) (hc : cf g as = .ok r as') : evE T cf m (.call g es) e = tst m (.ok r e1) := by
  rw [x_call, ha]
  simp only [bd_ok, x_do, hh, List.nodup_nil, if_true, hs, hc]
  rw [pbn rs as' e1 hh]
/-- a comprehension with one name -/
theorem ev_comp {i : Nat} {it : It} {cond : Option E} {elt : E} {ds : List D} {s : SV} (p : D → Bool) (h : D → D) (hi : evI T cf it e = .ok ds e1) (hs : e1[i]? = some s) (hl : ds.length ≤ 1000)
    (hf : ∀ d ∈ ds, evC T cf cond (e1.set i (.val d)) = .ok (p d) (e1.set i (.val d)) ∧ (p d = true → evE T cf false elt (e1.set i (.val d)) = .ok (.v (h d)) (e1.set i (.val d)) ∨ evE T cf false elt (e1.set i (.val d)) = .ok (.t (h d)) (e1.set i (.val d)))) :
    evE T cf false (.comp [i] it (.nm i) cond elt) e = .ok (.t (.lst ((ds.filter p).map h))) e1 := by
  have hlt := lt_of_get hs
  have ho : setOk (e1.set i .un) i = true := setOk_fre (get_set .un hlt) Fre.un
  have hc := compL_filter (f := fun d e => opt (asg (.nm i) d e) fun e1 => (evC T cf cond e1).bd fun k e2 => if k then (evE T cf false elt e2).bd fun r e3 => opt (frz e3 r) fun (x, e4) => .ok (some x) e4 else .ok none e2) (own := [i]) (e0 := e1.set i .un) h p ds [] (by
    intro d hd
    obtain ⟨h1, h2⟩ := hf d hd
    refine ⟨e1.set i (.val d), ?_, by simp [wipeE]⟩
    have : (e1.set i .un).set i (.val d) = e1.set i (.val d) := List.set_set ..
    simp only [asg, ho, if_true, this, opt, h1, bd_ok]
    by_cases hp : p d = true
    · rw [if_pos hp, if_pos hp]
      rcases h2 hp with q | q <;> rw [q] <;> simp [frz]
    · rw [if_neg hp, if_neg hp]) (by simp [sizeL]; omega)
  rw [x_comp, hi]
  simp only [tst, Bool.false_eq_true, if_false, bd_ok, wipeE_cons, wipeE_nil]
  rw [hc]
  simp only [bd_ok, List.nil_append, unwipe_cons, unwipe_nil, hs, List.set_set]
  rw [set_same hs]
end
end PL
end

section
namespace PL.K50
open PySem PySem.Spec L2 PL
def top (i : Nat) : Stmt := PySem.Challenge.pw_tablelots_k50_across_rays_and_words.main.body.getD i (.Pass ⟨0, 0, 0, 0⟩)
abbrev s0 : Stmt := top 6
/-- is_number -/
def f0 : FnD := ⟨"is_number", ["thing"], ["thing"], [
  .ret (.andor true [.isi (.var 0) ["int"], .not_ (.isi (.var 0) ["bool"])])]⟩
abbrev s1 : Stmt := top 7
/-- is_within -/
def f1 : FnD := ⟨"is_within", ["thing", "least", "most"], ["thing", "least", "most"], [
  .ret (.andor true [.call 0 [.var 0], .chain .LtE .LtE (.var 1) (.var 0) (.var 2)])]⟩
abbrev s2 : Stmt := top 8
/-- is_long -/
def f2 : FnD := ⟨"is_long", ["thing", "length"], ["thing", "length"], [
  .ret (.andor true [.isi (.var 0) ["tuple"], .cmp .Eq (.bi .len [.var 0]) (.var 1)])]⟩
abbrev s3 : Stmt := top 9
/-- are_numbers -/
def f3 : FnD := ⟨"are_numbers", ["thing", "length"], ["thing", "length", "own"], [
  .ret (.andor true [.call 2 [.var 0, .var 1], .bi .all [.comp [2] (.e (.var 0)) (.nm 2) none (.call 0 [.var 2])]])]⟩
abbrev s4 : Stmt := top 10
/-- tupled -/
def f4 : FnD := ⟨"tupled", ["value"], ["value", "own"], [
  .ret (.ite (.isi (.var 0) ["list", "tuple"]) (.bi .tuple [.comp [1] (.e (.var 0)) (.nm 1) none (.call 4 [.var 1])]) (.var 0))]⟩
abbrev s5 : Stmt := top 11
/-- inverse_of -/
def f5 : FnD := ⟨"inverse_of", ["number", "base"], ["number", "base", "near", "far", "one", "two", "step"], [
  .par [2, 3, 4, 5] [.bin .mod (.var 0) (.var 1), .var 1, .int 1, .int 0],
  .wh (.cmp .NotEq (.var 2) (.int 0)) [.set 6 (.bin .fdiv (.var 3) (.var 2)), .par [2, 3, 4, 5] [.bin .sub (.var 3) (.bin .mul (.var 6) (.var 2)), .var 2, .bin .sub (.var 5) (.bin .mul (.var 6) (.var 4)), .var 4]],
  .ret (.bin .mod (.var 5) (.var 1))]⟩
abbrev s6 : Stmt := top 17
/-- is_move_of -/
def f6 : FnD := ⟨"is_move_of", ["thing"], ["thing"], [
  .if_ (.andor false [.not_ (.call 3 [.var 0, .int 4]), .cmp .NotEq (.bin .sub (.bin .mul (.ix (.var 0) (.int 0)) (.ix (.var 0) (.int 3))) (.bin .mul (.ix (.var 0) (.int 1)) (.ix (.var 0) (.int 2)))) (.int 1)]) [.ret (.bl false)] [],
  .ret (.andor false [.cmp .Gt (.ix (.var 0) (.int 2)) (.int 0), .andor true [.cmp .Eq (.ix (.var 0) (.int 2)) (.int 0), .cmp .Eq (.ix (.var 0) (.int 3)) (.int 1)]])]⟩
abbrev s7 : Stmt := top 18
/-- sure_move -/
def f7 : FnD := ⟨"sure_move", ["move"], ["move", "own"], [
  .set 1 (.call 4 [.var 0]),
  .if_ (.not_ (.call 6 [.var 1])) [.raise_ 2] [],
  .ret (.var 1)]⟩
abbrev s8 : Stmt := top 19
/-- signed -/
def f8 : FnD := ⟨"signed", ["table"], ["table", "own"], [
  .if_ (.andor false [.cmp .Gt (.ix (.var 0) (.int 2)) (.int 0), .andor true [.cmp .Eq (.ix (.var 0) (.int 2)) (.int 0), .cmp .Gt (.ix (.var 0) (.int 3)) (.int 0)]]) [.ret (.var 0)] [],
  .ret (.bi .tuple [.comp [1] (.e (.var 0)) (.nm 1) none (.bin .sub (.int 0) (.var 1))])]⟩
abbrev s9 : Stmt := top 20
/-- product -/
def f9 : FnD := ⟨"product", ["one", "other"], ["one", "other", "a", "b", "c", "d", "e", "f", "g", "h"], [
  .unp [2, 3, 4, 5] (.var 0),
  .unp [6, 7, 8, 9] (.var 1),
  .ret (.call 8 [.tup [.bin .add (.bin .mul (.var 2) (.var 6)) (.bin .mul (.var 3) (.var 8)), .bin .add (.bin .mul (.var 2) (.var 7)) (.bin .mul (.var 3) (.var 9)), .bin .add (.bin .mul (.var 4) (.var 6)) (.bin .mul (.var 5) (.var 8)), .bin .add (.bin .mul (.var 4) (.var 7)) (.bin .mul (.var 5) (.var 9))]])]⟩
abbrev s10 : Stmt := top 21
/-- inverse -/
def f10 : FnD := ⟨"inverse", ["move"], ["move", "a", "b", "c", "d"], [
  .unp [1, 2, 3, 4] (.var 0),
  .ret (.call 8 [.tup [.var 4, .bin .sub (.int 0) (.var 2), .bin .sub (.int 0) (.var 3), .var 1]])]⟩
abbrev s11 : Stmt := top 22
/-- stepped -/
def f11 : FnD := ⟨"stepped", ["times"], ["times"], [
  .ret (.tup [.int 1, .var 0, .int 0, .int 1])]⟩
abbrev s12 : Stmt := top 23
/-- size_of -/
def f12 : FnD := ⟨"size_of", ["move"], ["move"], [
  .ret (.bi .abs [.bin .add (.ix (.var 0) (.int 0)) (.ix (.var 0) (.int 3))])]⟩
abbrev s13 : Stmt := top 24
/-- kind_of -/
def f13 : FnD := ⟨"kind_of", ["move"], ["move"], [
  .if_ (.cmp .Eq (.var 0) (.con 0)) [.ret (.str "still")] [],
  .ret (.dlit [.inl 0, .inl 1, .inl 2] [.str "two", .str "three", .str "step"] (.call 12 [.var 0]) (some (.str "far")))]⟩
abbrev s14 : Stmt := top 25
/-- move_product -/
def f14 : FnD := ⟨"move_product", ["one", "other"], ["one", "other"], [
  .ret (.call 9 [.call 7 [.var 0], .call 7 [.var 1]])]⟩
abbrev s15 : Stmt := top 26
/-- move_back -/
def f15 : FnD := ⟨"move_back", ["move"], ["move"], [
  .ret (.call 10 [.call 7 [.var 0]])]⟩
abbrev s16 : Stmt := top 27
/-- moves_product -/
def f16 : FnD := ⟨"moves_product", ["moves"], ["moves", "own", "its", "found"], [
  .set 1 (.call 4 [.var 0]),
  .if_ (.andor false [.not_ (.isi (.var 1) ["tuple"]), .not_ (.bi .all [.comp [2] (.e (.var 1)) (.nm 2) none (.call 6 [.var 2])])]) [.raise_ 2] [],
  .set 3 (.con 0),
  .for_ (.nm 2) (.e (.var 1)) [.set 3 (.call 9 [.var 3, .var 2])],
  .ret (.var 3)]⟩
abbrev s17 : Stmt := top 28
/-- kind -/
def f17 : FnD := ⟨"kind", ["move"], ["move"], [
  .ret (.call 13 [.call 7 [.var 0]])]⟩
abbrev s18 : Stmt := top 29
/-- turned_by -/
def f18 : FnD := ⟨"turned_by", ["move", "other"], ["move", "other", "own", "told"], [
  .par [2, 3] [.call 7 [.var 0], .call 7 [.var 1]],
  .ret (.call 9 [.call 9 [.call 10 [.var 3], .var 2], .var 3])]⟩
abbrev s19 : Stmt := top 30
/-- steps -/
def f19 : FnD := ⟨"steps", ["times"], ["times"], [
  .if_ (.not_ (.call 0 [.var 0])) [.raise_ 2] [],
  .ret (.call 11 [.var 0])]⟩
abbrev s20 : Stmt := top 34
/-- is_ray_of -/
def f20 : FnD := ⟨"is_ray_of", ["thing"], ["thing"], [
  .if_ (.andor false [.not_ (.call 3 [.var 0, .int 2]), .cmp .NotEq (.bi .gcd [.ix (.var 0) (.int 0), .ix (.var 0) (.int 1)]) (.int 1)]) [.ret (.bl false)] [],
  .ret (.andor false [.cmp .Gt (.ix (.var 0) (.int 1)) (.int 0), .cmp .Eq (.var 0) (.con 4)])]⟩
abbrev s21 : Stmt := top 35
/-- sure_ray -/
def f21 : FnD := ⟨"sure_ray", ["ray"], ["ray", "own"], [
  .set 1 (.call 4 [.var 0]),
  .if_ (.not_ (.call 20 [.var 1])) [.raise_ 2] [],
  .ret (.var 1)]⟩
abbrev s22 : Stmt := top 36
/-- ray_of -/
def f22 : FnD := ⟨"ray_of", ["above", "below"], ["above", "below"], [
  .ret (.ite (.andor false [.cmp .Gt (.var 1) (.int 0), .andor true [.cmp .Eq (.var 1) (.int 0), .cmp .Gt (.var 0) (.int 0)]]) (.tup [.var 0, .var 1]) (.tup [.bin .sub (.int 0) (.var 0), .bin .sub (.int 0) (.var 1)]))]⟩
abbrev s23 : Stmt := top 37
/-- led -/
def f23 : FnD := ⟨"led", ["move", "ray"], ["move", "ray", "a", "b", "c", "d"], [
  .unp [2, 3, 4, 5] (.var 0),
  .ret (.call 22 [.bin .add (.bin .mul (.var 2) (.ix (.var 1) (.int 0))) (.bin .mul (.var 3) (.ix (.var 1) (.int 1))), .bin .add (.bin .mul (.var 4) (.ix (.var 1) (.int 0))) (.bin .mul (.var 5) (.ix (.var 1) (.int 1)))])]⟩
abbrev s24 : Stmt := top 38
/-- between_number -/
def f24 : FnD := ⟨"between_number", ["one", "other"], ["one", "other"], [
  .ret (.bi .abs [.bin .sub (.bin .mul (.ix (.var 0) (.int 0)) (.ix (.var 1) (.int 1))) (.bin .mul (.ix (.var 0) (.int 1)) (.ix (.var 1) (.int 0)))])]⟩
abbrev s25 : Stmt := top 39
/-- move_to -/
def f25 : FnD := ⟨"move_to", ["ray"], ["ray", "above", "below", "last"], [
  .unp [1, 2] (.var 0),
  .if_ (.cmp .Eq (.var 2) (.int 0)) [.ret (.tup [.int 1, .int 0, .int 0, .int 1])] [],
  .set 3 (.call 5 [.var 1, .var 2]),
  .ret (.call 8 [.tup [.var 1, .bin .fdiv (.bin .sub (.bin .mul (.var 1) (.var 3)) (.int 1)) (.var 2), .var 2, .var 3]])]⟩
abbrev s26 : Stmt := top 40
/-- convergents -/
def f26 : FnD := ⟨"convergents", ["ray"], ["ray", "found", "near", "far", "above", "below", "step"], [
  .par [1, 2, 3] [.lst [.con 4], .tup [.int 0, .int 1], .con 4],
  .unp [4, 5] (.var 0),
  .wh (.cmp .NotEq (.var 5) (.int 0)) [.set 6 (.bin .fdiv (.var 4) (.var 5)), .par [4, 5] [.var 5, .bin .sub (.var 4) (.bin .mul (.var 6) (.var 5))], .par [2, 3] [.var 3, .tup [.bin .add (.bin .mul (.var 6) (.ix (.var 3) (.int 0))) (.ix (.var 2) (.int 0)), .bin .add (.bin .mul (.var 6) (.ix (.var 3) (.int 1))) (.ix (.var 2) (.int 1))]], .ex (.app 1 (.var 3))],
  .ret (.var 1)]⟩
abbrev s27 : Stmt := top 41
/-- ray_led -/
def f27 : FnD := ⟨"ray_led", ["move", "place"], ["move", "place", "own"], [
  .set 2 (.call 7 [.var 0]),
  .ret (.call 23 [.var 2, .call 21 [.var 1]])]⟩
abbrev s28 : Stmt := top 42
/-- apart -/
def f28 : FnD := ⟨"apart", ["one", "other"], ["one", "other", "near"], [
  .set 2 (.call 21 [.var 0]),
  .ret (.call 24 [.var 2, .call 21 [.var 1]])]⟩
abbrev s29 : Stmt := top 43
/-- are_next -/
def f29 : FnD := ⟨"are_next", ["one", "other"], ["one", "other", "near"], [
  .set 2 (.call 21 [.var 0]),
  .ret (.cmp .Eq (.call 24 [.var 2, .call 21 [.var 1]]) (.int 1))]⟩
abbrev s30 : Stmt := top 44
/-- middle -/
def f30 : FnD := ⟨"middle", ["one", "other"], ["one", "other", "near", "far"], [
  .par [2, 3] [.call 21 [.var 0], .call 21 [.var 1]],
  .if_ (.cmp .NotEq (.call 24 [.var 2, .var 3]) (.int 1)) [.raise_ 0] [],
  .ret (.call 22 [.bin .add (.ix (.var 2) (.int 0)) (.ix (.var 3) (.int 0)), .bin .add (.ix (.var 2) (.int 1)) (.ix (.var 3) (.int 1))])]⟩
abbrev s31 : Stmt := top 45
/-- ray_move -/
def f31 : FnD := ⟨"ray_move", ["place"], ["place"], [
  .ret (.call 25 [.call 21 [.var 0]])]⟩
abbrev s32 : Stmt := top 46
/-- ray_way -/
def f32 : FnD := ⟨"ray_way", ["place"], ["place"], [
  .ret (.bi .tuple [.call 26 [.call 21 [.var 0]]])]⟩
abbrev s33 : Stmt := top 47
/-- parents -/
def f33 : FnD := ⟨"parents", ["place"], ["place", "own", "move", "one", "other"], [
  .set 1 (.call 21 [.var 0]),
  .if_ (.cmp .Lt (.ix (.var 1) (.int 1)) (.int 2)) [.raise_ 0] [],
  .set 2 (.call 25 [.var 1]),
  .set 3 (.call 22 [.ix (.var 2) (.int 1), .ix (.var 2) (.int 3)]),
  .set 4 (.call 22 [.bin .sub (.ix (.var 1) (.int 0)) (.ix (.var 3) (.int 0)), .bin .sub (.ix (.var 1) (.int 1)) (.ix (.var 3) (.int 1))]),
  .ret (.ite (.cmp .Lt (.bin .mul (.ix (.var 3) (.int 0)) (.ix (.var 4) (.int 1))) (.bin .mul (.ix (.var 4) (.int 0)) (.ix (.var 3) (.int 1)))) (.tup [.var 3, .var 4]) (.tup [.var 4, .var 3]))]⟩
abbrev s34 : Stmt := top 48
/-- move_between -/
def f34 : FnD := ⟨"move_between", ["one", "other"], ["one", "other", "near"], [
  .set 2 (.call 21 [.var 0]),
  .ret (.call 9 [.call 25 [.call 21 [.var 1]], .call 10 [.call 25 [.var 2]]])]⟩
abbrev s35 : Stmt := top 49
/-- edge_move -/
def f35 : FnD := ⟨"edge_move", ["one", "other"], ["one", "other", "near", "far"], [
  .par [2, 3] [.call 21 [.var 0], .call 21 [.var 1]],
  .if_ (.cmp .NotEq (.call 24 [.var 2, .var 3]) (.int 1)) [.raise_ 0] [],
  .ret (.call 36 [.var 2, .var 3])]⟩
abbrev s36 : Stmt := top 50
/-- edge_of -/
def f36 : FnD := ⟨"edge_of", ["near", "far"], ["near", "far"], [
  .if_ (.cmp .Eq (.bin .sub (.bin .mul (.ix (.var 0) (.int 0)) (.ix (.var 1) (.int 1))) (.bin .mul (.ix (.var 0) (.int 1)) (.ix (.var 1) (.int 0)))) (.int 1)) [.ret (.call 8 [.bin .add (.bin .add (.bin .add (.sl (.var 0) none (some (.int 1))) (.sl (.var 1) none (some (.int 1)))) (.sl (.var 0) (some (.int 1)) none)) (.sl (.var 1) (some (.int 1)) none)])] [],
  .ret (.call 8 [.tup [.ix (.var 0) (.int 0), .bin .sub (.int 0) (.ix (.var 1) (.int 0)), .ix (.var 0) (.int 1), .bin .sub (.int 0) (.ix (.var 1) (.int 1))]])]⟩
abbrev s37 : Stmt := top 51
/-- next_rays -/
def f37 : FnD := ⟨"next_rays", ["place", "many"], ["place", "many", "own", "step"], [
  .set 2 (.call 21 [.var 0]),
  .if_ (.not_ (.call 1 [.var 1, .int 0, .con 5])) [.raise_ 2] [],
  .ret (.bi .tuple [.comp [3] (.rng [.var 1]) (.nm 3) none (.call 23 [.call 25 [.var 2], .tup [.var 3, .int 1]])])]⟩
abbrev s38 : Stmt := top 55
/-- is_row_of -/
def f38 : FnD := ⟨"is_row_of", ["thing"], ["thing", "own"], [
  .ret (.andor true [.isi (.var 0) ["tuple"], .bi .all [.comp [1] (.e (.var 0)) (.nm 1) none (.call 1 [.var 1, .int 1, .int 3])]])]⟩
abbrev s39 : Stmt := top 56
/-- sure_row -/
def f39 : FnD := ⟨"sure_row", ["row"], ["row", "own"], [
  .set 1 (.call 4 [.var 0]),
  .if_ (.not_ (.call 38 [.var 1])) [.raise_ 2] [],
  .ret (.var 1)]⟩
abbrev s40 : Stmt := top 57
/-- shortest -/
def f40 : FnD := ⟨"shortest", ["row"], ["row", "found", "own", "both"], [
  .set 1 (.lst []),
  .for_ (.nm 2) (.e (.var 0)) [.if_ (.andor false [.cmp .Eq (.var 1) (.lst []), .cmp .NotEq (.cmp .Eq (.ix (.var 1) (.neg (.int 1))) (.int 1)) (.cmp .Eq (.var 2) (.int 1))]) [.ex (.app 1 (.var 2))] [.if_ (.cmp .Eq (.var 2) (.int 1)) [.ex (.pop 1)] [.set 3 (.bin .mod (.bin .sub (.bin .add (.bin .sub (.pop 1) (.int 1)) (.var 2)) (.int 1)) (.int 3)), .if_ (.cmp .NotEq (.var 3) (.int 0)) [.ex (.app 1 (.bin .add (.var 3) (.int 1)))] []]]],
  .ret (.bi .tuple [.var 1])]⟩
abbrev s41 : Stmt := top 58
/-- move_in -/
def f41 : FnD := ⟨"move_in", ["row"], ["row", "found", "own"], [
  .set 1 (.con 0),
  .for_ (.nm 2) (.e (.var 0)) [.set 1 (.call 9 [.var 1, .dix 0 (.var 2)])],
  .ret (.var 1)]⟩
abbrev s42 : Stmt := top 59
/-- nearest -/
def f42 : FnD := ⟨"nearest", ["above", "below"], ["above", "below"], [
  .if_ (.cmp .Lt (.var 1) (.int 0)) [.par [0, 1] [.bin .sub (.int 0) (.var 0), .bin .sub (.int 0) (.var 1)]] [],
  .ret (.bin .sub (.int 0) (.bin .fdiv (.bin .sub (.var 1) (.bin .mul (.int 2) (.var 0))) (.bin .mul (.int 2) (.var 1))))]⟩
abbrev s43 : Stmt := top 60
/-- quotients -/
def f43 : FnD := ⟨"quotients", ["move"], ["move", "a", "b", "c", "d", "found", "step"], [
  .unp [1, 2, 3, 4] (.var 0),
  .set 5 (.lst []),
  .wh (.cmp .NotEq (.var 3) (.int 0)) [.set 6 (.call 42 [.var 1, .var 3]), .ex (.app 5 (.var 6)), .par [1, 2, 3, 4] [.var 3, .var 4, .bin .sub (.bin .mul (.var 6) (.var 3)) (.var 1), .bin .sub (.bin .mul (.var 6) (.var 4)) (.var 2)]],
  .ret (.bin .add (.var 5) (.lst [.ite (.cmp .Gt (.var 4) (.int 0)) (.var 2) (.bin .sub (.int 0) (.var 2))]))]⟩
abbrev s44 : Stmt := top 61
/-- word_in -/
def f44 : FnD := ⟨"word_in", ["move"], ["move", "rows", "own", "found", "place"], [
  .set 1 (.call 43 [.var 0]),
  .if_ (.cmp .Gt (.bi .sum [.comp [2] (.e (.var 1)) (.nm 2) none (.bi .abs [.var 2])]) (.con 6)) [.raise_ 1] [],
  .set 3 (.lst []),
  .for_ (.tp [4, 2]) (.enum (.var 1)) [.if_ (.cmp .Gt (.var 4) (.int 0)) [.ex (.app 3 (.int 1))] [], .ex (.ext 3 (.ite (.cmp .GtE (.var 2) (.int 0)) (.bin .mul (.lst [.int 1, .int 2]) (.var 2)) (.bin .mul (.lst [.int 3, .int 1]) (.bin .sub (.int 0) (.var 2)))))],
  .ret (.call 40 [.var 3])]⟩
abbrev s45 : Stmt := top 62
/-- word_of -/
def f45 : FnD := ⟨"word_of", ["move"], ["move"], [
  .ret (.call 44 [.call 7 [.var 0]])]⟩
abbrev s46 : Stmt := top 63
/-- move_by -/
def f46 : FnD := ⟨"move_by", ["row"], ["row"], [
  .ret (.call 41 [.call 39 [.var 0]])]⟩
abbrev s47 : Stmt := top 64
/-- step_rows -/
def f47 : FnD := ⟨"step_rows", ["move"], ["move"], [
  .ret (.bi .tuple [.call 43 [.call 7 [.var 0]]])]⟩
abbrev s48 : Stmt := top 67
/-- sure_base -/
def f48 : FnD := ⟨"sure_base", ["base", "most"], ["base", "most"], [
  .if_ (.not_ (.call 1 [.var 0, .int 1, .var 1])) [.raise_ 2] [],
  .ret (.var 0)]⟩
abbrev s49 : Stmt := top 68
/-- zero_below -/
def f49 : FnD := ⟨"zero_below", ["base", "ray"], ["base", "ray", "own", "told"], [
  .set 2 (.call 48 [.var 0, .con 7]),
  .set 3 (.call 4 [.var 1]),
  .if_ (.not_ (.call 20 [.var 3])) [.raise_ 2] [],
  .ret (.bi .gcd [.ix (.var 3) (.int 1), .var 2])]⟩
abbrev s50 : Stmt := top 69
/-- zero_leads -/
def f50 : FnD := ⟨"zero_leads", ["base", "one", "other"], ["base", "one", "other", "own", "near", "far"], [
  .set 3 (.call 48 [.var 0, .con 7]),
  .par [4, 5] [.call 4 [.var 1], .call 4 [.var 2]],
  .if_ (.andor false [.not_ (.call 20 [.var 4]), .not_ (.call 20 [.var 5])]) [.raise_ 2] [],
  .ret (.call 51 [.var 3, .var 4, .var 5])]⟩
abbrev s51 : Stmt := top 70
/-- lead_rest -/
def f51 : FnD := ⟨"lead_rest", ["base", "near", "far"], ["base", "near", "far", "one", "two"], [
  .set 3 (.ite (.cmp .Gt (.ix (.var 1) (.int 1)) (.int 0)) (.call 5 [.ix (.var 1) (.int 0), .ix (.var 1) (.int 1)]) (.int 1)),
  .set 4 (.ite (.cmp .Gt (.ix (.var 2) (.int 1)) (.int 0)) (.call 5 [.ix (.var 2) (.int 0), .ix (.var 2) (.int 1)]) (.int 1)),
  .ret (.cmp .Eq (.bin .mod (.bin .sub (.bin .mul (.var 3) (.ix (.var 2) (.int 1))) (.bin .mul (.var 4) (.ix (.var 1) (.int 1)))) (.bi .gcd [.bin .mul (.ix (.var 1) (.int 1)) (.ix (.var 2) (.int 1)), .var 0])) (.int 0))]⟩
abbrev s52 : Stmt := top 72
/-- _law_box -/
def f52 : FnD := ⟨"_law_box", ["script", "k"], ["script", "k", "bit_so"], [
  .set 2 (.ite (.cmp .Lt (.var 1) (.bi .len [.var 0])) (.ix (.var 0) (.var 1)) (.int 0)),
  .ret (.lst [.bin .mul (.bi .abs [.var 2]) (.bi .int1 [.cmp .GtE (.bi .abs [.var 2]) (.bin .pow (.int 10) (.int 18))]), .bin .add (.bin .add (.bin .mod (.bi .int1 [.var 2]) (.int 2305843009213693951)) (.bin .mul (.int 39373) (.var 1))) (.int 9284050), .int 0])]⟩
abbrev s53 : Stmt := top 73
/-- _law_take -/
def f53 : FnD := ⟨"_law_take", ["tin", "below_so"], ["tin", "below_so", "drawn_so", "once_so", "wide_so", "twice_so"], [
  .if_ (.cmp .Gt (.ix (.var 0) (.int 0)) (.int 0)) [.set 2 (.bin .mod (.bi .int1 [.ix (.var 0) (.int 0)]) (.var 1)), .six 0 (.int 0) (.bin .fdiv (.ix (.var 0) (.int 0)) (.var 1)), .ret (.var 2)] [],
  .six 0 (.int 2) (.bin .add (.ix (.var 0) (.int 2)) (.int 1)),
  .set 3 (.bin .mod (.bi .int1 [.bin .mul (.bin .add (.ix (.var 0) (.int 1)) (.bin .mul (.int 48271) (.ix (.var 0) (.int 2)))) (.bin .add (.int 39373) (.ix (.var 0) (.int 2)))]) (.int 2147483647)),
  .set 4 (.bin .add (.bin .mod (.bi .int1 [.var 3]) (.int 40009)) (.int 7)),
  .set 5 (.bin .mod (.bi .int1 [.bin .mul (.bin .add (.bin .add (.var 3) (.ix (.var 0) (.int 2))) (.bin .fdiv (.ix (.var 0) (.int 1)) (.int 1000003))) (.var 4)]) (.int 2147483629)),
  .ret (.bin .mod (.bi .int1 [.bin .fdiv (.bin .mod (.bi .int1 [.bin .add (.bin .mul (.var 5) (.int 48271)) (.var 3)]) (.int 2147483587)) (.int 64)]) (.var 1))]⟩
abbrev s54 : Stmt := top 74
/-- _law_cells -/
def f54 : FnD := ⟨"_law_cells", ["script", "most_so"], ["script", "most_so", "cells_so", "k", "bit_so", "at_so"], [
  .set 2 (.andor false [.bi .list [.sl (.var 0) none (some (.var 1))], .lst [.int 0]]),
  .for_ (.tp [3, 4]) (.enum (.sl (.var 0) (some (.var 1)) (some (.int 63)))) [.set 5 (.bin .mod (.bi .int1 [.var 3]) (.var 1)), .six 2 (.var 5) (.bin .add (.ix (.var 2) (.var 5)) (.bin .mul (.var 4) (.bin .add (.var 3) (.int 2))))],
  .ret (.var 2)]⟩
abbrev s55 : Stmt := top 75
/-- _law_gcd -/
def f55 : FnD := ⟨"_law_gcd", ["one", "two"], ["one", "two"], [
  .par [0, 1] [.bi .abs [.var 0], .bi .abs [.var 1]],
  .wh (.cmp .Gt (.var 1) (.int 0)) [.par [0, 1] [.var 1, .bin .mod (.var 0) (.var 1)]],
  .ret (.var 0)]⟩
abbrev s56 : Stmt := top 76
/-- _law_ray -/
def f56 : FnD := ⟨"_law_ray", ["one", "two"], ["one", "two", "shared_so"], [
  .set 2 (.call 55 [.var 0, .var 1]),
  .par [0, 1] [.bin .fdiv (.var 0) (.var 2), .bin .fdiv (.var 1) (.var 2)],
  .ret (.ite (.andor false [.cmp .Gt (.var 1) (.int 0), .andor true [.cmp .Eq (.var 1) (.int 0), .cmp .Gt (.var 0) (.int 0)]]) (.tup [.var 0, .var 1]) (.tup [.bin .sub (.int 0) (.var 0), .bin .sub (.int 0) (.var 1)]))]⟩
abbrev s57 : Stmt := top 77
/-- _law_draw_ray -/
def f57 : FnD := ⟨"_law_draw_ray", ["tin", "most_so"], ["tin", "most_so"], [
  .if_ (.cmp .Eq (.call 53 [.var 0, .int 9]) (.int 0)) [.ret (.tup [.int 1, .int 0])] [],
  .ret (.call 56 [.bin .sub (.call 53 [.var 0, .bin .add (.bin .mul (.int 2) (.var 1)) (.int 1)]) (.var 1), .bin .add (.int 1) (.call 53 [.var 0, .var 1])])]⟩
abbrev s58 : Stmt := top 78
/-- law -/
def f58 : FnD := ⟨"law", ["script"], ["script", "tin", "lap", "one", "two", "move", "here", "own", "rows_so", "parts_so", "way_so", "near", "far", "between_so", "third", "turn_so", "nexts_so", "low", "high", "below", "above", "base_so"], [
  .set 1 (.call 52 [.call 54 [.var 0, .int 1], .int 0]),
  .for_ (.nm 2) (.rng [.int 6]) [.par [3, 4] [.call 57 [.var 1, .int 200], .call 57 [.var 1, .int 200]], .set 5 (.callk 31 [] ["place"] [.var 3]), .set 6 (.tup [.int 1, .int 0]), .for_ (.nm 7) (.e (.rev (.callk 45 [] ["move"] [.var 5]))) [.set 6 (.call 27 [.call 46 [.tup [.var 7]], .var 6])], .if_ (.andor false [.cmp .NotEq (.var 6) (.var 3), .cmp .NotEq (.callk 27 [] ["move", "place"] [.var 5, .tup [.int 1, .int 0]]) (.var 3)]) [.ret (.bl false)] [], .set 8 (.callk 47 [] ["move"] [.var 5]), .set 9 (.lst [.call 19 [.ix (.var 8) (.int 0)]]), .for_ (.nm 7) (.e (.sl (.var 8) (some (.int 1)) none)) [.set 9 (.bin .add (.var 9) (.lst [.tup [.int 0, .neg (.int 1), .int 1, .int 0], .call 19 [.var 7]]))], .if_ (.cmp .NotEq (.callk 16 [] ["moves"] [.bi .tuple [.var 9]]) (.var 5)) [.ret (.bl false)] [], .set 10 (.callk 32 [] ["place"] [.var 3]), .for_ (.tp [11, 12]) (.zip [.var 10, .sl (.var 10) (some (.int 1)) none]) [.set 7 (.callk 35 [] ["one", "other"] [.var 11, .var 12]), .if_ (.andor false [.cmp .IsNot (.callk 29 [] ["one", "other"] [.var 11, .var 12]) (.bl true), .cmp .NotEq (.call 27 [.var 7, .tup [.int 1, .int 0]]) (.var 11), .cmp .NotEq (.call 27 [.var 7, .tup [.int 0, .int 1]]) (.var 12)]) [.ret (.bl false)] []], .set 13 (.callk 34 [] ["one", "other"] [.var 3, .var 4]), .set 14 (.call 57 [.var 1, .int 60]), .if_ (.andor false [.cmp .NotEq (.call 27 [.var 13, .var 3]) (.var 4), .cmp .NotEq (.callk 28 [] ["one", "other"] [.call 27 [.var 13, .var 14], .var 4]) (.callk 28 [] ["one", "other"] [.var 14, .var 3])]) [.ret (.bl false)] [], .set 15 (.call 14 [.call 14 [.var 5, .call 19 [.int 1]], .call 15 [.var 5]]), .set 16 (.callk 37 [] ["place", "many"] [.var 3, .int 5]), .if_ (.andor false [.cmp .NotEq (.comp [7] (.e (.sl (.var 16) none (some (.int 4)))) (.nm 7) none (.call 27 [.var 15, .var 7])) (.bi .list [.sl (.var 16) (some (.int 1)) none]), .cmp .NotEq (.call 27 [.var 15, .var 3]) (.var 3), .cmp .NotEq (.callk 17 [] ["move"] [.var 15]) (.str "step"), .cmp .NotEq (.call 18 [.var 15, .var 5]) (.tup [.int 1, .int 1, .int 0, .int 1])]) [.ret (.bl false)] [], .if_ (.cmp .Gt (.ix (.var 3) (.int 1)) (.int 1)) [.unp [17, 18] (.callk 33 [] ["place"] [.var 3]), .if_ (.andor false [.cmp .NotEq (.callk 30 [] ["one", "other"] [.var 17, .var 18]) (.var 3), .cmp .IsNot (.call 29 [.var 17, .var 18]) (.bl true), .cmp .GtE (.bin .mul (.ix (.var 17) (.int 0)) (.ix (.var 18) (.int 1))) (.bin .mul (.ix (.var 18) (.int 0)) (.ix (.var 17) (.int 1)))]) [.ret (.bl false)] [], .for_ (.nm 19) (.rng [.int 1, .bi .min2 [.ix (.var 3) (.int 1), .int 40]]) [.set 20 (.bin .add (.bin .fdiv (.bin .mul (.ix (.var 17) (.int 0)) (.var 19)) (.ix (.var 17) (.int 1))) (.int 1)), .if_ (.andor true [.cmp .Gt (.ix (.var 17) (.int 1)) (.int 0), .cmp .Lt (.bin .mul (.var 20) (.ix (.var 18) (.int 1))) (.bin .mul (.ix (.var 18) (.int 0)) (.var 19)), .cmp .Gt (.ix (.var 18) (.int 1)) (.int 0)]) [.ret (.bl false)] []]] [], .set 21 (.bin .add (.int 1) (.call 53 [.var 1, .int 30])), .if_ (.andor false [.cmp .NotEq (.call 49 [.var 21, .var 3]) (.call 55 [.ix (.var 3) (.int 1), .var 21]), .cmp .IsNot (.call 50 [.var 21, .var 3, .call 27 [.tup [.int 1, .int 0, .var 21, .int 1], .var 3]]) (.bl true), .cmp .IsNot (.call 50 [.var 21, .var 3, .call 27 [.tup [.int 1, .int 5, .int 0, .int 1], .var 3]]) (.bl true)]) [.ret (.bl false)] []],
  .ret (.bl true)]⟩
def T : GT := ⟨[f0, f1, f2, f3, f4, f5, f6, f7, f8, f9, f10, f11, f12, f13, f14, f15, f16, f17, f18, f19, f20, f21, f22, f23, f24, f25, f26, f27, f28, f29, f30, f31, f32, f33, f34, f35, f36, f37, f38, f39, f40, f41, f42, f43, f44, f45, f46, f47, f48, f49, f50, f51, f52, f53, f54, f55, f56, f57, f58], [.tup [.int 1, .int 0, .int 0, .int 1], .tup [.int 0, .int (-1), .int 1, .int 0], .tup [.int 0, .int (-1), .int 1, .int 1], .tup [.int (-1), .int (-1), .int 1, .int 0], .tup [.int 1, .int 0], .int 2000, .int 20000, .int 1000000000], 100000, 3, [([.inl 1, .inl 2, .inl 3], [.tup [.int 0, .int (-1), .int 1, .int 0], .tup [.int 0, .int (-1), .int 1, .int 1], .tup [.int (-1), .int (-1), .int 1, .int 0]])]⟩
def ng : NG := ⟨[.ofString "is_number", .ofString "is_within", .ofString "is_long", .ofString "are_numbers", .ofString "tupled", .ofString "inverse_of", .ofString "is_move_of", .ofString "sure_move", .ofString "signed", .ofString "product", .ofString "inverse", .ofString "stepped", .ofString "size_of", .ofString "kind_of", .ofString "move_product", .ofString "move_back", .ofString "moves_product", .ofString "kind", .ofString "turned_by", .ofString "steps", .ofString "is_ray_of", .ofString "sure_ray", .ofString "ray_of", .ofString "led", .ofString "between_number", .ofString "move_to", .ofString "convergents", .ofString "ray_led", .ofString "apart", .ofString "are_next", .ofString "middle", .ofString "ray_move", .ofString "ray_way", .ofString "parents", .ofString "move_between", .ofString "edge_move", .ofString "edge_of", .ofString "next_rays", .ofString "is_row_of", .ofString "sure_row", .ofString "shortest", .ofString "move_in", .ofString "nearest", .ofString "quotients", .ofString "word_in", .ofString "word_of", .ofString "move_by", .ofString "step_rows", .ofString "sure_base", .ofString "zero_below", .ofString "zero_leads", .ofString "lead_rest", .ofString "_law_box", .ofString "_law_take", .ofString "_law_cells", .ofString "_law_gcd", .ofString "_law_ray", .ofString "_law_draw_ray", .ofString "law"], [.ofString "STILL", .ofString "TURN", .ofString "THREE", .ofString "THREE_BACK", .ofString "FAR", .ofString "LONGEST", .ofString "MOST_LETTERS", .ofString "MOST"], [.ofString "CanNot", .ofString "TooMany", .ofString "Unfit"], [(31, ["place"], 0), (45, ["move"], 0), (27, ["move", "place"], 0), (47, ["move"], 0), (16, ["moves"], 0), (32, ["place"], 0), (35, ["one", "other"], 0), (29, ["one", "other"], 0), (34, ["one", "other"], 0), (28, ["one", "other"], 0), (37, ["place", "many"], 0), (17, ["move"], 0), (33, ["place"], 0), (30, ["one", "other"], 0)], true, [], [.ofString "LETTERS"]⟩
theorem tr0 : scB f0.N f0.ps (defScope s0) = true ∧ trB (ccOf ng f0.N (defScope s0)) f0.body (defBody s0) = true := ⟨by decide +kernel, by decide +kernel⟩
theorem tr1 : scB f1.N f1.ps (defScope s1) = true ∧ trB (ccOf ng f1.N (defScope s1)) f1.body (defBody s1) = true := ⟨by decide +kernel, by decide +kernel⟩
theorem tr2 : scB f2.N f2.ps (defScope s2) = true ∧ trB (ccOf ng f2.N (defScope s2)) f2.body (defBody s2) = true := ⟨by decide +kernel, by decide +kernel⟩
theorem tr3 : scB f3.N f3.ps (defScope s3) = true ∧ trB (ccOf ng f3.N (defScope s3)) f3.body (defBody s3) = true := ⟨by decide +kernel, by decide +kernel⟩
theorem tr4 : scB f4.N f4.ps (defScope s4) = true ∧ trB (ccOf ng f4.N (defScope s4)) f4.body (defBody s4) = true := ⟨by decide +kernel, by decide +kernel⟩
theorem tr5 : scB f5.N f5.ps (defScope s5) = true ∧ trB (ccOf ng f5.N (defScope s5)) f5.body (defBody s5) = true := ⟨by decide +kernel, by decide +kernel⟩
theorem tr6 : scB f6.N f6.ps (defScope s6) = true ∧ trB (ccOf ng f6.N (defScope s6)) f6.body (defBody s6) = true := ⟨by decide +kernel, by decide +kernel⟩
theorem tr7 : scB f7.N f7.ps (defScope s7) = true ∧ trB (ccOf ng f7.N (defScope s7)) f7.body (defBody s7) = true := ⟨by decide +kernel, by decide +kernel⟩
theorem tr8 : scB f8.N f8.ps (defScope s8) = true ∧ trB (ccOf ng f8.N (defScope s8)) f8.body (defBody s8) = true := ⟨by decide +kernel, by decide +kernel⟩
theorem tr9 : scB f9.N f9.ps (defScope s9) = true ∧ trB (ccOf ng f9.N (defScope s9)) f9.body (defBody s9) = true := ⟨by decide +kernel, by decide +kernel⟩
theorem tr10 : scB f10.N f10.ps (defScope s10) = true ∧ trB (ccOf ng f10.N (defScope s10)) f10.body (defBody s10) = true := ⟨by decide +kernel, by decide +kernel⟩
theorem tr11 : scB f11.N f11.ps (defScope s11) = true ∧ trB (ccOf ng f11.N (defScope s11)) f11.body (defBody s11) = true := ⟨by decide +kernel, by decide +kernel⟩
theorem tr12 : scB f12.N f12.ps (defScope s12) = true ∧ trB (ccOf ng f12.N (defScope s12)) f12.body (defBody s12) = true := ⟨by decide +kernel, by decide +kernel⟩
theorem tr13 : scB f13.N f13.ps (defScope s13) = true ∧ trB (ccOf ng f13.N (defScope s13)) f13.body (defBody s13) = true := ⟨by decide +kernel, by decide +kernel⟩
theorem tr14 : scB f14.N f14.ps (defScope s14) = true ∧ trB (ccOf ng f14.N (defScope s14)) f14.body (defBody s14) = true := ⟨by decide +kernel, by decide +kernel⟩
theorem tr15 : scB f15.N f15.ps (defScope s15) = true ∧ trB (ccOf ng f15.N (defScope s15)) f15.body (defBody s15) = true := ⟨by decide +kernel, by decide +kernel⟩
theorem tr16 : scB f16.N f16.ps (defScope s16) = true ∧ trB (ccOf ng f16.N (defScope s16)) f16.body (defBody s16) = true := ⟨by decide +kernel, by decide +kernel⟩
theorem tr17 : scB f17.N f17.ps (defScope s17) = true ∧ trB (ccOf ng f17.N (defScope s17)) f17.body (defBody s17) = true := ⟨by decide +kernel, by decide +kernel⟩
theorem tr18 : scB f18.N f18.ps (defScope s18) = true ∧ trB (ccOf ng f18.N (defScope s18)) f18.body (defBody s18) = true := ⟨by decide +kernel, by decide +kernel⟩
theorem tr19 : scB f19.N f19.ps (defScope s19) = true ∧ trB (ccOf ng f19.N (defScope s19)) f19.body (defBody s19) = true := ⟨by decide +kernel, by decide +kernel⟩
theorem tr20 : scB f20.N f20.ps (defScope s20) = true ∧ trB (ccOf ng f20.N (defScope s20)) f20.body (defBody s20) = true := ⟨by decide +kernel, by decide +kernel⟩
theorem tr21 : scB f21.N f21.ps (defScope s21) = true ∧ trB (ccOf ng f21.N (defScope s21)) f21.body (defBody s21) = true := ⟨by decide +kernel, by decide +kernel⟩
theorem tr22 : scB f22.N f22.ps (defScope s22) = true ∧ trB (ccOf ng f22.N (defScope s22)) f22.body (defBody s22) = true := ⟨by decide +kernel, by decide +kernel⟩
theorem tr23 : scB f23.N f23.ps (defScope s23) = true ∧ trB (ccOf ng f23.N (defScope s23)) f23.body (defBody s23) = true := ⟨by decide +kernel, by decide +kernel⟩
theorem tr24 : scB f24.N f24.ps (defScope s24) = true ∧ trB (ccOf ng f24.N (defScope s24)) f24.body (defBody s24) = true := ⟨by decide +kernel, by decide +kernel⟩
theorem tr25 : scB f25.N f25.ps (defScope s25) = true ∧ trB (ccOf ng f25.N (defScope s25)) f25.body (defBody s25) = true := ⟨by decide +kernel, by decide +kernel⟩
theorem tr26 : scB f26.N f26.ps (defScope s26) = true ∧ trB (ccOf ng f26.N (defScope s26)) f26.body (defBody s26) = true := ⟨by decide +kernel, by decide +kernel⟩
theorem tr27 : scB f27.N f27.ps (defScope s27) = true ∧ trB (ccOf ng f27.N (defScope s27)) f27.body (defBody s27) = true := ⟨by decide +kernel, by decide +kernel⟩
theorem tr28 : scB f28.N f28.ps (defScope s28) = true ∧ trB (ccOf ng f28.N (defScope s28)) f28.body (defBody s28) = true := ⟨by decide +kernel, by decide +kernel⟩
theorem tr29 : scB f29.N f29.ps (defScope s29) = true ∧ trB (ccOf ng f29.N (defScope s29)) f29.body (defBody s29) = true := ⟨by decide +kernel, by decide +kernel⟩
theorem tr30 : scB f30.N f30.ps (defScope s30) = true ∧ trB (ccOf ng f30.N (defScope s30)) f30.body (defBody s30) = true := ⟨by decide +kernel, by decide +kernel⟩
theorem tr31 : scB f31.N f31.ps (defScope s31) = true ∧ trB (ccOf ng f31.N (defScope s31)) f31.body (defBody s31) = true := ⟨by decide +kernel, by decide +kernel⟩
theorem tr32 : scB f32.N f32.ps (defScope s32) = true ∧ trB (ccOf ng f32.N (defScope s32)) f32.body (defBody s32) = true := ⟨by decide +kernel, by decide +kernel⟩
theorem tr33 : scB f33.N f33.ps (defScope s33) = true ∧ trB (ccOf ng f33.N (defScope s33)) f33.body (defBody s33) = true := ⟨by decide +kernel, by decide +kernel⟩
theorem tr34 : scB f34.N f34.ps (defScope s34) = true ∧ trB (ccOf ng f34.N (defScope s34)) f34.body (defBody s34) = true := ⟨by decide +kernel, by decide +kernel⟩
theorem tr35 : scB f35.N f35.ps (defScope s35) = true ∧ trB (ccOf ng f35.N (defScope s35)) f35.body (defBody s35) = true := ⟨by decide +kernel, by decide +kernel⟩
theorem tr36 : scB f36.N f36.ps (defScope s36) = true ∧ trB (ccOf ng f36.N (defScope s36)) f36.body (defBody s36) = true := ⟨by decide +kernel, by decide +kernel⟩
theorem tr37 : scB f37.N f37.ps (defScope s37) = true ∧ trB (ccOf ng f37.N (defScope s37)) f37.body (defBody s37) = true := ⟨by decide +kernel, by decide +kernel⟩
theorem tr38 : scB f38.N f38.ps (defScope s38) = true ∧ trB (ccOf ng f38.N (defScope s38)) f38.body (defBody s38) = true := ⟨by decide +kernel, by decide +kernel⟩
theorem tr39 : scB f39.N f39.ps (defScope s39) = true ∧ trB (ccOf ng f39.N (defScope s39)) f39.body (defBody s39) = true := ⟨by decide +kernel, by decide +kernel⟩
theorem tr40 : scB f40.N f40.ps (defScope s40) = true ∧ trB (ccOf ng f40.N (defScope s40)) f40.body (defBody s40) = true := ⟨by decide +kernel, by decide +kernel⟩
theorem tr41 : scB f41.N f41.ps (defScope s41) = true ∧ trB (ccOf ng f41.N (defScope s41)) f41.body (defBody s41) = true := ⟨by decide +kernel, by decide +kernel⟩
theorem tr42 : scB f42.N f42.ps (defScope s42) = true ∧ trB (ccOf ng f42.N (defScope s42)) f42.body (defBody s42) = true := ⟨by decide +kernel, by decide +kernel⟩
theorem tr43 : scB f43.N f43.ps (defScope s43) = true ∧ trB (ccOf ng f43.N (defScope s43)) f43.body (defBody s43) = true := ⟨by decide +kernel, by decide +kernel⟩
theorem tr44 : scB f44.N f44.ps (defScope s44) = true ∧ trB (ccOf ng f44.N (defScope s44)) f44.body (defBody s44) = true := ⟨by decide +kernel, by decide +kernel⟩
theorem tr45 : scB f45.N f45.ps (defScope s45) = true ∧ trB (ccOf ng f45.N (defScope s45)) f45.body (defBody s45) = true := ⟨by decide +kernel, by decide +kernel⟩
theorem tr46 : scB f46.N f46.ps (defScope s46) = true ∧ trB (ccOf ng f46.N (defScope s46)) f46.body (defBody s46) = true := ⟨by decide +kernel, by decide +kernel⟩
theorem tr47 : scB f47.N f47.ps (defScope s47) = true ∧ trB (ccOf ng f47.N (defScope s47)) f47.body (defBody s47) = true := ⟨by decide +kernel, by decide +kernel⟩
theorem tr48 : scB f48.N f48.ps (defScope s48) = true ∧ trB (ccOf ng f48.N (defScope s48)) f48.body (defBody s48) = true := ⟨by decide +kernel, by decide +kernel⟩
theorem tr49 : scB f49.N f49.ps (defScope s49) = true ∧ trB (ccOf ng f49.N (defScope s49)) f49.body (defBody s49) = true := ⟨by decide +kernel, by decide +kernel⟩
theorem tr50 : scB f50.N f50.ps (defScope s50) = true ∧ trB (ccOf ng f50.N (defScope s50)) f50.body (defBody s50) = true := ⟨by decide +kernel, by decide +kernel⟩
theorem tr51 : scB f51.N f51.ps (defScope s51) = true ∧ trB (ccOf ng f51.N (defScope s51)) f51.body (defBody s51) = true := ⟨by decide +kernel, by decide +kernel⟩
theorem tr52 : scB f52.N f52.ps (defScope s52) = true ∧ trB (ccOf ng f52.N (defScope s52)) f52.body (defBody s52) = true := ⟨by decide +kernel, by decide +kernel⟩
theorem tr53 : scB f53.N f53.ps (defScope s53) = true ∧ trB (ccOf ng f53.N (defScope s53)) f53.body (defBody s53) = true := ⟨by decide +kernel, by decide +kernel⟩
theorem tr54 : scB f54.N f54.ps (defScope s54) = true ∧ trB (ccOf ng f54.N (defScope s54)) f54.body (defBody s54) = true := ⟨by decide +kernel, by decide +kernel⟩
theorem tr55 : scB f55.N f55.ps (defScope s55) = true ∧ trB (ccOf ng f55.N (defScope s55)) f55.body (defBody s55) = true := ⟨by decide +kernel, by decide +kernel⟩
theorem tr56 : scB f56.N f56.ps (defScope s56) = true ∧ trB (ccOf ng f56.N (defScope s56)) f56.body (defBody s56) = true := ⟨by decide +kernel, by decide +kernel⟩
theorem tr57 : scB f57.N f57.ps (defScope s57) = true ∧ trB (ccOf ng f57.N (defScope s57)) f57.body (defBody s57) = true := ⟨by decide +kernel, by decide +kernel⟩
theorem tr58 : scB f58.N f58.ps (defScope s58) = true ∧ trB (ccOf ng f58.N (defScope s58)) f58.body (defBody s58) = true := ⟨by decide +kernel, by decide +kernel⟩
end PL.K50
end

section
namespace PL.K50
open PySem PySem.Spec L2 PL
open PyProof.Rows hiding St
theorem kb {C : G0} {g : Nat} {fd : FuncData} {F : FnD} (h : ∀ ks np, (g, ks, np) ∉ ng.kw) : ∀ (ks : List Str) (np : Nat), (g, ks, np) ∈ ng.kw → KBinds C.K fd F.ps ks (kwG F.ps ks np) (kwG F.ps ks np) := fun ks np q => absurd q (h ks np)
theorem kno (g : Nat) (h : (ng.kw.all fun t => t.1 != g) = true) : ∀ (ks : List Str) (np : Nat), (g, ks, np) ∉ ng.kw := fun ks np q => by
  have := List.all_eq_true.mp h _ q
  simp at this
def mkC (K : PySem.W.Frag) (gs cs : List Addr) : G0 := ⟨K, fun i => gs.getD i 0, fun i => cs.getD i 0⟩
theorem fb0 {C : G0} {oc kV dc pm cd ct : Value} {od an : Option Addr} {sl : Array (Option Value)} (l : C.K.lookup (C.gv 0) = some ⟨oc, od, .func (PySem.W.fnOf "is_number" "is_number" (defArgs s0) (defBody s0) (defScope s0) .none kV dc pm an cd ct), sl⟩) (c : PySem.W.codeIn C.K cd "is_number" = true) (k : PySem.W.keepIn C.K (.ref (C.gv 0)) = true) :
    FnB C ng 0 f0 (PySem.W.fnOf "is_number" "is_number" (defArgs s0) (defBody s0) (defScope s0) .none kV dc pm an cd ct) :=
  fn_mk (st := s0) l c k tr0.1 tr0.2 (fun _ _ _ _ _ _ us hl => match us, hl with | [_], _ => rfl) (fun kV dc pm an cd ct => kb (kno 0 (by decide +kernel)))
theorem fb1 {C : G0} {oc kV dc pm cd ct : Value} {od an : Option Addr} {sl : Array (Option Value)} (l : C.K.lookup (C.gv 1) = some ⟨oc, od, .func (PySem.W.fnOf "is_within" "is_within" (defArgs s1) (defBody s1) (defScope s1) .none kV dc pm an cd ct), sl⟩) (c : PySem.W.codeIn C.K cd "is_within" = true) (k : PySem.W.keepIn C.K (.ref (C.gv 1)) = true) :
    FnB C ng 1 f1 (PySem.W.fnOf "is_within" "is_within" (defArgs s1) (defBody s1) (defScope s1) .none kV dc pm an cd ct) :=
  fn_mk (st := s1) l c k tr1.1 tr1.2 (fun _ _ _ _ _ _ us hl => match us, hl with | [_, _, _], _ => rfl) (fun kV dc pm an cd ct => kb (kno 1 (by decide +kernel)))
theorem fb2 {C : G0} {oc kV dc pm cd ct : Value} {od an : Option Addr} {sl : Array (Option Value)} (l : C.K.lookup (C.gv 2) = some ⟨oc, od, .func (PySem.W.fnOf "is_long" "is_long" (defArgs s2) (defBody s2) (defScope s2) .none kV dc pm an cd ct), sl⟩) (c : PySem.W.codeIn C.K cd "is_long" = true) (k : PySem.W.keepIn C.K (.ref (C.gv 2)) = true) :
    FnB C ng 2 f2 (PySem.W.fnOf "is_long" "is_long" (defArgs s2) (defBody s2) (defScope s2) .none kV dc pm an cd ct) :=
  fn_mk (st := s2) l c k tr2.1 tr2.2 (fun _ _ _ _ _ _ us hl => match us, hl with | [_, _], _ => rfl) (fun kV dc pm an cd ct => kb (kno 2 (by decide +kernel)))
theorem fb3 {C : G0} {oc kV dc pm cd ct : Value} {od an : Option Addr} {sl : Array (Option Value)} (l : C.K.lookup (C.gv 3) = some ⟨oc, od, .func (PySem.W.fnOf "are_numbers" "are_numbers" (defArgs s3) (defBody s3) (defScope s3) .none kV dc pm an cd ct), sl⟩) (c : PySem.W.codeIn C.K cd "are_numbers" = true) (k : PySem.W.keepIn C.K (.ref (C.gv 3)) = true) :
    FnB C ng 3 f3 (PySem.W.fnOf "are_numbers" "are_numbers" (defArgs s3) (defBody s3) (defScope s3) .none kV dc pm an cd ct) :=
  fn_mk (st := s3) l c k tr3.1 tr3.2 (fun _ _ _ _ _ _ us hl => match us, hl with | [_, _], _ => rfl) (fun kV dc pm an cd ct => kb (kno 3 (by decide +kernel)))
theorem fb4 {C : G0} {oc kV dc pm cd ct : Value} {od an : Option Addr} {sl : Array (Option Value)} (l : C.K.lookup (C.gv 4) = some ⟨oc, od, .func (PySem.W.fnOf "tupled" "tupled" (defArgs s4) (defBody s4) (defScope s4) .none kV dc pm an cd ct), sl⟩) (c : PySem.W.codeIn C.K cd "tupled" = true) (k : PySem.W.keepIn C.K (.ref (C.gv 4)) = true) :
    FnB C ng 4 f4 (PySem.W.fnOf "tupled" "tupled" (defArgs s4) (defBody s4) (defScope s4) .none kV dc pm an cd ct) :=
  fn_mk (st := s4) l c k tr4.1 tr4.2 (fun _ _ _ _ _ _ us hl => match us, hl with | [_], _ => rfl) (fun kV dc pm an cd ct => kb (kno 4 (by decide +kernel)))
theorem fb5 {C : G0} {oc kV dc pm cd ct : Value} {od an : Option Addr} {sl : Array (Option Value)} (l : C.K.lookup (C.gv 5) = some ⟨oc, od, .func (PySem.W.fnOf "inverse_of" "inverse_of" (defArgs s5) (defBody s5) (defScope s5) .none kV dc pm an cd ct), sl⟩) (c : PySem.W.codeIn C.K cd "inverse_of" = true) (k : PySem.W.keepIn C.K (.ref (C.gv 5)) = true) :
    FnB C ng 5 f5 (PySem.W.fnOf "inverse_of" "inverse_of" (defArgs s5) (defBody s5) (defScope s5) .none kV dc pm an cd ct) :=
  fn_mk (st := s5) l c k tr5.1 tr5.2 (fun _ _ _ _ _ _ us hl => match us, hl with | [_, _], _ => rfl) (fun kV dc pm an cd ct => kb (kno 5 (by decide +kernel)))
theorem fb6 {C : G0} {oc kV dc pm cd ct : Value} {od an : Option Addr} {sl : Array (Option Value)} (l : C.K.lookup (C.gv 6) = some ⟨oc, od, .func (PySem.W.fnOf "is_move_of" "is_move_of" (defArgs s6) (defBody s6) (defScope s6) .none kV dc pm an cd ct), sl⟩) (c : PySem.W.codeIn C.K cd "is_move_of" = true) (k : PySem.W.keepIn C.K (.ref (C.gv 6)) = true) :
    FnB C ng 6 f6 (PySem.W.fnOf "is_move_of" "is_move_of" (defArgs s6) (defBody s6) (defScope s6) .none kV dc pm an cd ct) :=
  fn_mk (st := s6) l c k tr6.1 tr6.2 (fun _ _ _ _ _ _ us hl => match us, hl with | [_], _ => rfl) (fun kV dc pm an cd ct => kb (kno 6 (by decide +kernel)))
theorem fb7 {C : G0} {oc kV dc pm cd ct : Value} {od an : Option Addr} {sl : Array (Option Value)} (l : C.K.lookup (C.gv 7) = some ⟨oc, od, .func (PySem.W.fnOf "sure_move" "sure_move" (defArgs s7) (defBody s7) (defScope s7) .none kV dc pm an cd ct), sl⟩) (c : PySem.W.codeIn C.K cd "sure_move" = true) (k : PySem.W.keepIn C.K (.ref (C.gv 7)) = true) :
    FnB C ng 7 f7 (PySem.W.fnOf "sure_move" "sure_move" (defArgs s7) (defBody s7) (defScope s7) .none kV dc pm an cd ct) :=
  fn_mk (st := s7) l c k tr7.1 tr7.2 (fun _ _ _ _ _ _ us hl => match us, hl with | [_], _ => rfl) (fun kV dc pm an cd ct => kb (kno 7 (by decide +kernel)))
theorem fb8 {C : G0} {oc kV dc pm cd ct : Value} {od an : Option Addr} {sl : Array (Option Value)} (l : C.K.lookup (C.gv 8) = some ⟨oc, od, .func (PySem.W.fnOf "signed" "signed" (defArgs s8) (defBody s8) (defScope s8) .none kV dc pm an cd ct), sl⟩) (c : PySem.W.codeIn C.K cd "signed" = true) (k : PySem.W.keepIn C.K (.ref (C.gv 8)) = true) :
    FnB C ng 8 f8 (PySem.W.fnOf "signed" "signed" (defArgs s8) (defBody s8) (defScope s8) .none kV dc pm an cd ct) :=
  fn_mk (st := s8) l c k tr8.1 tr8.2 (fun _ _ _ _ _ _ us hl => match us, hl with | [_], _ => rfl) (fun kV dc pm an cd ct => kb (kno 8 (by decide +kernel)))
theorem fb9 {C : G0} {oc kV dc pm cd ct : Value} {od an : Option Addr} {sl : Array (Option Value)} (l : C.K.lookup (C.gv 9) = some ⟨oc, od, .func (PySem.W.fnOf "product" "product" (defArgs s9) (defBody s9) (defScope s9) .none kV dc pm an cd ct), sl⟩) (c : PySem.W.codeIn C.K cd "product" = true) (k : PySem.W.keepIn C.K (.ref (C.gv 9)) = true) :
    FnB C ng 9 f9 (PySem.W.fnOf "product" "product" (defArgs s9) (defBody s9) (defScope s9) .none kV dc pm an cd ct) :=
  fn_mk (st := s9) l c k tr9.1 tr9.2 (fun _ _ _ _ _ _ us hl => match us, hl with | [_, _], _ => rfl) (fun kV dc pm an cd ct => kb (kno 9 (by decide +kernel)))
theorem fb10 {C : G0} {oc kV dc pm cd ct : Value} {od an : Option Addr} {sl : Array (Option Value)} (l : C.K.lookup (C.gv 10) = some ⟨oc, od, .func (PySem.W.fnOf "inverse" "inverse" (defArgs s10) (defBody s10) (defScope s10) .none kV dc pm an cd ct), sl⟩) (c : PySem.W.codeIn C.K cd "inverse" = true) (k : PySem.W.keepIn C.K (.ref (C.gv 10)) = true) :
    FnB C ng 10 f10 (PySem.W.fnOf "inverse" "inverse" (defArgs s10) (defBody s10) (defScope s10) .none kV dc pm an cd ct) :=
  fn_mk (st := s10) l c k tr10.1 tr10.2 (fun _ _ _ _ _ _ us hl => match us, hl with | [_], _ => rfl) (fun kV dc pm an cd ct => kb (kno 10 (by decide +kernel)))
theorem fb11 {C : G0} {oc kV dc pm cd ct : Value} {od an : Option Addr} {sl : Array (Option Value)} (l : C.K.lookup (C.gv 11) = some ⟨oc, od, .func (PySem.W.fnOf "stepped" "stepped" (defArgs s11) (defBody s11) (defScope s11) .none kV dc pm an cd ct), sl⟩) (c : PySem.W.codeIn C.K cd "stepped" = true) (k : PySem.W.keepIn C.K (.ref (C.gv 11)) = true) :
    FnB C ng 11 f11 (PySem.W.fnOf "stepped" "stepped" (defArgs s11) (defBody s11) (defScope s11) .none kV dc pm an cd ct) :=
  fn_mk (st := s11) l c k tr11.1 tr11.2 (fun _ _ _ _ _ _ us hl => match us, hl with | [_], _ => rfl) (fun kV dc pm an cd ct => kb (kno 11 (by decide +kernel)))
theorem fb12 {C : G0} {oc kV dc pm cd ct : Value} {od an : Option Addr} {sl : Array (Option Value)} (l : C.K.lookup (C.gv 12) = some ⟨oc, od, .func (PySem.W.fnOf "size_of" "size_of" (defArgs s12) (defBody s12) (defScope s12) .none kV dc pm an cd ct), sl⟩) (c : PySem.W.codeIn C.K cd "size_of" = true) (k : PySem.W.keepIn C.K (.ref (C.gv 12)) = true) :
    FnB C ng 12 f12 (PySem.W.fnOf "size_of" "size_of" (defArgs s12) (defBody s12) (defScope s12) .none kV dc pm an cd ct) :=
  fn_mk (st := s12) l c k tr12.1 tr12.2 (fun _ _ _ _ _ _ us hl => match us, hl with | [_], _ => rfl) (fun kV dc pm an cd ct => kb (kno 12 (by decide +kernel)))
theorem fb13 {C : G0} {oc kV dc pm cd ct : Value} {od an : Option Addr} {sl : Array (Option Value)} (l : C.K.lookup (C.gv 13) = some ⟨oc, od, .func (PySem.W.fnOf "kind_of" "kind_of" (defArgs s13) (defBody s13) (defScope s13) .none kV dc pm an cd ct), sl⟩) (c : PySem.W.codeIn C.K cd "kind_of" = true) (k : PySem.W.keepIn C.K (.ref (C.gv 13)) = true) :
    FnB C ng 13 f13 (PySem.W.fnOf "kind_of" "kind_of" (defArgs s13) (defBody s13) (defScope s13) .none kV dc pm an cd ct) :=
  fn_mk (st := s13) l c k tr13.1 tr13.2 (fun _ _ _ _ _ _ us hl => match us, hl with | [_], _ => rfl) (fun kV dc pm an cd ct => kb (kno 13 (by decide +kernel)))
theorem fb14 {C : G0} {oc kV dc pm cd ct : Value} {od an : Option Addr} {sl : Array (Option Value)} (l : C.K.lookup (C.gv 14) = some ⟨oc, od, .func (PySem.W.fnOf "move_product" "move_product" (defArgs s14) (defBody s14) (defScope s14) .none kV dc pm an cd ct), sl⟩) (c : PySem.W.codeIn C.K cd "move_product" = true) (k : PySem.W.keepIn C.K (.ref (C.gv 14)) = true) :
    FnB C ng 14 f14 (PySem.W.fnOf "move_product" "move_product" (defArgs s14) (defBody s14) (defScope s14) .none kV dc pm an cd ct) :=
  fn_mk (st := s14) l c k tr14.1 tr14.2 (fun _ _ _ _ _ _ us hl => match us, hl with | [_, _], _ => rfl) (fun kV dc pm an cd ct => kb (kno 14 (by decide +kernel)))
theorem fb15 {C : G0} {oc kV dc pm cd ct : Value} {od an : Option Addr} {sl : Array (Option Value)} (l : C.K.lookup (C.gv 15) = some ⟨oc, od, .func (PySem.W.fnOf "move_back" "move_back" (defArgs s15) (defBody s15) (defScope s15) .none kV dc pm an cd ct), sl⟩) (c : PySem.W.codeIn C.K cd "move_back" = true) (k : PySem.W.keepIn C.K (.ref (C.gv 15)) = true) :
    FnB C ng 15 f15 (PySem.W.fnOf "move_back" "move_back" (defArgs s15) (defBody s15) (defScope s15) .none kV dc pm an cd ct) :=
  fn_mk (st := s15) l c k tr15.1 tr15.2 (fun _ _ _ _ _ _ us hl => match us, hl with | [_], _ => rfl) (fun kV dc pm an cd ct => kb (kno 15 (by decide +kernel)))
theorem fb16 {C : G0} {oc kV dc pm cd ct : Value} {od an : Option Addr} {sl : Array (Option Value)} (l : C.K.lookup (C.gv 16) = some ⟨oc, od, .func (PySem.W.fnOf "moves_product" "moves_product" (defArgs s16) (defBody s16) (defScope s16) .none kV dc pm an cd ct), sl⟩) (c : PySem.W.codeIn C.K cd "moves_product" = true) (k : PySem.W.keepIn C.K (.ref (C.gv 16)) = true) :
    FnB C ng 16 f16 (PySem.W.fnOf "moves_product" "moves_product" (defArgs s16) (defBody s16) (defScope s16) .none kV dc pm an cd ct) :=
  fn_mk (st := s16) l c k tr16.1 tr16.2 (fun _ _ _ _ _ _ us hl => match us, hl with | [_], _ => rfl) (fun kV dc pm an cd ct => fun ks np q => by
      have q := kw_of (r := [(16, ["moves"], 0)]) q (by decide +kernel)
      simp only [List.mem_cons, Prod.mk.injEq, true_and, List.not_mem_nil, or_false] at q
      obtain ⟨rfl, rfl⟩ := q
      · exact kb_mk (by decide) fun us ws h1 h2 => match us, ws, h1, h2 with | [], [_], _, _ => rfl
)
theorem fb17 {C : G0} {oc kV dc pm cd ct : Value} {od an : Option Addr} {sl : Array (Option Value)} (l : C.K.lookup (C.gv 17) = some ⟨oc, od, .func (PySem.W.fnOf "kind" "kind" (defArgs s17) (defBody s17) (defScope s17) .none kV dc pm an cd ct), sl⟩) (c : PySem.W.codeIn C.K cd "kind" = true) (k : PySem.W.keepIn C.K (.ref (C.gv 17)) = true) :
    FnB C ng 17 f17 (PySem.W.fnOf "kind" "kind" (defArgs s17) (defBody s17) (defScope s17) .none kV dc pm an cd ct) :=
  fn_mk (st := s17) l c k tr17.1 tr17.2 (fun _ _ _ _ _ _ us hl => match us, hl with | [_], _ => rfl) (fun kV dc pm an cd ct => fun ks np q => by
      have q := kw_of (r := [(17, ["move"], 0)]) q (by decide +kernel)
      simp only [List.mem_cons, Prod.mk.injEq, true_and, List.not_mem_nil, or_false] at q
      obtain ⟨rfl, rfl⟩ := q
      · exact kb_mk (by decide) fun us ws h1 h2 => match us, ws, h1, h2 with | [], [_], _, _ => rfl
)
theorem fb18 {C : G0} {oc kV dc pm cd ct : Value} {od an : Option Addr} {sl : Array (Option Value)} (l : C.K.lookup (C.gv 18) = some ⟨oc, od, .func (PySem.W.fnOf "turned_by" "turned_by" (defArgs s18) (defBody s18) (defScope s18) .none kV dc pm an cd ct), sl⟩) (c : PySem.W.codeIn C.K cd "turned_by" = true) (k : PySem.W.keepIn C.K (.ref (C.gv 18)) = true) :
    FnB C ng 18 f18 (PySem.W.fnOf "turned_by" "turned_by" (defArgs s18) (defBody s18) (defScope s18) .none kV dc pm an cd ct) :=
  fn_mk (st := s18) l c k tr18.1 tr18.2 (fun _ _ _ _ _ _ us hl => match us, hl with | [_, _], _ => rfl) (fun kV dc pm an cd ct => kb (kno 18 (by decide +kernel)))
theorem fb19 {C : G0} {oc kV dc pm cd ct : Value} {od an : Option Addr} {sl : Array (Option Value)} (l : C.K.lookup (C.gv 19) = some ⟨oc, od, .func (PySem.W.fnOf "steps" "steps" (defArgs s19) (defBody s19) (defScope s19) .none kV dc pm an cd ct), sl⟩) (c : PySem.W.codeIn C.K cd "steps" = true) (k : PySem.W.keepIn C.K (.ref (C.gv 19)) = true) :
    FnB C ng 19 f19 (PySem.W.fnOf "steps" "steps" (defArgs s19) (defBody s19) (defScope s19) .none kV dc pm an cd ct) :=
  fn_mk (st := s19) l c k tr19.1 tr19.2 (fun _ _ _ _ _ _ us hl => match us, hl with | [_], _ => rfl) (fun kV dc pm an cd ct => kb (kno 19 (by decide +kernel)))
theorem fb20 {C : G0} {oc kV dc pm cd ct : Value} {od an : Option Addr} {sl : Array (Option Value)} (l : C.K.lookup (C.gv 20) = some ⟨oc, od, .func (PySem.W.fnOf "is_ray_of" "is_ray_of" (defArgs s20) (defBody s20) (defScope s20) .none kV dc pm an cd ct), sl⟩) (c : PySem.W.codeIn C.K cd "is_ray_of" = true) (k : PySem.W.keepIn C.K (.ref (C.gv 20)) = true) :
    FnB C ng 20 f20 (PySem.W.fnOf "is_ray_of" "is_ray_of" (defArgs s20) (defBody s20) (defScope s20) .none kV dc pm an cd ct) :=
  fn_mk (st := s20) l c k tr20.1 tr20.2 (fun _ _ _ _ _ _ us hl => match us, hl with | [_], _ => rfl) (fun kV dc pm an cd ct => kb (kno 20 (by decide +kernel)))
theorem fb21 {C : G0} {oc kV dc pm cd ct : Value} {od an : Option Addr} {sl : Array (Option Value)} (l : C.K.lookup (C.gv 21) = some ⟨oc, od, .func (PySem.W.fnOf "sure_ray" "sure_ray" (defArgs s21) (defBody s21) (defScope s21) .none kV dc pm an cd ct), sl⟩) (c : PySem.W.codeIn C.K cd "sure_ray" = true) (k : PySem.W.keepIn C.K (.ref (C.gv 21)) = true) :
    FnB C ng 21 f21 (PySem.W.fnOf "sure_ray" "sure_ray" (defArgs s21) (defBody s21) (defScope s21) .none kV dc pm an cd ct) :=
  fn_mk (st := s21) l c k tr21.1 tr21.2 (fun _ _ _ _ _ _ us hl => match us, hl with | [_], _ => rfl) (fun kV dc pm an cd ct => kb (kno 21 (by decide +kernel)))
theorem fb22 {C : G0} {oc kV dc pm cd ct : Value} {od an : Option Addr} {sl : Array (Option Value)} (l : C.K.lookup (C.gv 22) = some ⟨oc, od, .func (PySem.W.fnOf "ray_of" "ray_of" (defArgs s22) (defBody s22) (defScope s22) .none kV dc pm an cd ct), sl⟩) (c : PySem.W.codeIn C.K cd "ray_of" = true) (k : PySem.W.keepIn C.K (.ref (C.gv 22)) = true) :
    FnB C ng 22 f22 (PySem.W.fnOf "ray_of" "ray_of" (defArgs s22) (defBody s22) (defScope s22) .none kV dc pm an cd ct) :=
  fn_mk (st := s22) l c k tr22.1 tr22.2 (fun _ _ _ _ _ _ us hl => match us, hl with | [_, _], _ => rfl) (fun kV dc pm an cd ct => kb (kno 22 (by decide +kernel)))
theorem fb23 {C : G0} {oc kV dc pm cd ct : Value} {od an : Option Addr} {sl : Array (Option Value)} (l : C.K.lookup (C.gv 23) = some ⟨oc, od, .func (PySem.W.fnOf "led" "led" (defArgs s23) (defBody s23) (defScope s23) .none kV dc pm an cd ct), sl⟩) (c : PySem.W.codeIn C.K cd "led" = true) (k : PySem.W.keepIn C.K (.ref (C.gv 23)) = true) :
    FnB C ng 23 f23 (PySem.W.fnOf "led" "led" (defArgs s23) (defBody s23) (defScope s23) .none kV dc pm an cd ct) :=
  fn_mk (st := s23) l c k tr23.1 tr23.2 (fun _ _ _ _ _ _ us hl => match us, hl with | [_, _], _ => rfl) (fun kV dc pm an cd ct => kb (kno 23 (by decide +kernel)))
theorem fb24 {C : G0} {oc kV dc pm cd ct : Value} {od an : Option Addr} {sl : Array (Option Value)} (l : C.K.lookup (C.gv 24) = some ⟨oc, od, .func (PySem.W.fnOf "between_number" "between_number" (defArgs s24) (defBody s24) (defScope s24) .none kV dc pm an cd ct), sl⟩) (c : PySem.W.codeIn C.K cd "between_number" = true) (k : PySem.W.keepIn C.K (.ref (C.gv 24)) = true) :
    FnB C ng 24 f24 (PySem.W.fnOf "between_number" "between_number" (defArgs s24) (defBody s24) (defScope s24) .none kV dc pm an cd ct) :=
  fn_mk (st := s24) l c k tr24.1 tr24.2 (fun _ _ _ _ _ _ us hl => match us, hl with | [_, _], _ => rfl) (fun kV dc pm an cd ct => kb (kno 24 (by decide +kernel)))
theorem fb25 {C : G0} {oc kV dc pm cd ct : Value} {od an : Option Addr} {sl : Array (Option Value)} (l : C.K.lookup (C.gv 25) = some ⟨oc, od, .func (PySem.W.fnOf "move_to" "move_to" (defArgs s25) (defBody s25) (defScope s25) .none kV dc pm an cd ct), sl⟩) (c : PySem.W.codeIn C.K cd "move_to" = true) (k : PySem.W.keepIn C.K (.ref (C.gv 25)) = true) :
    FnB C ng 25 f25 (PySem.W.fnOf "move_to" "move_to" (defArgs s25) (defBody s25) (defScope s25) .none kV dc pm an cd ct) :=
  fn_mk (st := s25) l c k tr25.1 tr25.2 (fun _ _ _ _ _ _ us hl => match us, hl with | [_], _ => rfl) (fun kV dc pm an cd ct => kb (kno 25 (by decide +kernel)))
theorem fb26 {C : G0} {oc kV dc pm cd ct : Value} {od an : Option Addr} {sl : Array (Option Value)} (l : C.K.lookup (C.gv 26) = some ⟨oc, od, .func (PySem.W.fnOf "convergents" "convergents" (defArgs s26) (defBody s26) (defScope s26) .none kV dc pm an cd ct), sl⟩) (c : PySem.W.codeIn C.K cd "convergents" = true) (k : PySem.W.keepIn C.K (.ref (C.gv 26)) = true) :
    FnB C ng 26 f26 (PySem.W.fnOf "convergents" "convergents" (defArgs s26) (defBody s26) (defScope s26) .none kV dc pm an cd ct) :=
  fn_mk (st := s26) l c k tr26.1 tr26.2 (fun _ _ _ _ _ _ us hl => match us, hl with | [_], _ => rfl) (fun kV dc pm an cd ct => kb (kno 26 (by decide +kernel)))
theorem fb27 {C : G0} {oc kV dc pm cd ct : Value} {od an : Option Addr} {sl : Array (Option Value)} (l : C.K.lookup (C.gv 27) = some ⟨oc, od, .func (PySem.W.fnOf "ray_led" "ray_led" (defArgs s27) (defBody s27) (defScope s27) .none kV dc pm an cd ct), sl⟩) (c : PySem.W.codeIn C.K cd "ray_led" = true) (k : PySem.W.keepIn C.K (.ref (C.gv 27)) = true) :
    FnB C ng 27 f27 (PySem.W.fnOf "ray_led" "ray_led" (defArgs s27) (defBody s27) (defScope s27) .none kV dc pm an cd ct) :=
  fn_mk (st := s27) l c k tr27.1 tr27.2 (fun _ _ _ _ _ _ us hl => match us, hl with | [_, _], _ => rfl) (fun kV dc pm an cd ct => fun ks np q => by
      have q := kw_of (r := [(27, ["move", "place"], 0)]) q (by decide +kernel)
      simp only [List.mem_cons, Prod.mk.injEq, true_and, List.not_mem_nil, or_false] at q
      obtain ⟨rfl, rfl⟩ := q
      · exact kb_mk (by decide) fun us ws h1 h2 => match us, ws, h1, h2 with | [], [_, _], _, _ => rfl
)
theorem fb28 {C : G0} {oc kV dc pm cd ct : Value} {od an : Option Addr} {sl : Array (Option Value)} (l : C.K.lookup (C.gv 28) = some ⟨oc, od, .func (PySem.W.fnOf "apart" "apart" (defArgs s28) (defBody s28) (defScope s28) .none kV dc pm an cd ct), sl⟩) (c : PySem.W.codeIn C.K cd "apart" = true) (k : PySem.W.keepIn C.K (.ref (C.gv 28)) = true) :
    FnB C ng 28 f28 (PySem.W.fnOf "apart" "apart" (defArgs s28) (defBody s28) (defScope s28) .none kV dc pm an cd ct) :=
  fn_mk (st := s28) l c k tr28.1 tr28.2 (fun _ _ _ _ _ _ us hl => match us, hl with | [_, _], _ => rfl) (fun kV dc pm an cd ct => fun ks np q => by
      have q := kw_of (r := [(28, ["one", "other"], 0)]) q (by decide +kernel)
      simp only [List.mem_cons, Prod.mk.injEq, true_and, List.not_mem_nil, or_false] at q
      obtain ⟨rfl, rfl⟩ := q
      · exact kb_mk (by decide) fun us ws h1 h2 => match us, ws, h1, h2 with | [], [_, _], _, _ => rfl
)
theorem fb29 {C : G0} {oc kV dc pm cd ct : Value} {od an : Option Addr} {sl : Array (Option Value)} (l : C.K.lookup (C.gv 29) = some ⟨oc, od, .func (PySem.W.fnOf "are_next" "are_next" (defArgs s29) (defBody s29) (defScope s29) .none kV dc pm an cd ct), sl⟩) (c : PySem.W.codeIn C.K cd "are_next" = true) (k : PySem.W.keepIn C.K (.ref (C.gv 29)) = true) :
    FnB C ng 29 f29 (PySem.W.fnOf "are_next" "are_next" (defArgs s29) (defBody s29) (defScope s29) .none kV dc pm an cd ct) :=
  fn_mk (st := s29) l c k tr29.1 tr29.2 (fun _ _ _ _ _ _ us hl => match us, hl with | [_, _], _ => rfl) (fun kV dc pm an cd ct => fun ks np q => by
      have q := kw_of (r := [(29, ["one", "other"], 0)]) q (by decide +kernel)
      simp only [List.mem_cons, Prod.mk.injEq, true_and, List.not_mem_nil, or_false] at q
      obtain ⟨rfl, rfl⟩ := q
      · exact kb_mk (by decide) fun us ws h1 h2 => match us, ws, h1, h2 with | [], [_, _], _, _ => rfl
)
theorem fb30 {C : G0} {oc kV dc pm cd ct : Value} {od an : Option Addr} {sl : Array (Option Value)} (l : C.K.lookup (C.gv 30) = some ⟨oc, od, .func (PySem.W.fnOf "middle" "middle" (defArgs s30) (defBody s30) (defScope s30) .none kV dc pm an cd ct), sl⟩) (c : PySem.W.codeIn C.K cd "middle" = true) (k : PySem.W.keepIn C.K (.ref (C.gv 30)) = true) :
    FnB C ng 30 f30 (PySem.W.fnOf "middle" "middle" (defArgs s30) (defBody s30) (defScope s30) .none kV dc pm an cd ct) :=
  fn_mk (st := s30) l c k tr30.1 tr30.2 (fun _ _ _ _ _ _ us hl => match us, hl with | [_, _], _ => rfl) (fun kV dc pm an cd ct => fun ks np q => by
      have q := kw_of (r := [(30, ["one", "other"], 0)]) q (by decide +kernel)
      simp only [List.mem_cons, Prod.mk.injEq, true_and, List.not_mem_nil, or_false] at q
      obtain ⟨rfl, rfl⟩ := q
      · exact kb_mk (by decide) fun us ws h1 h2 => match us, ws, h1, h2 with | [], [_, _], _, _ => rfl
)
theorem fb31 {C : G0} {oc kV dc pm cd ct : Value} {od an : Option Addr} {sl : Array (Option Value)} (l : C.K.lookup (C.gv 31) = some ⟨oc, od, .func (PySem.W.fnOf "ray_move" "ray_move" (defArgs s31) (defBody s31) (defScope s31) .none kV dc pm an cd ct), sl⟩) (c : PySem.W.codeIn C.K cd "ray_move" = true) (k : PySem.W.keepIn C.K (.ref (C.gv 31)) = true) :
    FnB C ng 31 f31 (PySem.W.fnOf "ray_move" "ray_move" (defArgs s31) (defBody s31) (defScope s31) .none kV dc pm an cd ct) :=
  fn_mk (st := s31) l c k tr31.1 tr31.2 (fun _ _ _ _ _ _ us hl => match us, hl with | [_], _ => rfl) (fun kV dc pm an cd ct => fun ks np q => by
      have q := kw_of (r := [(31, ["place"], 0)]) q (by decide +kernel)
      simp only [List.mem_cons, Prod.mk.injEq, true_and, List.not_mem_nil, or_false] at q
      obtain ⟨rfl, rfl⟩ := q
      · exact kb_mk (by decide) fun us ws h1 h2 => match us, ws, h1, h2 with | [], [_], _, _ => rfl
)
theorem fb32 {C : G0} {oc kV dc pm cd ct : Value} {od an : Option Addr} {sl : Array (Option Value)} (l : C.K.lookup (C.gv 32) = some ⟨oc, od, .func (PySem.W.fnOf "ray_way" "ray_way" (defArgs s32) (defBody s32) (defScope s32) .none kV dc pm an cd ct), sl⟩) (c : PySem.W.codeIn C.K cd "ray_way" = true) (k : PySem.W.keepIn C.K (.ref (C.gv 32)) = true) :
    FnB C ng 32 f32 (PySem.W.fnOf "ray_way" "ray_way" (defArgs s32) (defBody s32) (defScope s32) .none kV dc pm an cd ct) :=
  fn_mk (st := s32) l c k tr32.1 tr32.2 (fun _ _ _ _ _ _ us hl => match us, hl with | [_], _ => rfl) (fun kV dc pm an cd ct => fun ks np q => by
      have q := kw_of (r := [(32, ["place"], 0)]) q (by decide +kernel)
      simp only [List.mem_cons, Prod.mk.injEq, true_and, List.not_mem_nil, or_false] at q
      obtain ⟨rfl, rfl⟩ := q
      · exact kb_mk (by decide) fun us ws h1 h2 => match us, ws, h1, h2 with | [], [_], _, _ => rfl
)
theorem fb33 {C : G0} {oc kV dc pm cd ct : Value} {od an : Option Addr} {sl : Array (Option Value)} (l : C.K.lookup (C.gv 33) = some ⟨oc, od, .func (PySem.W.fnOf "parents" "parents" (defArgs s33) (defBody s33) (defScope s33) .none kV dc pm an cd ct), sl⟩) (c : PySem.W.codeIn C.K cd "parents" = true) (k : PySem.W.keepIn C.K (.ref (C.gv 33)) = true) :
    FnB C ng 33 f33 (PySem.W.fnOf "parents" "parents" (defArgs s33) (defBody s33) (defScope s33) .none kV dc pm an cd ct) :=
  fn_mk (st := s33) l c k tr33.1 tr33.2 (fun _ _ _ _ _ _ us hl => match us, hl with | [_], _ => rfl) (fun kV dc pm an cd ct => fun ks np q => by
      have q := kw_of (r := [(33, ["place"], 0)]) q (by decide +kernel)
      simp only [List.mem_cons, Prod.mk.injEq, true_and, List.not_mem_nil, or_false] at q
      obtain ⟨rfl, rfl⟩ := q
      · exact kb_mk (by decide) fun us ws h1 h2 => match us, ws, h1, h2 with | [], [_], _, _ => rfl
)
theorem fb34 {C : G0} {oc kV dc pm cd ct : Value} {od an : Option Addr} {sl : Array (Option Value)} (l : C.K.lookup (C.gv 34) = some ⟨oc, od, .func (PySem.W.fnOf "move_between" "move_between" (defArgs s34) (defBody s34) (defScope s34) .none kV dc pm an cd ct), sl⟩) (c : PySem.W.codeIn C.K cd "move_between" = true) (k : PySem.W.keepIn C.K (.ref (C.gv 34)) = true) :
    FnB C ng 34 f34 (PySem.W.fnOf "move_between" "move_between" (defArgs s34) (defBody s34) (defScope s34) .none kV dc pm an cd ct) :=
  fn_mk (st := s34) l c k tr34.1 tr34.2 (fun _ _ _ _ _ _ us hl => match us, hl with | [_, _], _ => rfl) (fun kV dc pm an cd ct => fun ks np q => by
      have q := kw_of (r := [(34, ["one", "other"], 0)]) q (by decide +kernel)
      simp only [List.mem_cons, Prod.mk.injEq, true_and, List.not_mem_nil, or_false] at q
      obtain ⟨rfl, rfl⟩ := q
      · exact kb_mk (by decide) fun us ws h1 h2 => match us, ws, h1, h2 with | [], [_, _], _, _ => rfl
)
theorem fb35 {C : G0} {oc kV dc pm cd ct : Value} {od an : Option Addr} {sl : Array (Option Value)} (l : C.K.lookup (C.gv 35) = some ⟨oc, od, .func (PySem.W.fnOf "edge_move" "edge_move" (defArgs s35) (defBody s35) (defScope s35) .none kV dc pm an cd ct), sl⟩) (c : PySem.W.codeIn C.K cd "edge_move" = true) (k : PySem.W.keepIn C.K (.ref (C.gv 35)) = true) :
    FnB C ng 35 f35 (PySem.W.fnOf "edge_move" "edge_move" (defArgs s35) (defBody s35) (defScope s35) .none kV dc pm an cd ct) :=
  fn_mk (st := s35) l c k tr35.1 tr35.2 (fun _ _ _ _ _ _ us hl => match us, hl with | [_, _], _ => rfl) (fun kV dc pm an cd ct => fun ks np q => by
      have q := kw_of (r := [(35, ["one", "other"], 0)]) q (by decide +kernel)
      simp only [List.mem_cons, Prod.mk.injEq, true_and, List.not_mem_nil, or_false] at q
      obtain ⟨rfl, rfl⟩ := q
      · exact kb_mk (by decide) fun us ws h1 h2 => match us, ws, h1, h2 with | [], [_, _], _, _ => rfl
)
theorem fb36 {C : G0} {oc kV dc pm cd ct : Value} {od an : Option Addr} {sl : Array (Option Value)} (l : C.K.lookup (C.gv 36) = some ⟨oc, od, .func (PySem.W.fnOf "edge_of" "edge_of" (defArgs s36) (defBody s36) (defScope s36) .none kV dc pm an cd ct), sl⟩) (c : PySem.W.codeIn C.K cd "edge_of" = true) (k : PySem.W.keepIn C.K (.ref (C.gv 36)) = true) :
    FnB C ng 36 f36 (PySem.W.fnOf "edge_of" "edge_of" (defArgs s36) (defBody s36) (defScope s36) .none kV dc pm an cd ct) :=
  fn_mk (st := s36) l c k tr36.1 tr36.2 (fun _ _ _ _ _ _ us hl => match us, hl with | [_, _], _ => rfl) (fun kV dc pm an cd ct => kb (kno 36 (by decide +kernel)))
theorem fb37 {C : G0} {oc kV dc pm cd ct : Value} {od an : Option Addr} {sl : Array (Option Value)} (l : C.K.lookup (C.gv 37) = some ⟨oc, od, .func (PySem.W.fnOf "next_rays" "next_rays" (defArgs s37) (defBody s37) (defScope s37) .none kV dc pm an cd ct), sl⟩) (c : PySem.W.codeIn C.K cd "next_rays" = true) (k : PySem.W.keepIn C.K (.ref (C.gv 37)) = true) :
    FnB C ng 37 f37 (PySem.W.fnOf "next_rays" "next_rays" (defArgs s37) (defBody s37) (defScope s37) .none kV dc pm an cd ct) :=
  fn_mk (st := s37) l c k tr37.1 tr37.2 (fun _ _ _ _ _ _ us hl => match us, hl with | [_, _], _ => rfl) (fun kV dc pm an cd ct => fun ks np q => by
      have q := kw_of (r := [(37, ["place", "many"], 0)]) q (by decide +kernel)
      simp only [List.mem_cons, Prod.mk.injEq, true_and, List.not_mem_nil, or_false] at q
      obtain ⟨rfl, rfl⟩ := q
      · exact kb_mk (by decide) fun us ws h1 h2 => match us, ws, h1, h2 with | [], [_, _], _, _ => rfl
)
theorem fb38 {C : G0} {oc kV dc pm cd ct : Value} {od an : Option Addr} {sl : Array (Option Value)} (l : C.K.lookup (C.gv 38) = some ⟨oc, od, .func (PySem.W.fnOf "is_row_of" "is_row_of" (defArgs s38) (defBody s38) (defScope s38) .none kV dc pm an cd ct), sl⟩) (c : PySem.W.codeIn C.K cd "is_row_of" = true) (k : PySem.W.keepIn C.K (.ref (C.gv 38)) = true) :
    FnB C ng 38 f38 (PySem.W.fnOf "is_row_of" "is_row_of" (defArgs s38) (defBody s38) (defScope s38) .none kV dc pm an cd ct) :=
  fn_mk (st := s38) l c k tr38.1 tr38.2 (fun _ _ _ _ _ _ us hl => match us, hl with | [_], _ => rfl) (fun kV dc pm an cd ct => kb (kno 38 (by decide +kernel)))
theorem fb39 {C : G0} {oc kV dc pm cd ct : Value} {od an : Option Addr} {sl : Array (Option Value)} (l : C.K.lookup (C.gv 39) = some ⟨oc, od, .func (PySem.W.fnOf "sure_row" "sure_row" (defArgs s39) (defBody s39) (defScope s39) .none kV dc pm an cd ct), sl⟩) (c : PySem.W.codeIn C.K cd "sure_row" = true) (k : PySem.W.keepIn C.K (.ref (C.gv 39)) = true) :
    FnB C ng 39 f39 (PySem.W.fnOf "sure_row" "sure_row" (defArgs s39) (defBody s39) (defScope s39) .none kV dc pm an cd ct) :=
  fn_mk (st := s39) l c k tr39.1 tr39.2 (fun _ _ _ _ _ _ us hl => match us, hl with | [_], _ => rfl) (fun kV dc pm an cd ct => kb (kno 39 (by decide +kernel)))
theorem fb40 {C : G0} {oc kV dc pm cd ct : Value} {od an : Option Addr} {sl : Array (Option Value)} (l : C.K.lookup (C.gv 40) = some ⟨oc, od, .func (PySem.W.fnOf "shortest" "shortest" (defArgs s40) (defBody s40) (defScope s40) .none kV dc pm an cd ct), sl⟩) (c : PySem.W.codeIn C.K cd "shortest" = true) (k : PySem.W.keepIn C.K (.ref (C.gv 40)) = true) :
    FnB C ng 40 f40 (PySem.W.fnOf "shortest" "shortest" (defArgs s40) (defBody s40) (defScope s40) .none kV dc pm an cd ct) :=
  fn_mk (st := s40) l c k tr40.1 tr40.2 (fun _ _ _ _ _ _ us hl => match us, hl with | [_], _ => rfl) (fun kV dc pm an cd ct => kb (kno 40 (by decide +kernel)))
theorem fb41 {C : G0} {oc kV dc pm cd ct : Value} {od an : Option Addr} {sl : Array (Option Value)} (l : C.K.lookup (C.gv 41) = some ⟨oc, od, .func (PySem.W.fnOf "move_in" "move_in" (defArgs s41) (defBody s41) (defScope s41) .none kV dc pm an cd ct), sl⟩) (c : PySem.W.codeIn C.K cd "move_in" = true) (k : PySem.W.keepIn C.K (.ref (C.gv 41)) = true) :
    FnB C ng 41 f41 (PySem.W.fnOf "move_in" "move_in" (defArgs s41) (defBody s41) (defScope s41) .none kV dc pm an cd ct) :=
  fn_mk (st := s41) l c k tr41.1 tr41.2 (fun _ _ _ _ _ _ us hl => match us, hl with | [_], _ => rfl) (fun kV dc pm an cd ct => kb (kno 41 (by decide +kernel)))
theorem fb42 {C : G0} {oc kV dc pm cd ct : Value} {od an : Option Addr} {sl : Array (Option Value)} (l : C.K.lookup (C.gv 42) = some ⟨oc, od, .func (PySem.W.fnOf "nearest" "nearest" (defArgs s42) (defBody s42) (defScope s42) .none kV dc pm an cd ct), sl⟩) (c : PySem.W.codeIn C.K cd "nearest" = true) (k : PySem.W.keepIn C.K (.ref (C.gv 42)) = true) :
    FnB C ng 42 f42 (PySem.W.fnOf "nearest" "nearest" (defArgs s42) (defBody s42) (defScope s42) .none kV dc pm an cd ct) :=
  fn_mk (st := s42) l c k tr42.1 tr42.2 (fun _ _ _ _ _ _ us hl => match us, hl with | [_, _], _ => rfl) (fun kV dc pm an cd ct => kb (kno 42 (by decide +kernel)))
theorem fb43 {C : G0} {oc kV dc pm cd ct : Value} {od an : Option Addr} {sl : Array (Option Value)} (l : C.K.lookup (C.gv 43) = some ⟨oc, od, .func (PySem.W.fnOf "quotients" "quotients" (defArgs s43) (defBody s43) (defScope s43) .none kV dc pm an cd ct), sl⟩) (c : PySem.W.codeIn C.K cd "quotients" = true) (k : PySem.W.keepIn C.K (.ref (C.gv 43)) = true) :
    FnB C ng 43 f43 (PySem.W.fnOf "quotients" "quotients" (defArgs s43) (defBody s43) (defScope s43) .none kV dc pm an cd ct) :=
  fn_mk (st := s43) l c k tr43.1 tr43.2 (fun _ _ _ _ _ _ us hl => match us, hl with | [_], _ => rfl) (fun kV dc pm an cd ct => kb (kno 43 (by decide +kernel)))
theorem fb44 {C : G0} {oc kV dc pm cd ct : Value} {od an : Option Addr} {sl : Array (Option Value)} (l : C.K.lookup (C.gv 44) = some ⟨oc, od, .func (PySem.W.fnOf "word_in" "word_in" (defArgs s44) (defBody s44) (defScope s44) .none kV dc pm an cd ct), sl⟩) (c : PySem.W.codeIn C.K cd "word_in" = true) (k : PySem.W.keepIn C.K (.ref (C.gv 44)) = true) :
    FnB C ng 44 f44 (PySem.W.fnOf "word_in" "word_in" (defArgs s44) (defBody s44) (defScope s44) .none kV dc pm an cd ct) :=
  fn_mk (st := s44) l c k tr44.1 tr44.2 (fun _ _ _ _ _ _ us hl => match us, hl with | [_], _ => rfl) (fun kV dc pm an cd ct => kb (kno 44 (by decide +kernel)))
theorem fb45 {C : G0} {oc kV dc pm cd ct : Value} {od an : Option Addr} {sl : Array (Option Value)} (l : C.K.lookup (C.gv 45) = some ⟨oc, od, .func (PySem.W.fnOf "word_of" "word_of" (defArgs s45) (defBody s45) (defScope s45) .none kV dc pm an cd ct), sl⟩) (c : PySem.W.codeIn C.K cd "word_of" = true) (k : PySem.W.keepIn C.K (.ref (C.gv 45)) = true) :
    FnB C ng 45 f45 (PySem.W.fnOf "word_of" "word_of" (defArgs s45) (defBody s45) (defScope s45) .none kV dc pm an cd ct) :=
  fn_mk (st := s45) l c k tr45.1 tr45.2 (fun _ _ _ _ _ _ us hl => match us, hl with | [_], _ => rfl) (fun kV dc pm an cd ct => fun ks np q => by
      have q := kw_of (r := [(45, ["move"], 0)]) q (by decide +kernel)
      simp only [List.mem_cons, Prod.mk.injEq, true_and, List.not_mem_nil, or_false] at q
      obtain ⟨rfl, rfl⟩ := q
      · exact kb_mk (by decide) fun us ws h1 h2 => match us, ws, h1, h2 with | [], [_], _, _ => rfl
)
theorem fb46 {C : G0} {oc kV dc pm cd ct : Value} {od an : Option Addr} {sl : Array (Option Value)} (l : C.K.lookup (C.gv 46) = some ⟨oc, od, .func (PySem.W.fnOf "move_by" "move_by" (defArgs s46) (defBody s46) (defScope s46) .none kV dc pm an cd ct), sl⟩) (c : PySem.W.codeIn C.K cd "move_by" = true) (k : PySem.W.keepIn C.K (.ref (C.gv 46)) = true) :
    FnB C ng 46 f46 (PySem.W.fnOf "move_by" "move_by" (defArgs s46) (defBody s46) (defScope s46) .none kV dc pm an cd ct) :=
  fn_mk (st := s46) l c k tr46.1 tr46.2 (fun _ _ _ _ _ _ us hl => match us, hl with | [_], _ => rfl) (fun kV dc pm an cd ct => kb (kno 46 (by decide +kernel)))
theorem fb47 {C : G0} {oc kV dc pm cd ct : Value} {od an : Option Addr} {sl : Array (Option Value)} (l : C.K.lookup (C.gv 47) = some ⟨oc, od, .func (PySem.W.fnOf "step_rows" "step_rows" (defArgs s47) (defBody s47) (defScope s47) .none kV dc pm an cd ct), sl⟩) (c : PySem.W.codeIn C.K cd "step_rows" = true) (k : PySem.W.keepIn C.K (.ref (C.gv 47)) = true) :
    FnB C ng 47 f47 (PySem.W.fnOf "step_rows" "step_rows" (defArgs s47) (defBody s47) (defScope s47) .none kV dc pm an cd ct) :=
  fn_mk (st := s47) l c k tr47.1 tr47.2 (fun _ _ _ _ _ _ us hl => match us, hl with | [_], _ => rfl) (fun kV dc pm an cd ct => fun ks np q => by
      have q := kw_of (r := [(47, ["move"], 0)]) q (by decide +kernel)
      simp only [List.mem_cons, Prod.mk.injEq, true_and, List.not_mem_nil, or_false] at q
      obtain ⟨rfl, rfl⟩ := q
      · exact kb_mk (by decide) fun us ws h1 h2 => match us, ws, h1, h2 with | [], [_], _, _ => rfl
)
theorem fb48 {C : G0} {oc kV dc pm cd ct : Value} {od an : Option Addr} {sl : Array (Option Value)} (l : C.K.lookup (C.gv 48) = some ⟨oc, od, .func (PySem.W.fnOf "sure_base" "sure_base" (defArgs s48) (defBody s48) (defScope s48) .none kV dc pm an cd ct), sl⟩) (c : PySem.W.codeIn C.K cd "sure_base" = true) (k : PySem.W.keepIn C.K (.ref (C.gv 48)) = true) :
    FnB C ng 48 f48 (PySem.W.fnOf "sure_base" "sure_base" (defArgs s48) (defBody s48) (defScope s48) .none kV dc pm an cd ct) :=
  fn_mk (st := s48) l c k tr48.1 tr48.2 (fun _ _ _ _ _ _ us hl => match us, hl with | [_, _], _ => rfl) (fun kV dc pm an cd ct => kb (kno 48 (by decide +kernel)))
theorem fb49 {C : G0} {oc kV dc pm cd ct : Value} {od an : Option Addr} {sl : Array (Option Value)} (l : C.K.lookup (C.gv 49) = some ⟨oc, od, .func (PySem.W.fnOf "zero_below" "zero_below" (defArgs s49) (defBody s49) (defScope s49) .none kV dc pm an cd ct), sl⟩) (c : PySem.W.codeIn C.K cd "zero_below" = true) (k : PySem.W.keepIn C.K (.ref (C.gv 49)) = true) :
    FnB C ng 49 f49 (PySem.W.fnOf "zero_below" "zero_below" (defArgs s49) (defBody s49) (defScope s49) .none kV dc pm an cd ct) :=
  fn_mk (st := s49) l c k tr49.1 tr49.2 (fun _ _ _ _ _ _ us hl => match us, hl with | [_, _], _ => rfl) (fun kV dc pm an cd ct => kb (kno 49 (by decide +kernel)))
theorem fb50 {C : G0} {oc kV dc pm cd ct : Value} {od an : Option Addr} {sl : Array (Option Value)} (l : C.K.lookup (C.gv 50) = some ⟨oc, od, .func (PySem.W.fnOf "zero_leads" "zero_leads" (defArgs s50) (defBody s50) (defScope s50) .none kV dc pm an cd ct), sl⟩) (c : PySem.W.codeIn C.K cd "zero_leads" = true) (k : PySem.W.keepIn C.K (.ref (C.gv 50)) = true) :
    FnB C ng 50 f50 (PySem.W.fnOf "zero_leads" "zero_leads" (defArgs s50) (defBody s50) (defScope s50) .none kV dc pm an cd ct) :=
  fn_mk (st := s50) l c k tr50.1 tr50.2 (fun _ _ _ _ _ _ us hl => match us, hl with | [_, _, _], _ => rfl) (fun kV dc pm an cd ct => kb (kno 50 (by decide +kernel)))
theorem fb51 {C : G0} {oc kV dc pm cd ct : Value} {od an : Option Addr} {sl : Array (Option Value)} (l : C.K.lookup (C.gv 51) = some ⟨oc, od, .func (PySem.W.fnOf "lead_rest" "lead_rest" (defArgs s51) (defBody s51) (defScope s51) .none kV dc pm an cd ct), sl⟩) (c : PySem.W.codeIn C.K cd "lead_rest" = true) (k : PySem.W.keepIn C.K (.ref (C.gv 51)) = true) :
    FnB C ng 51 f51 (PySem.W.fnOf "lead_rest" "lead_rest" (defArgs s51) (defBody s51) (defScope s51) .none kV dc pm an cd ct) :=
  fn_mk (st := s51) l c k tr51.1 tr51.2 (fun _ _ _ _ _ _ us hl => match us, hl with | [_, _, _], _ => rfl) (fun kV dc pm an cd ct => kb (kno 51 (by decide +kernel)))
theorem fb52 {C : G0} {oc kV dc pm cd ct : Value} {od an : Option Addr} {sl : Array (Option Value)} (l : C.K.lookup (C.gv 52) = some ⟨oc, od, .func (PySem.W.fnOf "_law_box" "_law_box" (defArgs s52) (defBody s52) (defScope s52) .none kV dc pm an cd ct), sl⟩) (c : PySem.W.codeIn C.K cd "_law_box" = true) (k : PySem.W.keepIn C.K (.ref (C.gv 52)) = true) :
    FnB C ng 52 f52 (PySem.W.fnOf "_law_box" "_law_box" (defArgs s52) (defBody s52) (defScope s52) .none kV dc pm an cd ct) :=
  fn_mk (st := s52) l c k tr52.1 tr52.2 (fun _ _ _ _ _ _ us hl => match us, hl with | [_, _], _ => rfl) (fun kV dc pm an cd ct => kb (kno 52 (by decide +kernel)))
theorem fb53 {C : G0} {oc kV dc pm cd ct : Value} {od an : Option Addr} {sl : Array (Option Value)} (l : C.K.lookup (C.gv 53) = some ⟨oc, od, .func (PySem.W.fnOf "_law_take" "_law_take" (defArgs s53) (defBody s53) (defScope s53) .none kV dc pm an cd ct), sl⟩) (c : PySem.W.codeIn C.K cd "_law_take" = true) (k : PySem.W.keepIn C.K (.ref (C.gv 53)) = true) :
    FnB C ng 53 f53 (PySem.W.fnOf "_law_take" "_law_take" (defArgs s53) (defBody s53) (defScope s53) .none kV dc pm an cd ct) :=
  fn_mk (st := s53) l c k tr53.1 tr53.2 (fun _ _ _ _ _ _ us hl => match us, hl with | [_, _], _ => rfl) (fun kV dc pm an cd ct => kb (kno 53 (by decide +kernel)))
theorem fb54 {C : G0} {oc kV dc pm cd ct : Value} {od an : Option Addr} {sl : Array (Option Value)} (l : C.K.lookup (C.gv 54) = some ⟨oc, od, .func (PySem.W.fnOf "_law_cells" "_law_cells" (defArgs s54) (defBody s54) (defScope s54) .none kV dc pm an cd ct), sl⟩) (c : PySem.W.codeIn C.K cd "_law_cells" = true) (k : PySem.W.keepIn C.K (.ref (C.gv 54)) = true) :
    FnB C ng 54 f54 (PySem.W.fnOf "_law_cells" "_law_cells" (defArgs s54) (defBody s54) (defScope s54) .none kV dc pm an cd ct) :=
  fn_mk (st := s54) l c k tr54.1 tr54.2 (fun _ _ _ _ _ _ us hl => match us, hl with | [_, _], _ => rfl) (fun kV dc pm an cd ct => kb (kno 54 (by decide +kernel)))
theorem fb55 {C : G0} {oc kV dc pm cd ct : Value} {od an : Option Addr} {sl : Array (Option Value)} (l : C.K.lookup (C.gv 55) = some ⟨oc, od, .func (PySem.W.fnOf "_law_gcd" "_law_gcd" (defArgs s55) (defBody s55) (defScope s55) .none kV dc pm an cd ct), sl⟩) (c : PySem.W.codeIn C.K cd "_law_gcd" = true) (k : PySem.W.keepIn C.K (.ref (C.gv 55)) = true) :
    FnB C ng 55 f55 (PySem.W.fnOf "_law_gcd" "_law_gcd" (defArgs s55) (defBody s55) (defScope s55) .none kV dc pm an cd ct) :=
  fn_mk (st := s55) l c k tr55.1 tr55.2 (fun _ _ _ _ _ _ us hl => match us, hl with | [_, _], _ => rfl) (fun kV dc pm an cd ct => kb (kno 55 (by decide +kernel)))
theorem fb56 {C : G0} {oc kV dc pm cd ct : Value} {od an : Option Addr} {sl : Array (Option Value)} (l : C.K.lookup (C.gv 56) = some ⟨oc, od, .func (PySem.W.fnOf "_law_ray" "_law_ray" (defArgs s56) (defBody s56) (defScope s56) .none kV dc pm an cd ct), sl⟩) (c : PySem.W.codeIn C.K cd "_law_ray" = true) (k : PySem.W.keepIn C.K (.ref (C.gv 56)) = true) :
    FnB C ng 56 f56 (PySem.W.fnOf "_law_ray" "_law_ray" (defArgs s56) (defBody s56) (defScope s56) .none kV dc pm an cd ct) :=
  fn_mk (st := s56) l c k tr56.1 tr56.2 (fun _ _ _ _ _ _ us hl => match us, hl with | [_, _], _ => rfl) (fun kV dc pm an cd ct => kb (kno 56 (by decide +kernel)))
theorem fb57 {C : G0} {oc kV dc pm cd ct : Value} {od an : Option Addr} {sl : Array (Option Value)} (l : C.K.lookup (C.gv 57) = some ⟨oc, od, .func (PySem.W.fnOf "_law_draw_ray" "_law_draw_ray" (defArgs s57) (defBody s57) (defScope s57) .none kV dc pm an cd ct), sl⟩) (c : PySem.W.codeIn C.K cd "_law_draw_ray" = true) (k : PySem.W.keepIn C.K (.ref (C.gv 57)) = true) :
    FnB C ng 57 f57 (PySem.W.fnOf "_law_draw_ray" "_law_draw_ray" (defArgs s57) (defBody s57) (defScope s57) .none kV dc pm an cd ct) :=
  fn_mk (st := s57) l c k tr57.1 tr57.2 (fun _ _ _ _ _ _ us hl => match us, hl with | [_, _], _ => rfl) (fun kV dc pm an cd ct => kb (kno 57 (by decide +kernel)))
theorem fb58 {C : G0} {oc kV dc pm cd ct : Value} {od an : Option Addr} {sl : Array (Option Value)} (l : C.K.lookup (C.gv 58) = some ⟨oc, od, .func (PySem.W.fnOf "law" "law" (defArgs s58) (defBody s58) (defScope s58) .none kV dc pm an cd ct), sl⟩) (c : PySem.W.codeIn C.K cd "law" = true) (k : PySem.W.keepIn C.K (.ref (C.gv 58)) = true) :
    FnB C ng 58 f58 (PySem.W.fnOf "law" "law" (defArgs s58) (defBody s58) (defScope s58) .none kV dc pm an cd ct) :=
  fn_mk (st := s58) l c k tr58.1 tr58.2 (fun _ _ _ _ _ _ us hl => match us, hl with | [_], _ => rfl) (fun kV dc pm an cd ct => kb (kno 58 (by decide +kernel)))
theorem all_mk {P : Program} {w : World} {K : PySem.W.Frag} {h : Heap} {mg : Str → Option Value} {fa : Addr} (X : K.In h) (G : h.Ns mainGlobals mg) (hfa : mg "law" = some (.ref fa))
    {g0 g1 g2 g3 g4 g5 g6 g7 g8 g9 g10 g11 g12 g13 g14 g15 g16 g17 g18 g19 g20 g21 g22 g23 g24 g25 g26 g27 g28 g29 g30 g31 g32 g33 g34 g35 g36 g37 g38 g39 g40 g41 g42 g43 g44 g45 g46 g47 g48 g49 g50 g51 g52 g53 g54 g55 g56 g57 g58 p0 p1 p2 ta0 ta5 ta10 ta15 ta20 dg0 : Addr}
    {oc0 kV0 dc0 pm0 cd0 ct0 oc1 kV1 dc1 pm1 cd1 ct1 oc2 kV2 dc2 pm2 cd2 ct2 oc3 kV3 dc3 pm3 cd3 ct3 oc4 kV4 dc4 pm4 cd4 ct4 oc5 kV5 dc5 pm5 cd5 ct5 oc6 kV6 dc6 pm6 cd6 ct6 oc7 kV7 dc7 pm7 cd7 ct7 oc8 kV8 dc8 pm8 cd8 ct8 oc9 kV9 dc9 pm9 cd9 ct9 oc10 kV10 dc10 pm10 cd10 ct10 oc11 kV11 dc11 pm11 cd11 ct11 oc12 kV12 dc12 pm12 cd12 ct12 oc13 kV13 dc13 pm13 cd13 ct13 oc14 kV14 dc14 pm14 cd14 ct14 oc15 kV15 dc15 pm15 cd15 ct15 oc16 kV16 dc16 pm16 cd16 ct16 oc17 kV17 dc17 pm17 cd17 ct17 oc18 kV18 dc18 pm18 cd18 ct18 oc19 kV19 dc19 pm19 cd19 ct19 oc20 kV20 dc20 pm20 cd20 ct20 oc21 kV21 dc21 pm21 cd21 ct21 oc22 kV22 dc22 pm22 cd22 ct22 oc23 kV23 dc23 pm23 cd23 ct23 oc24 kV24 dc24 pm24 cd24 ct24 oc25 kV25 dc25 pm25 cd25 ct25 oc26 kV26 dc26 pm26 cd26 ct26 oc27 kV27 dc27 pm27 cd27 ct27 oc28 kV28 dc28 pm28 cd28 ct28 oc29 kV29 dc29 pm29 cd29 ct29 oc30 kV30 dc30 pm30 cd30 ct30 oc31 kV31 dc31 pm31 cd31 ct31 oc32 kV32 dc32 pm32 cd32 ct32 oc33 kV33 dc33 pm33 cd33 ct33 oc34 kV34 dc34 pm34 cd34 ct34 oc35 kV35 dc35 pm35 cd35 ct35 oc36 kV36 dc36 pm36 cd36 ct36 oc37 kV37 dc37 pm37 cd37 ct37 oc38 kV38 dc38 pm38 cd38 ct38 oc39 kV39 dc39 pm39 cd39 ct39 oc40 kV40 dc40 pm40 cd40 ct40 oc41 kV41 dc41 pm41 cd41 ct41 oc42 kV42 dc42 pm42 cd42 ct42 oc43 kV43 dc43 pm43 cd43 ct43 oc44 kV44 dc44 pm44 cd44 ct44 oc45 kV45 dc45 pm45 cd45 ct45 oc46 kV46 dc46 pm46 cd46 ct46 oc47 kV47 dc47 pm47 cd47 ct47 oc48 kV48 dc48 pm48 cd48 ct48 oc49 kV49 dc49 pm49 cd49 ct49 oc50 kV50 dc50 pm50 cd50 ct50 oc51 kV51 dc51 pm51 cd51 ct51 oc52 kV52 dc52 pm52 cd52 ct52 oc53 kV53 dc53 pm53 cd53 ct53 oc54 kV54 dc54 pm54 cd54 ct54 oc55 kV55 dc55 pm55 cd55 ct55 oc56 kV56 dc56 pm56 cd56 ct56 oc57 kV57 dc57 pm57 cd57 ct57 oc58 kV58 dc58 pm58 cd58 ct58 : Value}
    {od0 an0 od1 an1 od2 an2 od3 an3 od4 an4 od5 an5 od6 an6 od7 an7 od8 an8 od9 an9 od10 an10 od11 an11 od12 an12 od13 an13 od14 an14 od15 an15 od16 an16 od17 an17 od18 an18 od19 an19 od20 an20 od21 an21 od22 an22 od23 an23 od24 an24 od25 an25 od26 an26 od27 an27 od28 an28 od29 an29 od30 an30 od31 an31 od32 an32 od33 an33 od34 an34 od35 an35 od36 an36 od37 an37 od38 an38 od39 an39 od40 an40 od41 an41 od42 an42 od43 an43 od44 an44 od45 an45 od46 an46 od47 an47 od48 an48 od49 an49 od50 an50 od51 an51 od52 an52 od53 an53 od54 an54 od55 an55 od56 an56 od57 an57 od58 an58 td0 td5 td10 td15 td20 : Option Addr}
    {sl0 sl1 sl2 sl3 sl4 sl5 sl6 sl7 sl8 sl9 sl10 sl11 sl12 sl13 sl14 sl15 sl16 sl17 sl18 sl19 sl20 sl21 sl22 sl23 sl24 sl25 sl26 sl27 sl28 sl29 sl30 sl31 sl32 sl33 sl34 sl35 sl36 sl37 sl38 sl39 sl40 sl41 sl42 sl43 sl44 sl45 sl46 sl47 sl48 sl49 sl50 sl51 sl52 sl53 sl54 sl55 sl56 sl57 sl58 ts0 ts5 ts10 ts15 ts20 : Array (Option Value)}
    {tm0 tm5 tm10 tm15 tm20 dm0 : Nat}
    {dk0 dk1 dk2 : Tok}
    {tk1 tk2 tk3 tk4 tk6 tk7 tk8 tk9 tk11 tk12 tk13 tk14 tk16 tk17 tk18 tk19 tk21 tk22 tk23 tk24 tk25 : Tok}
    (a0 : PySem.W.nsIn K mainGlobals "is_number" = some (some (.ref g0)))
    (l0 : K.lookup g0 = some ⟨oc0, od0, .func (PySem.W.fnOf "is_number" "is_number" (defArgs s0) (defBody s0) (defScope s0) .none kV0 dc0 pm0 an0 cd0 ct0), sl0⟩)
    (c0 : PySem.W.codeIn K cd0 "is_number" = true)
    (k0 : PySem.W.keepIn K (.ref g0) = true)
    (a1 : PySem.W.nsIn K mainGlobals "is_within" = some (some (.ref g1)))
    (l1 : K.lookup g1 = some ⟨oc1, od1, .func (PySem.W.fnOf "is_within" "is_within" (defArgs s1) (defBody s1) (defScope s1) .none kV1 dc1 pm1 an1 cd1 ct1), sl1⟩)
    (c1 : PySem.W.codeIn K cd1 "is_within" = true)
    (k1 : PySem.W.keepIn K (.ref g1) = true)
    (a2 : PySem.W.nsIn K mainGlobals "is_long" = some (some (.ref g2)))
    (l2 : K.lookup g2 = some ⟨oc2, od2, .func (PySem.W.fnOf "is_long" "is_long" (defArgs s2) (defBody s2) (defScope s2) .none kV2 dc2 pm2 an2 cd2 ct2), sl2⟩)
    (c2 : PySem.W.codeIn K cd2 "is_long" = true)
    (k2 : PySem.W.keepIn K (.ref g2) = true)
    (a3 : PySem.W.nsIn K mainGlobals "are_numbers" = some (some (.ref g3)))
    (l3 : K.lookup g3 = some ⟨oc3, od3, .func (PySem.W.fnOf "are_numbers" "are_numbers" (defArgs s3) (defBody s3) (defScope s3) .none kV3 dc3 pm3 an3 cd3 ct3), sl3⟩)
    (c3 : PySem.W.codeIn K cd3 "are_numbers" = true)
    (k3 : PySem.W.keepIn K (.ref g3) = true)
    (a4 : PySem.W.nsIn K mainGlobals "tupled" = some (some (.ref g4)))
    (l4 : K.lookup g4 = some ⟨oc4, od4, .func (PySem.W.fnOf "tupled" "tupled" (defArgs s4) (defBody s4) (defScope s4) .none kV4 dc4 pm4 an4 cd4 ct4), sl4⟩)
    (c4 : PySem.W.codeIn K cd4 "tupled" = true)
    (k4 : PySem.W.keepIn K (.ref g4) = true)
    (a5 : PySem.W.nsIn K mainGlobals "inverse_of" = some (some (.ref g5)))
    (l5 : K.lookup g5 = some ⟨oc5, od5, .func (PySem.W.fnOf "inverse_of" "inverse_of" (defArgs s5) (defBody s5) (defScope s5) .none kV5 dc5 pm5 an5 cd5 ct5), sl5⟩)
    (c5 : PySem.W.codeIn K cd5 "inverse_of" = true)
    (k5 : PySem.W.keepIn K (.ref g5) = true)
    (a6 : PySem.W.nsIn K mainGlobals "is_move_of" = some (some (.ref g6)))
    (l6 : K.lookup g6 = some ⟨oc6, od6, .func (PySem.W.fnOf "is_move_of" "is_move_of" (defArgs s6) (defBody s6) (defScope s6) .none kV6 dc6 pm6 an6 cd6 ct6), sl6⟩)
    (c6 : PySem.W.codeIn K cd6 "is_move_of" = true)
    (k6 : PySem.W.keepIn K (.ref g6) = true)
    (a7 : PySem.W.nsIn K mainGlobals "sure_move" = some (some (.ref g7)))
    (l7 : K.lookup g7 = some ⟨oc7, od7, .func (PySem.W.fnOf "sure_move" "sure_move" (defArgs s7) (defBody s7) (defScope s7) .none kV7 dc7 pm7 an7 cd7 ct7), sl7⟩)
    (c7 : PySem.W.codeIn K cd7 "sure_move" = true)
    (k7 : PySem.W.keepIn K (.ref g7) = true)
    (a8 : PySem.W.nsIn K mainGlobals "signed" = some (some (.ref g8)))
    (l8 : K.lookup g8 = some ⟨oc8, od8, .func (PySem.W.fnOf "signed" "signed" (defArgs s8) (defBody s8) (defScope s8) .none kV8 dc8 pm8 an8 cd8 ct8), sl8⟩)
    (c8 : PySem.W.codeIn K cd8 "signed" = true)
    (k8 : PySem.W.keepIn K (.ref g8) = true)
    (a9 : PySem.W.nsIn K mainGlobals "product" = some (some (.ref g9)))
    (l9 : K.lookup g9 = some ⟨oc9, od9, .func (PySem.W.fnOf "product" "product" (defArgs s9) (defBody s9) (defScope s9) .none kV9 dc9 pm9 an9 cd9 ct9), sl9⟩)
    (c9 : PySem.W.codeIn K cd9 "product" = true)
    (k9 : PySem.W.keepIn K (.ref g9) = true)
    (a10 : PySem.W.nsIn K mainGlobals "inverse" = some (some (.ref g10)))
    (l10 : K.lookup g10 = some ⟨oc10, od10, .func (PySem.W.fnOf "inverse" "inverse" (defArgs s10) (defBody s10) (defScope s10) .none kV10 dc10 pm10 an10 cd10 ct10), sl10⟩)
    (c10 : PySem.W.codeIn K cd10 "inverse" = true)
    (k10 : PySem.W.keepIn K (.ref g10) = true)
    (a11 : PySem.W.nsIn K mainGlobals "stepped" = some (some (.ref g11)))
    (l11 : K.lookup g11 = some ⟨oc11, od11, .func (PySem.W.fnOf "stepped" "stepped" (defArgs s11) (defBody s11) (defScope s11) .none kV11 dc11 pm11 an11 cd11 ct11), sl11⟩)
    (c11 : PySem.W.codeIn K cd11 "stepped" = true)
    (k11 : PySem.W.keepIn K (.ref g11) = true)
    (a12 : PySem.W.nsIn K mainGlobals "size_of" = some (some (.ref g12)))
    (l12 : K.lookup g12 = some ⟨oc12, od12, .func (PySem.W.fnOf "size_of" "size_of" (defArgs s12) (defBody s12) (defScope s12) .none kV12 dc12 pm12 an12 cd12 ct12), sl12⟩)
    (c12 : PySem.W.codeIn K cd12 "size_of" = true)
    (k12 : PySem.W.keepIn K (.ref g12) = true)
    (a13 : PySem.W.nsIn K mainGlobals "kind_of" = some (some (.ref g13)))
    (l13 : K.lookup g13 = some ⟨oc13, od13, .func (PySem.W.fnOf "kind_of" "kind_of" (defArgs s13) (defBody s13) (defScope s13) .none kV13 dc13 pm13 an13 cd13 ct13), sl13⟩)
    (c13 : PySem.W.codeIn K cd13 "kind_of" = true)
    (k13 : PySem.W.keepIn K (.ref g13) = true)
    (a14 : PySem.W.nsIn K mainGlobals "move_product" = some (some (.ref g14)))
    (l14 : K.lookup g14 = some ⟨oc14, od14, .func (PySem.W.fnOf "move_product" "move_product" (defArgs s14) (defBody s14) (defScope s14) .none kV14 dc14 pm14 an14 cd14 ct14), sl14⟩)
    (c14 : PySem.W.codeIn K cd14 "move_product" = true)
    (k14 : PySem.W.keepIn K (.ref g14) = true)
    (a15 : PySem.W.nsIn K mainGlobals "move_back" = some (some (.ref g15)))
    (l15 : K.lookup g15 = some ⟨oc15, od15, .func (PySem.W.fnOf "move_back" "move_back" (defArgs s15) (defBody s15) (defScope s15) .none kV15 dc15 pm15 an15 cd15 ct15), sl15⟩)
    (c15 : PySem.W.codeIn K cd15 "move_back" = true)
    (k15 : PySem.W.keepIn K (.ref g15) = true)
    (a16 : PySem.W.nsIn K mainGlobals "moves_product" = some (some (.ref g16)))
    (l16 : K.lookup g16 = some ⟨oc16, od16, .func (PySem.W.fnOf "moves_product" "moves_product" (defArgs s16) (defBody s16) (defScope s16) .none kV16 dc16 pm16 an16 cd16 ct16), sl16⟩)
    (c16 : PySem.W.codeIn K cd16 "moves_product" = true)
    (k16 : PySem.W.keepIn K (.ref g16) = true)
    (a17 : PySem.W.nsIn K mainGlobals "kind" = some (some (.ref g17)))
    (l17 : K.lookup g17 = some ⟨oc17, od17, .func (PySem.W.fnOf "kind" "kind" (defArgs s17) (defBody s17) (defScope s17) .none kV17 dc17 pm17 an17 cd17 ct17), sl17⟩)
    (c17 : PySem.W.codeIn K cd17 "kind" = true)
    (k17 : PySem.W.keepIn K (.ref g17) = true)
    (a18 : PySem.W.nsIn K mainGlobals "turned_by" = some (some (.ref g18)))
    (l18 : K.lookup g18 = some ⟨oc18, od18, .func (PySem.W.fnOf "turned_by" "turned_by" (defArgs s18) (defBody s18) (defScope s18) .none kV18 dc18 pm18 an18 cd18 ct18), sl18⟩)
    (c18 : PySem.W.codeIn K cd18 "turned_by" = true)
    (k18 : PySem.W.keepIn K (.ref g18) = true)
    (a19 : PySem.W.nsIn K mainGlobals "steps" = some (some (.ref g19)))
    (l19 : K.lookup g19 = some ⟨oc19, od19, .func (PySem.W.fnOf "steps" "steps" (defArgs s19) (defBody s19) (defScope s19) .none kV19 dc19 pm19 an19 cd19 ct19), sl19⟩)
    (c19 : PySem.W.codeIn K cd19 "steps" = true)
    (k19 : PySem.W.keepIn K (.ref g19) = true)
    (a20 : PySem.W.nsIn K mainGlobals "is_ray_of" = some (some (.ref g20)))
    (l20 : K.lookup g20 = some ⟨oc20, od20, .func (PySem.W.fnOf "is_ray_of" "is_ray_of" (defArgs s20) (defBody s20) (defScope s20) .none kV20 dc20 pm20 an20 cd20 ct20), sl20⟩)
    (c20 : PySem.W.codeIn K cd20 "is_ray_of" = true)
    (k20 : PySem.W.keepIn K (.ref g20) = true)
    (a21 : PySem.W.nsIn K mainGlobals "sure_ray" = some (some (.ref g21)))
    (l21 : K.lookup g21 = some ⟨oc21, od21, .func (PySem.W.fnOf "sure_ray" "sure_ray" (defArgs s21) (defBody s21) (defScope s21) .none kV21 dc21 pm21 an21 cd21 ct21), sl21⟩)
    (c21 : PySem.W.codeIn K cd21 "sure_ray" = true)
    (k21 : PySem.W.keepIn K (.ref g21) = true)
    (a22 : PySem.W.nsIn K mainGlobals "ray_of" = some (some (.ref g22)))
    (l22 : K.lookup g22 = some ⟨oc22, od22, .func (PySem.W.fnOf "ray_of" "ray_of" (defArgs s22) (defBody s22) (defScope s22) .none kV22 dc22 pm22 an22 cd22 ct22), sl22⟩)
    (c22 : PySem.W.codeIn K cd22 "ray_of" = true)
    (k22 : PySem.W.keepIn K (.ref g22) = true)
    (a23 : PySem.W.nsIn K mainGlobals "led" = some (some (.ref g23)))
    (l23 : K.lookup g23 = some ⟨oc23, od23, .func (PySem.W.fnOf "led" "led" (defArgs s23) (defBody s23) (defScope s23) .none kV23 dc23 pm23 an23 cd23 ct23), sl23⟩)
    (c23 : PySem.W.codeIn K cd23 "led" = true)
    (k23 : PySem.W.keepIn K (.ref g23) = true)
    (a24 : PySem.W.nsIn K mainGlobals "between_number" = some (some (.ref g24)))
    (l24 : K.lookup g24 = some ⟨oc24, od24, .func (PySem.W.fnOf "between_number" "between_number" (defArgs s24) (defBody s24) (defScope s24) .none kV24 dc24 pm24 an24 cd24 ct24), sl24⟩)
    (c24 : PySem.W.codeIn K cd24 "between_number" = true)
    (k24 : PySem.W.keepIn K (.ref g24) = true)
    (a25 : PySem.W.nsIn K mainGlobals "move_to" = some (some (.ref g25)))
    (l25 : K.lookup g25 = some ⟨oc25, od25, .func (PySem.W.fnOf "move_to" "move_to" (defArgs s25) (defBody s25) (defScope s25) .none kV25 dc25 pm25 an25 cd25 ct25), sl25⟩)
    (c25 : PySem.W.codeIn K cd25 "move_to" = true)
    (k25 : PySem.W.keepIn K (.ref g25) = true)
    (a26 : PySem.W.nsIn K mainGlobals "convergents" = some (some (.ref g26)))
    (l26 : K.lookup g26 = some ⟨oc26, od26, .func (PySem.W.fnOf "convergents" "convergents" (defArgs s26) (defBody s26) (defScope s26) .none kV26 dc26 pm26 an26 cd26 ct26), sl26⟩)
    (c26 : PySem.W.codeIn K cd26 "convergents" = true)
    (k26 : PySem.W.keepIn K (.ref g26) = true)
    (a27 : PySem.W.nsIn K mainGlobals "ray_led" = some (some (.ref g27)))
    (l27 : K.lookup g27 = some ⟨oc27, od27, .func (PySem.W.fnOf "ray_led" "ray_led" (defArgs s27) (defBody s27) (defScope s27) .none kV27 dc27 pm27 an27 cd27 ct27), sl27⟩)
    (c27 : PySem.W.codeIn K cd27 "ray_led" = true)
    (k27 : PySem.W.keepIn K (.ref g27) = true)
    (a28 : PySem.W.nsIn K mainGlobals "apart" = some (some (.ref g28)))
    (l28 : K.lookup g28 = some ⟨oc28, od28, .func (PySem.W.fnOf "apart" "apart" (defArgs s28) (defBody s28) (defScope s28) .none kV28 dc28 pm28 an28 cd28 ct28), sl28⟩)
    (c28 : PySem.W.codeIn K cd28 "apart" = true)
    (k28 : PySem.W.keepIn K (.ref g28) = true)
    (a29 : PySem.W.nsIn K mainGlobals "are_next" = some (some (.ref g29)))
    (l29 : K.lookup g29 = some ⟨oc29, od29, .func (PySem.W.fnOf "are_next" "are_next" (defArgs s29) (defBody s29) (defScope s29) .none kV29 dc29 pm29 an29 cd29 ct29), sl29⟩)
    (c29 : PySem.W.codeIn K cd29 "are_next" = true)
    (k29 : PySem.W.keepIn K (.ref g29) = true)
    (a30 : PySem.W.nsIn K mainGlobals "middle" = some (some (.ref g30)))
    (l30 : K.lookup g30 = some ⟨oc30, od30, .func (PySem.W.fnOf "middle" "middle" (defArgs s30) (defBody s30) (defScope s30) .none kV30 dc30 pm30 an30 cd30 ct30), sl30⟩)
    (c30 : PySem.W.codeIn K cd30 "middle" = true)
    (k30 : PySem.W.keepIn K (.ref g30) = true)
    (a31 : PySem.W.nsIn K mainGlobals "ray_move" = some (some (.ref g31)))
    (l31 : K.lookup g31 = some ⟨oc31, od31, .func (PySem.W.fnOf "ray_move" "ray_move" (defArgs s31) (defBody s31) (defScope s31) .none kV31 dc31 pm31 an31 cd31 ct31), sl31⟩)
    (c31 : PySem.W.codeIn K cd31 "ray_move" = true)
    (k31 : PySem.W.keepIn K (.ref g31) = true)
    (a32 : PySem.W.nsIn K mainGlobals "ray_way" = some (some (.ref g32)))
    (l32 : K.lookup g32 = some ⟨oc32, od32, .func (PySem.W.fnOf "ray_way" "ray_way" (defArgs s32) (defBody s32) (defScope s32) .none kV32 dc32 pm32 an32 cd32 ct32), sl32⟩)
    (c32 : PySem.W.codeIn K cd32 "ray_way" = true)
    (k32 : PySem.W.keepIn K (.ref g32) = true)
    (a33 : PySem.W.nsIn K mainGlobals "parents" = some (some (.ref g33)))
    (l33 : K.lookup g33 = some ⟨oc33, od33, .func (PySem.W.fnOf "parents" "parents" (defArgs s33) (defBody s33) (defScope s33) .none kV33 dc33 pm33 an33 cd33 ct33), sl33⟩)
    (c33 : PySem.W.codeIn K cd33 "parents" = true)
    (k33 : PySem.W.keepIn K (.ref g33) = true)
    (a34 : PySem.W.nsIn K mainGlobals "move_between" = some (some (.ref g34)))
    (l34 : K.lookup g34 = some ⟨oc34, od34, .func (PySem.W.fnOf "move_between" "move_between" (defArgs s34) (defBody s34) (defScope s34) .none kV34 dc34 pm34 an34 cd34 ct34), sl34⟩)
    (c34 : PySem.W.codeIn K cd34 "move_between" = true)
    (k34 : PySem.W.keepIn K (.ref g34) = true)
    (a35 : PySem.W.nsIn K mainGlobals "edge_move" = some (some (.ref g35)))
    (l35 : K.lookup g35 = some ⟨oc35, od35, .func (PySem.W.fnOf "edge_move" "edge_move" (defArgs s35) (defBody s35) (defScope s35) .none kV35 dc35 pm35 an35 cd35 ct35), sl35⟩)
    (c35 : PySem.W.codeIn K cd35 "edge_move" = true)
    (k35 : PySem.W.keepIn K (.ref g35) = true)
    (a36 : PySem.W.nsIn K mainGlobals "edge_of" = some (some (.ref g36)))
    (l36 : K.lookup g36 = some ⟨oc36, od36, .func (PySem.W.fnOf "edge_of" "edge_of" (defArgs s36) (defBody s36) (defScope s36) .none kV36 dc36 pm36 an36 cd36 ct36), sl36⟩)
    (c36 : PySem.W.codeIn K cd36 "edge_of" = true)
    (k36 : PySem.W.keepIn K (.ref g36) = true)
    (a37 : PySem.W.nsIn K mainGlobals "next_rays" = some (some (.ref g37)))
    (l37 : K.lookup g37 = some ⟨oc37, od37, .func (PySem.W.fnOf "next_rays" "next_rays" (defArgs s37) (defBody s37) (defScope s37) .none kV37 dc37 pm37 an37 cd37 ct37), sl37⟩)
    (c37 : PySem.W.codeIn K cd37 "next_rays" = true)
    (k37 : PySem.W.keepIn K (.ref g37) = true)
    (a38 : PySem.W.nsIn K mainGlobals "is_row_of" = some (some (.ref g38)))
    (l38 : K.lookup g38 = some ⟨oc38, od38, .func (PySem.W.fnOf "is_row_of" "is_row_of" (defArgs s38) (defBody s38) (defScope s38) .none kV38 dc38 pm38 an38 cd38 ct38), sl38⟩)
    (c38 : PySem.W.codeIn K cd38 "is_row_of" = true)
    (k38 : PySem.W.keepIn K (.ref g38) = true)
    (a39 : PySem.W.nsIn K mainGlobals "sure_row" = some (some (.ref g39)))
    (l39 : K.lookup g39 = some ⟨oc39, od39, .func (PySem.W.fnOf "sure_row" "sure_row" (defArgs s39) (defBody s39) (defScope s39) .none kV39 dc39 pm39 an39 cd39 ct39), sl39⟩)
    (c39 : PySem.W.codeIn K cd39 "sure_row" = true)
    (k39 : PySem.W.keepIn K (.ref g39) = true)
    (a40 : PySem.W.nsIn K mainGlobals "shortest" = some (some (.ref g40)))
    (l40 : K.lookup g40 = some ⟨oc40, od40, .func (PySem.W.fnOf "shortest" "shortest" (defArgs s40) (defBody s40) (defScope s40) .none kV40 dc40 pm40 an40 cd40 ct40), sl40⟩)
    (c40 : PySem.W.codeIn K cd40 "shortest" = true)
    (k40 : PySem.W.keepIn K (.ref g40) = true)
    (a41 : PySem.W.nsIn K mainGlobals "move_in" = some (some (.ref g41)))
    (l41 : K.lookup g41 = some ⟨oc41, od41, .func (PySem.W.fnOf "move_in" "move_in" (defArgs s41) (defBody s41) (defScope s41) .none kV41 dc41 pm41 an41 cd41 ct41), sl41⟩)
    (c41 : PySem.W.codeIn K cd41 "move_in" = true)
    (k41 : PySem.W.keepIn K (.ref g41) = true)
    (a42 : PySem.W.nsIn K mainGlobals "nearest" = some (some (.ref g42)))
    (l42 : K.lookup g42 = some ⟨oc42, od42, .func (PySem.W.fnOf "nearest" "nearest" (defArgs s42) (defBody s42) (defScope s42) .none kV42 dc42 pm42 an42 cd42 ct42), sl42⟩)
    (c42 : PySem.W.codeIn K cd42 "nearest" = true)
    (k42 : PySem.W.keepIn K (.ref g42) = true)
    (a43 : PySem.W.nsIn K mainGlobals "quotients" = some (some (.ref g43)))
    (l43 : K.lookup g43 = some ⟨oc43, od43, .func (PySem.W.fnOf "quotients" "quotients" (defArgs s43) (defBody s43) (defScope s43) .none kV43 dc43 pm43 an43 cd43 ct43), sl43⟩)
    (c43 : PySem.W.codeIn K cd43 "quotients" = true)
    (k43 : PySem.W.keepIn K (.ref g43) = true)
    (a44 : PySem.W.nsIn K mainGlobals "word_in" = some (some (.ref g44)))
    (l44 : K.lookup g44 = some ⟨oc44, od44, .func (PySem.W.fnOf "word_in" "word_in" (defArgs s44) (defBody s44) (defScope s44) .none kV44 dc44 pm44 an44 cd44 ct44), sl44⟩)
    (c44 : PySem.W.codeIn K cd44 "word_in" = true)
    (k44 : PySem.W.keepIn K (.ref g44) = true)
    (a45 : PySem.W.nsIn K mainGlobals "word_of" = some (some (.ref g45)))
    (l45 : K.lookup g45 = some ⟨oc45, od45, .func (PySem.W.fnOf "word_of" "word_of" (defArgs s45) (defBody s45) (defScope s45) .none kV45 dc45 pm45 an45 cd45 ct45), sl45⟩)
    (c45 : PySem.W.codeIn K cd45 "word_of" = true)
    (k45 : PySem.W.keepIn K (.ref g45) = true)
    (a46 : PySem.W.nsIn K mainGlobals "move_by" = some (some (.ref g46)))
    (l46 : K.lookup g46 = some ⟨oc46, od46, .func (PySem.W.fnOf "move_by" "move_by" (defArgs s46) (defBody s46) (defScope s46) .none kV46 dc46 pm46 an46 cd46 ct46), sl46⟩)
    (c46 : PySem.W.codeIn K cd46 "move_by" = true)
    (k46 : PySem.W.keepIn K (.ref g46) = true)
    (a47 : PySem.W.nsIn K mainGlobals "step_rows" = some (some (.ref g47)))
    (l47 : K.lookup g47 = some ⟨oc47, od47, .func (PySem.W.fnOf "step_rows" "step_rows" (defArgs s47) (defBody s47) (defScope s47) .none kV47 dc47 pm47 an47 cd47 ct47), sl47⟩)
    (c47 : PySem.W.codeIn K cd47 "step_rows" = true)
    (k47 : PySem.W.keepIn K (.ref g47) = true)
    (a48 : PySem.W.nsIn K mainGlobals "sure_base" = some (some (.ref g48)))
    (l48 : K.lookup g48 = some ⟨oc48, od48, .func (PySem.W.fnOf "sure_base" "sure_base" (defArgs s48) (defBody s48) (defScope s48) .none kV48 dc48 pm48 an48 cd48 ct48), sl48⟩)
    (c48 : PySem.W.codeIn K cd48 "sure_base" = true)
    (k48 : PySem.W.keepIn K (.ref g48) = true)
    (a49 : PySem.W.nsIn K mainGlobals "zero_below" = some (some (.ref g49)))
    (l49 : K.lookup g49 = some ⟨oc49, od49, .func (PySem.W.fnOf "zero_below" "zero_below" (defArgs s49) (defBody s49) (defScope s49) .none kV49 dc49 pm49 an49 cd49 ct49), sl49⟩)
    (c49 : PySem.W.codeIn K cd49 "zero_below" = true)
    (k49 : PySem.W.keepIn K (.ref g49) = true)
    (a50 : PySem.W.nsIn K mainGlobals "zero_leads" = some (some (.ref g50)))
    (l50 : K.lookup g50 = some ⟨oc50, od50, .func (PySem.W.fnOf "zero_leads" "zero_leads" (defArgs s50) (defBody s50) (defScope s50) .none kV50 dc50 pm50 an50 cd50 ct50), sl50⟩)
    (c50 : PySem.W.codeIn K cd50 "zero_leads" = true)
    (k50 : PySem.W.keepIn K (.ref g50) = true)
    (a51 : PySem.W.nsIn K mainGlobals "lead_rest" = some (some (.ref g51)))
    (l51 : K.lookup g51 = some ⟨oc51, od51, .func (PySem.W.fnOf "lead_rest" "lead_rest" (defArgs s51) (defBody s51) (defScope s51) .none kV51 dc51 pm51 an51 cd51 ct51), sl51⟩)
    (c51 : PySem.W.codeIn K cd51 "lead_rest" = true)
    (k51 : PySem.W.keepIn K (.ref g51) = true)
    (a52 : PySem.W.nsIn K mainGlobals "_law_box" = some (some (.ref g52)))
    (l52 : K.lookup g52 = some ⟨oc52, od52, .func (PySem.W.fnOf "_law_box" "_law_box" (defArgs s52) (defBody s52) (defScope s52) .none kV52 dc52 pm52 an52 cd52 ct52), sl52⟩)
    (c52 : PySem.W.codeIn K cd52 "_law_box" = true)
    (k52 : PySem.W.keepIn K (.ref g52) = true)
    (a53 : PySem.W.nsIn K mainGlobals "_law_take" = some (some (.ref g53)))
    (l53 : K.lookup g53 = some ⟨oc53, od53, .func (PySem.W.fnOf "_law_take" "_law_take" (defArgs s53) (defBody s53) (defScope s53) .none kV53 dc53 pm53 an53 cd53 ct53), sl53⟩)
    (c53 : PySem.W.codeIn K cd53 "_law_take" = true)
    (k53 : PySem.W.keepIn K (.ref g53) = true)
    (a54 : PySem.W.nsIn K mainGlobals "_law_cells" = some (some (.ref g54)))
    (l54 : K.lookup g54 = some ⟨oc54, od54, .func (PySem.W.fnOf "_law_cells" "_law_cells" (defArgs s54) (defBody s54) (defScope s54) .none kV54 dc54 pm54 an54 cd54 ct54), sl54⟩)
    (c54 : PySem.W.codeIn K cd54 "_law_cells" = true)
    (k54 : PySem.W.keepIn K (.ref g54) = true)
    (a55 : PySem.W.nsIn K mainGlobals "_law_gcd" = some (some (.ref g55)))
    (l55 : K.lookup g55 = some ⟨oc55, od55, .func (PySem.W.fnOf "_law_gcd" "_law_gcd" (defArgs s55) (defBody s55) (defScope s55) .none kV55 dc55 pm55 an55 cd55 ct55), sl55⟩)
    (c55 : PySem.W.codeIn K cd55 "_law_gcd" = true)
    (k55 : PySem.W.keepIn K (.ref g55) = true)
    (a56 : PySem.W.nsIn K mainGlobals "_law_ray" = some (some (.ref g56)))
    (l56 : K.lookup g56 = some ⟨oc56, od56, .func (PySem.W.fnOf "_law_ray" "_law_ray" (defArgs s56) (defBody s56) (defScope s56) .none kV56 dc56 pm56 an56 cd56 ct56), sl56⟩)
    (c56 : PySem.W.codeIn K cd56 "_law_ray" = true)
    (k56 : PySem.W.keepIn K (.ref g56) = true)
    (a57 : PySem.W.nsIn K mainGlobals "_law_draw_ray" = some (some (.ref g57)))
    (l57 : K.lookup g57 = some ⟨oc57, od57, .func (PySem.W.fnOf "_law_draw_ray" "_law_draw_ray" (defArgs s57) (defBody s57) (defScope s57) .none kV57 dc57 pm57 an57 cd57 ct57), sl57⟩)
    (c57 : PySem.W.codeIn K cd57 "_law_draw_ray" = true)
    (k57 : PySem.W.keepIn K (.ref g57) = true)
    (a58 : PySem.W.nsIn K mainGlobals "law" = some (some (.ref g58)))
    (l58 : K.lookup g58 = some ⟨oc58, od58, .func (PySem.W.fnOf "law" "law" (defArgs s58) (defBody s58) (defScope s58) .none kV58 dc58 pm58 an58 cd58 ct58), sl58⟩)
    (c58 : PySem.W.codeIn K cd58 "law" = true)
    (k58 : PySem.W.keepIn K (.ref g58) = true)
    (u0 : PySem.W.nsIn K mainGlobals "STILL" = some (some (.ref ta0)))
    (t0 : K.lookup ta0 = some ⟨.type "tuple", td0, .seq #[.int 1 tk1, .int 0 tk2, .int 0 tk3, .int 1 tk4] tm0, ts0⟩)
    (u1 : PySem.W.nsIn K mainGlobals "TURN" = some (some (.ref ta5)))
    (t5 : K.lookup ta5 = some ⟨.type "tuple", td5, .seq #[.int 0 tk6, .int (-1) tk7, .int 1 tk8, .int 0 tk9] tm5, ts5⟩)
    (u2 : PySem.W.nsIn K mainGlobals "THREE" = some (some (.ref ta10)))
    (t10 : K.lookup ta10 = some ⟨.type "tuple", td10, .seq #[.int 0 tk11, .int (-1) tk12, .int 1 tk13, .int 1 tk14] tm10, ts10⟩)
    (u3 : PySem.W.nsIn K mainGlobals "THREE_BACK" = some (some (.ref ta15)))
    (t15 : K.lookup ta15 = some ⟨.type "tuple", td15, .seq #[.int (-1) tk16, .int (-1) tk17, .int 1 tk18, .int 0 tk19] tm15, ts15⟩)
    (u4 : PySem.W.nsIn K mainGlobals "FAR" = some (some (.ref ta20)))
    (t20 : K.lookup ta20 = some ⟨.type "tuple", td20, .seq #[.int 1 tk21, .int 0 tk22] tm20, ts20⟩)
    (u5 : PySem.W.nsIn K mainGlobals "LONGEST" = some (some (.int 2000 tk23)))
    (u6 : PySem.W.nsIn K mainGlobals "MOST_LETTERS" = some (some (.int 20000 tk24)))
    (u7 : PySem.W.nsIn K mainGlobals "MOST" = some (some (.int 1000000000 tk25)))
    (du0 : PySem.W.nsIn K mainGlobals "LETTERS" = some (some (.ref dg0)))
    (dl0 : K.lookup dg0 = some ⟨.type "dict", none, .dict #[⟨1, .int 1 dk0, .ref ta5⟩, ⟨2, .int 2 dk1, .ref ta10⟩, ⟨3, .int 3 dk2, .ref ta15⟩] dm0, #[]⟩)
    (ca0 : PySem.W.nsIn K mainGlobals "CanNot" = some (some (.ref p0)))
    (cx0 : PySem.W.excIn K p0 [.type "ValueError", .type "Exception", .type "BaseException", .type "object"] "ValueError.__new__" = true)
    (ck0 : PySem.W.keepIn K (.ref p0) = true)
    (cb0 : PySem.W.subIn K (.ref p0) (.type "BaseException") = some true)
    (ct_0 : PySem.W.typeIn K (.ref p0) = some (.type "type"))
    (ce0 : PySem.W.findIn K (.ref p0) "__getattribute__" = some (some (.builtin "BaseException.__getattribute__")))
    (cf0 : PySem.W.findIn K (.ref p0) "__getattr__" = some none)
    (ch0 : PySem.W.hasDictIn K p0 = true)
    (ci0 : PySem.W.findIn K (.ref p0) "__class__" = some (some (.builtin "object.__class__")))
    (cm0 : PySem.W.mroIn K p0 (.type "object") = some true)
    (cv0 : PySem.W.subIn K (.ref p0) (.type "ValueError") = some true)
    (ca1 : PySem.W.nsIn K mainGlobals "TooMany" = some (some (.ref p1)))
    (cx1 : PySem.W.excIn K p1 [.type "ValueError", .type "Exception", .type "BaseException", .type "object"] "ValueError.__new__" = true)
    (ck1 : PySem.W.keepIn K (.ref p1) = true)
    (cb1 : PySem.W.subIn K (.ref p1) (.type "BaseException") = some true)
    (ct_1 : PySem.W.typeIn K (.ref p1) = some (.type "type"))
    (ce1 : PySem.W.findIn K (.ref p1) "__getattribute__" = some (some (.builtin "BaseException.__getattribute__")))
    (cf1 : PySem.W.findIn K (.ref p1) "__getattr__" = some none)
    (ch1 : PySem.W.hasDictIn K p1 = true)
    (ci1 : PySem.W.findIn K (.ref p1) "__class__" = some (some (.builtin "object.__class__")))
    (cm1 : PySem.W.mroIn K p1 (.type "object") = some true)
    (cv1 : PySem.W.subIn K (.ref p1) (.type "ValueError") = some true)
    (ca2 : PySem.W.nsIn K mainGlobals "Unfit" = some (some (.ref p2)))
    (cx2 : PySem.W.excIn K p2 [.type "ValueError", .type "Exception", .type "BaseException", .type "object"] "ValueError.__new__" = true)
    (ck2 : PySem.W.keepIn K (.ref p2) = true)
    (cb2 : PySem.W.subIn K (.ref p2) (.type "BaseException") = some true)
    (ct_2 : PySem.W.typeIn K (.ref p2) = some (.type "type"))
    (ce2 : PySem.W.findIn K (.ref p2) "__getattribute__" = some (some (.builtin "BaseException.__getattribute__")))
    (cf2 : PySem.W.findIn K (.ref p2) "__getattr__" = some none)
    (ch2 : PySem.W.hasDictIn K p2 = true)
    (ci2 : PySem.W.findIn K (.ref p2) "__class__" = some (some (.builtin "object.__class__")))
    (cm2 : PySem.W.mroIn K p2 (.type "object") = some true)
    (cv2 : PySem.W.subIn K (.ref p2) (.type "ValueError") = some true)
    (cs0_0 : PySem.W.subIn K (.ref p0) (.ref p0) = some true)
    (cs0_1 : PySem.W.subIn K (.ref p0) (.ref p1) = some false)
    (cs0_2 : PySem.W.subIn K (.ref p0) (.ref p2) = some false)
    (cs1_0 : PySem.W.subIn K (.ref p1) (.ref p0) = some false)
    (cs1_1 : PySem.W.subIn K (.ref p1) (.ref p1) = some true)
    (cs1_2 : PySem.W.subIn K (.ref p1) (.ref p2) = some false)
    (cs2_0 : PySem.W.subIn K (.ref p2) (.ref p0) = some false)
    (cs2_1 : PySem.W.subIn K (.ref p2) (.ref p1) = some false)
    (cs2_2 : PySem.W.subIn K (.ref p2) (.ref p2) = some true)
    (e5 : PySem.W.specialIn K (.builtin "object.__class__") "__get__" = some (some (.builtin "getset_descriptor.__get__")))
    (e6 : PySem.W.takesIn K (.builtin "object.__class__") = some true)
    (z0 : PySem.W.nsIn K mainGlobals "len" = some none)
    (z1 : PySem.W.nsIn K mainGlobals "abs" = some none)
    (z2 : PySem.W.nsIn K mainGlobals "tuple" = some none)
    (z3 : PySem.W.nsIn K mainGlobals "list" = some none)
    (z4 : PySem.W.nsIn K mainGlobals "int" = some none)
    (z5 : PySem.W.nsIn K mainGlobals "sum" = some none)
    (z6 : PySem.W.nsIn K mainGlobals "min" = some none)
    (z7 : PySem.W.nsIn K mainGlobals "max" = some none)
    (z8 : PySem.W.nsIn K mainGlobals "all" = some none)
    (z9 : PySem.W.nsIn K mainGlobals "any" = some none)
    (z10 : PySem.W.nsIn K mainGlobals "sorted" = some none)
    (z11 : PySem.W.nsIn K mainGlobals "isinstance" = some none)
    (z12 : PySem.W.nsIn K mainGlobals "bool" = some none)
    (z13 : PySem.W.nsIn K mainGlobals "str" = some none)
    (z14 : PySem.W.nsIn K mainGlobals "dict" = some none)
    (z15 : PySem.W.nsIn K mainGlobals "range" = some none)
    (z16 : PySem.W.nsIn K mainGlobals "enumerate" = some none)
    (z17 : PySem.W.nsIn K mainGlobals "zip" = some none)
    (y0 : PySem.W.nsIn K mainGlobals "ValueError" = some none)
    (y1 : PySem.W.nsIn K mainGlobals "LookupError" = some none)
    (gg : PySem.W.nsIn K mainGlobals "gcd" = some (some (.builtin "math.gcd")))
    (ok : ∀ ns : List Int, ns.length ≤ 63 → ∃ as', callF T 200 58 [.val (.scr ns)] = .ok (.v (.bl true)) as') :
    ∃ fd : FuncData, (∀ (s : Shared) (u : Value), BindsTo s fd ⟨[u], []⟩ [("script", u)]) ∧ ∀ base : Heap, K.In base → base.Ns mainGlobals mg → FnOk P w K mg base (L2.CX P w) 200 fa fd ["script"] (spLaw K) := by
  have e2 : g58 = fa := by
    have e := hfa.symm.trans (PySem.W.mg_of X G a58)
    cases e; rfl
  subst e2
  let C : G0 := mkC K [g0, g1, g2, g3, g4, g5, g6, g7, g8, g9, g10, g11, g12, g13, g14, g15, g16, g17, g18, g19, g20, g21, g22, g23, g24, g25, g26, g27, g28, g29, g30, g31, g32, g33, g34, g35, g36, g37, g38, g39, g40, g41, g42, g43, g44, g45, g46, g47, g48, g49, g50, g51, g52, g53, g54, g55, g56, g57, g58] [p0, p1, p2]
  have D0 : ∀ p, T.dcs[0]? = some p → ∃ a, mg "LETTERS" = some (.ref a) ∧ ∀ kk d, dlook p.1 p.2 kk = some d → ∃ i v, kk = .inl i ∧ KDI C.K a i v ∧ ∀ H, Rep C H d v := by
    intro p q
    cases q
    refine ⟨_, PySem.W.mg_of X G du0, fun kk d h => ?_⟩
    rcases dlk_3 h with ⟨rfl, rfl⟩ | ⟨rfl, rfl⟩ | ⟨rfl, rfl⟩
    · obtain ⟨v, r1, r2⟩ := krep (C := C) (.tup [.int 0, .int (-1), .int 1, .int 0]) (.ref ta5) ⟨_, _, _, _, rfl, t5, rfl, rfl, by show 4 ≤ sizeLine; decide, ⟨_, _, rfl, ⟨_, rfl⟩, ⟨_, _, rfl, ⟨_, rfl⟩, ⟨_, _, rfl, ⟨_, rfl⟩, ⟨_, _, rfl, ⟨_, rfl⟩, rfl⟩⟩⟩⟩⟩
      exact ⟨1, v, rfl, kdi_mk (es := [(1, dk0, .ref ta5), (2, dk1, .ref ta10), (3, dk2, .ref ta15)]) dl0 rfl r1, r2⟩
    · obtain ⟨v, r1, r2⟩ := krep (C := C) (.tup [.int 0, .int (-1), .int 1, .int 1]) (.ref ta10) ⟨_, _, _, _, rfl, t10, rfl, rfl, by show 4 ≤ sizeLine; decide, ⟨_, _, rfl, ⟨_, rfl⟩, ⟨_, _, rfl, ⟨_, rfl⟩, ⟨_, _, rfl, ⟨_, rfl⟩, ⟨_, _, rfl, ⟨_, rfl⟩, rfl⟩⟩⟩⟩⟩
      exact ⟨2, v, rfl, kdi_mk (es := [(1, dk0, .ref ta5), (2, dk1, .ref ta10), (3, dk2, .ref ta15)]) dl0 rfl r1, r2⟩
    · obtain ⟨v, r1, r2⟩ := krep (C := C) (.tup [.int (-1), .int (-1), .int 1, .int 0]) (.ref ta15) ⟨_, _, _, _, rfl, t15, rfl, rfl, by show 4 ≤ sizeLine; decide, ⟨_, _, rfl, ⟨_, rfl⟩, ⟨_, _, rfl, ⟨_, rfl⟩, ⟨_, _, rfl, ⟨_, rfl⟩, ⟨_, _, rfl, ⟨_, rfl⟩, rfl⟩⟩⟩⟩⟩
      exact ⟨3, v, rfl, kdi_mk (es := [(1, dk0, .ref ta5), (2, dk1, .ref ta10), (3, dk2, .ref ta15)]) dl0 rfl r1, r2⟩
  have B : Base T C ng mg :=
    { names := fun g x q => AllIx.all (P := fun g x => mg x = some (.ref (C.gv g)) ∧ g < T.fns.length) (l := ng.fn) ⟨⟨PySem.W.mg_of X G a0, by decide⟩, ⟨PySem.W.mg_of X G a1, by decide⟩, ⟨PySem.W.mg_of X G a2, by decide⟩, ⟨PySem.W.mg_of X G a3, by decide⟩, ⟨PySem.W.mg_of X G a4, by decide⟩, ⟨PySem.W.mg_of X G a5, by decide⟩, ⟨PySem.W.mg_of X G a6, by decide⟩, ⟨PySem.W.mg_of X G a7, by decide⟩, ⟨PySem.W.mg_of X G a8, by decide⟩, ⟨PySem.W.mg_of X G a9, by decide⟩, ⟨PySem.W.mg_of X G a10, by decide⟩, ⟨PySem.W.mg_of X G a11, by decide⟩, ⟨PySem.W.mg_of X G a12, by decide⟩, ⟨PySem.W.mg_of X G a13, by decide⟩, ⟨PySem.W.mg_of X G a14, by decide⟩, ⟨PySem.W.mg_of X G a15, by decide⟩, ⟨PySem.W.mg_of X G a16, by decide⟩, ⟨PySem.W.mg_of X G a17, by decide⟩, ⟨PySem.W.mg_of X G a18, by decide⟩, ⟨PySem.W.mg_of X G a19, by decide⟩, ⟨PySem.W.mg_of X G a20, by decide⟩, ⟨PySem.W.mg_of X G a21, by decide⟩, ⟨PySem.W.mg_of X G a22, by decide⟩, ⟨PySem.W.mg_of X G a23, by decide⟩, ⟨PySem.W.mg_of X G a24, by decide⟩, ⟨PySem.W.mg_of X G a25, by decide⟩, ⟨PySem.W.mg_of X G a26, by decide⟩, ⟨PySem.W.mg_of X G a27, by decide⟩, ⟨PySem.W.mg_of X G a28, by decide⟩, ⟨PySem.W.mg_of X G a29, by decide⟩, ⟨PySem.W.mg_of X G a30, by decide⟩, ⟨PySem.W.mg_of X G a31, by decide⟩, ⟨PySem.W.mg_of X G a32, by decide⟩, ⟨PySem.W.mg_of X G a33, by decide⟩, ⟨PySem.W.mg_of X G a34, by decide⟩, ⟨PySem.W.mg_of X G a35, by decide⟩, ⟨PySem.W.mg_of X G a36, by decide⟩, ⟨PySem.W.mg_of X G a37, by decide⟩, ⟨PySem.W.mg_of X G a38, by decide⟩, ⟨PySem.W.mg_of X G a39, by decide⟩, ⟨PySem.W.mg_of X G a40, by decide⟩, ⟨PySem.W.mg_of X G a41, by decide⟩, ⟨PySem.W.mg_of X G a42, by decide⟩, ⟨PySem.W.mg_of X G a43, by decide⟩, ⟨PySem.W.mg_of X G a44, by decide⟩, ⟨PySem.W.mg_of X G a45, by decide⟩, ⟨PySem.W.mg_of X G a46, by decide⟩, ⟨PySem.W.mg_of X G a47, by decide⟩, ⟨PySem.W.mg_of X G a48, by decide⟩, ⟨PySem.W.mg_of X G a49, by decide⟩, ⟨PySem.W.mg_of X G a50, by decide⟩, ⟨PySem.W.mg_of X G a51, by decide⟩, ⟨PySem.W.mg_of X G a52, by decide⟩, ⟨PySem.W.mg_of X G a53, by decide⟩, ⟨PySem.W.mg_of X G a54, by decide⟩, ⟨PySem.W.mg_of X G a55, by decide⟩, ⟨PySem.W.mg_of X G a56, by decide⟩, ⟨PySem.W.mg_of X G a57, by decide⟩, ⟨PySem.W.mg_of X G a58, by decide⟩, trivial⟩ g x q
      fns := fun g F q => AllIx.all (P := fun g F => ∃ fd, FnB C ng g F fd) (l := T.fns) ⟨⟨_, fb0 (C := C) l0 c0 k0⟩, ⟨_, fb1 (C := C) l1 c1 k1⟩, ⟨_, fb2 (C := C) l2 c2 k2⟩, ⟨_, fb3 (C := C) l3 c3 k3⟩, ⟨_, fb4 (C := C) l4 c4 k4⟩, ⟨_, fb5 (C := C) l5 c5 k5⟩, ⟨_, fb6 (C := C) l6 c6 k6⟩, ⟨_, fb7 (C := C) l7 c7 k7⟩, ⟨_, fb8 (C := C) l8 c8 k8⟩, ⟨_, fb9 (C := C) l9 c9 k9⟩, ⟨_, fb10 (C := C) l10 c10 k10⟩, ⟨_, fb11 (C := C) l11 c11 k11⟩, ⟨_, fb12 (C := C) l12 c12 k12⟩, ⟨_, fb13 (C := C) l13 c13 k13⟩, ⟨_, fb14 (C := C) l14 c14 k14⟩, ⟨_, fb15 (C := C) l15 c15 k15⟩, ⟨_, fb16 (C := C) l16 c16 k16⟩, ⟨_, fb17 (C := C) l17 c17 k17⟩, ⟨_, fb18 (C := C) l18 c18 k18⟩, ⟨_, fb19 (C := C) l19 c19 k19⟩, ⟨_, fb20 (C := C) l20 c20 k20⟩, ⟨_, fb21 (C := C) l21 c21 k21⟩, ⟨_, fb22 (C := C) l22 c22 k22⟩, ⟨_, fb23 (C := C) l23 c23 k23⟩, ⟨_, fb24 (C := C) l24 c24 k24⟩, ⟨_, fb25 (C := C) l25 c25 k25⟩, ⟨_, fb26 (C := C) l26 c26 k26⟩, ⟨_, fb27 (C := C) l27 c27 k27⟩, ⟨_, fb28 (C := C) l28 c28 k28⟩, ⟨_, fb29 (C := C) l29 c29 k29⟩, ⟨_, fb30 (C := C) l30 c30 k30⟩, ⟨_, fb31 (C := C) l31 c31 k31⟩, ⟨_, fb32 (C := C) l32 c32 k32⟩, ⟨_, fb33 (C := C) l33 c33 k33⟩, ⟨_, fb34 (C := C) l34 c34 k34⟩, ⟨_, fb35 (C := C) l35 c35 k35⟩, ⟨_, fb36 (C := C) l36 c36 k36⟩, ⟨_, fb37 (C := C) l37 c37 k37⟩, ⟨_, fb38 (C := C) l38 c38 k38⟩, ⟨_, fb39 (C := C) l39 c39 k39⟩, ⟨_, fb40 (C := C) l40 c40 k40⟩, ⟨_, fb41 (C := C) l41 c41 k41⟩, ⟨_, fb42 (C := C) l42 c42 k42⟩, ⟨_, fb43 (C := C) l43 c43 k43⟩, ⟨_, fb44 (C := C) l44 c44 k44⟩, ⟨_, fb45 (C := C) l45 c45 k45⟩, ⟨_, fb46 (C := C) l46 c46 k46⟩, ⟨_, fb47 (C := C) l47 c47 k47⟩, ⟨_, fb48 (C := C) l48 c48 k48⟩, ⟨_, fb49 (C := C) l49 c49 k49⟩, ⟨_, fb50 (C := C) l50 c50 k50⟩, ⟨_, fb51 (C := C) l51 c51 k51⟩, ⟨_, fb52 (C := C) l52 c52 k52⟩, ⟨_, fb53 (C := C) l53 c53 k53⟩, ⟨_, fb54 (C := C) l54 c54 k54⟩, ⟨_, fb55 (C := C) l55 c55 k55⟩, ⟨_, fb56 (C := C) l56 c56 k56⟩, ⟨_, fb57 (C := C) l57 c57 k57⟩, ⟨_, fb58 (C := C) l58 c58 k58⟩, trivial⟩ g F q
      cons := fun k x d q1 q2 => AllIx.all (P := fun k x => ∀ d, T.cons[k]? = some d → ∃ v u, mg x = some u ∧ RelV v u ∧ ∀ H, Rep C H d v) (l := ng.cn) ⟨fun d q => by cases q; obtain ⟨v, r1, r2⟩ := krep (C := C) (.tup [.int 1, .int 0, .int 0, .int 1]) (.ref ta0) ⟨_, _, _, _, rfl, t0, rfl, rfl, by show 4 ≤ sizeLine; decide, ⟨_, _, rfl, ⟨_, rfl⟩, ⟨_, _, rfl, ⟨_, rfl⟩, ⟨_, _, rfl, ⟨_, rfl⟩, ⟨_, _, rfl, ⟨_, rfl⟩, rfl⟩⟩⟩⟩⟩; exact ⟨v, _, PySem.W.mg_of X G u0, r1, r2⟩, fun d q => by cases q; obtain ⟨v, r1, r2⟩ := krep (C := C) (.tup [.int 0, .int (-1), .int 1, .int 0]) (.ref ta5) ⟨_, _, _, _, rfl, t5, rfl, rfl, by show 4 ≤ sizeLine; decide, ⟨_, _, rfl, ⟨_, rfl⟩, ⟨_, _, rfl, ⟨_, rfl⟩, ⟨_, _, rfl, ⟨_, rfl⟩, ⟨_, _, rfl, ⟨_, rfl⟩, rfl⟩⟩⟩⟩⟩; exact ⟨v, _, PySem.W.mg_of X G u1, r1, r2⟩, fun d q => by cases q; obtain ⟨v, r1, r2⟩ := krep (C := C) (.tup [.int 0, .int (-1), .int 1, .int 1]) (.ref ta10) ⟨_, _, _, _, rfl, t10, rfl, rfl, by show 4 ≤ sizeLine; decide, ⟨_, _, rfl, ⟨_, rfl⟩, ⟨_, _, rfl, ⟨_, rfl⟩, ⟨_, _, rfl, ⟨_, rfl⟩, ⟨_, _, rfl, ⟨_, rfl⟩, rfl⟩⟩⟩⟩⟩; exact ⟨v, _, PySem.W.mg_of X G u2, r1, r2⟩, fun d q => by cases q; obtain ⟨v, r1, r2⟩ := krep (C := C) (.tup [.int (-1), .int (-1), .int 1, .int 0]) (.ref ta15) ⟨_, _, _, _, rfl, t15, rfl, rfl, by show 4 ≤ sizeLine; decide, ⟨_, _, rfl, ⟨_, rfl⟩, ⟨_, _, rfl, ⟨_, rfl⟩, ⟨_, _, rfl, ⟨_, rfl⟩, ⟨_, _, rfl, ⟨_, rfl⟩, rfl⟩⟩⟩⟩⟩; exact ⟨v, _, PySem.W.mg_of X G u3, r1, r2⟩, fun d q => by cases q; obtain ⟨v, r1, r2⟩ := krep (C := C) (.tup [.int 1, .int 0]) (.ref ta20) ⟨_, _, _, _, rfl, t20, rfl, rfl, by show 2 ≤ sizeLine; decide, ⟨_, _, rfl, ⟨_, rfl⟩, ⟨_, _, rfl, ⟨_, rfl⟩, rfl⟩⟩⟩; exact ⟨v, _, PySem.W.mg_of X G u4, r1, r2⟩, fun d q => by cases q; obtain ⟨v, r1, r2⟩ := krep (C := C) (.int 2000) (.int 2000 tk23) ⟨_, rfl⟩; exact ⟨v, _, PySem.W.mg_of X G u5, r1, r2⟩, fun d q => by cases q; obtain ⟨v, r1, r2⟩ := krep (C := C) (.int 20000) (.int 20000 tk24) ⟨_, rfl⟩; exact ⟨v, _, PySem.W.mg_of X G u6, r1, r2⟩, fun d q => by cases q; obtain ⟨v, r1, r2⟩ := krep (C := C) (.int 1000000000) (.int 1000000000 tk25) ⟨_, rfl⟩; exact ⟨v, _, PySem.W.mg_of X G u7, r1, r2⟩, trivial⟩ k x q1 d q2
      dcs := fun k x p q1 q2 => AllIx.all (P := fun k x => ∀ p, T.dcs[k]? = some p → ∃ a, mg x = some (.ref a) ∧ ∀ kk d, dlook p.1 p.2 kk = some d → ∃ i v, kk = .inl i ∧ KDI C.K a i v ∧ ∀ H, Rep C H d v) (l := ng.dn) ⟨D0, trivial⟩ k x q1 p q2
      bi := bi_mk X G ⟨z0, z1, z2, z3, z4, z5, z6, z7, z8, z9, z10, z11, z12, z13, z14, z15, z16, z17, trivial⟩
      gcd := fun q => PySem.W.mg_of X G gg
      en := fun k x q => AllIx.all (P := fun k x => mg x = some (.ref (C.cv k)) ∧ ExK C.K (C.cv k)) (l := ng.en) ⟨⟨PySem.W.mg_of X G ca0, exk_mk PySem.F.excBase_ValueError cx0 ck0 cb0 ct_0 ce0 cf0 ch0 ci0 e5 e6 cm0⟩, ⟨PySem.W.mg_of X G ca1, exk_mk PySem.F.excBase_ValueError cx1 ck1 cb1 ct_1 ce1 cf1 ch1 ci1 e5 e6 cm1⟩, ⟨PySem.W.mg_of X G ca2, exk_mk PySem.F.excBase_ValueError cx2 ck2 cb2 ct_2 ce2 cf2 ch2 ci2 e5 e6 cm2⟩, trivial⟩ k x q
      exm := fun k k2 x q1 q2 => AllIx.all (P := fun k2 x => ∀ k, k < T.nex → PySem.W.exmOne C.K (.ref (C.cv k)) (.ref (C.cv k2)) = some (decide (k = k2))) (l := ng.en) ⟨fun k q => match k, q with | 0, _ => PySem.W.exm_ref cb0 ch0 ct_0 cs0_0 | 1, _ => PySem.W.exm_ref cb0 ch0 ct_0 cs1_0 | 2, _ => PySem.W.exm_ref cb0 ch0 ct_0 cs2_0, fun k q => match k, q with | 0, _ => PySem.W.exm_ref cb1 ch1 ct_1 cs0_1 | 1, _ => PySem.W.exm_ref cb1 ch1 ct_1 cs1_1 | 2, _ => PySem.W.exm_ref cb1 ch1 ct_1 cs2_1, fun k q => match k, q with | 0, _ => PySem.W.exm_ref cb2 ch2 ct_2 cs0_2 | 1, _ => PySem.W.exm_ref cb2 ch2 ct_2 cs1_2 | 2, _ => PySem.W.exm_ref cb2 ch2 ct_2 cs2_2, trivial⟩ k2 x q2 k q1
      isx := fun p q => by simp [ng] at q
      mgx := fun s q => by
        simp only [List.mem_cons, List.not_mem_nil, or_false] at q
        rcases q with rfl | rfl
        · exact PySem.W.mg_none_of X G y0
        · exact PySem.W.mg_none_of X G y1 }
  refine ⟨PySem.W.fnOf "law" "law" (defArgs s58) (defBody s58) (defScope s58) .none kV58 dc58 pm58 an58 cd58 ct58, fun s u => .of_eq rfl, fun base _ _ => ?_⟩
  exact (fn_all B 200 58 f58 _ rfl (fb58 (C := C) l58 c58 k58)).imp fun vs H Q E q => law_sp (C := C) ok q
end PL.K50
end

section
namespace PL.K00
open PL

/-! ## moves -/
abbrev M := Int × Int × Int × Int
def pos (m : M) : Bool := decide (0 < m.2.2.1) || (decide (m.2.2.1 = 0) && decide (0 < m.2.2.2))
def ngM (m : M) : M := (0 - m.1, 0 - m.2.1, 0 - m.2.2.1, 0 - m.2.2.2)
def sg (m : M) : M := if pos m then m else ngM m
def mulM (x y : M) : M := (x.1 * y.1 + x.2.1 * y.2.2.1, x.1 * y.2.1 + x.2.1 * y.2.2.2, x.2.2.1 * y.1 + x.2.2.2 * y.2.2.1, x.2.2.1 * y.2.1 + x.2.2.2 * y.2.2.2)
def adj (m : M) : M := (m.2.2.2, 0 - m.2.1, 0 - m.2.2.1, m.1)
def det (m : M) : Int := m.1 * m.2.2.2 - m.2.1 * m.2.2.1
def one1 : M := (1, 0, 0, 1)
def good (m : M) : Prop := det m = 1 ∧ (0 < m.2.2.1 ∨ (m.2.2.1 = 0 ∧ m.2.2.2 = 1))
theorem mulM_assoc (x y z : M) : mulM (mulM x y) z = mulM x (mulM y z) := by
  obtain ⟨a, b, c, d⟩ := x
  obtain ⟨e, f, g, h⟩ := y
  obtain ⟨i, j, k, l⟩ := z
  simp only [mulM, Prod.mk.injEq]
  grind
theorem det_mul (x y : M) : det (mulM x y) = det x * det y := by
  obtain ⟨a, b, c, d⟩ := x
  obtain ⟨e, f, g, h⟩ := y
  simp only [mulM, det]
  grind
theorem det_ng (x : M) : det (ngM x) = det x := by
  obtain ⟨a, b, c, d⟩ := x
  simp only [ngM, det]
  grind
theorem det_sg (x : M) : det (sg x) = det x := by
  unfold sg; split
  · rfl
  · exact det_ng x
theorem det_adj (x : M) : det (adj x) = det x := by
  obtain ⟨a, b, c, d⟩ := x
  simp only [adj, det]
  grind
theorem mul_ng_l (x y : M) : mulM (ngM x) y = ngM (mulM x y) := by
  obtain ⟨a, b, c, d⟩ := x
  obtain ⟨e, f, g, h⟩ := y
  simp only [mulM, ngM, Prod.mk.injEq]
  grind
theorem mul_ng_r (x y : M) : mulM x (ngM y) = ngM (mulM x y) := by
  obtain ⟨a, b, c, d⟩ := x
  obtain ⟨e, f, g, h⟩ := y
  simp only [mulM, ngM, Prod.mk.injEq]
  grind
theorem ng_ng (x : M) : ngM (ngM x) = x := by
  obtain ⟨a, b, c, d⟩ := x
  simp only [ngM, Prod.mk.injEq]
  omega
theorem pos_ng {x : M} (h : det x = 1) : pos (ngM x) = !pos x := by
  obtain ⟨a, b, c, d⟩ := x
  have h : a * d - b * c = 1 := h
  show (decide (0 < 0 - c) || (decide (0 - c = 0) && decide (0 < 0 - d))) = !(decide (0 < c) || (decide (c = 0) && decide (0 < d)))
  have hz : c ≠ 0 ∨ d ≠ 0 := by
    by_cases hc : c = 0
    · right; intro hd; subst hc hd; simp at h
    · exact .inl hc
  by_cases h1 : 0 < c
  · have e1 : ¬ (0 < 0 - c) := by omega
    have e2 : ¬ (0 - c = 0) := by omega
    rw [decide_eq_true h1, decide_eq_false e1, decide_eq_false e2]; rfl
  · by_cases h2 : c = 0
    · subst h2
      have hd : d ≠ 0 := by omega
      by_cases h3 : 0 < d
      · have e3 : ¬ (0 < 0 - d) := by omega
        rw [decide_eq_true h3, decide_eq_false e3]; rfl
      · have e3 : 0 < 0 - d := by omega
        rw [decide_eq_false h3, decide_eq_true e3]; rfl
    · have e1 : 0 < 0 - c := by omega
      rw [decide_eq_false h1, decide_eq_true e1, decide_eq_false h2]; rfl
theorem sg_ng {x : M} (h : det x = 1) : sg (ngM x) = sg x := by
  unfold sg
  rw [pos_ng h]
  cases pos x <;> simp [ng_ng]
theorem sg_or (x : M) : sg x = x ∨ sg x = ngM x := by
  unfold sg; split <;> simp
theorem sg_mul_l {x y : M} (hx : det x = 1) (hy : det y = 1) : sg (mulM (sg x) y) = sg (mulM x y) := by
  rcases sg_or x with h | h <;> rw [h]
  rw [mul_ng_l, sg_ng (by rw [det_mul, hx, hy]; rfl)]
theorem sg_mul_r {x y : M} (hx : det x = 1) (hy : det y = 1) : sg (mulM x (sg y)) = sg (mulM x y) := by
  rcases sg_or y with h | h <;> rw [h]
  rw [mul_ng_r, sg_ng (by rw [det_mul, hx, hy]; rfl)]
theorem sg_sg {x : M} (h : det x = 1) : sg (sg x) = sg x := by
  rcases sg_or x with k | k <;> rw [k]
  · exact k
  · rw [sg_ng h]; exact k
theorem unit_of {a d : Int} (h : a * d = 1) (hd : 0 < d) : d = 1 ∧ a = 1 := by
  have e := Int.eq_one_of_mul_eq_one_left (by omega) h
  subst e
  simpa using h
theorem good_sg {x : M} (h : det x = 1) : good (sg x) := by
  refine ⟨by rw [det_sg, h], ?_⟩
  obtain ⟨a, b, c, d⟩ := x
  unfold sg
  simp only [det] at h
  by_cases h1 : 0 < c
  · simp [pos, h1]
  · by_cases h2 : c = 0
    · subst h2
      simp only [Int.mul_zero, Int.sub_zero] at h
      by_cases h3 : 0 < d
      · obtain ⟨e, _⟩ := unit_of h h3
        simp [pos, e]
      · have hd : 0 < -d := by
          have : d ≠ 0 := by intro e; subst e; simp at h
          omega
        have h' : (-a) * (-d) = 1 := by rw [Int.neg_mul_neg]; exact h
        obtain ⟨e, _⟩ := unit_of h' hd
        simp [pos, h3, ngM]
        omega
    · have : ¬ 0 < c := h1
      simp [pos, h1, h2, ngM]
      omega
theorem sg_good {x : M} (h : good x) : sg x = x := by
  obtain ⟨a, b, c, d⟩ := x
  obtain ⟨_, h⟩ := h
  have : pos (a, b, c, d) = true := by
    simp only [pos]
    rcases h with h | ⟨h1, h2⟩
    · have h : 0 < c := h; simp [h]
    · have h1 : c = 0 := h1; have h2 : d = 1 := h2; subst h1 h2; rfl
  unfold sg; rw [if_pos this]
def P (x y : M) : M := sg (mulM x y)
theorem det_P {x y : M} (hx : det x = 1) (hy : det y = 1) : det (P x y) = 1 := by unfold P; rw [det_sg, det_mul, hx, hy]; rfl
theorem good_P {x y : M} (hx : det x = 1) (hy : det y = 1) : good (P x y) := good_sg (by rw [det_mul, hx, hy]; rfl)
theorem P_assoc {x y z : M} (hx : det x = 1) (hy : det y = 1) (hz : det z = 1) : P (P x y) z = P x (P y z) := by
  unfold P
  rw [sg_mul_l (by rw [det_mul, hx, hy]; rfl) hz, sg_mul_r hx (by rw [det_mul, hy, hz]; rfl), mulM_assoc]
theorem one_mul (x : M) : mulM one1 x = x := by
  obtain ⟨a, b, c, d⟩ := x
  simp [mulM, one1]
theorem P_one {x : M} (h : good x) : P one1 x = x := by unfold P; rw [one_mul]; exact sg_good h
theorem det_one : det one1 = 1 := by decide
/-! sizes -/
def BdM (b : Nat) (m : M) : Prop := Bd b m.1 ∧ Bd b m.2.1 ∧ Bd b m.2.2.1 ∧ Bd b m.2.2.2
theorem BdM.mono {a b : Nat} {m : M} (h : BdM a m) (k : a ≤ b) : BdM b m := ⟨h.1.mono k, h.2.1.mono k, h.2.2.1.mono k, h.2.2.2.mono k⟩
theorem BdM.ng {a : Nat} {m : M} (h : BdM a m) : BdM a (ngM m) := by
  obtain ⟨h1, h2, h3, h4⟩ := h
  have z : ∀ {i : Int}, Bd a i → Bd a (0 - i) := fun {i} h => by rw [Int.zero_sub]; exact h.neg
  exact ⟨z h1, z h2, z h3, z h4⟩
theorem BdM.sg {a : Nat} {m : M} (h : BdM a m) : BdM a (K00.sg m) := by
  rcases sg_or m with k | k <;> rw [k]
  · exact h
  · exact h.ng
theorem BdM.mul {a b : Nat} {x y : M} (h : BdM a x) (k : BdM b y) : BdM (a + b + 1) (mulM x y) := by
  obtain ⟨h1, h2, h3, h4⟩ := h
  obtain ⟨k1, k2, k3, k4⟩ := k
  have z : ∀ {i j p q : Int}, Bd a i → Bd b j → Bd a p → Bd b q → Bd (a + b + 1) (i * j + p * q) := fun h k h' k' => ((h.mul k).add (h'.mul k')).mono (by omega)
  exact ⟨z h1 k1 h2 k3, z h1 k2 h2 k4, z h3 k1 h4 k3, z h3 k2 h4 k4⟩
theorem BdM.P {a b : Nat} {x y : M} (h : BdM a x) (k : BdM b y) : BdM (a + b + 1) (K00.P x y) := (h.mul k).sg
theorem BdM.adj {a : Nat} {m : M} (h : BdM a m) : BdM a (K00.adj m) := by
  obtain ⟨h1, h2, h3, h4⟩ := h
  have z : ∀ {i : Int}, Bd a i → Bd a (0 - i) := fun {i} h => by rw [Int.zero_sub]; exact h.neg
  exact ⟨h4, z h2, z h3, h1⟩
end PL.K00
end

section
namespace PL.K50
open PL PL.K00 PySem PySem.Spec L2

def md (m : M) : D := .tup [.int m.1, .int m.2.1, .int m.2.2.1, .int m.2.2.2]
def ml (m : M) : D := .lst [.int m.1, .int m.2.1, .int m.2.2.1, .int m.2.2.2]
theorem md_one : md one1 = .tup [.int 1, .int 0, .int 0, .int 1] := rfl
theorem sp8 (n : Nat) (m : M) : callF T (n+1) 8 [.val (md m)] = .ok (.v (md (sg m))) [.val (md m)] := by
  rw [x_callF T n 8 _ (F := f8) rfl rfl]
  have hp : pos m = (decide (0 < m.2.2.1) || (decide (m.2.2.1 = 0) && decide (0 < m.2.2.2))) := rfl
  unfold sg
  by_cases h1 : 0 < m.2.2.1
  · simp [f8, md, h1, hp]
  · by_cases h2 : m.2.2.1 = 0
    · by_cases h3 : 0 < m.2.2.2
      · simp [f8, md, h2, h3, hp]
      · simp [f8, md, h2, h3, hp, ngM]
    · simp [f8, md, h1, h2, hp, ngM]
theorem sp9 (n : Nat) (x y : M) {a b : Nat} (hx : BdM a x) (hy : BdM b y) (hb : a + b ≤ 900000) : callF T (n+2) 9 [.val (md x), .val (md y)] = .ok (.v (md (P x y))) [.val (md x), .val (md y)] := by
  rw [x_callF T (n+1) 9 _ (F := f9) rfl rfl]
  obtain ⟨x1, x2, x3, x4⟩ := hx
  obtain ⟨y1, y2, y3, y4⟩ := hy
  have ok : ∀ {i j : Int}, Bd a i → Bd b j → mulOk i j = true := fun h k => h.mulOk k hb
  have e7 := sp8 n (mulM x y)
  simp [mulM, md] at e7
  simp [f9, md, ok x1 y1, ok x1 y2, ok x2 y3, ok x2 y4, ok x3 y1, ok x3 y2, ok x4 y3, ok x4 y4, mulM, e7, P]
theorem sp10 (n : Nat) (x : M) : callF T (n+2) 10 [.val (md x)] = .ok (.v (md (sg (adj x)))) [.val (md x)] := by
  rw [x_callF T (n+1) 10 _ (F := f10) rfl rfl]
  have e7 := sp8 n (adj x)
  simp [adj, md] at e7
  simp [f10, md, e7, adj]
theorem sp0i (n : Nat) (i : Int) : callF T (n+1) 0 [.val (.int i)] = .ok (.v (.bl true)) [.val (.int i)] := by
  rw [x_callF T n 0 _ (F := f0) rfl rfl]
  simp [f0, tyOk, isTy]
theorem sp2 (n : Nat) (m : M) : callF T (n+1) 2 [.val (md m), .val (.int 4)] = .ok (.v (.bl true)) [.val (md m), .val (.int 4)] := by
  rw [x_callF T n 2 _ (F := f2) rfl rfl]
  simp [f2, md, tyOk, isTy]
theorem sp3 (n : Nat) (m : M) : callF T (n+2) 3 [.val (md m), .val (.int 4)] = .ok (.v (.bl true)) [.val (md m), .val (.int 4)] := by
  rw [x_callF T (n+1) 3 _ (F := f3) rfl rfl]
  have e2 := sp2 n m
  simp [md] at e2
  simp [f3, md, e2, sp0i]
theorem sp4i (n : Nat) (i : Int) : callF T (n+1) 4 [.val (.int i)] = .ok (.v (.int i)) [.val (.int i)] := by
  rw [x_callF T n 4 _ (F := f4) rfl rfl]
  simp [f4, tyOk, isTy]
theorem sp4 (n : Nat) (m : M) : callF T (n+2) 4 [.val (md m)] = .ok (.v (md m)) [.val (md m)] := by
  rw [x_callF T (n+1) 4 _ (F := f4) rfl rfl]
  simp [f4, md, tyOk, isTy, sp4i]
theorem sp4l (n : Nat) (m : M) : callF T (n+2) 4 [.val (ml m)] = .ok (.v (md m)) [.val (ml m)] := by
  rw [x_callF T (n+1) 4 _ (F := f4) rfl rfl]
  simp [f4, md, ml, tyOk, isTy, sp4i]
theorem sp4ms (n : Nat) (x y z : M) : callF T (n+3) 4 [.val (.lst [ml x, md y, md z])] = .ok (.v (.tup [md x, md y, md z])) [.val (.lst [ml x, md y, md z])] := by
  rw [x_callF T (n+2) 4 _ (F := f4) rfl rfl]
  simp [f4, tyOk, isTy, sp4, sp4l]
def goodB (m : M) : Bool := decide (det m = 1) && (decide (0 < m.2.2.1) || (decide (m.2.2.1 = 0) && decide (m.2.2.2 = 1)))
theorem goodB_of {m : M} (h : good m) : goodB m = true := by
  unfold goodB
  obtain ⟨h1, h2 | ⟨h2, h3⟩⟩ := h
  · simp [h1, h2]
  · simp [h1, h2, h3]
theorem sp6 (n : Nat) (m : M) {a : Nat} (h : BdM a m) (ha : a ≤ 400000) : callF T (n+3) 6 [.val (md m)] = .ok (.v (.bl (goodB m))) [.val (md m)] := by
  rw [x_callF T (n+2) 6 _ (F := f6) rfl rfl]
  obtain ⟨x1, x2, x3, x4⟩ := h
  have ok : ∀ {i j : Int}, Bd a i → Bd a j → mulOk i j = true := fun h k => h.mulOk k (by omega)
  have e3 := sp3 n m
  simp [md] at e3
  have hg : goodB m = (decide (m.1 * m.2.2.2 - m.2.1 * m.2.2.1 = 1) && (decide (0 < m.2.2.1) || (decide (m.2.2.1 = 0) && decide (m.2.2.2 = 1)))) := rfl
  by_cases hd : m.1 * m.2.2.2 - m.2.1 * m.2.2.1 = 1
  · by_cases h1 : 0 < m.2.2.1
    · simp [f6, md, e3, ok x1 x4, ok x2 x3, hd, h1, hg]
    · by_cases h2 : m.2.2.1 = 0
      · obtain ⟨p, q, r, s⟩ := m
        have h2 : r = 0 := h2
        subst h2
        have hd : p * s - q * 0 = 1 := hd
        have e1 := ok x1 x4
        have e2 := ok x2 x3
        simp at e1 e2
        simp [md] at e3
        simp at hd hg
        simp [f6, md, e3, e1, e2, hd, hg]
      · simp [f6, md, e3, ok x1 x4, ok x2 x3, hd, h1, h2, hg]
  · simp [f6, md, e3, ok x1 x4, ok x2 x3, hd, hg]
theorem sp7 (n : Nat) (m : M) {a : Nat} (h : BdM a m) (ha : a ≤ 400000) (g : good m) : callF T (n+4) 7 [.val (md m)] = .ok (.v (md m)) [.val (md m)] := by
  rw [x_callF T (n+3) 7 _ (F := f7) rfl rfl]
  simp [f7, sp4, sp6 n m h ha, goodB_of g]
theorem sp7l (n : Nat) (m : M) {a : Nat} (h : BdM a m) (ha : a ≤ 400000) (g : good m) : callF T (n+4) 7 [.val (ml m)] = .ok (.v (md m)) [.val (ml m)] := by
  rw [x_callF T (n+3) 7 _ (F := f7) rfl rfl]
  simp [f7, sp4l, sp6 n m h ha, goodB_of g]
def absI (i : Int) : Int := if i < 0 then -i else i
theorem sp12 (n : Nat) (m : M) : callF T (n+1) 12 [.val (md m)] = .ok (.v (.int (absI (m.1 + m.2.2.2)))) [.val (md m)] := by
  rw [x_callF T n 12 _ (F := f12) rfl rfl]
  simp [f12, md, absI]
theorem eqD_md (x y : M) : eqD (md x) (md y) = some (decide (x = y)) := by
  have := eqD_ints [x.1, x.2.1, x.2.2.1, x.2.2.2] [y.1, y.2.1, y.2.2.1, y.2.2.2]
  show eqD (.tup (List.map D.int [x.1, x.2.1, x.2.2.1, x.2.2.2])) (.tup (List.map D.int [y.1, y.2.1, y.2.2.1, y.2.2.2])) = _
  rw [this]
  congr 1
  obtain ⟨a, b, c, d⟩ := x
  obtain ⟨e, f, g, h⟩ := y
  simp
def kindS (m : M) : Str := if m = one1 then "still" else if absI (m.1 + m.2.2.2) = 0 then "two" else if absI (m.1 + m.2.2.2) = 1 then "three" else if absI (m.1 + m.2.2.2) = 2 then "step" else "far"
theorem sp13 (n : Nat) (m : M) : callF T (n+2) 13 [.val (md m)] = .ok (.v (.str (kindS m))) [.val (md m)] := by
  rw [x_callF T (n+1) 13 _ (F := f13) rfl rfl]
  have hc : T.cons[0]? = some (md one1) := rfl
  by_cases h : m = one1
  · simp [f13, hc, eqD_md, h, kindS]
  · simp [f13, hc, eqD_md, h, kindS, sp12, keyOf]
    generalize absI (m.1 + m.2.2.2) = t
    by_cases h0 : t = 0
    · subst h0; simp [dlook]
    · by_cases h1 : t = 1
      · subst h1; simp [dlook]
      · by_cases h2 : t = 2
        · subst h2; simp [dlook]
        · have e0 : ¬ (0 = t) := fun h => h0 h.symm
          have e1 : ¬ (1 = t) := fun h => h1 h.symm
          have e2 : ¬ (2 = t) := fun h => h2 h.symm
          simp [dlook, h0, h1, h2, e0, e1, e2]
theorem sp14 (n : Nat) (x y : M) {a : Nat} (hx : BdM a x) (hy : BdM a y) (ha : a ≤ 400000) (gx : good x) (gy : good y) : callF T (n+5) 14 [.val (ml x), .val (md y)] = .ok (.v (md (P x y))) [.val (ml x), .val (md y)] := by
  rw [x_callF T (n+4) 14 _ (F := f14) rfl rfl]
  simp [f14, sp7l n x hx ha gx, sp7 n y hy ha gy, sp9 (n+2) x y hx hy (by omega)]
theorem sp14' (n : Nat) (x y : M) {a : Nat} (hx : BdM a x) (hy : BdM a y) (ha : a ≤ 400000) (gx : good x) (gy : good y) : callF T (n+5) 14 [.val (md x), .val (md y)] = .ok (.v (md (P x y))) [.val (md x), .val (md y)] := by
  rw [x_callF T (n+4) 14 _ (F := f14) rfl rfl]
  simp [f14, sp7 n x hx ha gx, sp7 n y hy ha gy, sp9 (n+2) x y hx hy (by omega)]
theorem sp15 (n : Nat) (x : M) {a : Nat} (hx : BdM a x) (ha : a ≤ 400000) (gx : good x) : callF T (n+5) 15 [.val (md x)] = .ok (.v (md (sg (adj x)))) [.val (md x)] := by
  rw [x_callF T (n+4) 15 _ (F := f15) rfl rfl]
  simp [f15, sp7 n x hx ha gx, sp10]
theorem sp2l (n : Nat) (m : M) : callF T (n+1) 2 [.val (ml m), .val (.int 4)] = .ok (.v (.bl false)) [.val (ml m), .val (.int 4)] := by
  rw [x_callF T n 2 _ (F := f2) rfl rfl]
  simp [f2, ml, tyOk, isTy]
theorem sp3l (n : Nat) (m : M) : callF T (n+2) 3 [.val (ml m), .val (.int 4)] = .ok (.v (.bl false)) [.val (ml m), .val (.int 4)] := by
  rw [x_callF T (n+1) 3 _ (F := f3) rfl rfl]
  simp [f3, sp2l]
theorem sp6l (n : Nat) (m : M) : callF T (n+3) 6 [.val (ml m)] = .ok (.v (.bl false)) [.val (ml m)] := by
  rw [x_callF T (n+2) 6 _ (F := f6) rfl rfl]
  simp [f6, sp3l]
theorem sp17 (n : Nat) (x : M) {a : Nat} (hx : BdM a x) (ha : a ≤ 400000) (gx : good x) : callF T (n+5) 17 [.val (md x)] = .ok (.v (.str (kindS x))) [.val (md x)] := by
  rw [x_callF T (n+4) 17 _ (F := f17) rfl rfl]
  simp [f17, sp7 n x hx ha gx, sp13]
theorem sp18 (n : Nat) (x y : M) {a : Nat} (hx : BdM a x) (hy : BdM a y) (ha : a ≤ 200000) (gx : good x) (gy : good y) : callF T (n+5) 18 [.val (md x), .val (md y)] = .ok (.v (md (P (P (sg (adj y)) x) y))) [.val (md x), .val (md y)] := by
  rw [x_callF T (n+4) 18 _ (F := f18) rfl rfl]
  have b1 : BdM a (sg (adj y)) := hy.adj.sg
  simp [f18, sp7 n x hx (by omega) gx, sp7 n y hy (by omega) gy, sp10, sp9 (n+2) _ _ b1 hx (by omega), sp9 (n+2) _ _ (b1.P hx) hy (by omega)]
theorem sp11 (n : Nat) (k : Int) : callF T (n+1) 11 [.val (.int k)] = .ok (.v (md (1, k, 0, 1))) [.val (.int k)] := by
  rw [x_callF T n 11 _ (F := f11) rfl rfl]
  simp [f11, md]
theorem sp19 (n : Nat) (k : Int) : callF T (n+2) 19 [.val (.int k)] = .ok (.v (md (1, k, 0, 1))) [.val (.int k)] := by
  rw [x_callF T (n+1) 19 _ (F := f19) rfl rfl]
  simp [f19, sp0i, sp11]
def oftS (k : Str) : D := (dlook ([Sum.inr "still", Sum.inr "two", Sum.inr "three"] : List Key) [.int 1, .int 2, .int 3] (Sum.inr k)).getD .non
theorem sp16 (n : Nat) (x y z : M) {a : Nat} (hx : BdM a x) (hy : BdM a y) (hz : BdM a z) (ha : a ≤ 100000) (gx : good x) (gy : good y) (gz : good z) : callF T (n+4) 16 [.val (.lst [ml x, md y, md z])] = .ok (.v (md (P (P (P one1 x) y) z))) [.val (.lst [ml x, md y, md z])] := by
  rw [x_callF T (n+3) 16 _ (F := f16) rfl rfl]
  have b1 : BdM 1 one1 := by unfold BdM Bd; decide
  have hc : T.cons[0]? = some (md one1) := rfl
  simp [f16, sp4ms, tyOk, isTy, sp6 n x hx (by omega), sp6 n y hy (by omega), sp6 n z hz (by omega), goodB_of gx, goodB_of gy, goodB_of gz, hc,
    sp9 (n+1) _ _ b1 hx (by omega), sp9 (n+1) _ _ (b1.P hx) hy (by omega), sp9 (n+1) _ _ ((b1.P hx).P hy) hz (by omega)]
theorem sp1 (n : Nat) (k : Int) (h1 : -1000 ≤ k) (h2 : k ≤ 1000) : callF T (n+2) 1 [.val (.int k), .val (.int (-1000)), .val (.int 1000)] = .ok (.v (.bl true)) [.val (.int k), .val (.int (-1000)), .val (.int 1000)] := by
  rw [x_callF T (n+1) 1 _ (F := f1) rfl rfl]
  simp [f1, sp0i, h1, h2]
/-! ### powers -/
theorem dv2 : divOk 2 = true := by decide
theorem good_one : good one1 := ⟨by decide, .inr ⟨rfl, rfl⟩⟩
theorem bd_one : BdM 1 one1 := by unfold BdM Bd; decide
theorem rngD_one (n : Int) (h1 : -(2 ^ 62) ≤ n) (h2 : n < 2 ^ 62) : rngD [.int n] = some ((List.range n.toNat).map fun (k : Nat) => .int (0 + (k : Int))) := by
  have e : (decide (-(2 ^ 62) ≤ n) && decide (n < 2 ^ 62)) = true := by rw [decide_eq_true h1, decide_eq_true h2]; rfl
  show (if (decide (-(2 ^ 62) ≤ n) && decide (n < 2 ^ 62)) = true then _ else _) = _
  rw [if_pos e]
def tinD (x y z : Int) : D := .lst [.int x, .int y, .int z]
theorem mulOk_r {i j : Int} (h : j.natAbs < 2 ^ 64) : mulOk i j = true := by
  unfold mulOk
  rw [decide_eq_true h, Bool.or_true, Bool.true_or]
theorem mulOk_l {i j : Int} (h : i.natAbs < 2 ^ 64) : mulOk i j = true := by
  unfold mulOk
  rw [decide_eq_true h, Bool.true_or, Bool.true_or]
theorem sp53 (n : Nat) (x y z b : Int) (hb : 0 < b) (hb' : b ≤ 4000) (hz0 : 0 ≤ z) (hz : z ≤ 1000) :
    ∃ r x' z', 0 ≤ r ∧ r < b ∧ 0 ≤ z' ∧ z' ≤ z + 1 ∧ callF T (n+1) 53 [.bor (tinD x y z), .val (.int b)] = .ok (.v (.int r)) [.bor (tinD x' y z'), .val (.int b)] := by
  rw [x_callF T n 53 _ (F := f53) rfl rfl]
  have dv : divOk b = true := by
    have : b.natAbs.log2 < 9000 := Nat.lt_of_lt_of_le ((Nat.log2_lt (by omega)).mpr (show b.natAbs < 2 ^ 12 by omega)) (by decide)
    unfold divOk
    rw [decide_eq_true hb, decide_eq_true this]; rfl
  by_cases h : 0 < x
  · refine ⟨x % b, x / b, z, Int.emod_nonneg _ (by omega), Int.emod_lt_of_pos _ hb, hz0, by omega, ?_⟩
    simp [f53, h, tinD, hb, dv, lstAt, mineD, sixE, upS, intD, ixN]
  · have d1 : divOk 1000003 = true := by decide +kernel
    have d2 : divOk 64 = true := by decide +kernel
    have m1 : mulOk 48271 (z + 1) = true := mulOk_l (by decide)
    have m2 : mulOk (y + 48271 * (z + 1)) (39373 + (z + 1)) = true := mulOk_r (by omega)
    generalize ho : (y + 48271 * (z + 1)) * (39373 + (z + 1)) % 2147483647 = o
    have o1 : 0 ≤ o := by rw [← ho]; exact Int.emod_nonneg _ (by decide)
    have m3 : mulOk (o + (z + 1) + y / 1000003) (o % 40009 + 7) = true := mulOk_r (by omega)
    generalize ht : (o + (z + 1) + y / 1000003) * (o % 40009 + 7) % 2147483629 = t
    have m4 : mulOk t 48271 = true := mulOk_r (by decide)
    refine ⟨((t * 48271 + o) % 2147483587 / 64) % b, x, z + 1, Int.emod_nonneg _ (by omega), Int.emod_lt_of_pos _ hb, by omega, by omega, ?_⟩
    simp [f53, h, tinD, hb, dv, lstAt, mineD, sixE, upS, intD, ixN, m1, m2, ho, d1, d2, m3, ht, m4]
theorem sp52 (n : Nat) (c : Int) : ∃ x y, callF T (n+1) 52 [.val (.lst [.int c]), .val (.int 0)] = .ok (.t (tinD x y 0)) [.val (.lst [.int c]), .val (.int 0)] := by
  rw [x_callF T n 52 _ (F := f52) rfl rfl]
  have p1 : powOk 10 18 = true := by decide +kernel
  have m1 : ∀ i : Int, mulOk i 1 = true ∧ mulOk i 0 = true := fun i => ⟨mulOk_r (by decide), mulOk_r (by decide)⟩
  have m2 : mulOk 39373 0 = true := by decide +kernel
  have e1 : (10 : Int) ^ 18 = 1000000000000000000 := by decide +kernel
  generalize ha : (if c < 0 then -c else c) = a
  by_cases h : 1000000000000000000 ≤ a
  · refine ⟨a * 1, c % 2305843009213693951 + 39373 * 0 + 9284050, ?_⟩
    simp [f52, p1, m1, m2, tinD, ha, e1, h]
  · refine ⟨a * 0, c % 2305843009213693951 + 39373 * 0 + 9284050, ?_⟩
    simp [f52, p1, m1, m2, tinD, ha, e1, h]
def body54 : List S := [.set 5 (.bin .mod (.bi .int1 [.var 3]) (.var 1)), .six 2 (.var 5) (.bin .add (.ix (.var 2) (.var 5)) (.bin .mul (.var 4) (.bin .add (.var 3) (.int 2))))]
theorem lp54 (n : Nat) (s0 : SV) : ∀ (ds : List D) (c : Int) (s3 s4 s5 : SV), Fre s3 → Fre s4 → Fre s5 → (∀ d ∈ ds, ∃ k v : Int, d = .tup [.int k, .int v] ∧ 0 ≤ k ∧ k ≤ 100) →
    ∃ c' s3' s4' s5', forL (fun d e => opt (asg (.tp [3, 4]) d e) fun e1 => exB T (callF T n) body54 e1) ds [s0, .val (.int 1), .own (.lst [.int c]), s3, s4, s5] = .ok .next [s0, .val (.int 1), .own (.lst [.int c']), s3', s4', s5']
  | [], c, s3, s4, s5, _, _, _, _ => ⟨c, s3, s4, s5, rfl⟩
  | d :: ds, c, s3, s4, s5, h3, h4, h5, hd => by
    obtain ⟨k, v, rfl, k0, k1⟩ := hd _ (List.mem_cons_self ..)
    have m1 : mulOk v (k + 2) = true := mulOk_r (by omega)
    have e1 : k % 1 = 0 := Int.emod_one k
    obtain ⟨c', s3', s4', s5', h⟩ := lp54 n s0 ds (c + v * (k + 2)) (.val (.int k)) (.val (.int v)) (.val (.int 0)) (.val _) (.val _) (.val _) (fun d hm => hd d (List.mem_cons_of_mem _ hm))
    refine ⟨c', s3', s4', s5', ?_⟩
    rw [forL_cons]
    have : (opt (asg (.tp [3, 4]) (.tup [.int k, .int v]) [s0, .val (.int 1), .own (.lst [.int c]), s3, s4, s5]) fun e1 => exB T (callF T n) body54 e1) = .ok .next [s0, .val (.int 1), .own (.lst [.int (c + v * (k + 2))]), .val (.int k), .val (.int v), .val (.int 0)] := by
      have q3 := h3.ok
      have q4 := h4.ok
      have q5 := h5.ok
      rcases h3 with rfl | ⟨_, rfl⟩ | ⟨_, rfl⟩ <;> rcases h4 with rfl | ⟨_, rfl⟩ | ⟨_, rfl⟩ <;> rcases h5 with rfl | ⟨_, rfl⟩ | ⟨_, rfl⟩ <;> simp [body54, asg, setVals, e1, m1, lstAt, mineD, sixE, upS, intD, ixN]
    rw [this]
    simp only [bd_ok]
    exact h
theorem enum_ints (l : List Int) (h : l.length ≤ 100) : ∀ d ∈ enumD (l.map D.int), ∃ k v : Int, d = .tup [.int k, .int v] ∧ 0 ≤ k ∧ k ≤ 100 := by
  intro d hd
  obtain ⟨i, hi, rfl⟩ := List.getElem_of_mem hd
  unfold enumD at hi ⊢
  simp only [List.length_zipWith, List.length_range, List.length_map, Nat.min_self] at hi
  rw [List.getElem_zipWith]
  simp
  omega
theorem sp54 (n : Nat) (ns : List Int) (hn : ns.length ≤ 63) : ∃ c, callF T (n+1) 54 [.val (.scr ns), .val (.int 1)] = .ok (.t (.lst [.int c])) [.val (.scr ns), .val (.int 1)] := by
  rw [x_callF T n 54 _ (F := f54) rfl rfl]
  show ∃ c, fin [.val (.scr ns), .val (.int 1)] (exB T (callF T n) [.set 2 (.andor false [.bi .list [.sl (.var 0) none (some (.var 1))], .lst [.int 0]]), .for_ (.tp [3, 4]) (.enum (.sl (.var 0) (some (.var 1)) (some (.int 63)))) body54, .ret (.var 2)] [.val (.scr ns), .val (.int 1), .un, .un, .un, .un]) = _
  have h1 : ∃ c0, exS T (callF T n) (.set 2 (.andor false [.bi .list [.sl (.var 0) none (some (.var 1))], .lst [.int 0]])) [.val (.scr ns), .val (.int 1), .un, .un, .un, .un] = .ok .next [.val (.scr ns), .val (.int 1), .own (.lst [.int c0]), .un, .un, .un] := by
    cases ns with
    | nil => exact ⟨0, by simp [sliceD, cutD, HT.sIx, intD, biF, fzR, setR]⟩
    | cons a r => exact ⟨a, by simp [sliceD, cutD, HT.sIx, intD, biF, fzR, setR]⟩
  obtain ⟨c0, h1⟩ := h1
  have h2 : ∃ l : List Int, l.length ≤ 63 ∧ evI T (callF T n) (.enum (.sl (.var 0) (some (.var 1)) (some (.int 63)))) [.val (.scr ns), .val (.int 1), .own (.lst [.int c0]), .un, .un, .un] = .ok (enumD (l.map D.int)) [.val (.scr ns), .val (.int 1), .own (.lst [.int c0]), .un, .un, .un] := by
    refine ⟨cutD ns (some 1) (some 63), by unfold cutD; simp; omega, ?_⟩
    simp [sliceD, seqL, intD, frz]
  obtain ⟨l, hl, h2⟩ := h2
  obtain ⟨c', s3', s4', s5', h3⟩ := lp54 n (.val (.scr ns)) (enumD (l.map D.int)) c0 .un .un .un .un .un .un (enum_ints l (by omega))
  refine ⟨c', ?_⟩
  rw [x_b1, h1]
  simp only [bd_ok]
  rw [x_b1, x_for, h2]
  simp only [bd_ok]
  rw [h3]
  simp [retR, outs]
@[simp] theorem intD_int (i : Int) : intD (.int i) = some i := rfl
@[simp] theorem seqD_lst (xs : List D) : seqD (.lst xs) = some xs := rfl
/-- entries of a length -/
def Le (j : Nat) (m : M) : Prop := m.1.natAbs ≤ 2 ^ j ∧ m.2.1.natAbs ≤ 2 ^ j ∧ m.2.2.1.natAbs ≤ 2 ^ j ∧ m.2.2.2.natAbs ≤ 2 ^ j
theorem Le.bd {j : Nat} {m : M} (h : Le j m) : BdM (j + 1) m := by
  have : 2 ^ j < 2 ^ (j + 1) := Nat.pow_lt_pow_right (by decide) (by omega)
  exact ⟨Nat.lt_of_le_of_lt h.1 this, Nat.lt_of_le_of_lt h.2.1 this, Nat.lt_of_le_of_lt h.2.2.1 this, Nat.lt_of_le_of_lt h.2.2.2 this⟩
theorem Le.mono {i j : Nat} {m : M} (h : Le i m) (k : i ≤ j) : Le j m := by
  have : 2 ^ i ≤ 2 ^ j := Nat.pow_le_pow_right (by decide) k
  exact ⟨Nat.le_trans h.1 this, Nat.le_trans h.2.1 this, Nat.le_trans h.2.2.1 this, Nat.le_trans h.2.2.2 this⟩
theorem Le.sg {j : Nat} {m : M} (h : Le j m) : Le j (PL.K00.sg m) := by
  rcases sg_or m with e | e <;> rw [e]
  · exact h
  · simpa [Le, ngM] using h
def lt (r : Int) : M := if r = 0 then (0, -1, 1, 0) else if r = 1 then (0, -1, 1, 1) else (-1, -1, 1, 0)
theorem Le.letter {j : Nat} {m : M} (h : Le j m) (r : Int) : Le (j + 1) (P m (lt r)) := by
  unfold P
  apply Le.sg
  obtain ⟨h1, h2, h3, h4⟩ := h
  have e : 2 ^ (j + 1) = 2 ^ j + 2 ^ j := by rw [Nat.pow_succ]; omega
  generalize 2 ^ j = q at *
  unfold lt
  split <;> (try split) <;> simp [Le, mulM] <;> omega
theorem det_lt (r : Int) : det (lt r) = 1 := by
  unfold lt
  split <;> (try split) <;> decide
theorem bd_lt (r : Int) : BdM 1 (lt r) := by
  unfold lt
  split <;> (try split) <;> (unfold BdM Bd; decide)
def body55 : List S := [.par [0, 1] [.var 1, .bin .mod (.var 0) (.var 1)]]
theorem lp55 (n : Nat) : ∀ (f a b : Nat), b < f → whL (fun e => toB (evE T (callF T n) true (.cmp .Gt (.var 1) (.int 0)) e)) (fun e => exB T (callF T n) body55 e) f [.val (.int (a : Int)), .val (.int (b : Int))] = .ok .next [.val (.int (Nat.gcd a b : Nat)), .val (.int 0)]
  | 0, a, b, h => absurd h (Nat.not_lt_zero b)
  | f + 1, a, b, h => by
    by_cases hb : b = 0
    · subst hb
      have := wh_end (T := T) (cf := callF T n) (c := .cmp .Gt (.var 1) (.int 0)) (b := body55) (e := [.val (.int (a : Int)), .val (.int ((0 : Nat) : Int))]) (e1 := [.val (.int (a : Int)), .val (.int ((0 : Nat) : Int))]) (n := f) (by simp [toB])
      rw [this, Nat.gcd_zero_right]
      rfl
    · have hp : 0 < b := by omega
      have hp' : (0 : Int) < (b : Int) := by omega
      have := wh_step (T := T) (cf := callF T n) (c := .cmp .Gt (.var 1) (.int 0)) (b := body55) (e := [.val (.int (a : Int)), .val (.int (b : Int))]) (e1 := [.val (.int (a : Int)), .val (.int (b : Int))]) (e2 := [.val (.int (b : Int)), .val (.int ((a % b : Nat) : Int))]) (n := f) (by simp [toB, hp]) (by simp [body55, hp, hp', frzs, frz, setVals])
      rw [this, lp55 n f b (a % b) (by have := Nat.mod_lt a hp; omega), Nat.gcd_comm b, ← Nat.gcd_rec, Nat.gcd_comm b a]
theorem sp55 (n : Nat) (i j : Int) (hj : j.natAbs < 99999) : callF T (n+1) 55 [.val (.int i), .val (.int j)] = .ok (.v (.int (Nat.gcd i.natAbs j.natAbs : Nat))) [.val (.int i), .val (.int j)] := by
  rw [x_callF T n 55 _ (F := f55) rfl rfl]
  have h := lp55 n 100000 i.natAbs j.natAbs (by omega)
  show fin [.val (.int i), .val (.int j)] (exB T (callF T n) [.par [0, 1] [.bi .abs [.var 0], .bi .abs [.var 1]], .wh (.cmp .Gt (.var 1) (.int 0)) body55, .ret (.var 0)] [.val (.int i), .val (.int j)]) = _
  have ab : ∀ i : Int, (if i < 0 then -i else i) = (i.natAbs : Int) := fun i => by split <;> omega
  have h1 : exS T (callF T n) (.par [0, 1] [.bi .abs [.var 0], .bi .abs [.var 1]]) [.val (.int i), .val (.int j)] = .ok .next [.val (.int i.natAbs), .val (.int j.natAbs)] := by
    simp [frzs, frz, setVals, ab]
  rw [x_b1, h1]
  simp only [bd_ok]
  rw [x_b1, x_wh]
  rw [show T.wf = 100000 from rfl, h]
  simp [retR, outs]
@[simp] theorem nex_T : T.nex = 3 := rfl
def flat0 : D → Bool
  | .non => true
  | .bl _ => true
  | .int _ => true
  | .str x => PyData.strOk x
  | _ => false
def dp : Nat → D → Prop
  | 0, d => flat0 d = true
  | k + 1, d => flat0 d = true ∨ ∃ ds, (d = .tup ds ∨ d = .lst ds) ∧ ds.length ≤ 1000 ∧ ∀ x ∈ ds, dp k x
theorem eqD_strr (x : Str) (h : PyData.strOk x = true) : eqD (.str x) (.str x) = some true := by
  simp [h, eqD, toPy, SeqAt.shaped, PyData.canLay0, PyData.depth, PyData.eqv]
def aft : SV → SV
  | .bor d => if flat0 d then .bor d else .fro d
  | s => s
theorem frz_v (e : EV) (d : D) : frz e (.v d) = some (d, e) := rfl
theorem frz_h (e : EV) (i : Nat) : frz e (.h i) = (match e[i]? with
    | some (.own d) => some (d, e.set i (.val d))
    | some (.bor d) => some (d, e.set i (.fro d))
    | some (.val d) => some (d, e)
    | some (.fro d) => some (d, e)
    | _ => none) := rfl
end PL.K50
end

section
/-! rays, in plain numbers -/
namespace PL.RY
open PL PL.K00

abbrev R := Int × Int
def gR (r : R) : Prop := Int.gcd r.1 r.2 = 1 ∧ (0 < r.2 ∨ r = (1, 0))
def so (r : R) : R := if 0 < r.2 ∨ (r.2 = 0 ∧ 0 < r.1) then r else (0 - r.1, 0 - r.2)
def ap (m : M) (r : R) : R := (m.1 * r.1 + m.2.1 * r.2, m.2.2.1 * r.1 + m.2.2.2 * r.2)
def ldR (m : M) (r : R) : R := so (ap m r)
def dt (r s : R) : Int := r.1 * s.2 - r.2 * s.1
def aI (i : Int) : Int := if i < 0 then -i else i
theorem gcd_ap_dvd (m : M) (r : R) : (Int.gcd r.1 r.2 : Int) ∣ Int.gcd (ap m r).1 (ap m r).2 := by
  have h1 : (Int.gcd r.1 r.2 : Int) ∣ r.1 := Int.gcd_dvd_left ..
  have h2 : (Int.gcd r.1 r.2 : Int) ∣ r.2 := Int.gcd_dvd_right ..
  exact Int.dvd_coe_gcd (Int.dvd_add (Int.dvd_mul_of_dvd_right h1) (Int.dvd_mul_of_dvd_right h2)) (Int.dvd_add (Int.dvd_mul_of_dvd_right h1) (Int.dvd_mul_of_dvd_right h2))
theorem ap_adj {m : M} (h : det m = 1) (r : R) : ap (adj m) (ap m r) = r := by
  obtain ⟨a, b, c, d⟩ := m
  obtain ⟨x, y⟩ := r
  have h : a * d - b * c = 1 := h
  simp only [ap, adj, Prod.mk.injEq]
  grind
theorem gcd_ap {m : M} (h : det m = 1) (r : R) : Int.gcd (ap m r).1 (ap m r).2 = Int.gcd r.1 r.2 := by
  have h1 := gcd_ap_dvd m r
  have h2 := gcd_ap_dvd (adj m) (ap m r)
  rw [ap_adj h] at h2
  exact Nat.dvd_antisymm (Int.natCast_dvd_natCast.mp h2) (Int.natCast_dvd_natCast.mp h1)
theorem gcd_so (r : R) : Int.gcd (so r).1 (so r).2 = Int.gcd r.1 r.2 := by
  unfold so; split
  · rfl
  · simp
theorem gR_so {r : R} (h : Int.gcd r.1 r.2 = 1) : gR (so r) := by
  refine ⟨by rw [gcd_so]; exact h, ?_⟩
  obtain ⟨x, y⟩ := r
  have h : Int.gcd x y = 1 := h
  unfold so
  split
  · next q =>
    rcases q with q | ⟨q1, q2⟩
    · exact .inl q
    · have q1 : y = 0 := q1
      have q2 : 0 < x := q2
      subst q1
      rw [Int.gcd_zero_right] at h
      have : x = 1 := by omega
      subst this; exact .inr rfl
  · next q =>
    have q : ¬(0 < y ∨ y = 0 ∧ 0 < x) := q
    by_cases hy : y = 0
    · subst hy
      rw [Int.gcd_zero_right] at h
      have : x = -1 := by omega
      subst this; exact .inr rfl
    · exact .inl (show 0 < 0 - y by omega)
theorem so_gR {r : R} (h : gR r) : so r = r := by
  unfold so
  rw [if_pos]
  rcases h.2 with h | h
  · exact .inl h
  · subst h; exact .inr ⟨rfl, by decide⟩
theorem gR_ld {m : M} (h : det m = 1) {r : R} (g : gR r) : gR (ldR m r) := gR_so (by rw [gcd_ap h]; exact g.1)
theorem dt_ap (m : M) (r s : R) : dt (ap m r) (ap m s) = det m * dt r s := by
  obtain ⟨a, b, c, d⟩ := m
  obtain ⟨x, y⟩ := r
  obtain ⟨z, w⟩ := s
  simp only [dt, ap, det]
  grind
theorem aI_so (r s : R) : aI (dt (so r) (so s)) = aI (dt r s) := by
  obtain ⟨x, y⟩ := r
  obtain ⟨z, w⟩ := s
  have e : ∀ i : Int, aI (-i) = aI i := fun i => by unfold aI; split <;> split <;> omega
  have k1 : dt (0 - x, 0 - y) (0 - z, 0 - w) = dt (x, y) (z, w) := by simp only [dt]; grind
  have k2 : dt (0 - x, 0 - y) (z, w) = - dt (x, y) (z, w) := by simp only [dt]; grind
  have k3 : dt (x, y) (0 - z, 0 - w) = - dt (x, y) (z, w) := by simp only [dt]; grind
  unfold so; split <;> split
  · rfl
  · exact (congrArg aI k3).trans (e _)
  · exact (congrArg aI k2).trans (e _)
  · exact congrArg aI k1
theorem far_ld {m : M} (h : det m = 1) (r s : R) : aI (dt (ldR m r) (ldR m s)) = aI (dt r s) := by
  unfold ldR; rw [aI_so, dt_ap, h, Int.one_mul]
theorem dt_swap (r s : R) : dt s r = - dt r s := by
  simp only [dt]; grind
theorem gcd_dt {r s : R} (h : aI (dt r s) = 1) : Int.gcd r.1 r.2 = 1 := by
  have h1 : (Int.gcd r.1 r.2 : Int) ∣ r.1 := Int.gcd_dvd_left ..
  have h2 : (Int.gcd r.1 r.2 : Int) ∣ r.2 := Int.gcd_dvd_right ..
  have h3 : (Int.gcd r.1 r.2 : Int) ∣ dt r s := Int.dvd_sub (Int.dvd_mul_of_dvd_left h1) (Int.dvd_mul_of_dvd_left h2)
  have h4 : (Int.gcd r.1 r.2 : Int) ∣ 1 := by
    have : dt r s = 1 ∨ dt r s = -1 := by unfold aI at h; split at h <;> omega
    rcases this with e | e
    · rwa [e] at h3
    · rw [e] at h3; exact Int.dvd_neg.mp h3
  have := Int.le_of_dvd (by decide) h4
  have : Int.gcd r.1 r.2 ≠ 0 := by
    intro z
    rw [z] at h4
    have := Int.zero_dvd.mp h4
    omega
  omega
theorem gcd_mod (x y : Int) : Int.gcd (x % y) y = Int.gcd x y := by
  have h1 : (Int.gcd (x % y) y : Int) ∣ x % y := Int.gcd_dvd_left ..
  have h2 : (Int.gcd (x % y) y : Int) ∣ y := Int.gcd_dvd_right ..
  have h3 : (Int.gcd x y : Int) ∣ x := Int.gcd_dvd_left ..
  have h4 : (Int.gcd x y : Int) ∣ y := Int.gcd_dvd_right ..
  have e : x % y = x - y * (x / y) := Int.emod_def x y
  have e2 : x = x % y + y * (x / y) := by omega
  refine Nat.dvd_antisymm (Int.natCast_dvd_natCast.mp (Int.dvd_coe_gcd ?_ h2)) (Int.natCast_dvd_natCast.mp (Int.dvd_coe_gcd ?_ h4))
  · have := Int.dvd_add h1 (Int.dvd_mul_of_dvd_left (b := y) (c := x / y) h2)
    rwa [← e2] at this
  · rw [e]; exact Int.dvd_sub h3 (Int.dvd_mul_of_dvd_left h4)
/-- the number that a number is turned round by, over a base -/
def invL : Nat → Int → Int → Int → Int → Int
  | 0, _, _, _, two => two
  | f + 1, near, far, one, two => if near = 0 then two else invL f (far - far / near * near) near (two - far / near * one) one
def invN (x y : Int) : Int := invL 1000 (x % y) y 1 0 % y
theorem invL_ok (x y : Int) (hy : 0 < y) : ∀ (f : Nat) (near far one two : Int), 0 ≤ near → near < f → 0 < far → Int.gcd near far = 1 → (y ∣ near - one * x) → (y ∣ far - two * x) → y ∣ invL f near far one two * x - 1
  | 0, near, far, one, two, h0, h1, _, _, _, _ => by omega
  | f + 1, near, far, one, two, h0, h1, hf, hg, d1, d2 => by
    unfold invL
    split
    · next z =>
      subst z
      have : far = 1 := by rw [Int.gcd_zero_left] at hg; omega
      subst this
      have := Int.dvd_neg.mpr d2
      rwa [show -(1 - two * x) = two * x - 1 from by omega] at this
    · next z =>
      have hn : 0 < near := by omega
      have e : far - far / near * near = far % near := by rw [Int.emod_def, Int.mul_comm]
      refine invL_ok x y hy f _ near _ one (by rw [e]; exact Int.emod_nonneg _ z) (by rw [e]; have := Int.emod_lt_of_pos far hn; omega) hn ?_ ?_ d1
      · rw [e, gcd_mod, Int.gcd_comm]; exact hg
      · have : far - far / near * near - (two - far / near * one) * x = (far - two * x) - far / near * (near - one * x) := by grind
        rw [this]
        exact Int.dvd_sub d2 (Int.dvd_mul_of_dvd_right d1)
theorem invN_ok {x y : Int} (hy : 0 < y) (hy2 : y < 1000) (g : Int.gcd x y = 1) : 0 ≤ invN x y ∧ invN x y < y ∧ y ∣ x * invN x y - 1 := by
  refine ⟨Int.emod_nonneg _ (by omega), Int.emod_lt_of_pos _ hy, ?_⟩
  have h := invL_ok x y hy 1000 (x % y) y 1 0 (Int.emod_nonneg _ (by omega)) (by have := Int.emod_lt_of_pos x hy; omega) hy (by rw [gcd_mod]; exact g)
    (by rw [Int.one_mul, show x % y - x = -(x - x % y) by omega]; exact Int.dvd_neg.mpr (Int.dvd_self_sub_emod)) (by simp)
  unfold invN
  generalize invL 1000 (x % y) y 1 0 = t at *
  have e : t % y = t - y * (t / y) := Int.emod_def t y
  have : x * (t % y) - 1 = (t * x - 1) - y * (t / y * x) := by rw [e]; grind
  rw [this]
  exact Int.dvd_sub h (Int.dvd_mul_right ..)
/-- the move of a ray -/
def mvR (r : R) : M := if r.2 = 0 then one1 else (r.1, (r.1 * invN r.1 r.2 - 1) / r.2, r.2, invN r.1 r.2)
theorem mvR_ok {r : R} (g : gR r) (h : r.2 < 1000) : good (mvR r) ∧ ldR (mvR r) (1, 0) = r ∧ (0 < r.2 → 0 ≤ (mvR r).2.2.2 ∧ (mvR r).2.2.2 < r.2) := by
  obtain ⟨x, y⟩ := r
  by_cases hy : y = 0
  · subst hy
    have : (x, (0 : Int)) = (1, 0) := by
      rcases g.2 with q | q
      · exact absurd q (by simp)
      · exact q
    cases this
    refine ⟨⟨by decide, .inr ⟨rfl, rfl⟩⟩, by decide, fun q => absurd q (by decide)⟩
  · have h : y < 1000 := h
    have hp : 0 < y := by
      rcases g.2 with q | q
      · exact q
      · cases q; exact absurd rfl hy
    obtain ⟨i1, i2, i3⟩ := invN_ok hp h g.1
    have em : mvR (x, y) = (x, (x * invN x y - 1) / y, y, invN x y) := by unfold mvR; exact if_neg hy
    rw [em]
    generalize invN x y = v at *
    have i3 : y ∣ x * v - 1 := i3
    have e := Int.mul_ediv_cancel' i3
    have hd : det (x, (x * v - 1) / y, y, v) = 1 := by
      show x * v - (x * v - 1) / y * y = 1
      rw [Int.mul_comm _ y, e]; omega
    refine ⟨⟨hd, .inl hp⟩, ?_, fun _ => ⟨i1, i2⟩⟩
    have : ap (x, (x * v - 1) / y, y, v) (1, 0) = (x, y) := by simp [ap]
    unfold ldR
    rw [this]
    exact so_gR g
theorem good.d {m : M} (h : good m) : det m = 1 := h.1
theorem ap_mul (m n : M) (r : R) : ap (mulM m n) r = ap m (ap n r) := by
  obtain ⟨a, b, c, d⟩ := m
  obtain ⟨e, f, g, h⟩ := n
  obtain ⟨x, y⟩ := r
  simp only [ap, mulM, Prod.mk.injEq]
  grind
theorem so_ng {r : R} (h : r ≠ (0, 0)) : so (0 - r.1, 0 - r.2) = so r := by
  obtain ⟨x, y⟩ := r
  have h : ¬(x = 0 ∧ y = 0) := by simpa using h
  unfold so
  simp only
  split <;> split
  · simp only [Prod.mk.injEq]; omega
  · rfl
  · simp only [Prod.mk.injEq]; omega
  · simp only [Prod.mk.injEq]; omega
theorem ap_ng (m : M) (r : R) : ap (ngM m) r = (0 - (ap m r).1, 0 - (ap m r).2) := by
  simp only [ap, ngM, Prod.mk.injEq]; grind
theorem ap_ngr (m : M) (r : R) : ap m (0 - r.1, 0 - r.2) = (0 - (ap m r).1, 0 - (ap m r).2) := by
  simp only [ap, Prod.mk.injEq]; grind
theorem ne_of_gcd {r : R} (h : Int.gcd r.1 r.2 = 1) : r ≠ (0, 0) := by
  intro e; subst e; simp at h
theorem so_ap_sg {m : M} (hm : det m = 1) {r : R} (h : Int.gcd r.1 r.2 = 1) : so (ap (sg m) r) = so (ap m r) := by
  rcases sg_or m with e | e <;> rw [e]
  rw [ap_ng, so_ng (ne_of_gcd (by rw [gcd_ap hm]; exact h))]
theorem so_ap_so {m : M} (hm : det m = 1) {r : R} (h : Int.gcd r.1 r.2 = 1) : so (ap m (so r)) = so (ap m r) := by
  have : so r = r ∨ so r = (0 - r.1, 0 - r.2) := by unfold so; split <;> simp
  rcases this with e | e <;> rw [e]
  rw [ap_ngr, so_ng (ne_of_gcd (by rw [gcd_ap hm]; exact h))]
/-- moves one behind the other lead one behind the other -/
theorem ld_P {m n : M} (hm : det m = 1) (hn : det n = 1) {r : R} (h : Int.gcd r.1 r.2 = 1) : ldR (P m n) r = ldR m (ldR n r) := by
  unfold ldR P
  rw [so_ap_sg (by rw [det_mul, hm, hn]; rfl) h, ap_mul, so_ap_so hm (by rw [gcd_ap hn]; exact h)]
theorem ld_adj {m : M} (hm : det m = 1) {r : R} (g : gR r) : ldR (sg (adj m)) (ldR m r) = r := by
  unfold ldR
  have h1 : Int.gcd (ap m r).1 (ap m r).2 = 1 := by rw [gcd_ap hm]; exact g.1
  rw [so_ap_sg (by rw [det_adj]; exact hm) (by rw [gcd_so]; exact h1), so_ap_so (by rw [det_adj]; exact hm) h1, ap_adj hm]
  exact so_gR g
theorem aI_or {i : Int} (h : aI i = 1) : i = 1 ∨ i = -1 := by unfold aI at h; split at h <;> omega
end PL.RY
end

section
set_option exponentiation.threshold 5000
namespace PL.K50
open PL PL.K00 PL.RY PySem PySem.Spec L2

def rd (r : R) : D := .tup [.int r.1, .int r.2]
def rl (r : R) : D := .lst [.int r.1, .int r.2]
def Sm (r : R) : Prop := r.1.natAbs < 2 ^ 64 ∧ r.2.natAbs < 2 ^ 64
def rayB (r : R) : Bool := decide (Int.gcd r.1 r.2 = 1) && (decide (0 < r.2) || decide (r = (1, 0)))
theorem rayB_of {r : R} (g : gR r) : rayB r = true := by
  unfold rayB
  rw [decide_eq_true g.1]
  rcases g.2 with h | h
  · simp [h]
  · simp [h]
theorem eqD_rd (x y : R) : eqD (rd x) (rd y) = some (decide (x = y)) := by
  have := eqD_ints [x.1, x.2] [y.1, y.2]
  show eqD (.tup (List.map D.int [x.1, x.2])) (.tup (List.map D.int [y.1, y.2])) = _
  rw [this]
  congr 1
  obtain ⟨a, b⟩ := x
  obtain ⟨e, f⟩ := y
  simp
theorem sp2r (n : Nat) (r : R) : callF T (n+1) 2 [.val (rd r), .val (.int 2)] = .ok (.v (.bl true)) [.val (rd r), .val (.int 2)] := by
  rw [x_callF T n 2 _ (F := f2) rfl rfl]
  simp [f2, rd, tyOk, isTy]
theorem sp2rl (n : Nat) (r : R) : callF T (n+1) 2 [.val (rl r), .val (.int 2)] = .ok (.v (.bl false)) [.val (rl r), .val (.int 2)] := by
  rw [x_callF T n 2 _ (F := f2) rfl rfl]
  simp [f2, rl, tyOk, isTy]
theorem sp3r (n : Nat) (r : R) : callF T (n+2) 3 [.val (rd r), .val (.int 2)] = .ok (.v (.bl true)) [.val (rd r), .val (.int 2)] := by
  rw [x_callF T (n+1) 3 _ (F := f3) rfl rfl]
  have e2 := sp2r n r
  simp [rd] at e2
  simp [f3, rd, e2, sp0i]
theorem sp3rl (n : Nat) (r : R) : callF T (n+2) 3 [.val (rl r), .val (.int 2)] = .ok (.v (.bl false)) [.val (rl r), .val (.int 2)] := by
  rw [x_callF T (n+1) 3 _ (F := f3) rfl rfl]
  have e2 := sp2rl n r
  simp [rl] at e2
  simp [f3, rl, e2, sp0i]
theorem sp4r (n : Nat) (r : R) : callF T (n+2) 4 [.val (rd r)] = .ok (.v (rd r)) [.val (rd r)] := by
  rw [x_callF T (n+1) 4 _ (F := f4) rfl rfl]
  simp [f4, rd, tyOk, isTy, sp4i]
theorem sp4rl (n : Nat) (r : R) : callF T (n+2) 4 [.val (rl r)] = .ok (.v (rd r)) [.val (rl r)] := by
  rw [x_callF T (n+1) 4 _ (F := f4) rfl rfl]
  simp [f4, rd, rl, tyOk, isTy, sp4i]
theorem cons0 : T.cons[4]? = some (rd (1, 0)) := rfl
theorem cons1 : T.cons[5]? = some (.int 2000) := rfl
theorem eqD_int (i j : Int) : eqD (.int i) (.int j) = some (decide (i = j)) := by
  simp [eqD, toPy, SeqAt.shaped, PyData.canLay0, PyData.depth, PyData.eqv]
  by_cases h : i = j <;> simp [h]
theorem sp20 (n : Nat) (r : R) : callF T (n+3) 20 [.val (rd r)] = .ok (.v (.bl (rayB r))) [.val (rd r)] := by
  rw [x_callF T (n+2) 20 _ (F := f20) rfl rfl]
  have e3 := sp3r n r
  have eq := eqD_rd r (1, 0)
  have hg : rayB r = (decide (Nat.gcd r.1.natAbs r.2.natAbs = 1) && (decide (0 < r.2) || decide (r = (1, 0)))) := rfl
  simp [rd] at e3 eq
  rw [hg]
  by_cases h : Nat.gcd r.1.natAbs r.2.natAbs = 1
  · by_cases h2 : 0 < r.2
    · simp [f20, rd, e3, h, h2, eqD_int]
    · simp [f20, rd, e3, h, h2, eqD_int, cons0, eq]
  · have h' : ¬((Nat.gcd r.1.natAbs r.2.natAbs : Nat) : Int) = 1 := by omega
    simp [f20, rd, e3, h, h', eqD_int]
theorem sp20l (n : Nat) (r : R) : callF T (n+3) 20 [.val (rl r)] = .ok (.v (.bl false)) [.val (rl r)] := by
  rw [x_callF T (n+2) 20 _ (F := f20) rfl rfl]
  simp [f20, sp3rl]
theorem sp21 (n : Nat) (r : R) (g : gR r) : callF T (n+4) 21 [.val (rd r)] = .ok (.v (rd r)) [.val (rd r)] := by
  rw [x_callF T (n+3) 21 _ (F := f21) rfl rfl]
  simp [f21, sp4r, sp20, rayB_of g]
theorem sp21l (n : Nat) (r : R) (g : gR r) : callF T (n+4) 21 [.val (rl r)] = .ok (.v (rd r)) [.val (rl r)] := by
  rw [x_callF T (n+3) 21 _ (F := f21) rfl rfl]
  simp [f21, sp4rl, sp20, rayB_of g]
theorem sp22 (n : Nat) (x y : Int) : callF T (n+1) 22 [.val (.int x), .val (.int y)] = .ok (.v (rd (so (x, y)))) [.val (.int x), .val (.int y)] := by
  rw [x_callF T n 22 _ (F := f22) rfl rfl]
  have hs : so (x, y) = if 0 < y ∨ (y = 0 ∧ 0 < x) then (x, y) else (0 - x, 0 - y) := rfl
  rw [hs]
  by_cases h1 : 0 < y
  · simp [f22, rd, h1]
  · by_cases h2 : y = 0
    · by_cases h3 : 0 < x
      · simp [f22, rd, h2, h3, eqD_int]
      · simp [f22, rd, h2, h3, eqD_int]
    · simp [f22, rd, h1, h2, eqD_int]
theorem sp23 (n : Nat) (m : M) (r : R) (hs : Sm r) : callF T (n+2) 23 [.val (md m), .val (rd r)] = .ok (.v (rd (ldR m r))) [.val (md m), .val (rd r)] := by
  rw [x_callF T (n+1) 23 _ (F := f23) rfl rfl]
  have e := sp22 n (m.1 * r.1 + m.2.1 * r.2) (m.2.2.1 * r.1 + m.2.2.2 * r.2)
  have m1 : ∀ i : Int, mulOk i r.1 = true := fun i => mulOk_r hs.1
  have m2 : ∀ i : Int, mulOk i r.2 = true := fun i => mulOk_r hs.2
  simp [f23, rd, md, m1, m2]
  simp [rd] at e
  simp [e, ldR, ap]
theorem sp24 (n : Nat) (r s : R) (hs : Sm s) : callF T (n+1) 24 [.val (rd r), .val (rd s)] = .ok (.v (.int (aI (dt r s)))) [.val (rd r), .val (rd s)] := by
  rw [x_callF T n 24 _ (F := f24) rfl rfl]
  have m1 : ∀ i : Int, mulOk i s.1 = true := fun i => mulOk_r hs.1
  have m2 : ∀ i : Int, mulOk i s.2 = true := fun i => mulOk_r hs.2
  simp [f24, rd, m1, m2, aI, dt]
  by_cases h : r.fst * s.snd - r.snd * s.fst < 0 <;> simp [h]
theorem sp27 (n : Nat) (m : M) (r : R) {a : Nat} (h : BdM a m) (ha : a ≤ 400000) (gm : good m) (g : gR r) (hs : Sm r) : callF T (n+5) 27 [.val (md m), .val (rd r)] = .ok (.v (rd (ldR m r))) [.val (md m), .val (rd r)] := by
  rw [x_callF T (n+4) 27 _ (F := f27) rfl rfl]
  simp [f27, sp7 n m h ha gm, sp21 n r g, sp23 (n+2) m r hs]
theorem sp27l (n : Nat) (m : M) (r : R) {a : Nat} (h : BdM a m) (ha : a ≤ 400000) (gm : good m) (g : gR r) (hs : Sm r) : callF T (n+5) 27 [.val (md m), .val (rl r)] = .ok (.v (rd (ldR m r))) [.val (md m), .val (rl r)] := by
  rw [x_callF T (n+4) 27 _ (F := f27) rfl rfl]
  simp [f27, sp7 n m h ha gm, sp21l n r g, sp23 (n+2) m r hs]
theorem sp28 (n : Nat) (r s : R) (gr : gR r) (gs : gR s) (hs : Sm s) : callF T (n+5) 28 [.val (rd r), .val (rd s)] = .ok (.v (.int (aI (dt r s)))) [.val (rd r), .val (rd s)] := by
  rw [x_callF T (n+4) 28 _ (F := f28) rfl rfl]
  simp [f28, sp21 n r gr, sp21 n s gs, sp24 (n+3) r s hs]
theorem sp29 (n : Nat) (r s : R) (gr : gR r) (gs : gR s) (hs : Sm s) : callF T (n+5) 29 [.val (rd r), .val (rd s)] = .ok (.v (.bl (decide (aI (dt r s) = 1)))) [.val (rd r), .val (rd s)] := by
  rw [x_callF T (n+4) 29 _ (F := f29) rfl rfl]
  simp [f29, sp21 n r gr, sp21 n s gs, sp24 (n+3) r s hs, eqD_int]
theorem sp30 (n : Nat) (r s : R) (gr : gR r) (gs : gR s) (hs : Sm s) (h1 : aI (dt r s) = 1) : callF T (n+5) 30 [.val (rd r), .val (rd s)] = .ok (.v (rd (so (r.1 + s.1, r.2 + s.2)))) [.val (rd r), .val (rd s)] := by
  rw [x_callF T (n+4) 30 _ (F := f30) rfl rfl]
  have e := sp22 (n+3) (r.1 + s.1) (r.2 + s.2)
  have e15 := sp24 (n+3) r s hs
  have er := sp21 n r gr
  have es := sp21 n s gs
  simp [rd] at e e15 er es
  simp [f30, rd, er, es, e15, eqD_int, h1, frzs, frz_v, setVals, fzRs, fzR, setRs, e]
theorem sp30x (n : Nat) (r s : R) (gr : gR r) (gs : gR s) (hs : Sm s) (h1 : aI (dt r s) ≠ 1) : callF T (n+5) 30 [.val (rd r), .val (rd s)] = .exc 0 [] [.val (rd r), .val (rd s)] := by
  rw [x_callF T (n+4) 30 _ (F := f30) rfl rfl]
  simp [f30, sp21 n r gr, sp21 n s gs, sp24 (n+3) r s hs, eqD_int, h1]
def c5 : E := .cmp .NotEq (.var 2) (.int 0)
def b5 : List S := [.set 6 (.bin .fdiv (.var 3) (.var 2)), .par [2, 3, 4, 5] [.bin .sub (.var 3) (.bin .mul (.var 6) (.var 2)), .var 2, .bin .sub (.var 5) (.bin .mul (.var 6) (.var 4)), .var 4]]
theorem dvs {i : Int} (h0 : 0 < i) (h : i ≤ 4000) : divOk i = true := by
  have : i.natAbs.log2 < 9000 := Nat.lt_of_lt_of_le ((Nat.log2_lt (by omega)).mpr (show i.natAbs < 2 ^ 12 by omega)) (by decide)
  unfold divOk
  rw [decide_eq_true h0, decide_eq_true this]; rfl
theorem lp5 (n : Nat) (x y : SV) : ∀ (f : Nat) (near far one two : Int) (s6 : SV), Fre s6 → 0 ≤ near → near < f → near ≤ 1000 → 0 < far → far ≤ 1000 →
    ∃ fa on s6', whL (fun e => toB (evE T (callF T n) true c5 e)) (fun e => exB T (callF T n) b5 e) (f + 99000) [x, y, .val (.int near), .val (.int far), .val (.int one), .val (.int two), s6] = .ok .next [x, y, .val (.int 0), .val (.int fa), .val (.int on), .val (.int (invL f near far one two)), s6']
  | 0, near, far, one, two, s6, _, h0, h1, _, _, _ => by omega
  | f + 1, near, far, one, two, s6, h6, h0, h1, h2, h3, h4 => by
    rw [show f + 1 + 99000 = (f + 99000) + 1 from by omega]
    by_cases hz : near = 0
    · subst hz
      refine ⟨far, one, s6, ?_⟩
      rw [wh_end (e1 := [x, y, .val (.int 0), .val (.int far), .val (.int one), .val (.int two), s6]) (by simp [c5, eqD_int, toB])]
      simp [invL]
    · have hp : 0 < near := by omega
      have hd := dvs hp (by omega)
      have q0 : 0 ≤ far / near := Int.ediv_nonneg (by omega) (by omega)
      have q1 : far / near ≤ far := Int.ediv_le_self _ (by omega)
      have em : far - far / near * near = far % near := by rw [Int.emod_def, Int.mul_comm]
      have m0 : 0 ≤ far % near := Int.emod_nonneg _ hz
      have m1 : far % near < near := Int.emod_lt_of_pos _ hp
      have k1 : mulOk (far / near) near = true := mulOk_r (by omega)
      have k2 : mulOk (far / near) one = true := mulOk_l (by omega)
      obtain ⟨fa, on, s6', ih⟩ := lp5 n x y f (far - far / near * near) near (two - far / near * one) one (.val (.int (far / near))) (Fre.val _) (by omega) (by omega) (by omega) hp h2
      refine ⟨fa, on, s6', ?_⟩
      rw [wh_step (e1 := [x, y, .val (.int near), .val (.int far), .val (.int one), .val (.int two), s6]) (e2 := [x, y, .val (.int (far - far / near * near)), .val (.int near), .val (.int (two - far / near * one)), .val (.int one), .val (.int (far / near))]) (by simp [c5, eqD_int, toB, hz]) (by
        rcases h6 with rfl | ⟨_, rfl⟩ | ⟨_, rfl⟩ <;> simp [b5, hd, k1, k2, fzR, fzRs, setR, setRs]), ih]
      rw [show invL (f + 1) near far one two = invL f (far - far / near * near) near (two - far / near * one) one from by rw [invL, if_neg hz]]
theorem sp5 (n : Nat) (x y : Int) (hy : 0 < y) (hy2 : y < 1000) : callF T (n+1) 5 [.val (.int x), .val (.int y)] = .ok (.v (.int (invN x y))) [.val (.int x), .val (.int y)] := by
  rw [x_callF T n 5 _ (F := f5) rfl rfl]
  have m0 : 0 ≤ x % y := Int.emod_nonneg _ (by omega)
  have m1 : x % y < y := Int.emod_lt_of_pos _ hy
  obtain ⟨fa, on, s6, h⟩ := lp5 n (.val (.int x)) (.val (.int y)) 1000 (x % y) y 1 0 .un Fre.un m0 (by omega) (by omega) hy (by omega)
  show fin [.val (.int x), .val (.int y)] (exB T (callF T n) [.par [2, 3, 4, 5] [.bin .mod (.var 0) (.var 1), .var 1, .int 1, .int 0], .wh c5 b5, .ret (.bin .mod (.var 5) (.var 1))] [.val (.int x), .val (.int y), .un, .un, .un, .un, .un]) = _
  have h1 : exS T (callF T n) (.par [2, 3, 4, 5] [.bin .mod (.var 0) (.var 1), .var 1, .int 1, .int 0]) [.val (.int x), .val (.int y), .un, .un, .un, .un, .un] = .ok .next [.val (.int x), .val (.int y), .val (.int (x % y)), .val (.int y), .val (.int 1), .val (.int 0), .un] := by
    simp [hy, fzR, fzRs, setR, setRs]
  rw [x_b1, h1]
  simp only [bd_ok]
  rw [x_b1, x_wh]
  rw [show T.wf = 1000 + 99000 from rfl, h]
  simp [hy, invN]
theorem sp25 (n : Nat) (r : R) (g : gR r) (h : r.2 < 1000) : callF T (n+2) 25 [.val (rd r)] = .ok (.v (md (mvR r))) [.val (rd r)] := by
  rw [x_callF T (n+1) 25 _ (F := f25) rfl rfl]
  by_cases hz : r.2 = 0
  · have : mvR r = one1 := by unfold mvR; exact if_pos hz
    rw [this]
    simp [f25, rd, setVals, eqD_int, hz, md, one1]
  · have hp : 0 < r.2 := by
      rcases g.2 with q | q
      · exact q
      · rw [q] at hz; exact absurd rfl hz
    have em : mvR r = (r.1, (r.1 * invN r.1 r.2 - 1) / r.2, r.2, invN r.1 r.2) := by unfold mvR; exact if_neg hz
    obtain ⟨i0, i1, i2⟩ := invN_ok hp h g.1
    have e5 := sp5 n r.1 r.2 hp h
    have k1 : mulOk r.1 (invN r.1 r.2) = true := mulOk_r (by omega)
    have hd := dvs hp (by omega)
    have e8 := sp8 n (mvR r)
    rw [sg_good (mvR_ok g h).1, em] at e8
    simp [md] at e8
    rw [em]
    simp [f25, rd, setVals, eqD_int, hz, e5, k1, hd, md, e8]
theorem sp31 (n : Nat) (r : R) (g : gR r) (h : r.2 < 1000) : callF T (n+5) 31 [.val (rd r)] = .ok (.v (md (mvR r))) [.val (rd r)] := by
  rw [x_callF T (n+4) 31 _ (F := f31) rfl rfl]
  simp [f31, sp21 n r g, sp25 (n+2) r g h]
theorem sp34 (n : Nat) (r s : R) (gr : gR r) (gs : gR s) (hr : r.2 < 1000) (hs : s.2 < 1000) {a b : Nat} (ha : BdM a (mvR s)) (hb : BdM b (mvR r)) (hab : a + b ≤ 900000) : callF T (n+5) 34 [.val (rd r), .val (rd s)] = .ok (.v (md (P (mvR s) (sg (adj (mvR r)))))) [.val (rd r), .val (rd s)] := by
  rw [x_callF T (n+4) 34 _ (F := f34) rfl rfl]
  simp [f34, sp21 n r gr, sp21 n s gs, sp25 (n+2) r gr hr, sp25 (n+2) s gs hs, sp10 (n+2) (mvR r), sp9 (n+2) (mvR s) (sg (adj (mvR r))) ha hb.adj.sg hab]
/-- rays from the far one to one -/
def cvL : Nat → Int → Int → R → R → List R → List R
  | 0, _, _, _, _, acc => acc
  | f + 1, a, b, p, r, acc => if b = 0 then acc else cvL f b (a - a / b * b) r (a / b * r.1 + p.1, a / b * r.2 + p.2) (acc ++ [(a / b * r.1 + p.1, a / b * r.2 + p.2)])
def cvR (r : R) : List R := cvL 1000 r.1 r.2 (0, 1) (1, 0) [(1, 0)]
def c26 : E := .cmp .NotEq (.var 5) (.int 0)
def b26 : List S := [.set 6 (.bin .fdiv (.var 4) (.var 5)), .par [4, 5] [.var 5, .bin .sub (.var 4) (.bin .mul (.var 6) (.var 5))], .par [2, 3] [.var 3, .tup [.bin .add (.bin .mul (.var 6) (.ix (.var 3) (.int 0))) (.ix (.var 2) (.int 0)), .bin .add (.bin .mul (.var 6) (.ix (.var 3) (.int 1))) (.ix (.var 2) (.int 1))]], .ex (.app 1 (.var 3))]
theorem div_bd {a b : Int} (h : a.natAbs < 2 ^ 60) (hb : 0 < b) : (a / b).natAbs < 2 ^ 64 := by
  have : (a / b).natAbs ≤ a.natAbs + 1 := by
    rcases Int.lt_or_le a 0 with q | q
    · have h1 : a / b < 0 := Int.ediv_neg_of_neg_of_pos q hb
      have h2 : a ≤ a / b := by
        have e := Int.mul_ediv_add_emod a b
        have e0 := Int.emod_nonneg a (show b ≠ 0 by omega)
        have e1 := Int.emod_lt_of_pos a hb
        have e2 : b * (a / b) ≤ a := by omega
        rcases Int.lt_or_le (a / b) a with q2 | q2
        · exfalso
          have e3 : b * (a / b + 1) ≤ 1 * (a / b + 1) := Int.mul_le_mul_of_nonpos_right (by omega) (by omega)
          have e4 : b * (a / b + 1) = b * (a / b) + b := by rw [Int.mul_add, Int.mul_one]
          omega
        · exact q2
      omega
    · have h1 : 0 ≤ a / b := Int.ediv_nonneg q (by omega)
      have h2 : a / b ≤ a := Int.ediv_le_self _ q
      omega
  omega
theorem lp26 (n : Nat) (x : SV) : ∀ (f : Nat) (a b : Int) (p r : R) (acc : List R) (s6 : SV), Fre s6 → 0 ≤ b → b < f → b ≤ 1000 → a.natAbs < 2 ^ 60 → acc.length + f ≤ 10000 →
    ∃ a' p' r' s6', whL (fun e => toB (evE T (callF T n) true c26 e)) (fun e => exB T (callF T n) b26 e) (f + 99000) [x, .own (.lst (acc.map rd)), .val (rd p), .val (rd r), .val (.int a), .val (.int b), s6] = .ok .next [x, .own (.lst ((cvL f a b p r acc).map rd)), .val p', .val r', .val a', .val (.int 0), s6']
  | 0, a, b, p, r, acc, s6, _, h0, h1, _, _, _ => by omega
  | f + 1, a, b, p, r, acc, s6, h6, h0, h1, h2, h3, h4 => by
    rw [show f + 1 + 99000 = (f + 99000) + 1 from by omega]
    by_cases hz : b = 0
    · subst hz
      refine ⟨.int a, rd p, rd r, s6, ?_⟩
      rw [wh_end (e1 := [x, .own (.lst (acc.map rd)), .val (rd p), .val (rd r), .val (.int a), .val (.int 0), s6]) (by simp [c26, eqD_int, toB])]
      simp [cvL]
    · have hp : 0 < b := by omega
      have hd := dvs hp (by omega)
      have hq := div_bd h3 hp
      have em : a - a / b * b = a % b := by rw [Int.emod_def, Int.mul_comm]
      have m0 : 0 ≤ a % b := Int.emod_nonneg _ hz
      have m1 : a % b < b := Int.emod_lt_of_pos _ hp
      have k1 : ∀ i, mulOk (a / b) i = true := fun i => mulOk_l hq
      have hl : acc.length < 16777216 := by omega
      obtain ⟨a', p', r', s6', ih⟩ := lp26 n x f b (a - a / b * b) r (a / b * r.1 + p.1, a / b * r.2 + p.2) (acc ++ [(a / b * r.1 + p.1, a / b * r.2 + p.2)]) (.val (.int (a / b))) (Fre.val _) (by omega) (by omega) (by omega) (by omega) (by simp; omega)
      refine ⟨a', p', r', s6', ?_⟩
      rw [wh_step (e1 := [x, .own (.lst (acc.map rd)), .val (rd p), .val (rd r), .val (.int a), .val (.int b), s6]) (e2 := [x, .own (.lst ((acc ++ [(a / b * r.1 + p.1, a / b * r.2 + p.2)]).map rd)), .val (rd r), .val (rd (a / b * r.1 + p.1, a / b * r.2 + p.2)), .val (.int b), .val (.int (a - a / b * b)), .val (.int (a / b))]) (by simp [c26, eqD_int, toB, hz]) (by
        rcases h6 with rfl | ⟨_, rfl⟩ | ⟨_, rfl⟩ <;> simp [b26, hd, k1, fzR, fzRs, setR, setRs, rd, frzs, frz_v, sizeL, lstAt, mineD, upS, hl]), ih]
      rw [show cvL (f + 1) a b p r acc = cvL f b (a - a / b * b) r (a / b * r.1 + p.1, a / b * r.2 + p.2) (acc ++ [(a / b * r.1 + p.1, a / b * r.2 + p.2)]) from by rw [cvL, if_neg hz]]
theorem sp26 (n : Nat) (r : R) (g : gR r) (h : r.2 < 1000) (hx : r.1.natAbs < 2 ^ 60) : callF T (n+1) 26 [.val (rd r)] = .ok (.t (.lst ((cvR r).map rd))) [.val (rd r)] := by
  rw [x_callF T n 26 _ (F := f26) rfl rfl]
  have h0 : 0 ≤ r.2 := by
    rcases g.2 with q | q
    · omega
    · rw [q]; decide
  obtain ⟨a', p', r', s6', hw⟩ := lp26 n (.val (rd r)) 1000 r.1 r.2 (0, 1) (1, 0) [(1, 0)] .un Fre.un h0 (by omega) (by omega) hx (by decide)
  show fin [.val (rd r)] (exB T (callF T n) [.par [1, 2, 3] [.lst [.con 4], .tup [.int 0, .int 1], .con 4], .unp [4, 5] (.var 0), .wh c26 b26, .ret (.var 1)] [.val (rd r), .un, .un, .un, .un, .un, .un]) = _
  have h1 : exS T (callF T n) (.par [1, 2, 3] [.lst [.con 4], .tup [.int 0, .int 1], .con 4]) [.val (rd r), .un, .un, .un, .un, .un, .un] = .ok .next [.val (rd r), .own (.lst [rd (1, 0)]), .val (rd (0, 1)), .val (rd (1, 0)), .un, .un, .un] := by
    simp [cons0, frzs, frz_v, sizeL, fzR, fzRs, setR, setRs, rd]
  have h2 : exS T (callF T n) (.unp [4, 5] (.var 0)) [.val (rd r), .own (.lst [rd (1, 0)]), .val (rd (0, 1)), .val (rd (1, 0)), .un, .un, .un] = .ok .next [.val (rd r), .own (.lst [rd (1, 0)]), .val (rd (0, 1)), .val (rd (1, 0)), .val (.int r.1), .val (.int r.2), .un] := by
    simp [rd, setVals]
  rw [x_b1, h1]
  simp only [bd_ok]
  rw [x_b1, h2]
  simp only [bd_ok]
  rw [x_b1, x_wh]
  rw [show T.wf = 1000 + 99000 from rfl]
  simp only [List.map] at hw
  rw [hw]
  simp [retR, cvR, outs]
theorem sp32 (n : Nat) (r : R) (g : gR r) (h : r.2 < 1000) (hx : r.1.natAbs < 2 ^ 60) : callF T (n+5) 32 [.val (rd r)] = .ok (.v (.tup ((cvR r).map rd))) [.val (rd r)] := by
  rw [x_callF T (n+4) 32 _ (F := f32) rfl rfl]
  simp [f32, sp21 n r g, sp26 (n+3) r g h hx]
theorem inv_pos {r : R} (g : gR r) (h : r.2 < 1000) (h2 : 2 ≤ r.2) : 0 < invN r.1 r.2 ∧ invN r.1 r.2 < r.2 := by
  obtain ⟨i1, i2, i3⟩ := invN_ok (by omega) h g.1
  refine ⟨?_, i2⟩
  rcases Int.lt_or_eq_of_le i1 with q | q
  · exact q
  · rw [← q] at i3
    have := Int.dvd_neg.mpr i3
    have := Int.le_of_dvd (by rw [Int.mul_zero]; decide) this
    rw [Int.mul_zero] at this
    omega
/-- the lesser parent -/
def loP (r : R) : R := ((r.1 * invN r.1 r.2 - 1) / r.2, invN r.1 r.2)
def hiP (r : R) : R := (r.1 - (loP r).1, r.2 - (loP r).2)
theorem so_pos {r : R} (h : 0 < r.2) : so r = r := by unfold so; exact if_pos (.inl h)
theorem loP_dt {r : R} (g : gR r) (h : r.2 < 1000) (h2 : 2 ≤ r.2) : r.1 * (loP r).2 - r.2 * (loP r).1 = 1 := by
  obtain ⟨i1, i2, i3⟩ := invN_ok (by omega) h g.1
  have e := Int.mul_ediv_cancel' i3
  show r.1 * invN r.1 r.2 - r.2 * ((r.1 * invN r.1 r.2 - 1) / r.2) = 1
  omega
theorem sp33 (n : Nat) (r : R) (g : gR r) (h : r.2 < 1000) (h2 : 2 ≤ r.2) : callF T (n+5) 33 [.val (rd r)] = .ok (.v (.tup [rd (loP r), rd (hiP r)])) [.val (rd r)] := by
  rw [x_callF T (n+4) 33 _ (F := f33) rfl rfl]
  obtain ⟨p1, p2⟩ := inv_pos g h h2
  have hz : ¬ r.2 = 0 := by omega
  have em : mvR r = (r.1, (loP r).1, r.2, (loP r).2) := by unfold mvR; exact if_neg hz
  have q1 : 0 < (loP r).2 := p1
  have q2 : (loP r).2 < r.2 := p2
  have hd := loP_dt g h h2
  have e13 := sp22 (n+3) (loP r).1 (loP r).2
  rw [so_pos (r := ((loP r).1, (loP r).2)) q1] at e13
  have f22 := sp22 (n+3) (r.1 - (loP r).1) (r.2 - (loP r).2)
  rw [so_pos (r := (r.1 - (loP r).1, r.2 - (loP r).2)) (show 0 < r.2 - (loP r).2 by omega)] at f22
  have e12 := sp21 n r g
  have e16 := sp25 (n+2) r g h
  rw [em] at e16
  have k1 : mulOk (loP r).1 (r.2 - (loP r).2) = true := mulOk_r (by omega)
  have k2 : mulOk (r.1 - (loP r).1) (loP r).2 = true := mulOk_r (by omega)
  have hlt : (loP r).1 * (r.2 - (loP r).2) < (r.1 - (loP r).1) * (loP r).2 := by
    have e1 : (loP r).1 * (r.2 - (loP r).2) = r.2 * (loP r).1 - (loP r).1 * (loP r).2 := by grind
    have e2 : (r.1 - (loP r).1) * (loP r).2 = r.1 * (loP r).2 - (loP r).1 * (loP r).2 := by grind
    omega
  have hn : ¬ r.2 < 2 := by omega
  simp [rd, md] at e12 e13 f22 e16
  simp [f33, rd, e12, hn, e16, e13, f22, k1, k2, hlt, hiP, frzs, frz_v, sizeL]
theorem sp33x (n : Nat) (r : R) (g : gR r) (h2 : r.2 < 2) : callF T (n+5) 33 [.val (rd r)] = .exc 0 [] [.val (rd r)] := by
  rw [x_callF T (n+4) 33 _ (F := f33) rfl rfl]
  have e12 := sp21 n r g
  simp [rd] at e12
  simp [f33, rd, e12, h2]
def edM (r s : R) : M := if dt r s = 1 then (r.1, s.1, r.2, s.2) else (r.1, 0 - s.1, r.2, 0 - s.2)
theorem sp36 (n : Nat) (r s : R) (hs : Sm s) : callF T (n+2) 36 [.val (rd r), .val (rd s)] = .ok (.v (md (sg (edM r s)))) [.val (rd r), .val (rd s)] := by
  rw [x_callF T (n+1) 36 _ (F := f36) rfl rfl]
  have m1 : ∀ i : Int, mulOk i s.1 = true := fun i => mulOk_r hs.1
  have m2 : ∀ i : Int, mulOk i s.2 = true := fun i => mulOk_r hs.2
  have e := sp8 n (edM r s)
  by_cases h : r.1 * s.2 - r.2 * s.1 = 1
  · have em : edM r s = (r.1, s.1, r.2, s.2) := if_pos h
    rw [em] at e ⊢
    simp [md] at e
    simp [f36, rd, m1, m2, eqD_int, h, sliceD, cutD, HT.sIx, binop, sizeL, intD, e, md]
  · have em : edM r s = (r.1, 0 - s.1, r.2, 0 - s.2) := if_neg h
    rw [em] at e ⊢
    simp [md] at e
    simp [f36, rd, m1, m2, eqD_int, h, e, md, frzs, frz_v, sizeL]
theorem sp35' (n : Nat) (r s : R) (gr : gR r) (gs : gR s) (hs : Sm s) (h1 : aI (dt r s) = 1) : callF T (n+5) 35 [.val (rd r), .val (rd s)] = .ok (.v (md (sg (edM r s)))) [.val (rd r), .val (rd s)] := by
  rw [x_callF T (n+4) 35 _ (F := f35) rfl rfl]
  simp [f35, sp21 n r gr, sp21 n s gs, sp24 (n+3) r s hs, eqD_int, h1, fzRs, fzR, setRs, sp36 (n+2) r s hs]
theorem sp35x (n : Nat) (r s : R) (gr : gR r) (gs : gR s) (hs : Sm s) (h1 : aI (dt r s) ≠ 1) : callF T (n+5) 35 [.val (rd r), .val (rd s)] = .exc 0 [] [.val (rd r), .val (rd s)] := by
  rw [x_callF T (n+4) 35 _ (F := f35) rfl rfl]
  simp [f35, sp21 n r gr, sp21 n s gs, sp24 (n+3) r s hs, eqD_int, h1]
theorem sp1k (n : Nat) (k : Int) (h1 : 0 ≤ k) (h2 : k ≤ 2000) : callF T (n+2) 1 [.val (.int k), .val (.int 0), .val (.int 2000)] = .ok (.v (.bl true)) [.val (.int k), .val (.int 0), .val (.int 2000)] := by
  rw [x_callF T (n+1) 1 _ (F := f1) rfl rfl]
  simp [f1, sp0i, h1, h2]
def ksD (k : Int) : List D := (List.range k.toNat).map fun (j : Nat) => .int (0 + (j : Int))
theorem sp37 (n : Nat) (r : R) (g : gR r) (h : r.2 < 1000) (k : Int) (h1 : 0 ≤ k) (h2 : k ≤ 2000) : callF T (n+5) 37 [.val (rd r), .val (.int k)] = .ok (.v (.tup ((List.range k.toNat).map fun (j : Nat) => rd (ldR (mvR r) ((j : Int), 1))))) [.val (rd r), .val (.int k)] := by
  rw [x_callF T (n+4) 37 _ (F := f37) rfl rfl]
  have hr : rngD [.int k] = some (ksD k) := rngD_one k (by omega) (by omega)
  have e1 := sp1k (n+2) k h1 h2
  have e12 := sp21 n r g
  have hm := compL_map (f := fun d e => opt (asg (.nm 3) d e) fun e1 => (evC T (callF T (n+4)) none e1).bd fun k' e2 => if k' then (evE T (callF T (n+4)) false (.call 23 [.call 25 [.var 2], .tup [.var 3, .int 1]]) e2).bd fun r e3 => opt (frz e3 r) fun (x, e4) => .ok (some x) e4 else .ok none e2) (own := [3]) (e0 := [.val (rd r), .val (.int k), .val (rd r), .un])
    (fun d => match d with | .int j => rd (ldR (mvR r) (j, 1)) | _ => .non) (ksD k) [] (by
      intro d hd
      obtain ⟨j, hj, rfl⟩ := List.mem_map.mp hd
      have hj := List.mem_range.mp hj
      refine ⟨[.val (rd r), .val (.int k), .val (rd r), .val (.int (0 + (j : Int)))], ?_, by simp [wipeE]⟩
      have e14 := sp23 (n+2) (mvR r) (0 + (j : Int), 1) ⟨show (0 + (j : Int)).natAbs < 2 ^ 64 by omega, show (1 : Int).natAbs < 2 ^ 64 by decide⟩
      have e16 := sp25 (n+2) r g h
      simp [rd] at e14 e16
      simp [asg, setVals, e16, e14, frzs, frz_v, sizeL, rd]) (by simp [ksD, sizeL]; omega)
  simp only [List.nil_append] at hm
  simp at hm
  simp [f37, e12, cons1, e1, hr, wipeE, hm]
  simp [ksD, unwipe]
theorem eqD_nil : eqD (.lst []) (.lst []) = some true := by decide
theorem lp55g (n : Nat) : ∀ (k f a b : Nat), b < 2 ^ k → 2 * k + 1 ≤ f → whL (fun e => toB (evE T (callF T n) true (.cmp .Gt (.var 1) (.int 0)) e)) (fun e => exB T (callF T n) body55 e) f [.val (.int (a : Int)), .val (.int (b : Int))] = .ok .next [.val (.int (Nat.gcd a b : Nat)), .val (.int 0)]
  | k, 0, a, b, h, hf => by omega
  | 0, f + 1, a, b, h, hf => by
    have : b = 0 := by simpa using h
    subst this
    exact lp55 n (f + 1) a 0 (by omega)
  | k + 1, f + 1, a, b, h, hf => by
    by_cases hb : b = 0
    · subst hb; exact lp55 n (f + 1) a 0 (by omega)
    · have hp : 0 < b := by omega
      have hp' : (0 : Int) < (b : Int) := by omega
      rw [wh_step (T := T) (cf := callF T n) (c := .cmp .Gt (.var 1) (.int 0)) (b := body55) (e := [.val (.int (a : Int)), .val (.int (b : Int))]) (e1 := [.val (.int (a : Int)), .val (.int (b : Int))]) (e2 := [.val (.int (b : Int)), .val (.int ((a % b : Nat) : Int))]) (n := f) (by simp [toB, hp]) (by simp [body55, hp, hp', frzs, frz, setVals])]
      have hm := Nat.mod_lt a hp
      by_cases hc : a % b = 0
      · rw [hc, lp55 n f b 0 (by omega), Nat.gcd_comm a b, Nat.gcd_rec b a, hc, Nat.gcd_zero_left, Nat.gcd_zero_right]
      · have hq : 0 < a % b := by omega
        have hq' : (0 : Int) < ((a % b : Nat) : Int) := by omega
        obtain ⟨f', rfl⟩ : ∃ f', f = f' + 1 := ⟨f - 1, by omega⟩
        generalize hcc : a % b = c at *
        rw [wh_step (T := T) (cf := callF T n) (c := .cmp .Gt (.var 1) (.int 0)) (b := body55) (e := [.val (.int (b : Int)), .val (.int (c : Int))]) (e1 := [.val (.int (b : Int)), .val (.int (c : Int))]) (e2 := [.val (.int (c : Int)), .val (.int ((b % c : Nat) : Int))]) (n := f') (by simp [toB, hq]) (by simp [body55, hq, hq', frzs, frz, setVals])]
        have h2 := Nat.mod_lt b hq
        have h3 : b % c < 2 ^ k := by
          have e := Nat.mod_add_div b c
          have : 1 ≤ b / c := Nat.div_pos (by omega) hq
          have : c * 1 ≤ c * (b / c) := Nat.mul_le_mul_left _ this
          rw [Nat.pow_succ] at h
          omega
        rw [lp55g n k f' c (b % c) h3 (by omega), Nat.gcd_comm c, ← Nat.gcd_rec, ← hcc, ← Nat.gcd_rec, Nat.gcd_comm b a]
theorem sp55g (n : Nat) (i j : Int) (hj : j.natAbs < 2 ^ 4000) : callF T (n+1) 55 [.val (.int i), .val (.int j)] = .ok (.v (.int (Int.gcd i j : Nat))) [.val (.int i), .val (.int j)] := by
  rw [x_callF T n 55 _ (F := f55) rfl rfl]
  have h := lp55g n 4000 100000 i.natAbs j.natAbs hj (by decide)
  show fin [.val (.int i), .val (.int j)] (exB T (callF T n) [.par [0, 1] [.bi .abs [.var 0], .bi .abs [.var 1]], .wh (.cmp .Gt (.var 1) (.int 0)) body55, .ret (.var 0)] [.val (.int i), .val (.int j)]) = _
  have ab : ∀ i : Int, (if i < 0 then -i else i) = (i.natAbs : Int) := fun i => by split <;> omega
  have h1 : exS T (callF T n) (.par [0, 1] [.bi .abs [.var 0], .bi .abs [.var 1]]) [.val (.int i), .val (.int j)] = .ok .next [.val (.int i.natAbs), .val (.int j.natAbs)] := by
    simp [frzs, frz, setVals, ab]
  rw [x_b1, h1]
  simp only [bd_ok]
  rw [x_b1, x_wh]
  rw [show T.wf = 100000 from rfl, h]
  simp [retR, outs]
  rfl
/-- a ray of two numbers, over their greatest common divisor -/
def ryR (r : R) : R := so (r.1 / (Int.gcd r.1 r.2 : Int), r.2 / (Int.gcd r.1 r.2 : Int))
theorem ryR_1 {r : R} (h : Int.gcd r.1 r.2 = 1) : ryR r = so r := by
  unfold ryR
  rw [h]
  simp
theorem gcd_parts {r : R} (h : r ≠ (0, 0)) : Int.gcd (r.1 / (Int.gcd r.1 r.2 : Int)) (r.2 / (Int.gcd r.1 r.2 : Int)) = 1 := by
  have h1 : (Int.gcd r.1 r.2 : Int) ∣ r.1 := Int.gcd_dvd_left ..
  have h2 : (Int.gcd r.1 r.2 : Int) ∣ r.2 := Int.gcd_dvd_right ..
  have e1 := Int.mul_ediv_cancel' h1
  have e2 := Int.mul_ediv_cancel' h2
  have hg : Int.gcd r.1 r.2 ≠ 0 := by
    intro z
    obtain ⟨x, y⟩ := r
    have := Int.gcd_eq_zero_iff.mp z
    exact h (Prod.ext this.1 this.2)
  have e := Int.gcd_mul_left (Int.gcd r.1 r.2 : Int) (r.1 / (Int.gcd r.1 r.2 : Int)) (r.2 / (Int.gcd r.1 r.2 : Int))
  rw [e1, e2] at e
  have : (Int.gcd r.1 r.2 : Int).natAbs = Int.gcd r.1 r.2 := Int.natAbs_natCast _
  rw [this] at e
  have e' : Int.gcd r.1 r.2 * 1 = Int.gcd r.1 r.2 * Int.gcd (r.1 / (Int.gcd r.1 r.2 : Int)) (r.2 / (Int.gcd r.1 r.2 : Int)) := by rw [Nat.mul_one]; exact e
  exact (Nat.eq_of_mul_eq_mul_left (Nat.pos_of_ne_zero hg) e').symm
theorem gR_ry {r : R} (h : r ≠ (0, 0)) : gR (ryR r) := gR_so (gcd_parts h)
theorem sp56 (n : Nat) (x y : Int) (hy : y.natAbs < 2 ^ 4000) (hd : divOk (Int.gcd x y : Int) = true) : callF T (n+2) 56 [.val (.int x), .val (.int y)] = .ok (.v (rd (ryR (x, y)))) [.val (.int x), .val (.int y)] := by
  rw [x_callF T (n+1) 56 _ (F := f56) rfl rfl]
  have e := sp55g n x y hy
  unfold ryR
  generalize (Int.gcd x y : Int) = g at *
  have hs : so (x / g, y / g) = if 0 < y / g ∨ (y / g = 0 ∧ 0 < x / g) then (x / g, y / g) else (0 - x / g, 0 - y / g) := rfl
  simp only
  rw [hs]
  by_cases h1 : 0 < y / g
  · simp [f56, e, hd, rd, fzRs, fzR, setRs, setR, eqD_int, h1, frzs, frz_v, sizeL]
  · by_cases h2 : y / g = 0
    · by_cases h3 : 0 < x / g
      · simp [f56, e, hd, rd, fzRs, fzR, setRs, setR, eqD_int, h2, h3, frzs, frz_v, sizeL]
      · simp [f56, e, hd, rd, fzRs, fzR, setRs, setR, eqD_int, h2, h3, frzs, frz_v, sizeL]
    · simp [f56, e, hd, rd, fzRs, fzR, setRs, setR, eqD_int, h1, h2, frzs, frz_v, sizeL]
theorem sp56c (n : Nat) (r : R) (hy : r.2.natAbs < 2 ^ 4000) (hg : Int.gcd r.1 r.2 = 1) : callF T (n+2) 56 [.val (.int r.1), .val (.int r.2)] = .ok (.v (rd (so r))) [.val (.int r.1), .val (.int r.2)] := by
  have := sp56 n r.1 r.2 hy (by rw [hg]; decide)
  rw [show ryR (r.1, r.2) = so r from ryR_1 hg] at this
  exact this
theorem gcd_le {x y : Int} (h : 0 < y) : Int.gcd x y ≤ y.natAbs := Nat.le_of_dvd (by omega) (Nat.gcd_dvd_right ..)
theorem dv_gcd {x y : Int} (h : (x, y) ≠ ((0 : Int), (0 : Int))) (hx : x.natAbs ≤ 4000) (hy : y.natAbs ≤ 4000) : divOk (Int.gcd x y : Int) = true := by
  have hg : Int.gcd x y ≠ 0 := by
    intro z
    have := Int.gcd_eq_zero_iff.mp z
    exact h (Prod.ext this.1 this.2)
  have : Int.gcd x y ≤ 4000 := by
    by_cases hy0 : y = 0
    · have hx0 : x ≠ 0 := by intro z; subst z; subst hy0; exact h rfl
      exact Nat.le_trans (Nat.le_of_dvd (by omega) (Nat.gcd_dvd_left ..)) hx
    · exact Nat.le_trans (Nat.le_of_dvd (by omega) (Nat.gcd_dvd_right ..)) hy
  exact dvs (by omega) (by omega)
theorem div_abs {u : Int} {g : Nat} (hg : 0 < g) (h : (g : Int) ∣ u) : (u / (g : Int)).natAbs ≤ u.natAbs := by
  obtain ⟨k, rfl⟩ := h
  rw [Int.mul_ediv_cancel_left _ (by omega), Int.natAbs_mul, Int.natAbs_natCast]
  exact Nat.le_mul_of_pos_left _ hg
theorem ryR_bd {x y : Int} (h : 0 < y) : (ryR (x, y)).1.natAbs ≤ x.natAbs ∧ (ryR (x, y)).2.natAbs ≤ y.natAbs ∧ 0 < (ryR (x, y)).2 := by
  have hg : 0 < Int.gcd x y := Nat.pos_of_ne_zero (fun z => by have := (Int.gcd_eq_zero_iff.mp z).2; omega)
  have h1 : (Int.gcd x y : Int) ∣ x := Int.gcd_dvd_left ..
  have h2 : (Int.gcd x y : Int) ∣ y := Int.gcd_dvd_right ..
  have hp : 0 < y / (Int.gcd x y : Int) := Int.ediv_pos_of_pos_of_dvd h (by omega) h2
  have : ryR (x, y) = (x / (Int.gcd x y : Int), y / (Int.gcd x y : Int)) := so_pos hp
  rw [this]
  exact ⟨div_abs hg h1, div_abs hg h2, hp⟩
/-- what is drawn as a ray -/
def dry (b : Int) (r : R) : Prop := gR r ∧ r.1.natAbs ≤ b.natAbs ∧ 0 ≤ r.2 ∧ r.2 ≤ b
theorem sp57 (n : Nat) (x y z b : Int) (hb : 1 ≤ b) (hb' : b ≤ 1000) (hz0 : 0 ≤ z) (hz : z ≤ 900) :
    ∃ r x' z', dry b r ∧ 0 ≤ z' ∧ z' ≤ z + 3 ∧ callF T (n+3) 57 [.bor (tinD x y z), .val (.int b)] = .ok (.v (rd r)) [.bor (tinD x' y z'), .val (.int b)] := by
  rw [x_callF T (n+2) 57 _ (F := f57) rfl rfl]
  obtain ⟨r1, x1, z1, a1, b1, c1, d1, e1⟩ := sp53 (n+1) x y z 9 (by decide) (by decide) hz0 (by omega)
  by_cases h : r1 = 0
  · subst h
    refine ⟨(1, 0), x1, z1, ⟨⟨rfl, .inr rfl⟩, by omega, by decide, by omega⟩, c1, by omega, ?_⟩
    simp [f57, e1, eqD_int, frzs, frz_v, sizeL, rd]
  · obtain ⟨r2, x2, z2, a2, b2, c2, d2, e2⟩ := sp53 (n+1) x1 y z1 (2 * b + 1) (by omega) (by omega) c1 (by omega)
    obtain ⟨r3, x3, z3, a3, b3, c3, d3, e3⟩ := sp53 (n+1) x2 y z2 b (by omega) (by omega) c2 (by omega)
    have hne : (r2 - b, 1 + r3) ≠ ((0 : Int), (0 : Int)) := fun q => by
      have := congrArg Prod.snd q
      simp at this
      omega
    have e4 := sp56 n (r2 - b) (1 + r3) (Nat.lt_of_le_of_lt (show (1 + r3).natAbs ≤ 2 ^ 12 by omega) (by decide +kernel)) (dv_gcd hne (by omega) (by omega))
    obtain ⟨p1, p2, p3⟩ := ryR_bd (x := r2 - b) (y := 1 + r3) (by omega)
    refine ⟨ryR (r2 - b, 1 + r3), x3, z3, ⟨gR_ry hne, by omega, by omega, by omega⟩, c3, by omega, ?_⟩
    have k1 : mulOk 2 b = true := mulOk_l (by decide)
    simp [f57, e1, eqD_int, h, k1, e2, e3, e4]
def BdR (k : Nat) (r : R) : Prop := Bd k r.1 ∧ Bd k r.2
theorem BdR.mono {a b : Nat} {r : R} (h : BdR a r) (k : a ≤ b) : BdR b r := ⟨h.1.mono k, h.2.mono k⟩
theorem BdR.sm {a : Nat} {r : R} (h : BdR a r) (k : a ≤ 64) : Sm r := ⟨h.1.mono k, h.2.mono k⟩
theorem BdR.so {a : Nat} {r : R} (h : BdR a r) : BdR a (RY.so r) := by
  unfold RY.so; split
  · exact h
  · exact ⟨show Bd a (0 - r.1) by rw [Int.zero_sub]; exact h.1.neg, show Bd a (0 - r.2) by rw [Int.zero_sub]; exact h.2.neg⟩
theorem BdR.ap {a b : Nat} {m : M} {r : R} (hm : BdM a m) (h : BdR b r) : BdR (a + b + 1) (ap m r) := by
  refine ⟨(Bd.add (hm.1.mul h.1) (hm.2.1.mul h.2)).mono (by omega), (Bd.add (hm.2.2.1.mul h.1) (hm.2.2.2.mul h.2)).mono (by omega)⟩
theorem BdR.ld {a b : Nat} {m : M} {r : R} (hm : BdM a m) (h : BdR b r) : BdR (a + b + 1) (ldR m r) := (BdR.ap hm h).so
theorem BdR.lim {a : Nat} {r : R} (h : BdR a r) (k : a ≤ 4000) : r.2.natAbs < 2 ^ 4000 := h.2.mono k
theorem dry.bd {b : Int} {r : R} (h : dry b r) (hb : b ≤ 1000) : BdR 10 r := by
  obtain ⟨g, h1, h2, h3⟩ := h
  exact ⟨show r.1.natAbs < 2 ^ 10 by omega, show r.2.natAbs < 2 ^ 10 by omega⟩
theorem mvR_bd {r : R} (g : gR r) (h1 : r.1.natAbs ≤ 1000) (h2 : r.2 < 1000) : BdM 11 (mvR r) := by
  by_cases hz : r.2 = 0
  · have : mvR r = one1 := by unfold mvR; exact if_pos hz
    rw [this]; exact bd_one.mono (by decide)
  · have hp : 0 < r.2 := by
      rcases g.2 with q | q
      · exact q
      · rw [q] at hz; exact absurd rfl hz
    have em : mvR r = (r.1, (r.1 * invN r.1 r.2 - 1) / r.2, r.2, invN r.1 r.2) := by unfold mvR; exact if_neg hz
    obtain ⟨i1, i2, i3⟩ := invN_ok hp h2 g.1
    rw [em]
    generalize invN r.1 r.2 = v at *
    have e := Int.mul_ediv_cancel' i3
    generalize (r.1 * v - 1) / r.2 = j at *
    have hj : j.natAbs ≤ r.1.natAbs + 1 := by
      have e1 : (r.2 * j).natAbs = (r.1 * v - 1).natAbs := by rw [e]
      rw [Int.natAbs_mul] at e1
      have e2 : (r.1 * v - 1).natAbs ≤ r.1.natAbs * v.natAbs + 1 := by rw [← Int.natAbs_mul]; omega
      have e3 : r.1.natAbs * v.natAbs ≤ r.1.natAbs * r.2.natAbs := Nat.mul_le_mul_left _ (by omega)
      have e4 : r.2.natAbs * (r.1.natAbs + 1) = r.1.natAbs * r.2.natAbs + r.2.natAbs := by rw [Nat.mul_add, Nat.mul_one, Nat.mul_comm]
      exact Nat.le_of_mul_le_mul_left (show r.2.natAbs * j.natAbs ≤ r.2.natAbs * (r.1.natAbs + 1) by omega) (by omega)
    exact ⟨show r.1.natAbs < 2 ^ 11 by omega, show j.natAbs < 2 ^ 11 by omega, show r.2.natAbs < 2 ^ 11 by omega, show v.natAbs < 2 ^ 11 by omega⟩
theorem dry.lt {r : R} (h : dry 200 r) : r.2 < 1000 := by have := h.2.2.2; omega
theorem dry.mv {r : R} (h : dry 200 r) : BdM 11 (mvR r) := mvR_bd h.1 (by have := h.2.1; omega) h.lt
theorem dry.ok {r : R} (h : dry 200 r) : good (mvR r) := (mvR_ok h.1 h.lt).1
theorem dry.ld {r : R} (h : dry 200 r) : ldR (mvR r) (1, 0) = r := (mvR_ok h.1 h.lt).2.1
/-- a move from one ray to another -/
def btw (r s : R) : M := P (mvR s) (sg (adj (mvR r)))
theorem btw_bd {r s : R} (hr : dry 200 r) (hs : dry 200 s) : BdM 23 (btw r s) := (hs.mv.P hr.mv.adj.sg)
theorem btw_good {r s : R} (hr : dry 200 r) (hs : dry 200 s) : good (btw r s) := good_P hs.ok.1 (by rw [det_sg, det_adj]; exact hr.ok.1)
theorem btw_ld {r s : R} (hr : dry 200 r) (hs : dry 200 s) : ldR (btw r s) r = s := by
  unfold btw
  rw [ld_P hs.ok.1 (by rw [det_sg, det_adj]; exact hr.ok.1) hr.1.1]
  have e : ldR (sg (adj (mvR r))) r = (1, 0) := by
    have := ld_adj hr.ok.1 (r := (1, 0)) ⟨rfl, .inr rfl⟩
    rwa [hr.ld] at this
  rw [e]; exact hs.ld
/-- a ray next to one -/
def nrR (r : R) (k : Int) : R := ldR (mvR r) (k, 1)
theorem gcd_k1 (k : Int) : Int.gcd k 1 = 1 := Int.gcd_one_right k
theorem nr_g {r : R} (hr : dry 200 r) (k : Int) : gR (nrR r k) := gR_so (by rw [gcd_ap hr.ok.1]; exact gcd_k1 k)
theorem nr_dt {r : R} (hr : dry 200 r) (k : Int) : aI (dt r (nrR r k)) = 1 := by
  have := far_ld hr.ok.1 (1, 0) (k, 1)
  rw [hr.ld] at this
  unfold nrR
  rw [this]
  simp [dt, aI]
theorem nr_bd {r : R} (hr : dry 200 r) {k : Int} (h0 : 0 ≤ k) (h1 : k ≤ 100) : BdR 20 (nrR r k) := by
  have : BdR 7 (k, 1) := ⟨show k.natAbs < 2 ^ 7 by omega, show (1 : Int).natAbs < 2 ^ 7 by decide⟩
  exact (BdR.ld hr.mv this).mono (by decide)
theorem aI1 {i : Int} (h : aI i = 1) : i = 1 ∨ i = -1 := by unfold aI at h; split at h <;> omega
theorem ed_det {r s : R} (h : aI (dt r s) = 1) : det (edM r s) = 1 := by
  unfold edM
  rcases aI1 h with e | e
  · rw [if_pos e]
    simp only [dt] at e
    simp only [det]
    grind
  · rw [if_neg (by omega)]
    simp only [dt] at e
    simp only [det]
    grind
theorem ed_good {r s : R} (h : aI (dt r s) = 1) : good (sg (edM r s)) := good_sg (ed_det h)
theorem ed_l {r s : R} (h : aI (dt r s) = 1) (g : gR r) : ldR (sg (edM r s)) (1, 0) = r := by
  unfold ldR
  rw [so_ap_sg (ed_det h) rfl]
  have : ap (edM r s) (1, 0) = r := by unfold edM ap; split <;> simp
  rw [this]; exact so_gR g
theorem ed_r {r s : R} (h : aI (dt r s) = 1) (g : gR s) : ldR (sg (edM r s)) (0, 1) = s := by
  unfold ldR
  rw [so_ap_sg (ed_det h) rfl]
  have : ap (edM r s) (0, 1) = s ∨ ap (edM r s) (0, 1) = (0 - s.1, 0 - s.2) := by unfold edM ap; split <;> simp
  rcases this with e | e <;> rw [e]
  · exact so_gR g
  · rw [so_ng (ne_of_gcd g.1)]; exact so_gR g
theorem ed_bd {r s : R} {a : Nat} (hr : BdR a r) (hs : BdR a s) : BdM a (edM r s) := by
  unfold edM; split
  · exact ⟨hr.1, hs.1, hr.2, hs.2⟩
  · exact ⟨hr.1, show Bd a (0 - s.1) by rw [Int.zero_sub]; exact hs.1.neg, hr.2, show Bd a (0 - s.2) by rw [Int.zero_sub]; exact hs.2.neg⟩
theorem gcd_sum {r s : R} (h : aI (dt r s) = 1) : Int.gcd (r.1 + s.1) (r.2 + s.2) = 1 := by
  have : dt (r.1 + s.1, r.2 + s.2) s = dt r s := by simp only [dt]; grind
  exact gcd_dt (r := (r.1 + s.1, r.2 + s.2)) (s := s) (by rw [this]; exact h)
theorem cvL_last (x y : Int) (hg : Int.gcd x y = 1) : ∀ (f : Nat) (a b : Int) (p q : R) (acc : List R), 0 ≤ b → b < f → (0 < a ∨ 0 < b) → a * q.1 + b * p.1 = x → a * q.2 + b * p.2 = y → (∃ l, acc = l ++ [q]) → ∃ l, cvL f a b p q acc = l ++ [(x, y)]
  | 0, a, b, p, q, acc, h0, h1, _, _, _, _ => by omega
  | f + 1, a, b, p, q, acc, h0, h1, hab, e1, e2, hl => by
    unfold cvL
    by_cases hz : b = 0
    · rw [if_pos hz]
      subst hz
      have ha : 0 < a := by omega
      simp at e1 e2
      have : (a : Int) ∣ Int.gcd x y := Int.dvd_coe_gcd ⟨q.1, e1.symm⟩ ⟨q.2, e2.symm⟩
      rw [hg] at this
      have := Int.le_of_dvd (by decide) this
      have : a = 1 := by omega
      subst this
      obtain ⟨l, rfl⟩ := hl
      refine ⟨l, ?_⟩
      rw [Int.one_mul] at e1 e2
      rw [← e1, ← e2]
    · rw [if_neg hz]
      have em : a - a / b * b = a % b := by rw [Int.emod_def, Int.mul_comm]
      have m0 : 0 ≤ a % b := Int.emod_nonneg _ hz
      have m1 : a % b < b := Int.emod_lt_of_pos _ (by omega)
      refine cvL_last x y hg f b (a - a / b * b) q _ _ (by omega) (by omega) (by omega) ?_ ?_ ⟨acc, rfl⟩
      · rw [← e1]; simp only; grind
      · rw [← e2]; simp only; grind
theorem cvR_last {r : R} (hr : dry 200 r) : ∃ l, cvR r = l ++ [r] := by
  have h2 := hr.2.2
  refine cvL_last r.1 r.2 hr.1.1 1000 r.1 r.2 (0, 1) (1, 0) [(1, 0)] h2.1 (by omega) ?_ (by simp) (by simp) ⟨[], rfl⟩
  rcases hr.1.2 with q | q
  · exact .inr q
  · rw [q]; exact .inl (by decide)
theorem cvL_len : ∀ (f : Nat) (a b : Int) (p q : R) (acc : List R), (cvL f a b p q acc).length ≤ acc.length + f
  | 0, _, _, _, _, acc => by simp [cvL]
  | f + 1, a, b, p, q, acc => by
    unfold cvL; split
    · omega
    · have := cvL_len f b (a - a / b * b) q (a / b * q.1 + p.1, a / b * q.2 + p.2) (acc ++ [(a / b * q.1 + p.1, a / b * q.2 + p.2)])
      simp at this
      omega
/-! equal things -/
theorem rd_shaped : ∀ rs : List R, PyData.canLayAll0 (toPys (rs.map rd)) = true ∧ PyData.depthAll (toPys (rs.map rd)) ≤ 1
  | [] => by simp [toPys, PyData.canLayAll0, PyData.depthAll]
  | r :: rs => by
    obtain ⟨h1, h2⟩ := rd_shaped rs
    simp [toPys, toPy, rd, PyData.canLayAll0, PyData.depthAll, PyData.canLay0, PyData.depth] at h1 h2 ⊢
    exact ⟨h1, by omega⟩
theorem rd_eqv : ∀ rs : List R, PyData.eqvAll (toPys (rs.map rd)) (toPys (rs.map rd)) = true
  | [] => by simp [toPys, PyData.eqvAll]
  | r :: rs => by
    have := rd_eqv rs
    simp [toPys, toPy, rd, PyData.eqvAll, PyData.eqv] at this ⊢
    exact this
theorem eqD_rs (rs : List R) : eqD (.tup (rs.map rd)) (.tup (rs.map rd)) = some true := by
  obtain ⟨h1, h2⟩ := rd_shaped rs
  unfold eqD SeqAt.shaped
  simp [toPy, PyData.canLay0, PyData.depth, h1, PyData.eqv, rd_eqv]
  omega
theorem eqD_bb (a b : Bool) : eqD (.bl a) (.bl b) = some (decide (a = b)) := by
  simp [eqD, toPy, SeqAt.shaped, PyData.canLay0, PyData.depth, PyData.eqv]
  cases a <;> cases b <;> rfl
def cnt : D := .lst [.str "cannot", .bl true]
theorem okc : PyData.strOk "cannot" = true := by decide +kernel
theorem eqD_cc : eqD (.lst [.str "cannot", .bl true]) (.lst [.str "cannot", .bl true]) = some true := by
  simp [okc, eqD, toPy, toPys, SeqAt.shaped, PyData.canLay0, PyData.canLayAll0, PyData.depth, PyData.depthAll, PyData.eqv, PyData.eqvAll]
theorem eqD_rc (r : R) : eqD (rd r) (.lst [.str "cannot", .bl true]) = some false := by
  simp [okc, rd, eqD, toPy, toPys, SeqAt.shaped, PyData.canLay0, PyData.canLayAll0, PyData.depth, PyData.depthAll, PyData.eqv, PyData.eqvAll]
theorem eqD_mc (m : M) : eqD (md m) (.lst [.str "cannot", .bl true]) = some false := by
  simp [okc, md, eqD, toPy, toPys, SeqAt.shaped, PyData.canLay0, PyData.canLayAll0, PyData.depth, PyData.depthAll, PyData.eqv, PyData.eqvAll]
theorem eqD_ln (is : List Int) : eqD (.lst (is.map D.int)) (.lst []) = some (decide (is = [])) := by
  obtain ⟨h1, h2⟩ := shaped_ints is
  unfold eqD SeqAt.shaped
  cases is with
  | nil => decide
  | cons i is =>
    have e : toPy (.lst ((i :: is).map D.int)) = .list (toPys ((i :: is).map D.int)) := rfl
    rw [e]
    have e2 : toPys ((i :: is).map D.int) = .int i :: toPys (is.map D.int) := rfl
    simp [PyData.canLay0, PyData.depth, h1, h2, toPy, toPys, PyData.canLayAll0, PyData.depthAll, PyData.eqv, PyData.eqvAll, shaped_ints is]
end PL.K50
end

section
/-! rows of letters, in plain numbers -/
namespace PL.WD
open PL PL.K00 PL.RY

def ltr (k : Int) : M := if k = 1 then (0, -1, 1, 0) else if k = 2 then (0, -1, 1, 1) else (-1, -1, 1, 0)
def okL (w : List Int) : Prop := ∀ l ∈ w, l = 1 ∨ l = 2 ∨ l = 3
theorem det_ltr (k : Int) : det (ltr k) = 1 := by unfold ltr; split <;> (try split) <;> rfl
theorem mul_one' (x : M) : mulM x one1 = x := by
  obtain ⟨a, b, c, d⟩ := x
  simp [mulM, one1]
theorem P_one' {x : M} (h : good x) : P x one1 = x := by unfold P; rw [mul_one']; exact sg_good h
theorem good_1 : good one1 := ⟨rfl, .inr ⟨rfl, rfl⟩⟩
def W (w : List Int) : M := w.foldl (fun m l => P m (ltr l)) one1
theorem W_nil : W [] = one1 := rfl
theorem W_snoc (w : List Int) (l : Int) : W (w ++ [l]) = P (W w) (ltr l) := by unfold W; rw [List.foldl_append]; rfl
theorem W_good (w : List Int) : good (W w) := by
  rcases List.eq_nil_or_concat w with rfl | ⟨u, l, rfl⟩
  · exact good_1
  · rw [List.concat_eq_append, W_snoc]
    have : ∀ (v : List Int), det (W v) = 1 := by
      intro v
      have : ∀ (v : List Int) (m : M), det m = 1 → det (v.foldl (fun m l => P m (ltr l)) m) = 1 := by
        intro v
        induction v with
        | nil => intro m h; exact h
        | cons a v ih => intro m h; exact ih _ (det_P h (det_ltr a))
      exact this v one1 rfl
    exact good_P (this u) (det_ltr l)
theorem W_det (w : List Int) : det (W w) = 1 := (W_good w).1
theorem W_one (l : Int) : W [l] = P one1 (ltr l) := rfl
theorem W_app (u : List Int) : ∀ v : List Int, W (u ++ v) = P (W u) (W v) := by
  have : ∀ (n : Nat) (v : List Int), v.length = n → W (u ++ v) = P (W u) (W v) := by
    intro n
    induction n with
    | zero =>
      intro v h
      have := List.eq_nil_of_length_eq_zero h
      subst this
      rw [List.append_nil, W_nil, P_one' (W_good u)]
    | succ n ih =>
      intro v h
      rcases List.eq_nil_or_concat v with rfl | ⟨v', l, rfl⟩
      · simp at h
      · rw [List.concat_eq_append] at h ⊢
        rw [← List.append_assoc, W_snoc, W_snoc, ih v' (by simpa using h), P_assoc (W_det u) (W_det v') (det_ltr l)]
  exact fun v => this _ v rfl
/-! shortening -/
def stp (f : List Int) (o : Int) : List Int := match f.getLast? with
  | none => f ++ [o]
  | some l => if (l == 1) != (o == 1) then f ++ [o] else if o = 1 then f.dropLast else if (l - 1 + o - 1) % 3 ≠ 0 then f.dropLast ++ [(l - 1 + o - 1) % 3 + 1] else f.dropLast
def shrt (w : List Int) : List Int := w.foldl stp []
theorem P_cancel {x y : M} (gx : good x) (hy : det y = 1) {z : M} (hz : det z = 1) (h : P y z = one1) : P (P x y) z = x := by
  rw [P_assoc gx.1 hy hz, h, P_one' gx]
theorem stp_W {f : List Int} {o : Int} (hf : okL f) (ho : o = 1 ∨ o = 2 ∨ o = 3) : W (stp f o) = P (W f) (ltr o) ∧ okL (stp f o) := by
  rcases List.eq_nil_or_concat f with rfl | ⟨u, l, rfl⟩
  · refine ⟨rfl, ?_⟩
    intro x hx
    have : x = o := by simpa [stp] using hx
    rw [this]; exact ho
  · rw [List.concat_eq_append] at hf ⊢
    have hl := hf l (by simp)
    have hu : okL u := fun x hx => hf x (by simp [hx])
    have hs : stp (u ++ [l]) o = if (l == 1) != (o == 1) then u ++ [l] ++ [o] else if o = 1 then u else if (l - 1 + o - 1) % 3 ≠ 0 then u ++ [(l - 1 + o - 1) % 3 + 1] else u := by
      unfold stp
      rw [List.getLast?_append]
      simp
    rw [hs, W_snoc]
    have gu := W_good u
    have push : ∀ k, (k = 1 ∨ k = 2 ∨ k = 3) → okL (u ++ [k]) := fun k hk x hx => by
      rcases List.mem_append.mp hx with h | h
      · exact hu x h
      · have : x = k := by simpa using h
        rw [this]; exact hk
    have push2 : okL (u ++ [l] ++ [o]) := fun x hx => by
      rcases List.mem_append.mp hx with h | h
      · exact hf x h
      · have : x = o := by simpa using h
        rw [this]; exact ho
    have two : ∀ a b c : Int, P (ltr a) (ltr b) = ltr c → P (P (W u) (ltr a)) (ltr b) = P (W u) (ltr c) := fun a b c h => by
      rw [P_assoc gu.1 (det_ltr a) (det_ltr b), h]
    have nul : ∀ a b : Int, P (ltr a) (ltr b) = one1 → P (P (W u) (ltr a)) (ltr b) = W u := fun a b h => P_cancel gu (det_ltr a) (det_ltr b) h
    rcases hl with rfl | rfl | rfl <;> rcases ho with rfl | rfl | rfl
    · exact ⟨(nul 1 1 (by decide)).symm, hu⟩
    · exact ⟨by show W (u ++ [1] ++ [2]) = _; rw [W_snoc, W_snoc], push2⟩
    · exact ⟨by show W (u ++ [1] ++ [3]) = _; rw [W_snoc, W_snoc], push2⟩
    · exact ⟨by show W (u ++ [2] ++ [1]) = _; rw [W_snoc, W_snoc], push2⟩
    · exact ⟨by show W (u ++ [3]) = _; rw [W_snoc]; exact (two 2 2 3 (by decide)).symm, push 3 (by simp)⟩
    · exact ⟨(nul 2 3 (by decide)).symm, hu⟩
    · exact ⟨by show W (u ++ [3] ++ [1]) = _; rw [W_snoc, W_snoc], push2⟩
    · exact ⟨(nul 3 2 (by decide)).symm, hu⟩
    · exact ⟨by show W (u ++ [2]) = _; rw [W_snoc]; exact (two 3 3 2 (by decide)).symm, push 2 (by simp)⟩
theorem fold_W : ∀ (w f : List Int), okL f → okL w → W (w.foldl stp f) = P (W f) (W w) ∧ okL (w.foldl stp f)
  | [], f, hf, _ => ⟨by rw [W_nil, P_one' (W_good f)]; rfl, hf⟩
  | o :: w, f, hf, hw => by
    obtain ⟨h1, h2⟩ := stp_W hf (hw o (by simp))
    obtain ⟨h3, h4⟩ := fold_W w (stp f o) h2 (fun x hx => hw x (by simp [hx]))
    refine ⟨?_, h4⟩
    have : W (o :: w) = P (ltr o) (W w) := by
      have := W_app [o] w
      rw [List.singleton_append] at this
      rw [this, W_one, P_one (x := ltr o) (by unfold ltr; split <;> (try split) <;> exact ⟨rfl, .inl (by decide)⟩)]
    rw [List.foldl_cons, h3, h1, this, P_assoc (W_det f) (det_ltr o) (W_det w)]
theorem shrt_W {w : List Int} (h : okL w) : W (shrt w) = W w ∧ okL (shrt w) := by
  obtain ⟨h1, h2⟩ := fold_W w [] (fun x hx => by cases hx) h
  exact ⟨by show W (w.foldl stp []) = _; rw [h1, W_nil, P_one (W_good w)], h2⟩
theorem stp_len (f : List Int) (o : Int) : (stp f o).length ≤ f.length + 1 := by
  unfold stp
  split
  · simp
  · split
    · simp
    · split
      · simp; omega
      · split <;> simp <;> omega
theorem fold_len : ∀ (w f : List Int), (w.foldl stp f).length ≤ f.length + w.length
  | [], f => by simp
  | o :: w, f => by
    have := fold_len w (stp f o)
    have := stp_len f o
    simp only [List.foldl_cons, List.length_cons]
    omega
/-! steps -/
def St (q : Int) : M := (1, q, 0, 1)
def Tn : M := (0, -1, 1, 0)
theorem det_St (q : Int) : det (St q) = 1 := by simp [St, det]
theorem good_St (q : Int) : good (St q) := ⟨det_St q, .inr ⟨rfl, rfl⟩⟩
theorem P_St (p q : Int) : P (St p) (St q) = St (p + q) := by
  unfold P
  have : mulM (St p) (St q) = St (p + q) := by simp [mulM, St]; omega
  rw [this]; exact sg_good (good_St _)
def lw (q : Int) : List Int := if 0 ≤ q then (List.replicate q.toNat [1, 2]).flatten else (List.replicate (0 - q).toNat [3, 1]).flatten
theorem lw_pos : ∀ n : Nat, W (List.replicate n [(1 : Int), 2]).flatten = St n ∧ okL (List.replicate n [(1 : Int), 2]).flatten
  | 0 => ⟨rfl, fun x hx => by cases hx⟩
  | n + 1 => by
    obtain ⟨h1, h2⟩ := lw_pos n
    rw [List.replicate_succ, List.flatten_cons]
    refine ⟨?_, fun x hx => ?_⟩
    · rw [W_app, h1, show W [1, 2] = St 1 from by decide, P_St]
      congr 1
      omega
    · rcases List.mem_append.mp hx with h | h
      · simp at h; omega
      · exact h2 x h
theorem lw_neg : ∀ n : Nat, W (List.replicate n [(3 : Int), 1]).flatten = St (-n) ∧ okL (List.replicate n [(3 : Int), 1]).flatten
  | 0 => ⟨rfl, fun x hx => by cases hx⟩
  | n + 1 => by
    obtain ⟨h1, h2⟩ := lw_neg n
    rw [List.replicate_succ, List.flatten_cons]
    refine ⟨?_, fun x hx => ?_⟩
    · rw [W_app, h1, show W [3, 1] = St (-1) from by decide, P_St]
      congr 1
      omega
    · rcases List.mem_append.mp hx with h | h
      · simp at h; omega
      · exact h2 x h
theorem lw_ok (q : Int) : W (lw q) = St q ∧ okL (lw q) := by
  unfold lw
  split
  · obtain ⟨h1, h2⟩ := lw_pos q.toNat
    exact ⟨by rw [h1]; congr 1; omega, h2⟩
  · obtain ⟨h1, h2⟩ := lw_neg (0 - q).toNat
    exact ⟨by rw [h1]; congr 1; omega, h2⟩
theorem lw_len (q : Int) : (lw q).length = 2 * q.natAbs := by
  unfold lw
  split <;> rw [List.length_flatten, List.map_replicate, List.sum_replicate_nat] <;> simp <;> omega
/-! the numbers of steps between turns -/
def near (a c : Int) : Int := if c < 0 then 0 - ((0 - c) - 2 * (0 - a)) / (2 * (0 - c)) else 0 - (c - 2 * a) / (2 * c)
theorem near_ok (a c : Int) (hc : c ≠ 0) : 2 * (near a c * c - a).natAbs ≤ c.natAbs ∧ (near a c).natAbs ≤ a.natAbs + 1 := by
  have key : ∀ a c : Int, 0 < c → 2 * ((0 - (c - 2 * a) / (2 * c)) * c - a).natAbs ≤ c.natAbs := by
    intro a c hc
    have e := Int.mul_ediv_add_emod (c - 2 * a) (2 * c)
    have m0 := Int.emod_nonneg (c - 2 * a) (show 2 * c ≠ 0 by omega)
    have m1 := Int.emod_lt_of_pos (c - 2 * a) (show 0 < 2 * c by omega)
    generalize (c - 2 * a) / (2 * c) = t at *
    generalize (c - 2 * a) % (2 * c) = m at *
    have e2 : (0 - t) * c = -(c * t) := by grind
    have e3 : 2 * c * t = 2 * (c * t) := by grind
    rw [e2]
    generalize c * t = ct at *
    omega
  have h1 : 2 * (near a c * c - a).natAbs ≤ c.natAbs := by
    unfold near
    split
    · have := key (0 - a) (0 - c) (by omega)
      have e : (0 - ((0 - c) - 2 * (0 - a)) / (2 * (0 - c))) * (0 - c) - (0 - a) = -((0 - ((0 - c) - 2 * (0 - a)) / (2 * (0 - c))) * c - a) := by grind
      rw [e] at this
      omega
    · exact key a c (by omega)
  refine ⟨h1, ?_⟩
  generalize near a c = q at *
  have e : (q * c).natAbs = q.natAbs * c.natAbs := Int.natAbs_mul ..
  have h2 : q.natAbs * c.natAbs ≤ a.natAbs + c.natAbs := by omega
  have hc1 : 1 ≤ c.natAbs := by omega
  rcases Nat.lt_or_ge (a.natAbs + 1) q.natAbs with z | z
  · exfalso
    have h3 : (a.natAbs + 2) * c.natAbs ≤ q.natAbs * c.natAbs := Nat.mul_le_mul_right _ (by omega)
    have h4 : (a.natAbs + 2) * c.natAbs = a.natAbs * c.natAbs + 2 * c.natAbs := by rw [Nat.add_mul]
    have h5 : a.natAbs * 1 ≤ a.natAbs * c.natAbs := Nat.mul_le_mul_left _ hc1
    omega
  · exact z
def quo : Nat → Int → Int → Int → Int → List Int
  | 0, _, _, _, _ => []
  | f + 1, a, b, c, d => if c = 0 then [if 0 < d then b else 0 - b] else near a c :: quo f c d (near a c * c - a) (near a c * d - b)
def rowM : List Int → M
  | [] => one1
  | [q] => St q
  | q :: p :: r => P (P (St q) Tn) (rowM (p :: r))
theorem quo_ne : ∀ (f : Nat) (a b c d : Int), 0 < f → quo f a b c d ≠ []
  | f + 1, a, b, c, d, _ => by unfold quo; split <;> simp
theorem quo_M : ∀ (f : Nat) (a b c d : Int), c.natAbs < f → det (a, b, c, d) = 1 → rowM (quo f a b c d) = sg (a, b, c, d)
  | 0, a, b, c, d, h, _ => by omega
  | f + 1, a, b, c, d, h, hd => by
    unfold quo
    split
    · next z =>
      subst z
      have hd : a * d - b * 0 = 1 := hd
      rw [Int.mul_zero, Int.sub_zero] at hd
      by_cases hp : 0 < d
      · obtain ⟨rfl, rfl⟩ := unit_of hd hp
        rw [if_pos hp]
        exact (sg_good (good_St b)).symm
      · have hd2 : (0 - a) * (0 - d) = 1 := by grind
        have hdn : d ≠ 0 := by intro q; subst q; simp at hd
        obtain ⟨h1, h2⟩ := unit_of hd2 (by omega)
        have ea : a = -1 := by omega
        have ed : d = -1 := by omega
        subst ea ed
        rw [if_neg hp]
        rfl
    · next z =>
      have hq := near_ok a c z
      generalize near a c = q at *
      have hd' : det (c, d, q * c - a, q * d - b) = 1 := by
        have hd : a * d - b * c = 1 := hd
        show c * (q * d - b) - d * (q * c - a) = 1
        grind
      have ih := quo_M f c d (q * c - a) (q * d - b) (by omega) hd'
      have hr : rowM (q :: quo f c d (q * c - a) (q * d - b)) = P (P (St q) Tn) (rowM (quo f c d (q * c - a) (q * d - b))) := by
        have hne := quo_ne f c d (q * c - a) (q * d - b) (by omega)
        generalize quo f c d (q * c - a) (q * d - b) = l at *
        match l, hne with
        | p :: r, _ => rfl
      rw [hr, ih]
      have h1 : det (mulM (St q) Tn) = 1 := by rw [det_mul, det_St]; rfl
      unfold P
      rw [sg_mul_r (det_sg _ ▸ h1) hd', sg_mul_l h1 hd']
      congr 1
      simp only [mulM, St, Tn, Prod.mk.injEq]
      refine ⟨?_, ?_, ?_, ?_⟩ <;> grind
def wl : Nat → List Int → List Int
  | _, [] => []
  | k, q :: r => (if 0 < k then [1] else []) ++ lw q ++ wl (k + 1) r
theorem wl_succ : ∀ (k : Nat) (r : List Int), r ≠ [] → W (wl (k + 1) r) = P Tn (rowM r) ∧ okL (wl (k + 1) r)
  | k, [q], _ => by
    obtain ⟨h1, h2⟩ := lw_ok q
    show W ((if 0 < k + 1 then [1] else []) ++ lw q ++ []) = _ ∧ okL ((if 0 < k + 1 then [1] else []) ++ lw q ++ [])
    rw [if_pos (by omega), List.append_nil, W_app, h1]
    exact ⟨rfl, fun x hx => by
      rcases List.mem_append.mp hx with h | h
      · simp at h; exact .inl h
      · exact h2 x h⟩
  | k, q :: p :: r, _ => by
    obtain ⟨h1, h2⟩ := lw_ok q
    obtain ⟨h3, h4⟩ := wl_succ (k + 1) (p :: r) (by simp)
    have gr : det (rowM (p :: r)) = 1 := by
      have : ∀ l : List Int, det (rowM l) = 1 := by
        intro l
        induction l with
        | nil => rfl
        | cons a l ih =>
          cases l with
          | nil => exact det_St a
          | cons b l => exact det_P (det_P (det_St a) rfl) ih
      exact this _
    show W ((if 0 < k + 1 then [1] else []) ++ lw q ++ wl (k + 1 + 1) (p :: r)) = _ ∧ okL ((if 0 < k + 1 then [1] else []) ++ lw q ++ wl (k + 1 + 1) (p :: r))
    rw [if_pos (by omega), W_app, W_app, h1, h3]
    refine ⟨?_, fun x hx => ?_⟩
    · show P (P (W [1]) (St q)) (P Tn (rowM (p :: r))) = P Tn (P (P (St q) Tn) (rowM (p :: r)))
      have e : W [1] = Tn := by decide
      rw [e, P_assoc (by rfl) (det_St q) (det_P rfl gr), P_assoc (det_St q) rfl gr]
    · rcases List.mem_append.mp hx with h | h
      · rcases List.mem_append.mp h with h | h
        · simp at h; exact .inl h
        · exact h2 x h
      · exact h4 x h
theorem wl_ok (r : List Int) (h : r ≠ []) : W (wl 0 r) = rowM r ∧ okL (wl 0 r) := by
  match r, h with
  | [q], _ =>
    obtain ⟨h1, h2⟩ := lw_ok q
    show W ([] ++ lw q ++ []) = _ ∧ okL ([] ++ lw q ++ [])
    rw [List.append_nil, List.nil_append]
    exact ⟨h1, h2⟩
  | q :: p :: r, _ =>
    obtain ⟨h1, h2⟩ := lw_ok q
    obtain ⟨h3, h4⟩ := wl_succ 0 (p :: r) (by simp)
    have gr : det (rowM (p :: r)) = 1 := by
      have : ∀ l : List Int, det (rowM l) = 1 := by
        intro l
        induction l with
        | nil => rfl
        | cons a l ih =>
          cases l with
          | nil => exact det_St a
          | cons b l => exact det_P (det_P (det_St a) rfl) ih
      exact this _
    show W ([] ++ lw q ++ wl (0 + 1) (p :: r)) = _ ∧ okL ([] ++ lw q ++ wl (0 + 1) (p :: r))
    rw [List.nil_append, W_app, h1, h3]
    refine ⟨?_, fun x hx => ?_⟩
    · show P (St q) (P Tn (rowM (p :: r))) = P (P (St q) Tn) (rowM (p :: r))
      rw [P_assoc (det_St q) rfl gr]
    · rcases List.mem_append.mp hx with h | h
      · exact h2 x h
      · exact h4 x h
/-! bounds -/
def sumA (r : List Int) : Nat := (r.map Int.natAbs).sum
theorem quo_bd (A D : Nat) (hD : 2 ≤ D) : ∀ (k f : Nat) (a b c d : Int), c.natAbs < 2 ^ k → det (a, b, c, d) = 1 → a.natAbs ≤ A → c.natAbs ≤ A → b.natAbs ≤ D → d.natAbs ≤ D → sumA (quo f a b c d) ≤ k * (A + 1) + D ∧ (quo f a b c d).length ≤ k + 1
  | k, 0, a, b, c, d, _, _, _, _, _, _ => by simp [quo, sumA]
  | 0, f + 1, a, b, c, d, hc, _, _, _, hb, _ => by
    have : c = 0 := by simp at hc; exact hc
    unfold quo
    rw [if_pos this]
    refine ⟨?_, by simp⟩
    simp only [sumA, List.map_cons, List.map_nil, List.sum_cons, List.sum_nil]
    split <;> omega
  | k + 1, f + 1, a, b, c, d, hc, hd, ha, hA, hb, hdd => by
    unfold quo
    by_cases z : c = 0
    · rw [if_pos z]
      refine ⟨?_, by simp⟩
      have : 0 ≤ (k + 1) * (A + 1) := Nat.zero_le _
      simp only [sumA, List.map_cons, List.map_nil, List.sum_cons, List.sum_nil]
      split <;> omega
    · rw [if_neg z]
      obtain ⟨h1, h2⟩ := near_ok a c z
      generalize near a c = q at *
      have hd0 : a * d - b * c = 1 := hd
      have hd' : det (c, d, q * c - a, q * d - b) = 1 := by
        show c * (q * d - b) - d * (q * c - a) = 1
        grind
      have hd2 : c * (q * d - b) = d * (q * c - a) + 1 := by grind
      have hbd : (q * d - b).natAbs ≤ D := by
        have e1 : (c * (q * d - b)).natAbs = c.natAbs * (q * d - b).natAbs := Int.natAbs_mul ..
        have e2 : (d * (q * c - a)).natAbs = d.natAbs * (q * c - a).natAbs := Int.natAbs_mul ..
        have e3 : (c * (q * d - b)).natAbs ≤ (d * (q * c - a)).natAbs + 1 := by rw [hd2]; omega
        have e4 : d.natAbs * (2 * (q * c - a).natAbs) ≤ D * c.natAbs := Nat.mul_le_mul hdd h1
        have e5 : d.natAbs * (2 * (q * c - a).natAbs) = 2 * (d.natAbs * (q * c - a).natAbs) := by rw [Nat.mul_left_comm]
        have e6 : 2 * (c.natAbs * (q * d - b).natAbs) ≤ D * c.natAbs + 2 := by omega
        rcases Nat.lt_or_ge D (q * d - b).natAbs with y | y
        · exfalso
          have e7 : c.natAbs * (D + 1) ≤ c.natAbs * (q * d - b).natAbs := Nat.mul_le_mul_left _ y
          have e8 : c.natAbs * (D + 1) = D * c.natAbs + c.natAbs := by rw [Nat.mul_add, Nat.mul_one, Nat.mul_comm]
          have e9 : 2 * c.natAbs ≤ D * c.natAbs := Nat.mul_le_mul_right _ hD
          have : 1 ≤ c.natAbs := by omega
          omega
        · exact y
      obtain ⟨i1, i2⟩ := quo_bd A D hD k f c d (q * c - a) (q * d - b) (by rw [Nat.pow_succ] at hc; omega) hd' hA (by omega) hdd hbd
      refine ⟨?_, by simp; omega⟩
      have : (k + 1) * (A + 1) = k * (A + 1) + (A + 1) := Nat.succ_mul ..
      simp only [sumA, List.map_cons, List.sum_cons] at i1 ⊢
      omega
end PL.WD
end

section
set_option exponentiation.threshold 5000
namespace PL.K50
open PL PL.K00 PL.RY PL.WD PySem PySem.Spec L2

theorem dvs2 {i : Int} (h0 : 0 < i) (h : i ≤ 100000) : divOk i = true := by
  have : i.natAbs.log2 < 9000 := Nat.lt_of_lt_of_le ((Nat.log2_lt (by omega)).mpr (show i.natAbs < 2 ^ 17 by omega)) (by decide)
  unfold divOk
  rw [decide_eq_true h0, decide_eq_true this]; rfl
theorem sp42 (n : Nat) (a c : Int) (hc : c ≠ 0) (hb : c.natAbs ≤ 2000) : callF T (n+1) 42 [.val (.int a), .val (.int c)] = .ok (.v (.int (near a c))) [.val (.int a), .val (.int c)] := by
  rw [x_callF T n 42 _ (F := f42) rfl rfl]
  have m2 : ∀ i : Int, mulOk 2 i = true := fun i => mulOk_l (by decide)
  unfold near
  by_cases h : c < 0
  · have hd := dvs2 (i := 2 * (0 - c)) (by omega) (by omega)
    simp only [Int.zero_sub] at hd
    simp [f42, h, m2, hd, fzRs, fzR, setRs, setR]
  · have hd := dvs2 (i := 2 * c) (by omega) (by omega)
    simp [f42, h, m2, hd]
def c43 : E := .cmp .NotEq (.var 3) (.int 0)
def b43 : List S := [.set 6 (.call 42 [.var 1, .var 3]), .ex (.app 5 (.var 6)), .par [1, 2, 3, 4] [.var 3, .var 4, .bin .sub (.bin .mul (.var 6) (.var 3)) (.var 1), .bin .sub (.bin .mul (.var 6) (.var 4)) (.var 2)]]
theorem lp43 (n : Nat) (x : SV) : ∀ (f : Nat) (a b c d : Int) (acc : List Int) (s6 : SV), Fre s6 → c.natAbs < f → c.natAbs ≤ 1000 → a.natAbs < 2 ^ 60 → acc.length + f ≤ 10000 →
    ∃ a' b' d' acc' s6', whL (fun e => toB (evE T (callF T (n+1)) true c43 e)) (fun e => exB T (callF T (n+1)) b43 e) (f + 99000) [x, .val (.int a), .val (.int b), .val (.int c), .val (.int d), .own (.lst (acc.map D.int)), s6] = .ok .next [x, .val (.int a'), .val (.int b'), .val (.int 0), .val (.int d'), .own (.lst (acc'.map D.int)), s6'] ∧ acc' ++ [if 0 < d' then b' else 0 - b'] = acc ++ quo f a b c d ∧ acc'.length ≤ acc.length + f
  | 0, a, b, c, d, acc, s6, _, h1, _, _, _ => by omega
  | f + 1, a, b, c, d, acc, s6, h6, h1, h2, h3, h4 => by
    rw [show f + 1 + 99000 = (f + 99000) + 1 from by omega]
    by_cases hz : c = 0
    · subst hz
      refine ⟨a, b, d, acc, s6, ?_, by rw [quo, if_pos rfl], by omega⟩
      rw [wh_end (e1 := [x, .val (.int a), .val (.int b), .val (.int 0), .val (.int d), .own (.lst (acc.map D.int)), s6]) (by simp [c43, eqD_int, toB])]
    · obtain ⟨q1, q2⟩ := near_ok a c hz
      have e42 := sp42 n a c hz (by omega)
      have k1 : ∀ i, mulOk (near a c) i = true := fun i => mulOk_l (by omega)
      have hl : acc.length < 16777216 := by omega
      obtain ⟨a', b', d', acc', s6', ih, ih2, ih3⟩ := lp43 n x f c d (near a c * c - a) (near a c * d - b) (acc ++ [near a c]) (.val (.int (near a c))) (Fre.val _) (by omega) (by omega) (by omega) (by simp; omega)
      refine ⟨a', b', d', acc', s6', ?_, ?_, by simp at ih3; omega⟩
      · rw [wh_step (e1 := [x, .val (.int a), .val (.int b), .val (.int c), .val (.int d), .own (.lst (acc.map D.int)), s6]) (e2 := [x, .val (.int c), .val (.int d), .val (.int (near a c * c - a)), .val (.int (near a c * d - b)), .own (.lst ((acc ++ [near a c]).map D.int)), .val (.int (near a c))]) (by simp [c43, eqD_int, toB, hz]) (by
          rcases h6 with rfl | ⟨_, rfl⟩ | ⟨_, rfl⟩ <;> simp [b43, e42, k1, fzR, fzRs, setR, setRs, lstAt, mineD, upS, sizeL, hl, frz_v]), ih]
      · rw [ih2, quo, if_neg hz]; simp
def rowsM (m : M) : List Int := quo 1000 m.1 m.2.1 m.2.2.1 m.2.2.2
theorem sp43 (n : Nat) (m : M) (hc : m.2.2.1.natAbs ≤ 900) (ha : m.1.natAbs < 2 ^ 60) : callF T (n+2) 43 [.val (md m)] = .ok (.t (.lst ((rowsM m).map D.int))) [.val (md m)] := by
  rw [x_callF T (n+1) 43 _ (F := f43) rfl rfl]
  obtain ⟨a', b', d', acc', s6', hw, he, hl⟩ := lp43 n (.val (md m)) 1000 m.1 m.2.1 m.2.2.1 m.2.2.2 [] .un Fre.un (by omega) (by omega) ha (by simp)
  show fin [.val (md m)] (exB T (callF T (n+1)) [.unp [1, 2, 3, 4] (.var 0), .set 5 (.lst []), .wh c43 b43, .ret (.bin .add (.var 5) (.lst [.ite (.cmp .Gt (.var 4) (.int 0)) (.var 2) (.bin .sub (.int 0) (.var 2))]))] [.val (md m), .un, .un, .un, .un, .un, .un]) = _
  have h1 : exS T (callF T (n+1)) (.unp [1, 2, 3, 4] (.var 0)) [.val (md m), .un, .un, .un, .un, .un, .un] = .ok .next [.val (md m), .val (.int m.1), .val (.int m.2.1), .val (.int m.2.2.1), .val (.int m.2.2.2), .un, .un] := by
    simp [md, setVals]
  have h2 : exS T (callF T (n+1)) (.set 5 (.lst [])) [.val (md m), .val (.int m.1), .val (.int m.2.1), .val (.int m.2.2.1), .val (.int m.2.2.2), .un, .un] = .ok .next [.val (md m), .val (.int m.1), .val (.int m.2.1), .val (.int m.2.2.1), .val (.int m.2.2.2), .own (.lst []), .un] := by
    simp [frzs, sizeL, fzR, setR]
  rw [x_b1, h1]
  simp only [bd_ok]
  rw [x_b1, h2]
  simp only [bd_ok]
  rw [x_b1, x_wh]
  rw [show T.wf = 1000 + 99000 from rfl]
  simp only [List.map] at hw
  rw [hw]
  simp only [List.nil_append] at he
  have hq : (rowsM m).map D.int = acc'.map D.int ++ [.int (if 0 < d' then b' else 0 - b')] := by
    unfold rowsM
    rw [← he, List.map_append]; rfl
  rw [hq]
  simp at hl
  by_cases hd : 0 < d'
  · simp [hd, frzs, frz_v, sizeL, retR, outs, toB, tst, truth, opt]
    rw [if_pos (by omega)]
    simp [retR]
  · simp [hd, frzs, frz_v, sizeL, retR, outs, toB, tst, truth, opt]
    rw [if_pos (by omega)]
    simp [retR]
/-! shortening -/
theorem atI_last {α : Type} (l : List α) (x : α) : atI (l ++ [x]) (-1) = some x := by
  simp [atI, ixN]
  rw [if_pos (by omega)]
  have : (-1 + ((l.length : Int) + 1)).toNat = l.length := by omega
  simp [this]
def b40 : List S := [.if_ (.andor false [.cmp .Eq (.var 1) (.lst []), .cmp .NotEq (.cmp .Eq (.ix (.var 1) (.neg (.int 1))) (.int 1)) (.cmp .Eq (.var 2) (.int 1))]) [.ex (.app 1 (.var 2))] [.if_ (.cmp .Eq (.var 2) (.int 1)) [.ex (.pop 1)] [.set 3 (.bin .mod (.bin .sub (.bin .add (.bin .sub (.pop 1) (.int 1)) (.var 2)) (.int 1)) (.int 3)), .if_ (.cmp .NotEq (.var 3) (.int 0)) [.ex (.app 1 (.bin .add (.var 3) (.int 1)))] []]]]
theorem st40 (n : Nat) (s0 s3 : SV) (f : List Int) (o : Int) (hf : okL f) (ho : o = 1 ∨ o = 2 ∨ o = 3) (h3 : Fre s3) (hl : f.length ≤ 1000000) :
    ∃ s3', Fre s3' ∧ exB T (callF T n) b40 [s0, .own (.lst (f.map D.int)), .val (.int o), s3] = .ok .next [s0, .own (.lst ((stp f o).map D.int)), .val (.int o), s3'] := by
  rcases List.eq_nil_or_concat f with rfl | ⟨u, l, rfl⟩
  · refine ⟨s3, h3, ?_⟩
    have e := eqD_ln []
    simp only [List.map_nil] at e
    simp [b40, e, toB, tst, truth, opt, stp, lstAt, mineD, upS, sizeL, frz_v, frzs]
  · rw [List.concat_eq_append] at hf hl ⊢
    have hll := hf l (by simp)
    have e := eqD_ln (u ++ [l])
    have hne : ¬ (u ++ [l] = []) := by simp
    rw [decide_eq_false hne] at e
    have ea := atI_last (u.map D.int) (.int l)
    simp only [List.length_append, List.length_cons, List.length_nil] at hl
    simp only [List.map_append, List.map_cons, List.map_nil] at e ⊢
    have h1 : u.length + 1 < 16777216 := by omega
    have h2 : u.length < 16777216 := by omega
    have hs : stp (u ++ [l]) o = if (l == 1) != (o == 1) then u ++ [l] ++ [o] else if o = 1 then u else if (l - 1 + o - 1) % 3 ≠ 0 then u ++ [(l - 1 + o - 1) % 3 + 1] else u := by
      unfold stp
      rw [List.getLast?_append]
      simp
    rw [hs]
    rcases hll with rfl | rfl | rfl <;> rcases ho with rfl | rfl | rfl
    · exact ⟨s3, h3, by simp [b40, e, ea, eqD_bb, eqD_int, toB, tst, truth, opt, intD, lstAt, mineD, upS, sizeL, frz_v, frzs, fzR, setR, h1, h2]⟩
    · exact ⟨s3, h3, by simp [b40, e, ea, eqD_bb, eqD_int, toB, tst, truth, opt, intD, lstAt, mineD, upS, sizeL, frz_v, frzs, fzR, setR, h1, h2]⟩
    · exact ⟨s3, h3, by simp [b40, e, ea, eqD_bb, eqD_int, toB, tst, truth, opt, intD, lstAt, mineD, upS, sizeL, frz_v, frzs, fzR, setR, h1, h2]⟩
    · exact ⟨s3, h3, by simp [b40, e, ea, eqD_bb, eqD_int, toB, tst, truth, opt, intD, lstAt, mineD, upS, sizeL, frz_v, frzs, fzR, setR, h1, h2]⟩
    · refine ⟨.val (.int 2), Fre.val _, ?_⟩
      rcases h3 with rfl | ⟨_, rfl⟩ | ⟨_, rfl⟩ <;> simp [b40, e, ea, eqD_bb, eqD_int, toB, tst, truth, opt, intD, lstAt, mineD, upS, sizeL, frz_v, frzs, fzR, setR, h1, h2]
    · refine ⟨.val (.int 0), Fre.val _, ?_⟩
      rcases h3 with rfl | ⟨_, rfl⟩ | ⟨_, rfl⟩ <;> simp [b40, e, ea, eqD_bb, eqD_int, toB, tst, truth, opt, intD, lstAt, mineD, upS, sizeL, frz_v, frzs, fzR, setR, h1, h2]
    · exact ⟨s3, h3, by simp [b40, e, ea, eqD_bb, eqD_int, toB, tst, truth, opt, intD, lstAt, mineD, upS, sizeL, frz_v, frzs, fzR, setR, h1, h2]⟩
    · refine ⟨.val (.int 0), Fre.val _, ?_⟩
      rcases h3 with rfl | ⟨_, rfl⟩ | ⟨_, rfl⟩ <;> simp [b40, e, ea, eqD_bb, eqD_int, toB, tst, truth, opt, intD, lstAt, mineD, upS, sizeL, frz_v, frzs, fzR, setR, h1, h2]
    · refine ⟨.val (.int 1), Fre.val _, ?_⟩
      rcases h3 with rfl | ⟨_, rfl⟩ | ⟨_, rfl⟩ <;> simp [b40, e, ea, eqD_bb, eqD_int, toB, tst, truth, opt, intD, lstAt, mineD, upS, sizeL, frz_v, frzs, fzR, setR, h1, h2]
end PL.K50
end

section
set_option exponentiation.threshold 5000
namespace PL.K50
open PL PL.K00 PL.RY PL.WD PySem PySem.Spec L2

theorem lp40 (n : Nat) (s0 : SV) : ∀ (ws f : List Int) (s2 s3 : SV), Fre s2 → Fre s3 → okL f → okL ws → f.length + ws.length ≤ 1000000 →
    ∃ s2' s3', forL (fun d e => opt (asg (.nm 2) d e) fun e1 => exB T (callF T n) b40 e1) (ws.map D.int) [s0, .own (.lst (f.map D.int)), s2, s3] = .ok .next [s0, .own (.lst ((ws.foldl stp f).map D.int)), s2', s3']
  | [], f, s2, s3, _, _, _, _, _ => ⟨s2, s3, rfl⟩
  | o :: ws, f, s2, s3, h2, h3, hf, hw, hl => by
    have ho := hw o (by simp)
    simp only [List.length_cons] at hl
    obtain ⟨s3', f3, h⟩ := st40 n s0 s3 f o hf ho h3 (by omega)
    have hsl := stp_len f o
    obtain ⟨t2, t3, ih⟩ := lp40 n s0 ws (stp f o) (.val (.int o)) s3' (Fre.val _) f3 (stp_W hf ho).2 (fun x hx => hw x (by simp [hx])) (by omega)
    refine ⟨t2, t3, ?_⟩
    have ha : asg (.nm 2) (.int o) [s0, .own (.lst (f.map D.int)), s2, s3] = some [s0, .own (.lst (f.map D.int)), .val (.int o), s3] := by
      rcases h2 with rfl | ⟨_, rfl⟩ | ⟨_, rfl⟩ <;> simp
    rw [List.map_cons, forL_cons, ha]
    simp only [opt, h, bd_ok]
    exact ih
theorem sp40 (n : Nat) (ws : List Int) (hw : okL ws) (hl : ws.length ≤ 1000000) : callF T (n+1) 40 [.bor (.lst (ws.map D.int))] = .ok (.v (.tup ((shrt ws).map D.int))) [.fro (.lst (ws.map D.int))] := by
  rw [x_callF T n 40 _ (F := f40) rfl rfl]
  obtain ⟨t2, t3, h⟩ := lp40 n (.fro (.lst (ws.map D.int))) ws [] .un .un Fre.un Fre.un (fun x hx => by cases hx) hw (by simpa using hl)
  show fin [.bor (.lst (ws.map D.int))] (exB T (callF T n) [.set 1 (.lst []), .for_ (.nm 2) (.e (.var 0)) b40, .ret (.bi .tuple [.var 1])] [.bor (.lst (ws.map D.int)), .un, .un, .un]) = _
  have h1 : exS T (callF T n) (.set 1 (.lst [])) [.bor (.lst (ws.map D.int)), .un, .un, .un] = .ok .next [.bor (.lst (ws.map D.int)), .own (.lst []), .un, .un] := by
    simp [frzs, sizeL, fzR, setR]
  have h2 : evI T (callF T n) (.e (.var 0)) [.bor (.lst (ws.map D.int)), .own (.lst []), .un, .un] = .ok (ws.map D.int) [.fro (.lst (ws.map D.int)), .own (.lst []), .un, .un] := by
    simp [frz_h]
  rw [x_b1, h1]
  simp only [bd_ok]
  rw [x_b1, x_for, h2]
  simp only [bd_ok, List.map_nil] at h ⊢
  rw [h]
  simp [retR, outs, shrt]
/-! a move's word -/
theorem intsD_map : ∀ l : List Int, intsD (l.map D.int) = some l
  | [] => rfl
  | x :: l => by simp [intsD, intsD_map l]
theorem sumA_eq : ∀ l : List Int, (l.map aI).sum = (sumA l : Int)
  | [] => rfl
  | x :: l => by
    have := sumA_eq l
    simp only [sumA, List.map_cons, List.sum_cons] at this ⊢
    have e : aI x = (x.natAbs : Int) := by unfold aI; split <;> omega
    omega
def enumK : Nat → List D → List D
  | _, [] => []
  | k, x :: xs => .tup [.int k, x] :: enumK (k + 1) xs
theorem enum_eq (xs : List D) : enumD xs = enumK 0 xs := by
  have : ∀ (xs : List D) (k : Nat), (List.range' k xs.length).zipWith (fun (k : Nat) x => D.tup [.int k, x]) xs = enumK k xs := by
    intro xs
    induction xs with
    | nil => intro k; rfl
    | cons x xs ih =>
      intro k
      rw [List.length_cons, List.range'_succ, List.zipWith_cons_cons, ih]
      rfl
  unfold enumD
  rw [List.range_eq_range', this]
theorem lw_map (q : Int) : (lw q).map D.int = if 0 ≤ q then (List.replicate q.toNat [D.int 1, D.int 2]).flatten else (List.replicate (0 - q).toNat [D.int 3, D.int 1]).flatten := by
  unfold lw
  split <;> rw [List.map_flatten, List.map_replicate] <;> rfl
def b44 : List S := [.if_ (.cmp .Gt (.var 4) (.int 0)) [.ex (.app 3 (.int 1))] [], .ex (.ext 3 (.ite (.cmp .GtE (.var 2) (.int 0)) (.bin .mul (.lst [.int 1, .int 2]) (.var 2)) (.bin .mul (.lst [.int 3, .int 1]) (.bin .sub (.int 0) (.var 2)))))]
theorem st44 (n k : Nat) (s0 s1 : SV) (acc : List Int) (q : Int) (hq : q.natAbs ≤ 100000) (hl : acc.length ≤ 1000000) :
    exB T (callF T n) b44 [s0, s1, .val (.int q), .own (.lst (acc.map D.int)), .val (.int k)] = .ok .next [s0, s1, .val (.int q), .own (.lst ((acc ++ ((if 0 < k then [1] else []) ++ lw q)).map D.int)), .val (.int k)] := by
  have hm := lw_map q
  have hb1 : acc.length < 16777216 := by omega
  have mulT : ∀ (xs : List D) (j : Int), xs.length = 2 → 0 ≤ j → j ≤ 100000 → binop .mul (.lst xs) (.int j) = some (.t (.lst (List.replicate j.toNat xs).flatten)) := by
    intro xs j h2 h0 h1
    show (if decide (-(2 ^ 63) ≤ j) && decide (j < 2 ^ 63) && decide (xs.length * j.toNat ≤ sizeL) then some (RV.t (.lst (List.replicate j.toNat xs).flatten)) else none) = _
    rw [decide_eq_true (show -(2 ^ 63) ≤ j by omega), decide_eq_true (show j < 2 ^ 63 by omega), decide_eq_true (show xs.length * j.toNat ≤ sizeL by rw [h2]; unfold sizeL; omega)]
    rfl
  have len2 : ∀ (xs : List D) (j : Nat), xs.length = 2 → (List.replicate j xs).flatten.length = j * 2 := by
    intro xs j h2
    rw [List.length_flatten, List.map_replicate, List.sum_replicate_nat, h2]
  by_cases hq0 : 0 ≤ q
  · rw [if_pos hq0] at hm
    have e1 := mulT [.int 1, .int 2] q rfl hq0 (by omega)
    have l1 := len2 [.int 1, .int 2] q.toNat rfl
    by_cases hk : 0 < k
    · have hk' : (0 : Int) < (k : Int) := by omega
      simp only [if_pos hk, List.map_append, hm]
      generalize (List.replicate q.toNat [D.int 1, D.int 2]).flatten = L at *
      have hs : acc.length + 1 + L.length ≤ 16777216 := by omega
      simp [b44, hk, hk', hq0, toB, tst, truth, opt, lstAt, mineD, upS, sizeL, frz_v, frzs, hb1, e1, hs, Nat.add_assoc] <;> first | done | (rw [if_pos (by omega)]; simp)
    · have hk0 : k = 0 := by omega
      subst hk0
      simp only [if_neg hk, List.map_append, hm]
      generalize (List.replicate q.toNat [D.int 1, D.int 2]).flatten = L at *
      have hs : acc.length + L.length ≤ 16777216 := by omega
      simp [b44, hq0, toB, tst, truth, opt, lstAt, mineD, upS, sizeL, frz_v, frzs, hb1, e1, hs]
  · rw [if_neg hq0] at hm
    have e1 := mulT [.int 3, .int 1] (0 - q) rfl (by omega) (by omega)
    have l1 := len2 [.int 3, .int 1] (0 - q).toNat rfl
    simp only [Int.zero_sub] at e1
    by_cases hk : 0 < k
    · have hk' : (0 : Int) < (k : Int) := by omega
      simp only [if_pos hk, List.map_append, hm, Int.zero_sub] at *
      generalize (List.replicate (-q).toNat [D.int 3, D.int 1]).flatten = L at *
      have hs : acc.length + 1 + L.length ≤ 16777216 := by omega
      simp [b44, hk, hk', hq0, toB, tst, truth, opt, lstAt, mineD, upS, sizeL, frz_v, frzs, hb1, e1, hs, Nat.add_assoc] <;> first | done | (rw [if_pos (by omega)]; simp)
    · have hk0 : k = 0 := by omega
      subst hk0
      simp only [if_neg hk, List.map_append, hm, Int.zero_sub] at *
      generalize (List.replicate (-q).toNat [D.int 3, D.int 1]).flatten = L at *
      have hs : acc.length + L.length ≤ 16777216 := by omega
      simp [b44, hq0, toB, tst, truth, opt, lstAt, mineD, upS, sizeL, frz_v, frzs, hb1, e1, hs]
theorem lp44 (n : Nat) (s0 s1 : SV) : ∀ (rs : List Int) (k : Nat) (acc : List Int) (s2 s4 : SV), Fre s2 → Fre s4 → (∀ q ∈ rs, q.natAbs ≤ 100000) → acc.length + 2 * sumA rs + rs.length ≤ 1000000 →
    ∃ s2' s4', forL (fun d e => opt (asg (.tp [4, 2]) d e) fun e1 => exB T (callF T n) b44 e1) (enumK k (rs.map D.int)) [s0, s1, s2, .own (.lst (acc.map D.int)), s4] = .ok .next [s0, s1, s2', .own (.lst ((acc ++ wl k rs).map D.int)), s4']
  | [], k, acc, s2, s4, _, _, _, _ => ⟨s2, s4, by simp [enumK, wl]⟩
  | q :: rs, k, acc, s2, s4, h2, h4, hq, hl => by
    have hs : sumA (q :: rs) = q.natAbs + sumA rs := by simp [sumA]
    rw [hs, List.length_cons] at hl
    have hll := lw_len q
    have hone : (if 0 < k then [(1 : Int)] else []).length ≤ 1 := by split <;> simp
    obtain ⟨t2, t4, ih⟩ := lp44 n s0 s1 rs (k + 1) (acc ++ ((if 0 < k then [1] else []) ++ lw q)) (.val (.int q)) (.val (.int k)) (Fre.val _) (Fre.val _) (fun x hx => hq x (by simp [hx])) (by simp only [List.length_append]; omega)
    refine ⟨t2, t4, ?_⟩
    have ha : asg (.tp [4, 2]) (.tup [.int k, .int q]) [s0, s1, s2, .own (.lst (acc.map D.int)), s4] = some [s0, s1, .val (.int q), .own (.lst (acc.map D.int)), .val (.int k)] := by
      rcases h2 with rfl | ⟨_, rfl⟩ | ⟨_, rfl⟩ <;> rcases h4 with rfl | ⟨_, rfl⟩ | ⟨_, rfl⟩ <;> simp [setVals]
    rw [List.map_cons, enumK, forL_cons, ha]
    simp only [opt, st44 n k s0 s1 acc q (hq q (by simp)) (by omega), bd_ok]
    exact Eq.trans ih (by simp [wl])
def wordM (m : M) : List Int := shrt (wl 0 (rowsM m))
theorem sp44w (n : Nat) (m : M) (hc : m.2.2.1.natAbs ≤ 900) (ha : m.1.natAbs < 2 ^ 60) (hs : sumA (rowsM m) ≤ 20000) (hl : (rowsM m).length ≤ 1000) (ho : okL (wl 0 (rowsM m))) (hwl : (wl 0 (rowsM m)).length ≤ 1000000) (hq : ∀ q ∈ rowsM m, q.natAbs ≤ 100000) :
    callF T (n+3) 44 [.val (md m)] = .ok (.v (.tup ((wordM m).map D.int))) [.val (md m)] := by
  rw [x_callF T (n+2) 44 _ (F := f44) rfl rfl]
  have e43 := sp43 n m hc ha
  unfold wordM
  generalize rowsM m = rs at *
  show fin [.val (md m)] (exB T (callF T (n+2)) [.set 1 (.call 43 [.var 0]), .if_ (.cmp .Gt (.bi .sum [.comp [2] (.e (.var 1)) (.nm 2) none (.bi .abs [.var 2])]) (.con 6)) [.raise_ 1] [], .set 3 (.lst []), .for_ (.tp [4, 2]) (.enum (.var 1)) b44, .ret (.call 40 [.var 3])] [.val (md m), .un, .un, .un, .un]) = _
  have h1 : exS T (callF T (n+2)) (.set 1 (.call 43 [.var 0])) [.val (md m), .un, .un, .un, .un] = .ok .next [.val (md m), .own (.lst (rs.map D.int)), .un, .un, .un] := by
    simp [e43, fzR, setR]
  have hcmp := ev_comp (T := T) (cf := callF T (n+2)) (e := [.val (md m), .own (.lst (rs.map D.int)), .un, .un, .un]) (e1 := [.val (md m), .val (.lst (rs.map D.int)), .un, .un, .un]) (i := 2) (it := .e (.var 1)) (cond := none) (elt := .bi .abs [.var 2]) (ds := rs.map D.int) (s := .un) (fun _ => true) (fun d => match d with | .int j => .int (aI j) | _ => .non) (by simp [frz_h]) rfl (by simpa using hl) (by
    intro d hd
    obtain ⟨j, _, rfl⟩ := List.mem_map.mp hd
    exact ⟨by simp, fun _ => .inl (by simp [aI])⟩)
  have hmm : ((rs.map D.int).filter fun _ => true).map (fun d => match d with | .int j => D.int (aI j) | _ => .non) = (rs.map aI).map D.int := by
    rw [List.filter_eq_self.mpr (fun _ _ => rfl), List.map_map, List.map_map]; rfl
  rw [hmm] at hcmp
  have h2 : exS T (callF T (n+2)) (.if_ (.cmp .Gt (.bi .sum [.comp [2] (.e (.var 1)) (.nm 2) none (.bi .abs [.var 2])]) (.con 6)) [.raise_ 1] []) [.val (md m), .own (.lst (rs.map D.int)), .un, .un, .un] = .ok .next [.val (md m), .val (.lst (rs.map D.int)), .un, .un, .un] := by
    refine st_if ?_
    rw [x_cmp, x_bi, x_a1, hcmp]
    have hc6 : T.cons[6]? = some (.int 20000) := rfl
    have hb : biF .sum [.lst ((rs.map aI).map D.int)] = some (.v (.int (sumA rs : Int))) := by
      show (intsD ((rs.map aI).map D.int)).map _ = _
      rw [intsD_map, Option.map_some, sumA_eq]
    have hng : ¬ (20000 < (sumA rs : Int)) := by omega
    simp only [bd_ok, x_a0, x_conts1, x_conts0, x_cont_t, Option.bind, Option.map, opt, hb, tst, Bool.false_eq_true, if_false, x_con, hc6, x_cont_v, cmpop, if_true, truth, decide_eq_false hng]
  have h3 : exS T (callF T (n+2)) (.set 3 (.lst [])) [.val (md m), .val (.lst (rs.map D.int)), .un, .un, .un] = .ok .next [.val (md m), .val (.lst (rs.map D.int)), .un, .own (.lst []), .un] := by
    simp [frzs, sizeL, fzR, setR]
  have h4 : evI T (callF T (n+2)) (.enum (.var 1)) [.val (md m), .val (.lst (rs.map D.int)), .un, .own (.lst []), .un] = .ok (enumK 0 (rs.map D.int)) [.val (md m), .val (.lst (rs.map D.int)), .un, .own (.lst []), .un] := by
    simp [enum_eq]
  obtain ⟨t2, t4, h5⟩ := lp44 (n+2) (.val (md m)) (.val (.lst (rs.map D.int))) rs 0 [] .un .un Fre.un Fre.un hq (by simp; omega)
  have e40 := sp40 (n+1) (wl 0 rs) ho hwl
  rw [x_b1, h1]
  simp only [bd_ok]
  rw [x_b1, h2]
  simp only [bd_ok]
  rw [x_b1, h3]
  simp only [bd_ok]
  rw [x_b1, x_for, h4]
  simp only [bd_ok, List.map_nil, List.nil_append] at h5 ⊢
  rw [h5]
  simp [e40, retR, outs]
end PL.K50
end

section
set_option exponentiation.threshold 5000
namespace PL.K50
open PL PL.K00 PL.RY PL.WD PySem PySem.Spec L2

/-! led by small moves -/
theorem sp23s (n : Nat) (m : M) (r : R) {a : Nat} (h : BdM a m) (ha : a ≤ 64) : callF T (n+2) 23 [.val (md m), .val (rd r)] = .ok (.v (rd (ldR m r))) [.val (md m), .val (rd r)] := by
  rw [x_callF T (n+1) 23 _ (F := f23) rfl rfl]
  have e := sp22 n (m.1 * r.1 + m.2.1 * r.2) (m.2.2.1 * r.1 + m.2.2.2 * r.2)
  have h := h.mono ha
  have m1 : ∀ i : Int, mulOk m.1 i = true := fun i => mulOk_l h.1
  have m2 : ∀ i : Int, mulOk m.2.1 i = true := fun i => mulOk_l h.2.1
  have m3 : ∀ i : Int, mulOk m.2.2.1 i = true := fun i => mulOk_l h.2.2.1
  have m4 : ∀ i : Int, mulOk m.2.2.2 i = true := fun i => mulOk_l h.2.2.2
  simp [f23, rd, md, m1, m2, m3, m4]
  simp [rd] at e
  simp [e, ldR, ap]
theorem sp27s (n : Nat) (m : M) (r : R) {a : Nat} (h : BdM a m) (ha : a ≤ 64) (gm : good m) (g : gR r) : callF T (n+5) 27 [.val (md m), .val (rd r)] = .ok (.v (rd (ldR m r))) [.val (md m), .val (rd r)] := by
  rw [x_callF T (n+4) 27 _ (F := f27) rfl rfl]
  simp [f27, sp7 n m h (by omega) gm, sp21 n r g, sp23s (n+2) m r h ha]
/-! moves multiplied -/
theorem sp4mm (n : Nat) (ms : List M) (hl : ms.length ≤ 1000) : callF T (n+3) 4 [.val (.tup (ms.map md))] = .ok (.v (.tup (ms.map md))) [.val (.tup (ms.map md))] := by
  rw [x_callF T (n+2) 4 _ (F := f4) rfl rfl]
  have hc := ev_comp (T := T) (cf := callF T (n+2)) (e := [.val (.tup (ms.map md)), .un]) (e1 := [.val (.tup (ms.map md)), .un]) (i := 1) (it := .e (.var 0)) (cond := none) (elt := .call 4 [.var 1]) (ds := ms.map md) (s := .un) (fun _ => true) (fun d => d) (by simp) rfl (by simpa using hl) (by
    intro d hd
    obtain ⟨m, _, rfl⟩ := List.mem_map.mp hd
    exact ⟨by simp, fun _ => .inl (by simp [sp4 n m])⟩)
  rw [List.filter_eq_self.mpr (fun _ _ => rfl), List.map_id'] at hc
  show fin [.val (.tup (ms.map md))] (exB T (callF T (n+2)) [.ret (.ite (.isi (.var 0) ["list", "tuple"]) (.bi .tuple [.comp [1] (.e (.var 0)) (.nm 1) none (.call 4 [.var 1])]) (.var 0))] [.val (.tup (ms.map md)), .un]) = _
  rw [x_b1, x_ret, x_ite]
  have h1 : toB (evE T (callF T (n+2)) true (.isi (.var 0) ["list", "tuple"]) [.val (.tup (ms.map md)), .un]) = .ok true [.val (.tup (ms.map md)), .un] := by
    simp [tyOk, isTy, toB, tst, truth, opt]
  rw [h1]
  simp only [bd_ok, if_true]
  rw [x_bi, x_a1, hc]
  simp [retR, outs]
def prodL (m : M) (l : List M) : M := l.foldl P m
theorem lp16 (n : Nat) (s0 s1 : SV) : ∀ (l : List M) (m : M) (k : Nat) (s2 : SV), Fre s2 → BdM k m → (∀ x ∈ l, BdM 20 x) → k + 21 * l.length ≤ 100000 →
    ∃ s2', forL (fun d e => opt (asg (.nm 2) d e) fun e1 => exB T (callF T (n+2)) [.set 3 (.call 9 [.var 3, .var 2])] e1) (l.map md) [s0, s1, s2, .val (md m)] = .ok .next [s0, s1, s2', .val (md (prodL m l))]
  | [], m, k, s2, _, _, _, _ => ⟨s2, rfl⟩
  | x :: l, m, k, s2, h2, hm, hx, hk => by
    simp only [List.length_cons] at hk
    have bx := hx x (by simp)
    have e9 := sp9 n m x hm bx (by omega)
    obtain ⟨t2, ih⟩ := lp16 n s0 s1 l (P m x) (k + 20 + 1) (.val (md x)) (Fre.val _) (hm.P bx) (fun y hy => hx y (by simp [hy])) (by omega)
    refine ⟨t2, ?_⟩
    have ha : asg (.nm 2) (md x) [s0, s1, s2, .val (md m)] = some [s0, s1, .val (md x), .val (md m)] := by
      rcases h2 with rfl | ⟨_, rfl⟩ | ⟨_, rfl⟩ <;> simp
    have hb : exB T (callF T (n+2)) [.set 3 (.call 9 [.var 3, .var 2])] [s0, s1, .val (md x), .val (md m)] = .ok .next [s0, s1, .val (md x), .val (md (P m x))] := by
      simp [e9]
    rw [List.map_cons, forL_cons, ha]
    simp only [opt, hb, bd_ok]
    exact ih
theorem all_true : ∀ (l : List M), blsD (l.map fun _ => D.bl true) = some (l.map fun _ => true)
  | [] => rfl
  | x :: l => by simp [blsD, all_true l]
theorem sp16g (n : Nat) (ms : List M) (hl : ms.length ≤ 1000) (hg : ∀ x ∈ ms, good x) (hb : ∀ x ∈ ms, BdM 20 x) : callF T (n+4) 16 [.val (.tup (ms.map md))] = .ok (.v (md (prodL one1 ms))) [.val (.tup (ms.map md))] := by
  rw [x_callF T (n+3) 16 _ (F := f16) rfl rfl]
  have e4 := sp4mm n ms hl
  obtain ⟨t2, hw⟩ := lp16 (n+1) (.val (.tup (ms.map md))) (.val (.tup (ms.map md))) ms one1 1 .un Fre.un bd_one hb (by omega)
  have hc := ev_comp (T := T) (cf := callF T (n+3)) (e := [.val (.tup (ms.map md)), .val (.tup (ms.map md)), .un, .un]) (e1 := [.val (.tup (ms.map md)), .val (.tup (ms.map md)), .un, .un]) (i := 2) (it := .e (.var 1)) (cond := none) (elt := .call 6 [.var 2]) (ds := ms.map md) (s := .un) (fun _ => true) (fun _ => .bl true) (by simp) rfl (by simpa using hl) (by
    intro d hd
    obtain ⟨m, hm, rfl⟩ := List.mem_map.mp hd
    have e6 := sp6 n m (hb m hm) (by decide)
    rw [goodB_of (hg m hm)] at e6
    exact ⟨by simp, fun _ => .inl (by simp [e6])⟩)
  have hmm : ((ms.map md).filter fun _ => true).map (fun _ => D.bl true) = ms.map fun _ => D.bl true := by
    rw [List.filter_eq_self.mpr (fun _ _ => rfl), List.map_map]; rfl
  rw [hmm] at hc
  show fin [.val (.tup (ms.map md))] (exB T (callF T (n+3)) [.set 1 (.call 4 [.var 0]), .if_ (.andor false [.not_ (.isi (.var 1) ["tuple"]), .not_ (.bi .all [.comp [2] (.e (.var 1)) (.nm 2) none (.call 6 [.var 2])])]) [.raise_ 2] [], .set 3 (.con 0), .for_ (.nm 2) (.e (.var 1)) [.set 3 (.call 9 [.var 3, .var 2])], .ret (.var 3)] [.val (.tup (ms.map md)), .un, .un, .un]) = _
  have h1 : exS T (callF T (n+3)) (.set 1 (.call 4 [.var 0])) [.val (.tup (ms.map md)), .un, .un, .un] = .ok .next [.val (.tup (ms.map md)), .val (.tup (ms.map md)), .un, .un] := by
    simp [e4]
  have h2 : exS T (callF T (n+3)) (.if_ (.andor false [.not_ (.isi (.var 1) ["tuple"]), .not_ (.bi .all [.comp [2] (.e (.var 1)) (.nm 2) none (.call 6 [.var 2])])]) [.raise_ 2] []) [.val (.tup (ms.map md)), .val (.tup (ms.map md)), .un, .un] = .ok .next [.val (.tup (ms.map md)), .val (.tup (ms.map md)), .un, .un] := by
    refine st_or ?_
    rw [or1 (e1 := [.val (.tup (ms.map md)), .val (.tup (ms.map md)), .un, .un]) (ntrue (b := true) (by simp [tyOk, isTy, tst, truth, opt])), x_v1]
    refine ntrue (b := true) ?_
    rw [x_bi, x_a1, hc]
    have hal : (ms.map fun _ => true).all id = true := by simp
    simp only [bd_ok, x_a0, x_conts1, x_conts0, x_cont_t, Option.bind, Option.map, opt, bi_all, all_true, hal, tst, if_true, truth, x_cont_v]
  have hc0 : T.cons[0]? = some (md one1) := rfl
  have h3 : exS T (callF T (n+3)) (.set 3 (.con 0)) [.val (.tup (ms.map md)), .val (.tup (ms.map md)), .un, .un] = .ok .next [.val (.tup (ms.map md)), .val (.tup (ms.map md)), .un, .val (md one1)] := by
    simp [hc0]
  have h4 : evI T (callF T (n+3)) (.e (.var 1)) [.val (.tup (ms.map md)), .val (.tup (ms.map md)), .un, .val (md one1)] = .ok (ms.map md) [.val (.tup (ms.map md)), .val (.tup (ms.map md)), .un, .val (md one1)] := by
    simp
  rw [x_b1, h1]
  simp only [bd_ok]
  rw [x_b1, h2]
  simp only [bd_ok]
  rw [x_b1, h3]
  simp only [bd_ok]
  rw [x_b1, x_for, h4]
  simp only [bd_ok]
  rw [hw]
  simp [retR, outs]
/-! the word of a ray's move -/
theorem wl_len : ∀ (k : Nat) (rs : List Int), (wl k rs).length ≤ 2 * sumA rs + rs.length
  | _, [] => by simp [wl]
  | k, q :: rs => by
    have ih := wl_len (k + 1) rs
    have h := lw_len q
    have hs : sumA (q :: rs) = q.natAbs + sumA rs := by simp [sumA]
    have hone : (if 0 < k then [(1 : Int)] else []).length ≤ 1 := by split <;> simp
    rw [wl, hs]
    simp only [List.length_append, List.length_cons]
    omega
theorem mem_sumA : ∀ (rs : List Int) (q : Int), q ∈ rs → q.natAbs ≤ sumA rs
  | x :: rs, q, h => by
    have hs : sumA (x :: rs) = x.natAbs + sumA rs := by simp [sumA]
    rcases List.mem_cons.mp h with rfl | h
    · omega
    · have := mem_sumA rs q h; omega
theorem mv_ent {r : R} (hr : dry 200 r) : (mvR r).1.natAbs ≤ 200 ∧ (mvR r).2.1.natAbs ≤ 201 ∧ (mvR r).2.2.1.natAbs ≤ 200 ∧ (mvR r).2.2.2.natAbs ≤ 201 := by
  obtain ⟨g, h1, h2, h3⟩ := hr
  by_cases hz : r.2 = 0
  · have : mvR r = one1 := by unfold mvR; exact if_pos hz
    rw [this]; decide
  · have em : mvR r = (r.1, (r.1 * invN r.1 r.2 - 1) / r.2, r.2, invN r.1 r.2) := by unfold mvR; exact if_neg hz
    obtain ⟨i1, i2, i3⟩ := invN_ok (show 0 < r.2 by omega) (by omega) g.1
    rw [em]
    generalize invN r.1 r.2 = v at *
    have e := Int.mul_ediv_cancel' i3
    generalize (r.1 * v - 1) / r.2 = j at *
    have hj : j.natAbs ≤ r.1.natAbs + 1 := by
      have e1 : (r.2 * j).natAbs = (r.1 * v - 1).natAbs := by rw [e]
      rw [Int.natAbs_mul] at e1
      have e2 : (r.1 * v - 1).natAbs ≤ r.1.natAbs * v.natAbs + 1 := by rw [← Int.natAbs_mul]; omega
      have e3 : r.1.natAbs * v.natAbs ≤ r.1.natAbs * r.2.natAbs := Nat.mul_le_mul_left _ (by omega)
      have e4 : r.2.natAbs * (r.1.natAbs + 1) = r.1.natAbs * r.2.natAbs + r.2.natAbs := by rw [Nat.mul_add, Nat.mul_one, Nat.mul_comm]
      exact Nat.le_of_mul_le_mul_left (show r.2.natAbs * j.natAbs ≤ r.2.natAbs * (r.1.natAbs + 1) by omega) (by omega)
    refine ⟨?_, ?_, ?_, ?_⟩ <;> simp only <;> omega
structure RowOk (r : R) : Prop where
  ne : rowsM (mvR r) ≠ []
  m : rowM (rowsM (mvR r)) = mvR r
  sum : sumA (rowsM (mvR r)) ≤ 1820
  len : (rowsM (mvR r)).length ≤ 9
theorem row_ok {r : R} (hr : dry 200 r) : RowOk r := by
  obtain ⟨h1, h2, h3, h4⟩ := mv_ent hr
  have hg := hr.ok
  generalize hm : mvR r = m at *
  obtain ⟨a, b, c, d⟩ := m
  obtain ⟨s1, s2⟩ := quo_bd 200 202 (by decide) 8 1000 a b c d (by simp only at h3; omega) hg.1 h1 h3 (by simp only at h2; omega) (by simp only at h4; omega)
  exact ⟨by rw [hm]; exact quo_ne _ _ _ _ _ (by decide), by rw [hm]; exact (quo_M 1000 a b c d (by simp only at h3; omega) hg.1).trans (sg_good hg), by rw [hm]; exact Nat.le_trans s1 (by decide), by rw [hm]; exact s2⟩
theorem word_ok {r : R} (hr : dry 200 r) : W (wordM (mvR r)) = mvR r ∧ okL (wordM (mvR r)) := by
  have k := row_ok hr
  obtain ⟨h1, h2⟩ := wl_ok _ k.ne
  obtain ⟨h3, h4⟩ := shrt_W h2
  exact ⟨by unfold wordM; rw [h3, h1, k.m], h4⟩
theorem sp45w (n : Nat) (r : R) (hr : dry 200 r) : callF T (n+5) 45 [.val (md (mvR r))] = .ok (.v (.tup ((wordM (mvR r)).map D.int))) [.val (md (mvR r))] := by
  rw [x_callF T (n+4) 45 _ (F := f45) rfl rfl]
  have k := row_ok hr
  obtain ⟨h1, h2, h3, h4⟩ := mv_ent hr
  obtain ⟨w1, w2⟩ := wl_ok _ k.ne
  have s := k.sum
  have l := k.len
  have hl := wl_len 0 (rowsM (mvR r))
  have e := sp44w (n+1) (mvR r) (by omega) (by omega) (by omega) (by omega) w2 (by omega) (fun q hq => by have := mem_sumA _ _ hq; omega)
  have e7 := sp7 n (mvR r) hr.mv (by decide) hr.ok
  simp [f45, e7, e]
theorem sp47w (n : Nat) (r : R) (hr : dry 200 r) : callF T (n+5) 47 [.val (md (mvR r))] = .ok (.v (.tup ((rowsM (mvR r)).map D.int))) [.val (md (mvR r))] := by
  rw [x_callF T (n+4) 47 _ (F := f47) rfl rfl]
  obtain ⟨h1, h2, h3, h4⟩ := mv_ent hr
  have e := sp43 (n+2) (mvR r) (by omega) (by omega)
  have e7 := sp7 n (mvR r) hr.mv (by decide) hr.ok
  simp [f47, e7, e]
end PL.K50
end

section
set_option exponentiation.threshold 5000
namespace PL.K50
open PL PL.K00 PL.RY PL.WD PySem PySem.Spec L2

/-! one letter -/
def isMd (m : M) (c : CO) : Bool := match c with | .ok (.v (.tup [.int a, .int b, .int c, .int d])) _ => decide ((a, b, c, d) = m) | _ => false
theorem isMd_out {m : M} {c : CO} (h : isMd m c = true) : ∃ as, c = .ok (.v (md m)) as := by
  unfold isMd at h
  split at h
  · exact ⟨_, by rw [← of_decide_eq_true h]; rfl⟩
  · cases h
theorem sp46w (l : Int) (h : l = 1 ∨ l = 2 ∨ l = 3) : ∃ as, callF T 199 46 [.val (.tup [.int l])] = .ok (.v (md (ltr l))) as := by
  rcases h with rfl | rfl | rfl
  · exact isMd_out (by decide +kernel)
  · exact isMd_out (by decide +kernel)
  · exact isMd_out (by decide +kernel)
theorem bd_ltr (l : Int) : BdM 1 (ltr l) := by
  unfold ltr
  split
  · exact ⟨show (0 : Int).natAbs < 2 ^ 1 by decide, show (-1 : Int).natAbs < 2 ^ 1 by decide, show (1 : Int).natAbs < 2 ^ 1 by decide, show (0 : Int).natAbs < 2 ^ 1 by decide⟩
  · split
    · exact ⟨show (0 : Int).natAbs < 2 ^ 1 by decide, show (-1 : Int).natAbs < 2 ^ 1 by decide, show (1 : Int).natAbs < 2 ^ 1 by decide, show (1 : Int).natAbs < 2 ^ 1 by decide⟩
    · exact ⟨show (-1 : Int).natAbs < 2 ^ 1 by decide, show (-1 : Int).natAbs < 2 ^ 1 by decide, show (1 : Int).natAbs < 2 ^ 1 by decide, show (0 : Int).natAbs < 2 ^ 1 by decide⟩
theorem good_ltr (l : Int) : good (ltr l) := ⟨det_ltr l, by unfold ltr; split <;> (try split) <;> exact .inl (by decide)⟩
def backL (h : R) (w : List Int) : R := w.foldl (fun h l => ldR (ltr l) h) h
theorem back_W : ∀ (n : Nat) (w : List Int) (h : R), w.length = n → gR h → backL h w.reverse = ldR (W w) h ∧ gR (backL h w.reverse)
  | 0, w, h, hn, g => by
    have := List.eq_nil_of_length_eq_zero hn
    subst this
    refine ⟨?_, g⟩
    show h = ldR one1 h
    have : ap one1 h = h := by simp [ap, one1]
    unfold ldR
    rw [this, so_gR g]
  | n + 1, w, h, hn, g => by
    rcases List.eq_nil_or_concat w with rfl | ⟨u, l, rfl⟩
    · simp at hn
    · rw [List.concat_eq_append] at hn ⊢
      obtain ⟨i1, i2⟩ := back_W n u (ldR (ltr l) h) (by simpa using hn) (gR_ld (det_ltr l) g)
      rw [List.reverse_append]
      refine ⟨?_, i2⟩
      show backL (ldR (ltr l) h) u.reverse = _
      rw [i1, W_snoc, ld_P (W_det u) (det_ltr l) g.1]
/-! numbers turned round, great ones too -/
theorem lp5L (n : Nat) (x y : SV) : ∀ (f : Nat) (near far one two : Int) (s6 : SV), Fre s6 → 0 ≤ near → near < f → near ≤ 9000 → 0 < far → far ≤ 9000 →
    ∃ fa on s6', whL (fun e => toB (evE T (callF T n) true c5 e)) (fun e => exB T (callF T n) b5 e) (f + 91000) [x, y, .val (.int near), .val (.int far), .val (.int one), .val (.int two), s6] = .ok .next [x, y, .val (.int 0), .val (.int fa), .val (.int on), .val (.int (invL f near far one two)), s6']
  | 0, near, far, one, two, s6, _, h0, h1, _, _, _ => by omega
  | f + 1, near, far, one, two, s6, h6, h0, h1, h2, h3, h4 => by
    rw [show f + 1 + 91000 = (f + 91000) + 1 from by omega]
    by_cases hz : near = 0
    · subst hz
      refine ⟨far, one, s6, ?_⟩
      rw [wh_end (e1 := [x, y, .val (.int 0), .val (.int far), .val (.int one), .val (.int two), s6]) (by simp [c5, eqD_int, toB])]
      simp [invL]
    · have hp : 0 < near := by omega
      have hd := dvs2 hp (by omega)
      have q0 : 0 ≤ far / near := Int.ediv_nonneg (by omega) (by omega)
      have q1 : far / near ≤ far := Int.ediv_le_self _ (by omega)
      have em : far - far / near * near = far % near := by rw [Int.emod_def, Int.mul_comm]
      have m0 : 0 ≤ far % near := Int.emod_nonneg _ hz
      have m1 : far % near < near := Int.emod_lt_of_pos _ hp
      have k1 : mulOk (far / near) near = true := mulOk_r (by omega)
      have k2 : mulOk (far / near) one = true := mulOk_l (by omega)
      obtain ⟨fa, on, s6', ih⟩ := lp5L n x y f (far - far / near * near) near (two - far / near * one) one (.val (.int (far / near))) (Fre.val _) (by omega) (by omega) (by omega) hp h2
      refine ⟨fa, on, s6', ?_⟩
      rw [wh_step (e1 := [x, y, .val (.int near), .val (.int far), .val (.int one), .val (.int two), s6]) (e2 := [x, y, .val (.int (far - far / near * near)), .val (.int near), .val (.int (two - far / near * one)), .val (.int one), .val (.int (far / near))]) (by simp [c5, eqD_int, toB, hz]) (by
        rcases h6 with rfl | ⟨_, rfl⟩ | ⟨_, rfl⟩ <;> simp [b5, hd, k1, k2, fzR, fzRs, setR, setRs]), ih]
      rw [show invL (f + 1) near far one two = invL f (far - far / near * near) near (two - far / near * one) one from by rw [invL, if_neg hz]]
def invM (x y : Int) : Int := invL 9000 (x % y) y 1 0 % y
theorem invM_ok {x y : Int} (hy : 0 < y) (hy2 : y < 9000) (g : Int.gcd x y = 1) : 0 ≤ invM x y ∧ invM x y < y ∧ y ∣ x * invM x y - 1 := by
  refine ⟨Int.emod_nonneg _ (by omega), Int.emod_lt_of_pos _ hy, ?_⟩
  have h := invL_ok x y hy 9000 (x % y) y 1 0 (Int.emod_nonneg _ (by omega)) (by have := Int.emod_lt_of_pos x hy; omega) hy (by rw [gcd_mod]; exact g)
    (by rw [Int.one_mul, show x % y - x = -(x - x % y) by omega]; exact Int.dvd_neg.mpr (Int.dvd_self_sub_emod)) (by simp)
  unfold invM
  generalize invL 9000 (x % y) y 1 0 = t at *
  have e : t % y = t - y * (t / y) := Int.emod_def t y
  have : x * (t % y) - 1 = (t * x - 1) - y * (t / y * x) := by rw [e]; grind
  rw [this]
  exact Int.dvd_sub h (Int.dvd_mul_right ..)
theorem sp5L (n : Nat) (x y : Int) (hy : 0 < y) (hy2 : y < 9000) : callF T (n+1) 5 [.val (.int x), .val (.int y)] = .ok (.v (.int (invM x y))) [.val (.int x), .val (.int y)] := by
  rw [x_callF T n 5 _ (F := f5) rfl rfl]
  have m0 : 0 ≤ x % y := Int.emod_nonneg _ (by omega)
  have m1 : x % y < y := Int.emod_lt_of_pos _ hy
  obtain ⟨fa, on, s6, h⟩ := lp5L n (.val (.int x)) (.val (.int y)) 9000 (x % y) y 1 0 .un Fre.un m0 (by omega) (by omega) hy (by omega)
  show fin [.val (.int x), .val (.int y)] (exB T (callF T n) [.par [2, 3, 4, 5] [.bin .mod (.var 0) (.var 1), .var 1, .int 1, .int 0], .wh c5 b5, .ret (.bin .mod (.var 5) (.var 1))] [.val (.int x), .val (.int y), .un, .un, .un, .un, .un]) = _
  have h1 : exS T (callF T n) (.par [2, 3, 4, 5] [.bin .mod (.var 0) (.var 1), .var 1, .int 1, .int 0]) [.val (.int x), .val (.int y), .un, .un, .un, .un, .un] = .ok .next [.val (.int x), .val (.int y), .val (.int (x % y)), .val (.int y), .val (.int 1), .val (.int 0), .un] := by
    simp [hy, fzR, fzRs, setR, setRs]
  rw [x_b1, h1]
  simp only [bd_ok]
  rw [x_b1, x_wh]
  rw [show T.wf = 9000 + 91000 from rfl, h]
  simp [hy, invM]
def inv1 (r : R) : Int := if 0 < r.2 then invM r.1 r.2 else 1
theorem inv1_ok {r : R} (g : gR r) (h : r.2 < 9000) : r.2 ∣ r.1 * inv1 r - 1 ∧ (inv1 r).natAbs < 9000 := by
  unfold inv1
  by_cases hp : 0 < r.2
  · rw [if_pos hp]
    obtain ⟨a, b, c⟩ := invM_ok hp h g.1
    exact ⟨c, by omega⟩
  · rw [if_neg hp]
    rcases g.2 with q | q
    · exact absurd q hp
    · rw [q]; exact ⟨⟨0, rfl⟩, by decide⟩
theorem sp51 (n : Nat) (b : Int) (r s : R) (hb : 0 < b) (gr : gR r) (gs : gR s) (hr : r.2 < 9000) (hs : s.2 < 9000) (hr0 : 0 ≤ r.2) (hs0 : 0 ≤ s.2) :
    callF T (n+2) 51 [.val (.int b), .val (rd r), .val (rd s)] = .ok (.v (.bl (decide ((inv1 r * s.2 - inv1 s * r.2) % (Int.gcd (r.2 * s.2) b : Int) = 0)))) [.val (.int b), .val (rd r), .val (rd s)] := by
  rw [x_callF T (n+1) 51 _ (F := f51) rfl rfl]
  obtain ⟨_, i1⟩ := inv1_ok gr hr
  obtain ⟨_, i2⟩ := inv1_ok gs hs
  have k1 : ∀ i, mulOk (inv1 r) i = true := fun i => mulOk_l (by omega)
  have k2 : ∀ i, mulOk (inv1 s) i = true := fun i => mulOk_l (by omega)
  have k3 : ∀ i, mulOk r.2 i = true := fun i => mulOk_l (by omega)
  have hg : (0 : Int) < (Nat.gcd (r.2 * s.2).natAbs b.natAbs : Int) := by
    have : 0 < Nat.gcd (r.2 * s.2).natAbs b.natAbs := Nat.gcd_pos_of_pos_right _ (by omega)
    omega
  have e1 : ∀ (e : EV) (i : Nat) (q : R), (q = r ∨ q = s) → e[i]? = some (.val (rd q)) → evE T (callF T (n+1)) false (.ite (.cmp .Gt (.ix (.var i) (.int 1)) (.int 0)) (.call 5 [.ix (.var i) (.int 0), .ix (.var i) (.int 1)]) (.int 1)) e = .ok (.v (.int (inv1 q))) e := by
    intro e i q hq hi
    have hq9 : q.2 < 9000 := by rcases hq with rfl | rfl <;> assumption
    by_cases hp : 0 < q.2
    · have e5 := sp5L n q.1 q.2 hp hq9
      simp [hi, rd, hp, toB, tst, truth, opt, e5, inv1]
    · simp [hi, rd, hp, toB, tst, truth, opt, inv1]
  show fin _ (exB T (callF T (n+1)) [.set 3 (.ite (.cmp .Gt (.ix (.var 1) (.int 1)) (.int 0)) (.call 5 [.ix (.var 1) (.int 0), .ix (.var 1) (.int 1)]) (.int 1)), .set 4 (.ite (.cmp .Gt (.ix (.var 2) (.int 1)) (.int 0)) (.call 5 [.ix (.var 2) (.int 0), .ix (.var 2) (.int 1)]) (.int 1)), .ret (.cmp .Eq (.bin .mod (.bin .sub (.bin .mul (.var 3) (.ix (.var 2) (.int 1))) (.bin .mul (.var 4) (.ix (.var 1) (.int 1)))) (.bi .gcd [.bin .mul (.ix (.var 1) (.int 1)) (.ix (.var 2) (.int 1)), .var 0])) (.int 0))] [.val (.int b), .val (rd r), .val (rd s), .un, .un]) = _
  rw [x_b1, st_v (e1 (e := [.val (.int b), .val (rd r), .val (rd s), .un, .un]) 1 r (.inl rfl) rfl) rfl]
  simp only [bd_ok]
  rw [x_b1, st_v (e1 (e := [.val (.int b), .val (rd r), .val (rd s), .un, .un].set 3 (.val (.int (inv1 r)))) 2 s (.inr rfl) rfl) rfl]
  simp only [bd_ok]
  have hb0 : ¬ b = 0 := by omega
  simp [rd, k1, k2, k3, hb0, eqD_int, retR, outs]
  rfl
theorem sp1b (n : Nat) (k : Int) (h1 : 1 ≤ k) (h2 : k ≤ 1000000000) : callF T (n+2) 1 [.val (.int k), .val (.int 1), .val (.int 1000000000)] = .ok (.v (.bl true)) [.val (.int k), .val (.int 1), .val (.int 1000000000)] := by
  rw [x_callF T (n+1) 1 _ (F := f1) rfl rfl]
  simp [f1, sp0i, h1, h2]
theorem sp48' (n : Nat) (k : Int) (h1 : 1 ≤ k) (h2 : k ≤ 1000000000) : callF T (n+3) 48 [.val (.int k), .val (.int 1000000000)] = .ok (.v (.int k)) [.val (.int k), .val (.int 1000000000)] := by
  rw [x_callF T (n+2) 48 _ (F := f48) rfl rfl]
  simp [f48, sp1b n k h1 h2]
theorem cons7 : T.cons[7]? = some (.int 1000000000) := rfl
theorem sp49' (n : Nat) (k : Int) (r : R) (h1 : 1 ≤ k) (h2 : k ≤ 1000) (g : gR r) : callF T (n+4) 49 [.val (.int k), .val (rd r)] = .ok (.v (.int (Int.gcd r.2 k : Nat))) [.val (.int k), .val (rd r)] := by
  rw [x_callF T (n+3) 49 _ (F := f49) rfl rfl]
  have e48 := sp48' n k h1 (by omega)
  have e4 := sp4r (n+1) r
  have e20 := sp20 n r
  rw [rayB_of g] at e20
  simp [rd] at e4 e20
  simp [f49, cons7, e48, rd, e4, e20]
  rfl
theorem sp50' (n : Nat) (b : Int) (r s : R) (hb : 1 ≤ b) (hb2 : b ≤ 1000) (gr : gR r) (gs : gR s) (hr : r.2 < 9000) (hs : s.2 < 9000) (hr0 : 0 ≤ r.2) (hs0 : 0 ≤ s.2) :
    callF T (n+4) 50 [.val (.int b), .val (rd r), .val (rd s)] = .ok (.v (.bl (decide ((inv1 r * s.2 - inv1 s * r.2) % (Int.gcd (r.2 * s.2) b : Int) = 0)))) [.val (.int b), .val (rd r), .val (rd s)] := by
  rw [x_callF T (n+3) 50 _ (F := f50) rfl rfl]
  have e48 := sp48' n b hb (by omega)
  have e4 := sp4r (n+1) r
  have e4s := sp4r (n+1) s
  have e20 := sp20 n r
  have e20s := sp20 n s
  have e51 := sp51 (n+1) b r s (by omega) gr gs hr hs hr0 hs0
  rw [rayB_of gr] at e20
  rw [rayB_of gs] at e20s
  simp [f50, cons7, e48, e4, e4s, e20, e20s, e51, fzRs, fzR, setRs]
/-! the rest of a lead -/
theorem lead_a {r : R} (gr : gR r) {b : Int} (hb : 0 < b) {s1 s2 : Int} (h1 : r.2 ∣ r.1 * s1 - 1) {ε : Int} (he : ε * ε = 1) {s : R} (hs1 : s.1 = ε * r.1) (hs2 : s.2 = ε * (b * r.1 + r.2)) (h2 : s.2 ∣ s.1 * s2 - 1) :
    (Int.gcd (r.2 * s.2) b : Int) ∣ s1 * s.2 - s2 * r.2 := by
  have g1 : (Int.gcd (r.2 * s.2) b : Int) ∣ r.2 * s.2 := Int.gcd_dvd_left ..
  have g2 : (Int.gcd (r.2 * s.2) b : Int) ∣ b := Int.gcd_dvd_right ..
  have d1 : (Int.gcd r.2 b : Int) ∣ r.2 := Int.gcd_dvd_left ..
  have d2 : (Int.gcd r.2 b : Int) ∣ b := Int.gcd_dvd_right ..
  obtain ⟨x, y⟩ := r
  obtain ⟨x', y'⟩ := s
  simp only at *
  subst hs1 hs2
  -- d divides eps s1 - s2
  have d3 : (Int.gcd y b : Int) ∣ ε * (b * x + y) := Int.dvd_mul_of_dvd_right (Int.dvd_add (Int.dvd_mul_of_dvd_left d2) d1)
  have d4 : (Int.gcd y b : Int) ∣ x * s1 - 1 := Int.dvd_trans d1 h1
  have d5 : (Int.gcd y b : Int) ∣ ε * x * s2 - 1 := Int.dvd_trans d3 h2
  have d6 : (Int.gcd y b : Int) ∣ ε * s1 - s2 := by
    have e : ε * s1 - s2 = ε * s1 * (0 - (ε * x * s2 - 1)) * 1 + s2 * (x * s1 - 1) := by
      have : ε * s1 * (ε * x * s2) = (ε * ε) * (s1 * x * s2) := by grind
      grind
    rw [e]
    exact Int.dvd_add (Int.dvd_mul_of_dvd_left (Int.dvd_mul_of_dvd_right (Int.dvd_sub (Int.dvd_zero _) d5))) (Int.dvd_mul_of_dvd_right d4)
  -- g divides y * d
  have g3 : (Int.gcd (y * (ε * (b * x + y))) b : Int) ∣ y * y := by
    have e : y * y = ε * (y * (ε * (b * x + y))) - b * (x * y) := by
      have : ε * (y * (ε * (b * x + y))) = (ε * ε) * (y * (b * x + y)) := by grind
      rw [this, he]; grind
    rw [e]
    exact Int.dvd_sub (Int.dvd_mul_of_dvd_right g1) (Int.dvd_mul_of_dvd_left g2)
  have g4 : (Int.gcd (y * (ε * (b * x + y))) b : Int) ∣ y * b := Int.dvd_mul_of_dvd_right g2
  have g5 : (Int.gcd (y * (ε * (b * x + y))) b : Int) ∣ (Int.gcd (y * y) (y * b) : Int) := Int.dvd_coe_gcd g3 g4
  rw [Int.gcd_mul_left] at g5
  have g6 : (Int.gcd (y * (ε * (b * x + y))) b : Int) ∣ y * (ε * s1 - s2) := by
    obtain ⟨k, hk⟩ := d6
    rw [hk]
    have e : y * ((Int.gcd y b : Int) * k) = (y * (Int.gcd y b : Int)) * k := by grind
    rw [e]
    refine Int.dvd_mul_of_dvd_left ?_
    have : ((y.natAbs * Int.gcd y b : Nat) : Int) ∣ y * (Int.gcd y b : Int) := by
      rw [Int.natCast_mul]
      exact Int.mul_dvd_mul (Int.natAbs_dvd.mpr (Int.dvd_refl _)) (Int.dvd_refl _)
    exact Int.dvd_trans g5 this
  have e : s1 * (ε * (b * x + y)) - s2 * y = b * (s1 * ε * x) + y * (ε * s1 - s2) := by grind
  rw [e]
  exact Int.dvd_add (Int.dvd_mul_of_dvd_left g2) g6
theorem lead_b {r : R} {b k : Int} {s1 s2 : Int} (h1 : r.2 ∣ r.1 * s1 - 1) {s : R} (hs1 : s.1 = r.1 + k * r.2) (hs2 : s.2 = r.2) (h2 : s.2 ∣ s.1 * s2 - 1) :
    (Int.gcd (r.2 * s.2) b : Int) ∣ s1 * s.2 - s2 * r.2 := by
  have g1 : (Int.gcd (r.2 * s.2) b : Int) ∣ r.2 * s.2 := Int.gcd_dvd_left ..
  obtain ⟨x, y⟩ := r
  obtain ⟨x', y'⟩ := s
  simp only at *
  subst hs1 hs2
  have d5 : y' ∣ x * s2 - 1 := by
    have e : x * s2 - 1 = ((x + k * y') * s2 - 1) - y' * (k * s2) := by grind
    rw [e]; exact Int.dvd_sub h2 (Int.dvd_mul_right ..)
  have d6 : y' ∣ s1 - s2 := by
    have e : s1 - s2 = s2 * (x * s1 - 1) - s1 * (x * s2 - 1) := by grind
    rw [e]; exact Int.dvd_sub (Int.dvd_mul_of_dvd_right h1) (Int.dvd_mul_of_dvd_right d5)
  obtain ⟨c, hc⟩ := d6
  have e : s1 * y' - s2 * y' = y' * y' * c := by
    have : s1 * y' - s2 * y' = (s1 - s2) * y' := by grind
    rw [this, hc]; grind
  rw [e]
  exact Int.dvd_mul_of_dvd_left g1
end PL.K50
end

section
set_option exponentiation.threshold 5000
namespace PL.K50
open PL PL.K00 PL.RY PL.WD PySem PySem.Spec L2

def end0 : S := .set 1 (.call 52 [.call 54 [.var 0, .int 1], .int 0])
def lap0 : S := .par [3, 4] [.call 57 [.var 1, .int 200], .call 57 [.var 1, .int 200]]
def lap1 : S := .set 5 (.callk 31 [] ["place"] [.var 3])
def lap2 : S := .set 6 (.tup [.int 1, .int 0])
def lap3 : S := .for_ (.nm 7) (.e (.rev (.callk 45 [] ["move"] [.var 5]))) [.set 6 (.call 27 [.call 46 [.tup [.var 7]], .var 6])]
def lap4 : S := .if_ (.andor false [.cmp .NotEq (.var 6) (.var 3), .cmp .NotEq (.callk 27 [] ["move", "place"] [.var 5, .tup [.int 1, .int 0]]) (.var 3)]) [.ret (.bl false)] []
def lap5 : S := .set 8 (.callk 47 [] ["move"] [.var 5])
def lap6 : S := .set 9 (.lst [.call 19 [.ix (.var 8) (.int 0)]])
def lap7 : S := .for_ (.nm 7) (.e (.sl (.var 8) (some (.int 1)) none)) [.set 9 (.bin .add (.var 9) (.lst [.tup [.int 0, .neg (.int 1), .int 1, .int 0], .call 19 [.var 7]]))]
def lap8 : S := .if_ (.cmp .NotEq (.callk 16 [] ["moves"] [.bi .tuple [.var 9]]) (.var 5)) [.ret (.bl false)] []
def lap9 : S := .set 10 (.callk 32 [] ["place"] [.var 3])
def lap10 : S := .for_ (.tp [11, 12]) (.zip [.var 10, .sl (.var 10) (some (.int 1)) none]) [.set 7 (.callk 35 [] ["one", "other"] [.var 11, .var 12]), .if_ (.andor false [.cmp .IsNot (.callk 29 [] ["one", "other"] [.var 11, .var 12]) (.bl true), .cmp .NotEq (.call 27 [.var 7, .tup [.int 1, .int 0]]) (.var 11), .cmp .NotEq (.call 27 [.var 7, .tup [.int 0, .int 1]]) (.var 12)]) [.ret (.bl false)] []]
def lap11 : S := .set 13 (.callk 34 [] ["one", "other"] [.var 3, .var 4])
def lap12 : S := .set 14 (.call 57 [.var 1, .int 60])
def lap13 : S := .if_ (.andor false [.cmp .NotEq (.call 27 [.var 13, .var 3]) (.var 4), .cmp .NotEq (.callk 28 [] ["one", "other"] [.call 27 [.var 13, .var 14], .var 4]) (.callk 28 [] ["one", "other"] [.var 14, .var 3])]) [.ret (.bl false)] []
def lap14 : S := .set 15 (.call 14 [.call 14 [.var 5, .call 19 [.int 1]], .call 15 [.var 5]])
def lap15 : S := .set 16 (.callk 37 [] ["place", "many"] [.var 3, .int 5])
def lap16 : S := .if_ (.andor false [.cmp .NotEq (.comp [7] (.e (.sl (.var 16) none (some (.int 4)))) (.nm 7) none (.call 27 [.var 15, .var 7])) (.bi .list [.sl (.var 16) (some (.int 1)) none]), .cmp .NotEq (.call 27 [.var 15, .var 3]) (.var 3), .cmp .NotEq (.callk 17 [] ["move"] [.var 15]) (.str "step"), .cmp .NotEq (.call 18 [.var 15, .var 5]) (.tup [.int 1, .int 1, .int 0, .int 1])]) [.ret (.bl false)] []
def lap17 : S := .if_ (.cmp .Gt (.ix (.var 3) (.int 1)) (.int 1)) [.unp [17, 18] (.callk 33 [] ["place"] [.var 3]), .if_ (.andor false [.cmp .NotEq (.callk 30 [] ["one", "other"] [.var 17, .var 18]) (.var 3), .cmp .IsNot (.call 29 [.var 17, .var 18]) (.bl true), .cmp .GtE (.bin .mul (.ix (.var 17) (.int 0)) (.ix (.var 18) (.int 1))) (.bin .mul (.ix (.var 18) (.int 0)) (.ix (.var 17) (.int 1)))]) [.ret (.bl false)] [], .for_ (.nm 19) (.rng [.int 1, .bi .min2 [.ix (.var 3) (.int 1), .int 40]]) [.set 20 (.bin .add (.bin .fdiv (.bin .mul (.ix (.var 17) (.int 0)) (.var 19)) (.ix (.var 17) (.int 1))) (.int 1)), .if_ (.andor true [.cmp .Gt (.ix (.var 17) (.int 1)) (.int 0), .cmp .Lt (.bin .mul (.var 20) (.ix (.var 18) (.int 1))) (.bin .mul (.ix (.var 18) (.int 0)) (.var 19)), .cmp .Gt (.ix (.var 18) (.int 1)) (.int 0)]) [.ret (.bl false)] []]] []
def lap18 : S := .set 21 (.bin .add (.int 1) (.call 53 [.var 1, .int 30]))
def lap19 : S := .if_ (.andor false [.cmp .NotEq (.call 49 [.var 21, .var 3]) (.call 55 [.ix (.var 3) (.int 1), .var 21]), .cmp .IsNot (.call 50 [.var 21, .var 3, .call 27 [.tup [.int 1, .int 0, .var 21, .int 1], .var 3]]) (.bl true), .cmp .IsNot (.call 50 [.var 21, .var 3, .call 27 [.tup [.int 1, .int 5, .int 0, .int 1], .var 3]]) (.bl true)]) [.ret (.bl false)] []
def lapB : List S := [lap0, lap1, lap2, lap3, lap4, lap5, lap6, lap7, lap8, lap9, lap10, lap11, lap12, lap13, lap14, lap15, lap16, lap17, lap18, lap19]
def end2 : S := .ret (.bl true)
theorem f58_body : f58.body = [end0, .for_ (.nm 2) (.rng [.int 6]) lapB, end2] := rfl
abbrev cf := callF T 199
theorem kw27 (r s : RV) : kwSort f27.ps ["move", "place"] [] [r, s] = [r, s] := rfl
theorem kw28 (r s : RV) : kwSort f28.ps ["one", "other"] [] [r, s] = [r, s] := rfl
theorem kw29 (r s : RV) : kwSort f29.ps ["one", "other"] [] [r, s] = [r, s] := rfl
theorem kw30 (r s : RV) : kwSort f30.ps ["one", "other"] [] [r, s] = [r, s] := rfl
theorem kw34 (r s : RV) : kwSort f34.ps ["one", "other"] [] [r, s] = [r, s] := rfl
theorem kw35 (r s : RV) : kwSort f35.ps ["one", "other"] [] [r, s] = [r, s] := rfl
theorem kw37 (r s : RV) : kwSort f37.ps ["place", "many"] [] [r, s] = [r, s] := rfl
theorem kw31 (r : RV) : kwSort f31.ps ["place"] [] [r] = [r] := rfl
theorem kw32 (r : RV) : kwSort f32.ps ["place"] [] [r] = [r] := rfl
theorem kw33 (r : RV) : kwSort f33.ps ["place"] [] [r] = [r] := rfl
theorem kw45 (r : RV) : kwSort f45.ps ["move"] [] [r] = [r] := rfl
theorem kw47 (r : RV) : kwSort f47.ps ["move"] [] [r] = [r] := rfl
theorem kw17 (r : RV) : kwSort f17.ps ["move"] [] [r] = [r] := rfl
theorem kw16 (r : RV) : kwSort f16.ps ["moves"] [] [r] = [r] := rfl
theorem fn27 : T.fns[27]? = some f27 := rfl
theorem fn28 : T.fns[28]? = some f28 := rfl
theorem fn29 : T.fns[29]? = some f29 := rfl
theorem fn30 : T.fns[30]? = some f30 := rfl
theorem fn34 : T.fns[34]? = some f34 := rfl
theorem fn35 : T.fns[35]? = some f35 := rfl
theorem fn37 : T.fns[37]? = some f37 := rfl
theorem fn31 : T.fns[31]? = some f31 := rfl
theorem fn32 : T.fns[32]? = some f32 := rfl
theorem fn33 : T.fns[33]? = some f33 := rfl
theorem fn45 : T.fns[45]? = some f45 := rfl
theorem fn47 : T.fns[47]? = some f47 := rfl
theorem fn17 : T.fns[17]? = some f17 := rfl
theorem fn16 : T.fns[16]? = some f16 := rfl
theorem item_r0 (r : R) : item (rd r) (.int 0) = some (.int r.1) := rfl
theorem item_r1 (r : R) : item (rd r) (.int 1) = some (.int r.2) := rfl
theorem va {e : EV} {i : Nat} {d : D} (h : e[i]? = some (.val d)) : evE T cf false (.var i) e = .ok (.v d) e := by simp [h]
theorem ne_rd {e e1 : EV} {a b : E} {r : R} (ha : evE T cf false a e = .ok (.v (rd r)) e1) (hb : evE T cf false b e1 = .ok (.v (rd r)) e1) : evE T cf true (.cmp .NotEq a b) e = .ok (.v (.bl false)) e1 := by
  rw [x_cmp, ha]
  simp only [bd_ok]
  rw [hb]
  simp [cmpop, eqD_rd, tst, truth, opt]
theorem ne_md {e e1 : EV} {a b : E} {m : M} (ha : evE T cf false a e = .ok (.v (md m)) e1) (hb : evE T cf false b e1 = .ok (.v (md m)) e1) : evE T cf true (.cmp .NotEq a b) e = .ok (.v (.bl false)) e1 := by
  rw [x_cmp, ha]
  simp only [bd_ok]
  rw [hb]
  simp [cmpop, eqD_md, tst, truth, opt]
theorem not_true {e e1 : EV} {a : E} (ha : evE T cf false a e = .ok (.v (.bl true)) e1) : evE T cf true (.cmp .IsNot a (.bl true)) e = .ok (.v (.bl false)) e1 := by
  rw [x_cmp, ha]
  simp [tst, truth, opt]
theorem tp10 {e : EV} : evE T cf false (.tup [.int 1, .int 0]) e = .ok (.v (rd (1, 0))) e := by simp [frzs, frz_v, sizeL, rd]
theorem tp01 {e : EV} : evE T cf false (.tup [.int 0, .int 1]) e = .ok (.v (rd (0, 1))) e := by simp [frzs, frz_v, sizeL, rd]
theorem g10 : gR (1, 0) := ⟨rfl, .inr rfl⟩
theorem g01 : gR (0, 1) := ⟨rfl, .inl (by decide)⟩
/-- led by a move of bounded numbers -/
theorem ev27 {e : EV} {a b : E} {m : M} {r : R} {k : Nat} (ha : evE T cf false a e = .ok (.v (md m)) e) (hb : evE T cf false b e = .ok (.v (rd r)) e) (gm : good m) (bm : BdM k m) (hk : k ≤ 64) (g : gR r) : evE T cf false (.call 27 [a, b]) e = .ok (.v (rd (ldR m r))) e := by
  have h := sp27s 194 m r bm hk gm g
  exact ev_call (rs := [.v (md m), .v (rd r)]) (by rw [x_a1, ha]; simp only [bd_ok]; rw [x_a1, hb]; simp) rfl rfl h
theorem ev57 {e : EV} {x y z : Int} (b : Int) (hb : 1 ≤ b) (hb' : b ≤ 1000) (h1 : e[1]? = some (.own (tinD x y z))) (hz0 : 0 ≤ z) (hz : z ≤ 900) :
    ∃ r x' z', dry b r ∧ 0 ≤ z' ∧ z' ≤ z + 3 ∧ evE T cf false (.call 57 [.var 1, .int b]) e = .ok (.v (rd r)) (e.set 1 (.own (tinD x' y z'))) := by
  obtain ⟨r, x', z', a, b, c, h⟩ := sp57 196 x y z b hb hb' hz0 hz
  simp at h
  exact ⟨r, x', z', a, b, c, by simp [h1, h]⟩
theorem ev53 {e : EV} {x y z : Int} (b : Int) (h1 : e[1]? = some (.own (tinD x y z))) (hb : 0 < b) (hb' : b ≤ 4000) (hz0 : 0 ≤ z) (hz : z ≤ 900) :
    ∃ r x' z', 0 ≤ r ∧ r < b ∧ 0 ≤ z' ∧ z' ≤ z + 1 ∧ evE T cf false (.call 53 [.var 1, .int b]) e = .ok (.v (.int r)) (e.set 1 (.own (tinD x' y z'))) := by
  obtain ⟨r, x', z', a, b, c, d, h⟩ := sp53 198 x y z b hb hb' hz0 (by omega)
  simp at h
  exact ⟨r, x', z', a, b, c, d, by simp [h1, h]⟩
theorem la0 {e : EV} {x y z : Int} (q : Q 22 [(1, .own (tinD x y z))] e) (hz0 : 0 ≤ z) (hz : z ≤ 800) :
    ∃ r s x' z', dry 200 r ∧ dry 200 s ∧ 0 ≤ z' ∧ z' ≤ z + 6 ∧ ∃ e', exS T cf lap0 e = .ok .next e' ∧ Q 22 [(4, .val (rd s)), (3, .val (rd r)), (1, .own (tinD x' y z'))] e' := by
  obtain ⟨r, x1, z1, d1, a1, b1, e1⟩ := ev57 200 (by decide) (by decide) q.g0 hz0 (by omega)
  have q1 := q.set (i := 1) (t := .own (tinD x1 y z1)) (by decide) (by decide) (Fre.own _)
  obtain ⟨s, x2, z2, d2, a2, b2, e2⟩ := ev57 200 (by decide) (by decide) q1.g0 a1 (by omega)
  have q2 := q1.set (i := 1) (t := .own (tinD x2 y z2)) (by decide) (by decide) (Fre.own _)
  have q3 := q2.set (i := 3) (t := .val (rd r)) (by decide) (by decide) (Fre.val _)
  have q4 := q3.set (i := 4) (t := .val (rd s)) (by decide) (by decide) (Fre.val _)
  refine ⟨r, s, x2, z2, d1, d2, a2, by omega, _, ?_, q4⟩
  rw [lap0, x_par, x_a1, e1]
  simp only [bd_ok]
  rw [x_a1, e2]
  simp only [bd_ok, x_a0, x_fzs1, x_fzs0, x_fz_v, Option.bind, Option.map, opt, x_setRs1, x_setRs0, x_setR_v, q2.ok (i := 3) (by decide) (by decide), q3.ok (i := 4) (by decide) (by decide), if_true]
theorem la1 {e : EV} {r : R} {kv : List (Nat × SV)} (q : Q 22 kv e) (h3 : e[3]? = some (.val (rd r))) (hr : dry 200 r) :
    ∃ e', exS T cf lap1 e = .ok .next e' ∧ Q 22 ((5, .val (md (mvR r))) :: kv.filter fun p => p.1 != 5) e' := by
  have e31 := sp31 194 r hr.1 hr.lt
  simp at e31
  refine ⟨_, st_v (e1 := e) (d := md (mvR r)) ?_ (q.ok (by decide) (by decide)), q.set (by decide) (by decide) (Fre.val _)⟩
  simp [h3, kw31, fn31, e31]
theorem la2 {e : EV} {kv : List (Nat × SV)} (q : Q 22 kv e) : ∃ e', exS T cf lap2 e = .ok .next e' ∧ Q 22 ((6, .val (rd (1, 0))) :: kv.filter fun p => p.1 != 6) e' :=
  ⟨_, st_v (e1 := e) (d := rd (1, 0)) tp10 (q.ok (by decide) (by decide)), q.set (by decide) (by decide) (Fre.val _)⟩
def b3 : List S := [.set 6 (.call 27 [.call 46 [.tup [.var 7]], .var 6])]
def out67 (rest : List (Nat × SV)) : Prop := ∀ p ∈ rest, p.1 ≠ 6 ∧ p.1 ≠ 7
theorem Q.over {N : Nat} {rest : List (Nat × SV)} {e : EV} {i : Nat} {t : SV} (q : Q N rest e) (h1 : 1 ≤ i) (h2 : i < N) (f : Fre t) (ho : ∀ p ∈ rest, p.1 ≠ i) : Q N ((i, t) :: rest) (e.set i t) := by
  have := Q.set q h1 h2 f
  rwa [List.filter_eq_self.mpr (fun p hp => by simp [ho p hp])] at this
theorem lp3 {rest : List (Nat × SV)} (ho : out67 rest) : ∀ (w : List Int) (h : R) (e : EV), okL w → gR h → Q 22 rest e → e[6]? = some (.val (rd h)) →
    ∃ e', forL (fun d e => opt (asg (.nm 7) d e) fun e1 => exB T cf b3 e1) (w.map D.int) e = .ok .next e' ∧ Q 22 rest e' ∧ e'[6]? = some (.val (rd (backL h w)))
  | [], h, e, _, _, q, h6 => ⟨e, by simp, q, h6⟩
  | l :: w, h, e, hw, g, q, h6 => by
    have hl := hw l (by simp)
    have q1 := Q.over q (i := 7) (t := .val (.int l)) (by decide) (by decide) (Fre.val _) (fun p hp => (ho p hp).2)
    have g6 : (e.set 7 (.val (.int l)))[6]? = some (.val (rd h)) := by rw [get_ne _ _ _ _ (by decide)]; exact h6
    have g7 := q1.g0
    obtain ⟨as, h46⟩ := sp46w l hl
    have hx : exB T cf b3 (e.set 7 (.val (.int l))) = .ok .next ((e.set 7 (.val (.int l))).set 6 (.val (rd (ldR (ltr l) h)))) := by
      have := st_v (i := 6) (ev27 (e := e.set 7 (.val (.int l))) (a := .call 46 [.tup [.var 7]]) (b := .var 6) (ev_call (rs := [.v (.tup [.int l])]) (by rw [x_a1, x_tup, x_a1, va g7]; simp [frzs, frz_v, sizeL]) rfl rfl h46) (va g6) (good_ltr l) (bd_ltr l) (by decide) g) (q1.ok (by decide) (by decide))
      rw [b3, x_b1, this]
      simp
    have q2 := Q.over q1.tl (i := 6) (t := .val (rd (ldR (ltr l) h))) (by decide) (by decide) (Fre.val _) (fun p hp => (ho p hp).1)
    obtain ⟨e', i1, i2, i3⟩ := lp3 ho w (ldR (ltr l) h) _ (fun x hx => hw x (by simp [hx])) (gR_ld (det_ltr l) g) q2.tl q2.g0
    refine ⟨e', ?_, i2, i3⟩
    rw [List.map_cons, forL_cons, x_asg, q.ok (i := 7) (by decide) (by decide)]
    simp only [if_true, opt, hx, bd_ok]
    exact i1
theorem la3 {e : EV} {r : R} {rest : List (Nat × SV)} (ho : out67 rest) (q : Q 22 rest e) (h5 : e[5]? = some (.val (md (mvR r)))) (h6 : e[6]? = some (.val (rd (1, 0)))) (hr : dry 200 r) :
    ∃ e', exS T cf lap3 e = .ok .next e' ∧ Q 22 rest e' ∧ e'[6]? = some (.val (rd r)) := by
  obtain ⟨w1, w2⟩ := word_ok hr
  have e45 := sp45w 194 r hr
  simp at e45
  obtain ⟨b1, _⟩ := back_W _ (wordM (mvR r)) (1, 0) rfl g10
  rw [w1, hr.ld] at b1
  obtain ⟨e', i1, i2, i3⟩ := lp3 ho (wordM (mvR r)).reverse (1, 0) e (fun x hx => w2 x (List.mem_reverse.mp hx)) g10 q h6
  rw [b1] at i3
  refine ⟨e', ?_, i2, i3⟩
  have hi : evI T cf (.e (.rev (.callk 45 [] ["move"] [.var 5]))) e = .ok ((wordM (mvR r)).reverse.map D.int) e := by
    rw [List.map_reverse]
    simp [h5, kw45, fn45, e45, revD]
  rw [lap3, x_for, hi]
  simp only [bd_ok]
  exact i1
theorem la4 {e : EV} {r : R} {kv : List (Nat × SV)} (q : Q 22 kv e) (h3 : e[3]? = some (.val (rd r))) (h5 : e[5]? = some (.val (md (mvR r)))) (h6 : e[6]? = some (.val (rd r))) (hr : dry 200 r) : exS T cf lap4 e = .ok .next e := by
  refine st_or ?_
  rw [or1 (ne_rd (va h6) (va h3)), x_v1]
  refine ne_rd (r := r) ?_ (va h3)
  have h := sp27s 194 (mvR r) (1, 0) hr.mv (by decide) hr.ok g10
  rw [hr.ld] at h
  have h : cf 27 [.val (md (mvR r)), .val (rd (1, 0))] = _ := h
  have t10 : ∀ e : EV, evE T cf false (.tup [.int 1, .int 0]) e = .ok (.v (rd (1, 0))) e := fun e => tp10
  simp only [x_callk, x_a0, x_a1, va h5, t10, bd_ok, fn27, opt, kw27]
  simp [h]
theorem la5 {e : EV} {r : R} {kv : List (Nat × SV)} (q : Q 22 kv e) (h5 : e[5]? = some (.val (md (mvR r)))) (hr : dry 200 r) :
    ∃ e', exS T cf lap5 e = .ok .next e' ∧ Q 22 ((8, .val (.tup ((rowsM (mvR r)).map D.int))) :: kv.filter fun p => p.1 != 8) e' := by
  have e47 := sp47w 194 r hr
  simp at e47
  refine ⟨_, st_v (e1 := e) (d := .tup ((rowsM (mvR r)).map D.int)) ?_ (q.ok (by decide) (by decide)), q.set (by decide) (by decide) (Fre.val _)⟩
  simp [h5, kw47, fn47, e47]
end PL.K50
end

section
set_option exponentiation.threshold 5000
namespace PL.K50
open PL PL.K00 PL.RY PL.WD PySem PySem.Spec L2

theorem cut1 {α : Type} (xs : List α) : cutD xs (some 1) none = xs.drop 1 := by
  unfold cutD
  rw [show HT.sIx xs.length 0 (some 1) = min 1 xs.length from HT.sIx_nat _ _ 1, HT.sIx_none]
  cases xs with
  | nil => rfl
  | cons x xs =>
    have : min 1 (x :: xs).length = 1 := by simp
    rw [this]
    apply List.take_of_length_le
    simp
theorem cut04 {α : Type} (xs : List α) : cutD xs none (some 4) = xs.take 4 := by
  unfold cutD
  rw [HT.sIx_none, show HT.sIx xs.length xs.length (some 4) = min 4 xs.length from HT.sIx_nat _ _ 4, List.drop_zero, Nat.sub_zero]
  by_cases h : 4 ≤ xs.length
  · rw [Nat.min_eq_left h]
  · rw [Nat.min_eq_right (by omega), List.take_of_length_le (Nat.le_refl _), List.take_of_length_le (by omega)]
def partM : List Int → List M
  | [] => []
  | q :: r => St q :: r.flatMap fun p => [Tn, St p]
theorem part_prod : ∀ (r : List Int) (q : Int) (m : M), det m = 1 → prodL m (partM (q :: r)) = P m (rowM (q :: r))
  | [], q, m, hm => rfl
  | p :: r, q, m, hm => by
    have h1 : det (P m (St q)) = 1 := det_P hm (det_St q)
    have h2 : det (P (P m (St q)) Tn) = 1 := det_P h1 rfl
    have ih := part_prod r p (P (P m (St q)) Tn) h2
    have gr : det (rowM (p :: r)) = 1 := by
      have : ∀ l : List Int, det (rowM l) = 1 := by
        intro l
        induction l with
        | nil => rfl
        | cons a l ih =>
          cases l with
          | nil => exact det_St a
          | cons b l => exact det_P (det_P (det_St a) rfl) ih
      exact this _
    show prodL (P (P m (St q)) Tn) (partM (p :: r)) = P m (P (P (St q) Tn) (rowM (p :: r)))
    rw [ih, P_assoc (det_P hm (det_St q)) rfl gr, P_assoc hm (det_St q) (det_P rfl gr), P_assoc (det_St q) rfl gr]
theorem good_Tn : good Tn := ⟨rfl, .inl (by decide)⟩
theorem bd_St {q : Int} (h : q.natAbs < 2 ^ 20) : BdM 20 (St q) := ⟨show (1 : Int).natAbs < 2 ^ 20 by decide, h, show (0 : Int).natAbs < 2 ^ 20 by decide, show (1 : Int).natAbs < 2 ^ 20 by decide⟩
theorem bd_Tn : BdM 20 Tn := ⟨show (0 : Int).natAbs < 2 ^ 20 by decide, show (-1 : Int).natAbs < 2 ^ 20 by decide, show (1 : Int).natAbs < 2 ^ 20 by decide, show (0 : Int).natAbs < 2 ^ 20 by decide⟩
theorem part_all {r : List Int} (h : ∀ q ∈ r, q.natAbs < 2 ^ 20) : ∀ x ∈ partM r, good x ∧ BdM 20 x := by
  cases r with
  | nil => intro x hx; cases hx
  | cons q r =>
    intro x hx
    rcases List.mem_cons.mp hx with rfl | hx
    · exact ⟨good_St q, bd_St (h q (by simp))⟩
    · obtain ⟨p, hp, hx⟩ := List.mem_flatMap.mp hx
      simp only [List.mem_cons, List.not_mem_nil, or_false] at hx
      rcases hx with rfl | rfl
      · exact ⟨good_Tn, bd_Tn⟩
      · exact ⟨good_St p, bd_St (h p (by simp [hp]))⟩
theorem part_len (r : List Int) : (partM r).length ≤ 2 * r.length := by
  cases r with
  | nil => simp [partM]
  | cons q r =>
    have : ∀ l : List Int, (l.flatMap fun p => [Tn, St p]).length = 2 * l.length := by
      intro l
      induction l with
      | nil => rfl
      | cons a l ih => rw [List.flatMap_cons, List.length_append, ih]; simp; omega
    simp only [partM, List.length_cons, this]
    omega
def b7 : List S := [.set 9 (.bin .add (.var 9) (.lst [.tup [.int 0, .neg (.int 1), .int 1, .int 0], .call 19 [.var 7]]))]
def out79 (rest : List (Nat × SV)) : Prop := ∀ p ∈ rest, p.1 ≠ 7 ∧ p.1 ≠ 9
theorem lp7 {rest : List (Nat × SV)} (ho : out79 rest) : ∀ (qs : List Int) (acc : List M) (e : EV), Q 22 rest e → e[9]? = some (.own (.lst (acc.map md))) → acc.length + 2 * qs.length ≤ 100000 →
    ∃ e', forL (fun d e => opt (asg (.nm 7) d e) fun e1 => exB T cf b7 e1) (qs.map D.int) e = .ok .next e' ∧ Q 22 rest e' ∧ e'[9]? = some (.own (.lst ((acc ++ qs.flatMap fun p => [Tn, St p]).map md)))
  | [], acc, e, q, h9, _ => ⟨e, by simp, q, by simpa using h9⟩
  | l :: qs, acc, e, q, h9, hl => by
    simp only [List.length_cons] at hl
    have q1 := Q.over q (i := 7) (t := .val (.int l)) (by decide) (by decide) (Fre.val _) (fun p hp => (ho p hp).1)
    have g9 : (e.set 7 (.val (.int l)))[9]? = some (.own (.lst (acc.map md))) := by rw [get_ne _ _ _ _ (by decide)]; exact h9
    have g7 := q1.g0
    have e19 := sp19 197 l
    have e19 : cf 19 [.val (.int l)] = .ok (.v (md (St l))) [.val (.int l)] := e19
    have hx : evE T cf false (.bin .add (.var 9) (.lst [.tup [.int 0, .neg (.int 1), .int 1, .int 0], .call 19 [.var 7]])) (e.set 7 (.val (.int l))) = .ok (.t (.lst ((acc ++ [Tn, St l]).map md))) (e.set 7 (.val (.int l))) := by
      generalize e.set 7 (.val (.int l)) = e1 at *
      have hs : acc.length + 2 ≤ 16777216 := by omega
      simp [g9, g7, e19, frzs, frz_v, sizeL, hs, intD, opt]
      rfl
    have hst := st_t (i := 9) hx (q1.ok (by decide) (by decide))
    have q2 := Q.over q1.tl (i := 9) (t := .own (.lst ((acc ++ [Tn, St l]).map md))) (by decide) (by decide) (Fre.own _) (fun p hp => (ho p hp).2)
    obtain ⟨e', i1, i2, i3⟩ := lp7 ho qs (acc ++ [Tn, St l]) _ q2.tl q2.g0 (by simp; omega)
    refine ⟨e', ?_, i2, by rw [i3]; simp⟩
    rw [List.map_cons, forL_cons, x_asg, q.ok (i := 7) (by decide) (by decide)]
    simp only [if_true, opt, b7, x_b1, hst, bd_ok, x_b0]
    exact i1
theorem la67 {e : EV} {r : R} {rest : List (Nat × SV)} (ho : out79 rest) (q : Q 22 rest e) (h8 : e[8]? = some (.val (.tup ((rowsM (mvR r)).map D.int)))) (hm8 : (8, SV.val (.tup ((rowsM (mvR r)).map D.int))) ∈ rest) (hr : dry 200 r) :
    ∃ e1 e', exS T cf lap6 e = .ok .next e1 ∧ exS T cf lap7 e1 = .ok .next e' ∧ Q 22 rest e' ∧ e'[9]? = some (.own (.lst ((partM (rowsM (mvR r))).map md))) := by
  have hne := (row_ok hr).ne
  have hl := (row_ok hr).len
  generalize rowsM (mvR r) = rs at *
  match rs, hne with
  | q0 :: qs, _ =>
    have e19 := sp19 197 q0
    have e19 : cf 19 [.val (.int q0)] = .ok (.v (md (St q0))) [.val (.int q0)] := e19
    have hx : evE T cf false (.lst [.call 19 [.ix (.var 8) (.int 0)]]) e = .ok (.t (.lst ([St q0].map md))) e := by
      simp [h8, e19, frzs, frz_v, sizeL]
    have q1 := Q.over q (i := 9) (t := .own (.lst ([St q0].map md))) (by decide) (by decide) (Fre.own _) (fun p hp => (ho p hp).2)
    obtain ⟨e', i1, i2, i3⟩ := lp7 ho qs [St q0] _ q1.tl q1.g0 (by simp at hl ⊢; omega)
    refine ⟨_, e', st_t hx (q.ok (by decide) (by decide)), ?_, i2, i3⟩
    have hi : evI T cf (.e (.sl (.var 8) (some (.int 1)) none)) (e.set 9 (.own (.lst ([St q0].map md)))) = .ok (qs.map D.int) (e.set 9 (.own (.lst ([St q0].map md)))) := by
      have g8 := q1.tl.get hm8
      generalize e.set 9 (.own (.lst ([St q0].map md))) = e1 at *
      have := cut1 ((q0 :: qs).map D.int)
      rw [List.map_cons] at this
      simp [g8, sliceD, this, intD, opt]
    rw [lap7, x_for, hi]
    simp only [bd_ok]
    exact i1
theorem la8 {e : EV} {r : R} {kv : List (Nat × SV)} (q : Q 22 kv e) (h5 : e[5]? = some (.val (md (mvR r)))) (h9 : e[9]? = some (.own (.lst ((partM (rowsM (mvR r))).map md)))) (hr : dry 200 r) : exS T cf lap8 e = .ok .next e := by
  have k := row_ok hr
  have hl := part_len (rowsM (mvR r))
  have hkl := k.len
  have hks := k.sum
  have hall := part_all (r := rowsM (mvR r)) (fun q hq => by have := mem_sumA _ _ hq; omega)
  have hp : prodL one1 (partM (rowsM (mvR r))) = mvR r := by
    have hne := k.ne
    have hmm := k.m
    generalize rowsM (mvR r) = rs at *
    match rs, hne with
    | q0 :: qs, _ =>
      rw [part_prod qs q0 one1 rfl, hmm, P_one hr.ok]
  have e16 := sp16g 195 (partM (rowsM (mvR r))) (by omega) (fun x hx => (hall x hx).1) (fun x hx => (hall x hx).2)
  rw [hp] at e16
  generalize (partM (rowsM (mvR r))).map md = L at *
  have e16 : cf 16 [.val (.tup L)] = _ := e16
  refine st_if (ne_md (m := mvR r) ?_ (va h5))
  simp [h9, kw16, fn16, e16]
theorem la9 {e : EV} {r : R} {kv : List (Nat × SV)} (q : Q 22 kv e) (h3 : e[3]? = some (.val (rd r))) (hr : dry 200 r) :
    ∃ e', exS T cf lap9 e = .ok .next e' ∧ Q 22 ((10, .val (.tup ((cvR r).map rd))) :: kv.filter fun p => p.1 != 10) e' := by
  have e32 := sp32 194 r hr.1 hr.lt (by have := (hr.bd (by decide)).1; exact Nat.lt_of_lt_of_le this (by decide))
  simp at e32
  refine ⟨_, st_v (e1 := e) (d := .tup ((cvR r).map rd)) ?_ (q.ok (by decide) (by decide)), q.set (by decide) (by decide) (Fre.val _)⟩
  simp [h3, kw32, fn32, e32]
/-! ways: each next to the one ahead -/
def okR (u : R) : Prop := gR u ∧ BdR 20 u
def prOk (p : R × R) : Prop := aI (dt p.1 p.2) = 1 ∧ okR p.1 ∧ okR p.2
def ChP (l : List R) : Prop := ∀ p ∈ l.zip l.tail, prOk p
theorem zip_snoc : ∀ (l : List R) (q n : R), (l ++ [q] ++ [n]).zip (l ++ [q] ++ [n]).tail = (l ++ [q]).zip (l ++ [q]).tail ++ [(q, n)]
  | [], q, n => rfl
  | [a], q, n => rfl
  | a :: b :: l, q, n => by
    have ih := zip_snoc (b :: l) q n
    simp only [List.cons_append, List.tail_cons, List.zip_cons_cons, List.append_assoc, List.nil_append] at ih ⊢
    rw [ih]
theorem aI_n (i : Int) : aI (-i) = aI i := by unfold aI; split <;> split <;> omega
theorem cv_ch (x y : Int) (hx : x.natAbs ≤ 200) (hy : 0 < y) (hy2 : y ≤ 200) : ∀ (f : Nat) (a b : Int) (p q : R) (acc : List R), 0 ≤ b → b < f → b ≤ y → aI (dt p q) = 1 → a * q.1 + b * p.1 = x → a * q.2 + b * p.2 = y → okR q → ((q.2 = 0 ∧ p.2 = 1) ∨ (0 < q.2 ∧ 0 ≤ p.2 ∧ b < a)) → (∃ l, acc = l ++ [q]) → ChP acc → ChP (cvL f a b p q acc)
  | 0, a, b, p, q, acc, h0, h1, _, _, _, _, _, _, _, _ => by omega
  | f + 1, a, b, p, q, acc, h0, h1, h2, hd, e1, e2, oq, hs, hl, hc => by
    unfold cvL
    by_cases hz : b = 0
    · rw [if_pos hz]; exact hc
    · rw [if_neg hz]
      have hb : 0 < b := by omega
      have em : a - a / b * b = a % b := by rw [Int.emod_def, Int.mul_comm]
      have m0 : 0 ≤ a % b := Int.emod_nonneg _ hz
      have m1 : a % b < b := Int.emod_lt_of_pos _ hb
      have e1' : b * (a / b * q.1 + p.1) + (a - a / b * b) * q.1 = x := by rw [← e1]; grind
      have e2' : b * (a / b * q.2 + p.2) + (a - a / b * b) * q.2 = y := by rw [← e2]; grind
      have hk : (0 < q.2 ∧ 0 ≤ p.2 ∧ b < a) → 1 ≤ a / b := fun h => by
        have := Int.ediv_mul_add_emod a b
        rcases Int.lt_or_le (a / b) 1 with z | z
        · exfalso
          have : a / b * b ≤ 0 * b := Int.mul_le_mul_of_nonneg_right (by omega) (by omega)
          omega
        · exact z
      generalize a / b = k at *
      rw [em] at e1' e2' ⊢
      generalize a % b = c at *
      have hdn : dt q (k * q.1 + p.1, k * q.2 + p.2) = - dt p q := by simp only [dt]; grind
      have hd' : aI (dt q (k * q.1 + p.1, k * q.2 + p.2)) = 1 := by rw [hdn, aI_n]; exact hd
      have hd2 : aI (dt (k * q.1 + p.1, k * q.2 + p.2) q) = 1 := by rw [dt_swap, aI_n]; exact hd'
      have hq2 : 0 ≤ q.2 := by rcases hs with ⟨h, _⟩ | ⟨h, _⟩ <;> omega
      have hn2 : 0 < k * q.2 + p.2 := by
        rcases hs with ⟨h, h'⟩ | h
        · rw [h, h']; simp
        · have := hk h
          have : 1 * q.2 ≤ k * q.2 := Int.mul_le_mul_of_nonneg_right this (by omega)
          omega
      have hdr : dt (k * q.1 + p.1, k * q.2 + p.2) (x, y) = c * dt (k * q.1 + p.1, k * q.2 + p.2) q := by
        simp only [dt]
        rw [← e1', ← e2']
        grind
      generalize k * q.1 + p.1 = n1 at *
      generalize k * q.2 + p.2 = n2 at *
      have hny : n2 ≤ y := by
        have h3 : 1 * n2 ≤ b * n2 := Int.mul_le_mul_of_nonneg_right (by omega) (by omega)
        have h4 : 0 ≤ c * q.2 := Int.mul_nonneg m0 hq2
        omega
      have hn1 : n1.natAbs ≤ x.natAbs + 1 := by
        have h3 : (n1 * y - n2 * x).natAbs ≤ y.natAbs := by
          have : n1 * y - n2 * x = c * dt (n1, n2) q := hdr
          rw [this, Int.natAbs_mul]
          have h5 : (dt (n1, n2) q).natAbs = 1 := by rcases RY.aI_or hd2 with e | e <;> rw [e] <;> rfl
          rw [h5]; omega
        have h4 : (n1 * y).natAbs ≤ (n2 * x).natAbs + y.natAbs := by omega
        rw [Int.natAbs_mul, Int.natAbs_mul] at h4
        have h5 : n2.natAbs * x.natAbs ≤ y.natAbs * x.natAbs := Nat.mul_le_mul_right _ (by omega)
        have h6 : y.natAbs * (x.natAbs + 1) = y.natAbs * x.natAbs + y.natAbs := by rw [Nat.mul_add, Nat.mul_one]
        have h7 : n1.natAbs * y.natAbs = y.natAbs * n1.natAbs := Nat.mul_comm ..
        exact Nat.le_of_mul_le_mul_left (show y.natAbs * n1.natAbs ≤ y.natAbs * (x.natAbs + 1) by omega) (by omega)
      have on : okR (n1, n2) := ⟨⟨gcd_dt hd2, .inl hn2⟩, show n1.natAbs < 2 ^ 20 by omega, show n2.natAbs < 2 ^ 20 by omega⟩
      obtain ⟨l, rfl⟩ := hl
      refine cv_ch x y hx hy hy2 f b c q (n1, n2) _ m0 (by omega) (by omega) hd' e1' e2' on (.inr ⟨hn2, hq2, m1⟩) ⟨l ++ [q], rfl⟩ ?_
      intro pr hpr
      rw [zip_snoc] at hpr
      rcases List.mem_append.mp hpr with h | h
      · exact hc pr h
      · have : pr = (q, (n1, n2)) := by simpa using h
        rw [this]; exact ⟨hd', oq, on⟩
end PL.K50
end

section
set_option exponentiation.threshold 5000
namespace PL.K50
open PL PL.K00 PL.RY PL.WD PySem PySem.Spec L2

theorem cvR_ch {r : R} (hr : dry 200 r) : ChP (cvR r) := by
  obtain ⟨g, h1, h2, h3⟩ := hr
  have o10 : okR (1, 0) := ⟨g10, show (1 : Int).natAbs < 2 ^ 20 by decide, show (0 : Int).natAbs < 2 ^ 20 by decide⟩
  by_cases hz : r.2 = 0
  · have : cvR r = [(1, 0)] := by
      unfold cvR
      rw [hz, cvL, if_pos rfl]
    rw [this]
    intro p hp
    simp at hp
  · exact cv_ch r.1 r.2 (by omega) (by omega) h3 1000 r.1 r.2 (0, 1) (1, 0) [(1, 0)] h2 (by omega) (by omega) (by decide) (by simp) (by simp) o10 (.inl ⟨rfl, rfl⟩) ⟨[], rfl⟩ (fun p hp => by simp at hp)
theorem okR.sm {u : R} (h : okR u) : Sm u := h.2.sm (by decide)
def b10 : List S := [.set 7 (.callk 35 [] ["one", "other"] [.var 11, .var 12]), .if_ (.andor false [.cmp .IsNot (.callk 29 [] ["one", "other"] [.var 11, .var 12]) (.bl true), .cmp .NotEq (.call 27 [.var 7, .tup [.int 1, .int 0]]) (.var 11), .cmp .NotEq (.call 27 [.var 7, .tup [.int 0, .int 1]]) (.var 12)]) [.ret (.bl false)] []]
def out10 (rest : List (Nat × SV)) : Prop := ∀ p ∈ rest, p.1 ≠ 7 ∧ p.1 ≠ 11 ∧ p.1 ≠ 12
theorem st10 {e : EV} {u v : R} {rest : List (Nat × SV)} (ho : out10 rest) (q : Q 22 rest e) (h11 : e[11]? = some (.val (rd u))) (h12 : e[12]? = some (.val (rd v))) (h : prOk (u, v)) :
    ∃ e', exB T cf b10 e = .ok .next e' ∧ Q 22 rest e' := by
  obtain ⟨hd, ou, ov⟩ := h
  have hd : aI (dt u v) = 1 := hd
  have ou : okR u := ou
  have ov : okR v := ov
  have e35 := sp35' 194 u v ou.1 ov.1 ov.sm hd
  have e29 := sp29 194 u v ou.1 ov.1 ov.sm
  rw [hd] at e29
  have bm : BdM 20 (sg (edM u v)) := (ed_bd ou.2 ov.2).sg
  simp at e35 e29
  have q1 := Q.over q (i := 7) (t := .val (md (sg (edM u v)))) (by decide) (by decide) (Fre.val _) (fun p hp => (ho p hp).1)
  have g11 : (e.set 7 (.val (md (sg (edM u v)))))[11]? = some (.val (rd u)) := by rw [get_ne _ _ _ _ (by decide)]; exact h11
  have g12 : (e.set 7 (.val (md (sg (edM u v)))))[12]? = some (.val (rd v)) := by rw [get_ne _ _ _ _ (by decide)]; exact h12
  have g7 := q1.g0
  have s1 : exS T cf (.set 7 (.callk 35 [] ["one", "other"] [.var 11, .var 12])) e = .ok .next (e.set 7 (.val (md (sg (edM u v))))) := by
    refine st_v ?_ (q.ok (by decide) (by decide))
    simp [h11, h12, kw35, fn35, e35]
  refine ⟨_, ?_, q1.tl⟩
  rw [b10, x_b1, s1]
  simp only [bd_ok]
  generalize e.set 7 (.val (md (sg (edM u v)))) = e1 at *
  have s2 : exS T cf (.if_ (.andor false [.cmp .IsNot (.callk 29 [] ["one", "other"] [.var 11, .var 12]) (.bl true), .cmp .NotEq (.call 27 [.var 7, .tup [.int 1, .int 0]]) (.var 11), .cmp .NotEq (.call 27 [.var 7, .tup [.int 0, .int 1]]) (.var 12)]) [.ret (.bl false)] []) e1 = .ok .next e1 := by
    refine st_or ?_
    rw [or1 (not_true (e1 := e1) (by simp [g11, g12, kw29, fn29, e29])),
      or1 (ne_rd (r := u) (by have := ev27 (va g7) tp10 (ed_good hd) bm (by decide) g10; rwa [ed_l hd ou.1] at this) (va g11)), x_v1]
    refine ne_rd (r := v) ?_ (va g12)
    have := ev27 (va g7) tp01 (ed_good hd) bm (by decide) g01
    rwa [ed_r hd ov.1] at this
  rw [x_b1, s2]
  simp
theorem lp10 {rest : List (Nat × SV)} (ho : out10 rest) : ∀ (ps : List (R × R)) (e : EV), (∀ p ∈ ps, prOk p) → Q 22 rest e →
    ∃ e', forL (fun d e => opt (asg (.tp [11, 12]) d e) fun e1 => exB T cf b10 e1) (ps.map fun p => .tup [rd p.1, rd p.2]) e = .ok .next e' ∧ Q 22 rest e'
  | [], e, _, q => ⟨e, by simp, q⟩
  | p :: ps, e, hp, q => by
    have q1 := Q.over q (i := 11) (t := .val (rd p.1)) (by decide) (by decide) (Fre.val _) (fun p hp => (ho p hp).2.1)
    have q2 := Q.over q1.tl (i := 12) (t := .val (rd p.2)) (by decide) (by decide) (Fre.val _) (fun p hp => (ho p hp).2.2)
    have g11 : ((e.set 11 (.val (rd p.1))).set 12 (.val (rd p.2)))[11]? = some (.val (rd p.1)) := by rw [get_ne _ _ _ _ (by decide)]; exact q1.g0
    obtain ⟨e1, h1, q3⟩ := st10 ho q2.tl g11 q2.g0 (hp p (by simp))
    obtain ⟨e', h2, q4⟩ := lp10 ho ps e1 (fun x hx => hp x (by simp [hx])) q3
    refine ⟨e', ?_, q4⟩
    rw [List.map_cons, forL_cons, x_asgt, x_sv1, q.ok (i := 11) (by decide) (by decide)]
    simp only [if_true]
    rw [x_sv1, q1.ok (i := 12) (by decide) (by decide)]
    simp only [if_true, x_sv0, opt, h1, bd_ok]
    exact h2
theorem la10 {e : EV} {r : R} {rest : List (Nat × SV)} (ho : out10 rest) (q : Q 22 rest e) (h10 : e[10]? = some (.val (.tup ((cvR r).map rd)))) (hr : dry 200 r) :
    ∃ e', exS T cf lap10 e = .ok .next e' ∧ Q 22 rest e' := by
  obtain ⟨e', h1, q1⟩ := lp10 ho ((cvR r).zip (cvR r).tail) e (cvR_ch hr) q
  refine ⟨e', ?_, q1⟩
  have hz : zipD ((cvR r).map rd) (((cvR r).map rd).drop 1) = ((cvR r).zip (cvR r).tail).map fun p => D.tup [rd p.1, rd p.2] := by
    unfold zipD
    rw [← List.map_drop, List.zipWith_map, List.drop_one, List.zip, List.map_zipWith]
  have hi : evI T cf (.zip [.var 10, .sl (.var 10) (some (.int 1)) none]) e = .ok (((cvR r).zip (cvR r).tail).map fun p => .tup [rd p.1, rd p.2]) e := by
    rw [← hz]
    have := cut1 ((cvR r).map rd)
    generalize (cvR r).map rd = L at *
    simp [h10, sliceD, this, intD, opt]
  rw [lap10, x_for, hi]
  simp only [bd_ok]
  exact h1
theorem la11 {e : EV} {r s : R} {kv : List (Nat × SV)} (q : Q 22 kv e) (h3 : e[3]? = some (.val (rd r))) (h4 : e[4]? = some (.val (rd s))) (hr : dry 200 r) (hs : dry 200 s) :
    ∃ e', exS T cf lap11 e = .ok .next e' ∧ Q 22 ((13, .val (md (btw r s))) :: kv.filter fun p => p.1 != 13) e' := by
  have e34 := sp34 194 r s hr.1 hs.1 hr.lt hs.lt hs.mv hr.mv (by decide)
  simp at e34
  refine ⟨_, st_v (e1 := e) (d := md (btw r s)) ?_ (q.ok (by decide) (by decide)), q.set (by decide) (by decide) (Fre.val _)⟩
  simp [h3, h4, kw34, fn34, e34, btw]
theorem la12 {e : EV} {x y z : Int} {kv : List (Nat × SV)} (q : Q 22 kv e) (h1 : e[1]? = some (.own (tinD x y z))) (hz0 : 0 ≤ z) (hz : z ≤ 800) :
    ∃ t x' z', dry 60 t ∧ 0 ≤ z' ∧ z' ≤ z + 3 ∧ ∃ e', exS T cf lap12 e = .ok .next e' ∧ Q 22 ((14, .val (rd t)) :: (1, .own (tinD x' y z')) :: kv.filter fun p => p.1 != 1 && p.1 != 14) e' := by
  obtain ⟨t, x1, z1, a1, b1, c1, e1⟩ := ev57 60 (by decide) (by decide) h1 hz0 (by omega)
  have q1 := q.set (i := 1) (t := .own (tinD x1 y z1)) (by decide) (by decide) (Fre.own _)
  have q2 := q1.set (i := 14) (t := .val (rd t)) (by decide) (by decide) (Fre.val _)
  refine ⟨t, x1, z1, a1, b1, c1, _, st_v e1 (q1.ok (by decide) (by decide)), q2.sub ?_⟩
  intro p hp
  simp only [List.mem_cons, List.mem_filter] at hp ⊢
  rcases hp with rfl | rfl | ⟨hp, h⟩
  · simp
  · simp
  · simp at h
    simp [hp, h]
theorem la13 {e : EV} {r s t : R} {kv : List (Nat × SV)} (q : Q 22 kv e) (h3 : e[3]? = some (.val (rd r))) (h4 : e[4]? = some (.val (rd s))) (h13 : e[13]? = some (.val (md (btw r s)))) (h14 : e[14]? = some (.val (rd t))) (hr : dry 200 r) (hs : dry 200 s) (ht : dry 60 t) : exS T cf lap13 e = .ok .next e := by
  refine st_or ?_
  have v1 := ev27 (va h13) (va h3) (btw_good hr hs) (btw_bd hr hs) (by decide) hr.1
  rw [btw_ld hr hs] at v1
  rw [or1 (ne_rd (r := s) v1 (va h4)), x_v1]
  have v2 := ev27 (va h13) (va h14) (btw_good hr hs) (btw_bd hr hs) (by decide) ht.1
  have e28 := sp28 194 (ldR (btw r s) t) s (gR_ld (btw_good hr hs).1 ht.1) hs.1 ((hs.bd (by decide)).sm (by decide))
  have hf := far_ld (btw_good hr hs).1 t r
  rw [btw_ld hr hs] at hf
  rw [hf] at e28
  have f28 := sp28 194 t r ht.1 hr.1 ((hr.bd (by decide)).sm (by decide))
  simp at e28 f28
  rw [x_cmp, x_callk, x_a0]
  simp only [bd_ok]
  rw [x_a1, v2]
  simp [h3, h4, h14, kw28, fn28, e28, f28, cmpop, eqD_int, tst, truth, opt]
def trn (m : M) : M := P (P m (St 1)) (sg (adj m))
theorem trn_good {m : M} (g : good m) : good (trn m) := good_P (det_P g.1 (det_St 1)) (by rw [det_sg, det_adj]; exact g.1)
theorem bd_St1 : BdM 11 (St 1) := ⟨show (1 : Int).natAbs < 2 ^ 11 by decide, show (1 : Int).natAbs < 2 ^ 11 by decide, show (0 : Int).natAbs < 2 ^ 11 by decide, show (1 : Int).natAbs < 2 ^ 11 by decide⟩
theorem trn_bd {m : M} (h : BdM 11 m) : BdM 40 (trn m) := ((h.P bd_St1).P h.adj.sg).mono (by decide)
theorem la14' {e : EV} {r : R} {kv : List (Nat × SV)} (q : Q 22 kv e) (h5 : e[5]? = some (.val (md (mvR r)))) (hr : dry 200 r) :
    ∃ e', exS T cf lap14 e = .ok .next e' ∧ Q 22 ((15, .val (md (trn (mvR r)))) :: kv.filter fun p => p.1 != 15) e' := by
  have bP : BdM 23 (P (mvR r) (St 1)) := hr.mv.P bd_St1
  have e19 := sp19 197 1
  have e19 : cf 19 [.val (.int 1)] = .ok (.v (md (St 1))) [.val (.int 1)] := e19
  have e14 := sp14' 194 (mvR r) (St 1) hr.mv bd_St1 (by decide) hr.ok (good_St 1)
  have e15 := sp15 194 (mvR r) hr.mv (by decide) hr.ok
  have f14 := sp14' 194 (P (mvR r) (St 1)) (sg (adj (mvR r))) bP (hr.mv.adj.sg.mono (by decide)) (by decide) (good_P hr.ok.1 (det_St 1)) (good_sg (by rw [det_adj]; exact hr.ok.1))
  simp at e14 e15 f14
  refine ⟨_, st_v (e1 := e) (d := md (trn (mvR r))) ?_ (q.ok (by decide) (by decide)), q.set (by decide) (by decide) (Fre.val _)⟩
  simp [h5, e19, e14, e15, f14, trn]
def nx (r : R) : List R := [nrR r 0, nrR r 1, nrR r 2, nrR r 3, nrR r 4]
theorem la15 {e : EV} {r : R} {kv : List (Nat × SV)} (q : Q 22 kv e) (h3 : e[3]? = some (.val (rd r))) (hr : dry 200 r) :
    ∃ e', exS T cf lap15 e = .ok .next e' ∧ Q 22 ((16, .val (.tup ((nx r).map rd))) :: kv.filter fun p => p.1 != 16) e' := by
  have e37 := sp37 194 r hr.1 hr.lt 5 (by decide) (by decide)
  have e37 : cf 37 [.val (rd r), .val (.int 5)] = .ok (.v (.tup ((nx r).map rd))) [.val (rd r), .val (.int 5)] := e37
  generalize (nx r).map rd = L at *
  refine ⟨_, st_v (e1 := e) (d := .tup L) ?_ (q.ok (by decide) (by decide)), q.set (by decide) (by decide) (Fre.val _)⟩
  simp [h3, kw37, fn37, e37]
/-! a step, turned -/
theorem adj_m {m : M} (h : det m = 1) : P (sg (adj m)) m = one1 := by
  unfold P
  rw [sg_mul_l (by rw [det_adj]; exact h) h]
  have : mulM (adj m) m = one1 := by
    obtain ⟨a, b, c, d⟩ := m
    have h : a * d - b * c = 1 := h
    simp only [mulM, adj, one1, Prod.mk.injEq]
    refine ⟨?_, ?_, ?_, ?_⟩ <;> grind
  rw [this]; rfl
theorem dA {m : M} (h : det m = 1) : det (sg (adj m)) = 1 := by rw [det_sg, det_adj]; exact h
theorem trn_back {m : M} (g : good m) : P (P (sg (adj m)) (trn m)) m = St 1 := by
  unfold trn
  rw [← P_assoc (dA g.1) (det_P g.1 (det_St 1)) (dA g.1), ← P_assoc (dA g.1) g.1 (det_St 1), adj_m g.1, P_one (good_St 1), P_assoc (det_St 1) (dA g.1) g.1, adj_m g.1, P_one' (good_St 1)]
theorem trn_ld {m : M} (g : good m) {u : R} (gu : gR u) : ldR (trn m) (ldR m u) = ldR m (ldR (St 1) u) := by
  unfold trn
  have gl : gR (ldR m u) := gR_ld g.1 gu
  rw [ld_P (det_P g.1 (det_St 1)) (dA g.1) gl.1, ld_adj g.1 gu, ld_P g.1 (det_St 1) gu.1]
theorem St1_k (k : Int) : ldR (St 1) (k, 1) = (k + 1, 1) := by
  have : ap (St 1) (k, 1) = (k + 1, 1) := by simp [ap, WD.St]
  unfold ldR
  rw [this]
  exact so_pos (show (0 : Int) < 1 by decide)
theorem gk1 (k : Int) : gR (k, 1) := ⟨gcd_k1 k, .inl (show (0 : Int) < 1 by decide)⟩
theorem trn_nr {r : R} (hr : dry 200 r) (k : Int) : ldR (trn (mvR r)) (nrR r k) = nrR r (k + 1) := by
  unfold nrR
  rw [trn_ld hr.ok (gk1 k), St1_k]
theorem trn_r {r : R} (hr : dry 200 r) : ldR (trn (mvR r)) r = r := by
  have := trn_ld hr.ok g10
  rw [hr.ld] at this
  rw [this, show ldR (St 1) (1, 0) = (1, 0) from by decide, hr.ld]
theorem trn_kind {m : M} (g : good m) : kindS (trn m) = "step" := by
  have hX : trn m = sg (mulM (mulM m (St 1)) (adj m)) := by
    unfold trn P
    rw [sg_mul_l (by rw [det_mul, g.1, det_St]; rfl) (dA g.1), sg_mul_r (by rw [det_mul, g.1, det_St]; rfl) (by rw [det_adj]; exact g.1)]
  obtain ⟨a, b, c, d⟩ := m
  have hd : a * d - b * c = 1 := g.1
  have hx : mulM (mulM (a, b, c, d) (St 1)) (adj (a, b, c, d)) = (1 - a * c, a * a, 0 - c * c, 1 + a * c) := by
    simp only [mulM, adj, WD.St, Prod.mk.injEq]
    refine ⟨?_, ?_, ?_, ?_⟩ <;> grind
  rw [hx] at hX
  have hne : ¬ (a * a = 0 ∧ 0 - c * c = 0) := by
    rintro ⟨h1, h2⟩
    have ha : a = 0 := by rcases Int.mul_eq_zero.mp h1 with h | h <;> exact h
    have hc : c = 0 := by rcases Int.mul_eq_zero.mp (show c * c = 0 by omega) with h | h <;> exact h
    subst ha hc
    simp at hd
  rw [hX]
  have h1 : sg (1 - a * c, a * a, 0 - c * c, 1 + a * c) ≠ one1 := by
    intro h
    rcases sg_or (1 - a * c, a * a, 0 - c * c, 1 + a * c) with e | e <;> rw [e] at h
    · have k1 := congrArg (fun m : M => m.2.1) h
      have k2 := congrArg (fun m : M => m.2.2.1) h
      exact hne ⟨k1, k2⟩
    · have k1 := congrArg (fun m : M => m.2.1) h
      have k2 := congrArg (fun m : M => m.2.2.1) h
      simp only [ngM, one1] at k1 k2
      exact hne ⟨by omega, by omega⟩
  have h2 : absI ((sg (1 - a * c, a * a, 0 - c * c, 1 + a * c)).1 + (sg (1 - a * c, a * a, 0 - c * c, 1 + a * c)).2.2.2) = 2 := by
    rcases sg_or (1 - a * c, a * a, 0 - c * c, 1 + a * c) with e | e <;> rw [e]
    · show absI (1 - a * c + (1 + a * c)) = 2
      have : 1 - a * c + (1 + a * c) = 2 := by omega
      rw [this]; rfl
    · show absI (0 - (1 - a * c) + (0 - (1 + a * c))) = 2
      have : 0 - (1 - a * c) + (0 - (1 + a * c)) = -2 := by omega
      rw [this]; rfl
  unfold kindS
  rw [if_neg h1, h2]
  rfl
theorem eqD_rsl (rs : List R) : eqD (.lst (rs.map rd)) (.lst (rs.map rd)) = some true := by
  obtain ⟨h1, h2⟩ := rd_shaped rs
  unfold eqD SeqAt.shaped
  simp [toPy, PyData.canLay0, PyData.depth, h1, PyData.eqv, rd_eqv]
  omega
theorem la16 {e : EV} {r : R} {kv : List (Nat × SV)} (q : Q 22 kv e) (h3 : e[3]? = some (.val (rd r))) (h5 : e[5]? = some (.val (md (mvR r)))) (h15 : e[15]? = some (.val (md (trn (mvR r))))) (h16 : e[16]? = some (.val (.tup ((nx r).map rd)))) (hr : dry 200 r) : exS T cf lap16 e = .ok .next e := by
  refine st_or ?_
  obtain ⟨s7, h7, _⟩ := q.fre (i := 7) (by decide) (by decide)
  have gt := trn_good hr.ok
  have bt := trn_bd hr.mv
  have c4 := cut04 ((nx r).map rd)
  have c1 := cut1 ((nx r).map rd)
  have hi : evI T cf (.e (.sl (.var 16) none (some (.int 4)))) e = .ok (((nx r).take 4).map rd) e := by
    rw [List.map_take]
    generalize (nx r).map rd = L at *
    simp [h16, sliceD, c4, intD, opt]
  have hc := ev_comp (T := T) (cf := cf) (e := e) (e1 := e) (i := 7) (it := .e (.sl (.var 16) none (some (.int 4)))) (cond := none) (elt := .call 27 [.var 15, .var 7]) (ds := ((nx r).take 4).map rd) (s := s7) (fun _ => true) (fun d => match d with | .tup [.int a, .int b] => rd (ldR (trn (mvR r)) (a, b)) | _ => .non) hi h7 (by simp [nx]) (by
    intro d hd
    obtain ⟨o, ho, rfl⟩ := List.mem_map.mp hd
    refine ⟨by simp, fun _ => .inl ?_⟩
    have g15 : (e.set 7 (.val (rd o)))[15]? = some (.val (md (trn (mvR r)))) := by rw [get_ne _ _ _ _ (by decide)]; exact h15
    have g7 : (e.set 7 (.val (rd o)))[7]? = some (.val (rd o)) := get_set _ (lt_of_get h7)
    have go : gR o := by
      have ho := List.mem_of_mem_take ho
      simp only [nx, List.mem_cons, List.not_mem_nil, or_false] at ho
      rcases ho with rfl | rfl | rfl | rfl | rfl <;> exact nr_g hr _
    exact ev27 (va g15) (va g7) gt bt (by decide) go)
  have hmm : ((((nx r).take 4).map rd).filter fun _ => true).map (fun d => match d with | .tup [.int a, .int b] => rd (ldR (trn (mvR r)) (a, b)) | _ => .non) = ((nx r).drop 1).map rd := by
    rw [List.filter_eq_self.mpr (fun _ _ => rfl), List.map_map]
    show [rd (ldR (trn (mvR r)) (nrR r 0)), rd (ldR (trn (mvR r)) (nrR r 1)), rd (ldR (trn (mvR r)) (nrR r 2)), rd (ldR (trn (mvR r)) (nrR r 3))] = [rd (nrR r 1), rd (nrR r 2), rd (nrR r 3), rd (nrR r 4)]
    rw [trn_nr hr, trn_nr hr, trn_nr hr, trn_nr hr]
    rfl
  rw [hmm] at hc
  have hl : evE T cf false (.bi .list [.sl (.var 16) (some (.int 1)) none]) e = .ok (.t (.lst (((nx r).drop 1).map rd))) e := by
    rw [List.map_drop]
    generalize (nx r).map rd = L at *
    simp [h16, sliceD, c1, intD, opt]
  have n1 : evE T cf true (.cmp .NotEq (.comp [7] (.e (.sl (.var 16) none (some (.int 4)))) (.nm 7) none (.call 27 [.var 15, .var 7])) (.bi .list [.sl (.var 16) (some (.int 1)) none])) e = .ok (.v (.bl false)) e := by
    rw [x_cmp, hc]
    simp only [bd_ok]
    rw [hl]
    generalize (nx r).drop 1 = L at *
    simp [cmpop, eqD_rsl, tst, truth, opt]
  have n2 := ev27 (va h15) (va h3) gt bt (by decide) hr.1
  rw [trn_r hr] at n2
  have e17 := sp17 194 (trn (mvR r)) bt (by decide) gt
  rw [trn_kind hr.ok] at e17
  have oks : PyData.strOk "step" = true := by decide +kernel
  have es : eqD (.str "step") (.str "step") = some true := by
    simp [oks, eqD, toPy, SeqAt.shaped, PyData.canLay0, PyData.depth, PyData.eqv]
  have e18 := sp18 194 (trn (mvR r)) (mvR r) bt (hr.mv.mono (by decide)) (by decide) gt hr.ok
  rw [trn_back hr.ok] at e18
  simp at e17 e18
  rw [or1 n1, or1 (ne_rd (r := r) n2 (va h3)), or1 (e1 := e) (by simp [h15, kw17, fn17, e17, cmpop, es, tst, truth, opt]), x_v1]
  exact ne_md (m := St 1) (by simp [h15, h5, e18]) (by simp [frzs, frz_v, sizeL, md, WD.St])
end PL.K50
end

section
set_option exponentiation.threshold 5000
namespace PL.K50
open PL PL.K00 PL.RY PL.WD PySem PySem.Spec L2

section
variable {r : R} (hr : dry 200 r) (h2 : 2 ≤ r.2)
include hr h2
theorem lh_dt : dt (loP r) (hiP r) = -1 := by
  have := loP_dt hr.1 hr.lt h2
  show (loP r).1 * (r.2 - (loP r).2) - (loP r).2 * (r.1 - (loP r).1) = -1
  grind
theorem lh_bd : 0 < (loP r).2 ∧ (loP r).2 < r.2 ∧ (loP r).1.natAbs ≤ 201 := by
  obtain ⟨p1, p2⟩ := inv_pos hr.1 hr.lt h2
  refine ⟨p1, p2, ?_⟩
  have hm := mv_ent hr
  have em : mvR r = (r.1, (loP r).1, r.2, (loP r).2) := by unfold mvR; exact if_neg (by omega)
  rw [em] at hm
  exact hm.2.1
theorem lo_ok : okR (loP r) := by
  obtain ⟨p1, p2, p3⟩ := lh_bd hr h2
  have := hr.2.2.2
  exact ⟨⟨gcd_dt (r := loP r) (s := hiP r) (by rw [lh_dt hr h2]; rfl), .inl p1⟩, show (loP r).1.natAbs < 2 ^ 20 by omega, show (loP r).2.natAbs < 2 ^ 20 by omega⟩
theorem hi_ok : okR (hiP r) := by
  obtain ⟨p1, p2, p3⟩ := lh_bd hr h2
  have h3 := hr.2.2.2
  have h1 := hr.2.1
  exact ⟨⟨gcd_dt (r := hiP r) (s := loP r) (by rw [dt_swap, lh_dt hr h2]; rfl), .inl (show 0 < r.2 - (loP r).2 by omega)⟩, show (r.1 - (loP r).1).natAbs < 2 ^ 20 by omega, show (r.2 - (loP r).2).natAbs < 2 ^ 20 by omega⟩
theorem no_between (k : Int) (hk : k < r.2) (hk1 : 0 < k) : ¬ (((loP r).1 * k / (loP r).2 + 1) * (hiP r).2 < (hiP r).1 * k) := by
  obtain ⟨p1, p2, p3⟩ := lh_bd hr h2
  have hd := lh_dt hr h2
  have hs : (loP r).2 + (hiP r).2 = r.2 := by show (loP r).2 + (r.2 - (loP r).2) = r.2; omega
  have hh : 0 < (hiP r).2 := by show 0 < r.2 - (loP r).2; omega
  intro hlt
  have e := Int.mul_ediv_add_emod ((loP r).1 * k) (loP r).2
  have m1 := Int.emod_lt_of_pos ((loP r).1 * k) p1
  generalize (loP r).1 * k / (loP r).2 = t at *
  generalize ((loP r).1 * k) % (loP r).2 = m at *
  simp only [dt] at hd
  generalize loP r = lo at *
  generalize hiP r = hi at *
  obtain ⟨a, b⟩ := lo
  obtain ⟨c, d⟩ := hi
  simp only at *
  have h3 : a * k + 1 ≤ b * (t + 1) := by rw [Int.mul_add, Int.mul_one]; omega
  have h4 : d * (a * k + 1) ≤ d * (b * (t + 1)) := Int.mul_le_mul_of_nonneg_left h3 (by omega)
  have h5 : b * ((t + 1) * d + 1) ≤ b * (c * k) := Int.mul_le_mul_of_nonneg_left (by omega) (by omega)
  have h6 : k = b * (c * k) - d * (a * k) := by
    have : b * (c * k) - d * (a * k) = -(a * d - b * c) * k := by grind
    rw [this, hd]; omega
  have h7 : b * ((t + 1) * d + 1) = d * (b * (t + 1)) + b := by grind
  have h8 : d * (a * k + 1) = d * (a * k) + d := by grind
  omega
end
def C1 : S := .set 20 (.bin .add (.bin .fdiv (.bin .mul (.ix (.var 17) (.int 0)) (.var 19)) (.ix (.var 17) (.int 1))) (.int 1))
def C2 : S := .if_ (.andor true [.cmp .Gt (.ix (.var 17) (.int 1)) (.int 0), .cmp .Lt (.bin .mul (.var 20) (.ix (.var 18) (.int 1))) (.bin .mul (.ix (.var 18) (.int 0)) (.var 19)), .cmp .Gt (.ix (.var 18) (.int 1)) (.int 0)]) [.ret (.bl false)] []
def outC (rest : List (Nat × SV)) : Prop := ∀ p ∈ rest, p.1 ≠ 19 ∧ p.1 ≠ 20
theorem lpC {r : R} (hr : dry 200 r) (h2 : 2 ≤ r.2) {rest : List (Nat × SV)} (ho : outC rest) (m17 : (17, SV.val (rd (loP r))) ∈ rest) (m18 : (18, SV.val (rd (hiP r))) ∈ rest) : ∀ (ks : List Nat) (e : EV), (∀ k ∈ ks, 1 + (k : Int) < r.2) → Q 22 rest e →
    ∃ e', forL (fun d e => opt (asg (.nm 19) d e) fun e1 => exB T cf [C1, C2] e1) (ks.map fun (k : Nat) => .int (1 + (k : Int))) e = .ok .next e' ∧ Q 22 rest e'
  | [], e, _, q => ⟨e, by simp, q⟩
  | k :: ks, e, hk, q => by
    have hk0 := hk k (by simp)
    have h200 := hr.2.2.2
    obtain ⟨p1, p2, p3⟩ := lh_bd hr h2
    have q1 := Q.over q (i := 19) (t := .val (.int (1 + (k : Int)))) (by decide) (by decide) (Fre.val _) (fun p hp => (ho p hp).1)
    have g17 := q1.tl.get m17
    have g18 := q1.tl.get m18
    have g19 := q1.g0
    have hd := dvs2 p1 (by omega)
    have mk : ∀ i : Int, mulOk i (1 + (k : Int)) = true := fun i => mulOk_r (by omega)
    have mh : ∀ i : Int, mulOk i (hiP r).2 = true := fun i => mulOk_r (by have := (hi_ok hr h2).sm.2; exact this)
    have x1 : exS T cf C1 (e.set 19 (.val (.int (1 + (k : Int))))) = .ok .next ((e.set 19 (.val (.int (1 + (k : Int))))).set 20 (.val (.int ((loP r).1 * (1 + (k : Int)) / (loP r).2 + 1)))) := by
      refine st_v ?_ (q1.ok (by decide) (by decide))
      generalize e.set 19 (.val (.int (1 + (k : Int)))) = e1 at *
      simp only [x_bin, x_ix, va g17, va g19, x_int, bd_ok, tst, Bool.false_eq_true, if_false, x_cont_v, opt, item_r0, item_r1, bin_mul, mk, if_true, bin_fdiv, hd, bin_add]
    have q2 := Q.over q1.tl (i := 20) (t := .val (.int ((loP r).1 * (1 + (k : Int)) / (loP r).2 + 1))) (by decide) (by decide) (Fre.val _) (fun p hp => (ho p hp).2)
    have w19 : ((e.set 19 (.val (.int (1 + (k : Int))))).set 20 (.val (.int ((loP r).1 * (1 + (k : Int)) / (loP r).2 + 1))))[19]? = some (.val (.int (1 + (k : Int)))) := by rw [get_ne _ _ _ _ (by decide)]; exact g19
    have w17 := q2.tl.get m17
    have w18 := q2.tl.get m18
    have w20 := q2.g0
    have hnb := no_between hr h2 (1 + (k : Int)) hk0 (by omega)
    obtain ⟨e', i1, i2⟩ := lpC hr h2 ho m17 m18 ks _ (fun j hj => hk j (by simp [hj])) q2.tl
    generalize ((e.set 19 (.val (.int (1 + (k : Int))))).set 20 (.val (.int ((loP r).1 * (1 + (k : Int)) / (loP r).2 + 1)))) = e2 at *
    have x2 : exS T cf C2 e2 = .ok .next e2 := by
      refine st_if ?_
      rw [x_andor, and1 (e1 := e2) (by simp [w17, item_r1, p1, tst, truth, opt])]
      refine andf ?_
      simp only [x_cmp, x_bin, x_ix, va w17, va w18, va w19, va w20, x_int, bd_ok, tst, Bool.false_eq_true, if_false, x_cont_v, opt, item_r0, item_r1, bin_mul, mk, mh, if_true, cmpop, Option.bind, truth, decide_eq_false hnb]
    refine ⟨e', ?_, i2⟩
    rw [List.map_cons, forL_cons, x_asg, q.ok (i := 19) (by decide) (by decide)]
    simp only [if_true, opt, x_b1, x1, bd_ok, x2, x_b0]
    simp only [opt, x_b1, x_b0] at i1
    exact i1
theorem la17 {e : EV} {r : R} {rest : List (Nat × SV)} (ho : ∀ p ∈ rest, p.1 ≠ 17 ∧ p.1 ≠ 18 ∧ p.1 ≠ 19 ∧ p.1 ≠ 20) (q : Q 22 rest e) (h3 : e[3]? = some (.val (rd r))) (m3 : (3, SV.val (rd r)) ∈ rest) (hr : dry 200 r) :
    ∃ e', exS T cf lap17 e = .ok .next e' ∧ Q 22 rest e' := by
  by_cases h2 : 1 < r.2
  · have h2' : 2 ≤ r.2 := by omega
    have e33 := sp33 194 r hr.1 hr.lt h2'
    simp at e33
    have q1 := Q.over q (i := 17) (t := .val (rd (loP r))) (by decide) (by decide) (Fre.val _) (fun p hp => (ho p hp).1)
    have q2' := Q.set q1 (i := 18) (t := .val (rd (hiP r))) (by decide) (by decide) (Fre.val _)
    have q2 : Q 22 ((18, .val (rd (hiP r))) :: (17, .val (rd (loP r))) :: rest) ((e.set 17 (.val (rd (loP r)))).set 18 (.val (rd (hiP r)))) := by
      refine q2'.sub ?_
      intro p hp
      rcases List.mem_cons.mp hp with rfl | hp
      · simp
      · rcases List.mem_cons.mp hp with rfl | hp
        · simp
        · have := (ho p hp).2.1
          simp [hp, this]
    have hA : exS T cf (.unp [17, 18] (.callk 33 [] ["place"] [.var 3])) e = .ok .next ((e.set 17 (.val (rd (loP r)))).set 18 (.val (rd (hiP r)))) := by
      have hx : evE T cf false (.callk 33 [] ["place"] [.var 3]) e = .ok (.v (.tup [rd (loP r), rd (hiP r)])) e := by
        simp [h3, kw33, fn33, e33]
      rw [x_unp, hx]
      simp only [bd_ok, x_cont_v, opt]
      rw [x_sv1, q.ok (i := 17) (by decide) (by decide)]
      simp only [if_true]
      rw [x_sv1, q1.ok (i := 18) (by decide) (by decide)]
      simp only [if_true, x_sv0]
    have g18 := q2.g0
    have g17 := q2.tl.g0
    have g3 := q2.tl.tl.get m3
    have ol := lo_ok hr h2'
    have oh := hi_ok hr h2'
    have hd := lh_dt hr h2'
    have e30 := sp30 194 (loP r) (hiP r) ol.1 oh.1 oh.sm (by rw [hd]; rfl)
    have es : so ((loP r).1 + (hiP r).1, (loP r).2 + (hiP r).2) = r := by
      have : ((loP r).1 + (hiP r).1, (loP r).2 + (hiP r).2) = r := by
        refine Prod.ext ?_ ?_
        · show (loP r).1 + (r.1 - (loP r).1) = r.1; omega
        · show (loP r).2 + (r.2 - (loP r).2) = r.2; omega
      rw [this]; exact so_gR hr.1
    rw [es] at e30
    have e29 := sp29 194 (loP r) (hiP r) ol.1 oh.1 oh.sm
    rw [hd] at e29
    simp at e30 e29
    have e29 : cf 29 [.val (rd (loP r)), .val (rd (hiP r))] = .ok (.v (.bl true)) [.val (rd (loP r)), .val (rd (hiP r))] := e29
    have mo : ∀ i : Int, mulOk i (hiP r).2 = true := fun i => mulOk_r oh.sm.2
    have ml : ∀ i : Int, mulOk i (loP r).2 = true := fun i => mulOk_r ol.sm.2
    obtain ⟨e', i1, i2⟩ := lpC hr h2' (rest := (18, .val (rd (hiP r))) :: (17, .val (rd (loP r))) :: rest) (by
      intro p hp
      rcases List.mem_cons.mp hp with rfl | hp
      · simp
      · rcases List.mem_cons.mp hp with rfl | hp
        · simp
        · exact (ho p hp).2.2) (by simp) (by simp) (List.range ((if 40 < r.2 then 40 else r.2) - 1).toNat) _ (fun k hk => by have := List.mem_range.mp hk; split at this <;> omega) q2
    refine ⟨e', ?_, i2.tl.tl⟩
    rw [lap17, x_if]
    have hc : toB (evE T cf true (.cmp .Gt (.ix (.var 3) (.int 1)) (.int 1)) e) = .ok true e := by simp [h3, item_r1, h2, toB, tst, truth, opt]
    rw [hc]
    simp only [bd_ok, if_true]
    rw [x_b1, hA]
    simp only [bd_ok]
    generalize ((e.set 17 (.val (rd (loP r)))).set 18 (.val (rd (hiP r)))) = e2 at *
    have hB : exS T cf (.if_ (.andor false [.cmp .NotEq (.callk 30 [] ["one", "other"] [.var 17, .var 18]) (.var 3), .cmp .IsNot (.call 29 [.var 17, .var 18]) (.bl true), .cmp .GtE (.bin .mul (.ix (.var 17) (.int 0)) (.ix (.var 18) (.int 1))) (.bin .mul (.ix (.var 18) (.int 0)) (.ix (.var 17) (.int 1)))]) [.ret (.bl false)] []) e2 = .ok .next e2 := by
      refine st_or ?_
      have hge : ¬ ((hiP r).1 * (loP r).2 ≤ (loP r).1 * (hiP r).2) := by
        simp only [dt] at hd
        have : (hiP r).1 * (loP r).2 = (loP r).2 * (hiP r).1 := Int.mul_comm ..
        omega
      rw [or1 (ne_rd (r := r) (by simp [g17, g18, kw30, fn30, e30]) (va g3)), or1 (not_true (e1 := e2) (by simp [g17, g18, e29])), x_v1]
      simp only [x_cmp, x_bin, x_ix, va g17, va g18, x_int, bd_ok, tst, Bool.false_eq_true, if_false, x_cont_v, opt, item_r0, item_r1, bin_mul, mo, ml, if_true, cmpop, Option.bind, truth, decide_eq_false hge]
    rw [x_b1, hB]
    simp only [bd_ok]
    have hrg : rngD [.int 1, .int (if 40 < r.2 then 40 else r.2)] = some ((List.range ((if 40 < r.2 then 40 else r.2) - 1).toNat).map fun (k : Nat) => .int (1 + (k : Int))) := by
      have h200 := hr.2.2
      generalize hmm : (if 40 < r.2 then 40 else r.2) = m
      have hb : 0 ≤ m ∧ m ≤ 200 := by split at hmm <;> omega
      have h1 : decide (-(2 ^ 62) ≤ m) = true := decide_eq_true (by omega)
      have h2 : decide (m < 2 ^ 62) = true := decide_eq_true (by omega)
      simp only [rngD, h1, h2]
      rfl
    have hi : evI T cf (.rng [.int 1, .bi .min2 [.ix (.var 3) (.int 1), .int 40]]) e2 = .ok ((List.range ((if 40 < r.2 then 40 else r.2) - 1).toNat).map fun (k : Nat) => .int (1 + (k : Int))) e2 := by
      have hm : biF .min2 [.int r.2, .int 40] = some (.v (.int (if 40 < r.2 then 40 else r.2))) := rfl
      simp only [x_ir, x_a1, x_a0, x_int, x_bi, x_ix, va g3, bd_ok, tst, Bool.false_eq_true, if_false, x_cont_v, opt, item_r1, x_conts1, x_conts0, Option.bind, Option.map, hm, hrg]
    have hC : exS T cf (.for_ (.nm 19) (.rng [.int 1, .bi .min2 [.ix (.var 3) (.int 1), .int 40]]) [C1, C2]) e2 = .ok .next e' := by
      rw [x_for, hi]
      simp only [bd_ok]
      exact i1
    show (exB T cf [.for_ (.nm 19) (.rng [.int 1, .bi .min2 [.ix (.var 3) (.int 1), .int 40]]) [C1, C2]] e2) = _
    rw [x_b1, hC]
    simp
  · refine ⟨e, ?_, q⟩
    rw [lap17, x_if]
    have hc : toB (evE T cf true (.cmp .Gt (.ix (.var 3) (.int 1)) (.int 1)) e) = .ok false e := by simp [h3, item_r1, h2, toB, tst, truth, opt]
    rw [hc]
    simp
theorem la18 {e : EV} {x y z : Int} {kv : List (Nat × SV)} (q : Q 22 kv e) (h1 : e[1]? = some (.own (tinD x y z))) (hz0 : 0 ≤ z) (hz : z ≤ 800) :
    ∃ b x' z', 1 ≤ b ∧ b ≤ 30 ∧ 0 ≤ z' ∧ z' ≤ z + 1 ∧ ∃ e', exS T cf lap18 e = .ok .next e' ∧ Q 22 ((21, .val (.int b)) :: (1, .own (tinD x' y z')) :: kv.filter fun p => p.1 != 1 && p.1 != 21) e' := by
  obtain ⟨r1, x1, z1, a1, b1, c1, d1, e1⟩ := ev53 30 h1 (by decide) (by decide) hz0 (by omega)
  have q1 := q.set (i := 1) (t := .own (tinD x1 y z1)) (by decide) (by decide) (Fre.own _)
  have q2 := q1.set (i := 21) (t := .val (.int (1 + r1))) (by decide) (by decide) (Fre.val _)
  refine ⟨1 + r1, x1, z1, by omega, by omega, c1, by omega, _, st_v (e1 := e.set 1 (.own (tinD x1 y z1))) ?_ (q1.ok (by decide) (by decide)), q2.sub ?_⟩
  · rw [x_bin, x_int]
    simp only [tst, Bool.false_eq_true, if_false, bd_ok]
    rw [e1]
    simp
  · intro p hp
    simp only [List.mem_cons, List.mem_filter] at hp ⊢
    rcases hp with rfl | rfl | ⟨hp, h⟩
    · simp
    · simp
    · simp at h
      simp [hp, h]
theorem la19 {e : EV} {r : R} {b : Int} {kv : List (Nat × SV)} (q : Q 22 kv e) (h3 : e[3]? = some (.val (rd r))) (h21 : e[21]? = some (.val (.int b))) (hr : dry 200 r) (hb1 : 1 ≤ b) (hb2 : b ≤ 30) : exS T cf lap19 e = .ok .next e := by
  obtain ⟨g, h1, h2, h4⟩ := id hr
  have e49 := sp49' 195 b r hb1 (by omega) g
  have e55 := sp55g 198 r.2 b (Nat.lt_of_le_of_lt (show b.natAbs ≤ 2 ^ 12 by omega) (by decide +kernel))
  have e49 : cf 49 [.val (.int b), .val (rd r)] = .ok (.v (.int (Int.gcd r.2 b : Nat))) [.val (.int b), .val (rd r)] := e49
  have e55 : cf 55 [.val (.int r.2), .val (.int b)] = .ok (.v (.int (Int.gcd r.2 b : Nat))) [.val (.int r.2), .val (.int b)] := e55
  have c1 : evE T cf true (.cmp .NotEq (.call 49 [.var 21, .var 3]) (.call 55 [.ix (.var 3) (.int 1), .var 21])) e = .ok (.v (.bl false)) e := by
    simp [h3, h21, e49, e55, item_r1, cmpop, eqD_int, tst, truth, opt]
  have gen : ∀ (m : M) (a : E) (s : R), evE T cf false a e = .ok (.v (md m)) e → good m → BdM 20 m → ldR m r = s → 0 ≤ s.2 → s.2 < 9000 → (Int.gcd (r.2 * s.2) b : Int) ∣ inv1 r * s.2 - inv1 s * r.2 →
      evE T cf true (.cmp .IsNot (.call 50 [.var 21, .var 3, .call 27 [a, .var 3]]) (.bl true)) e = .ok (.v (.bl false)) e := by
    intro m a s ha gm bm hs s0 s9 hd
    refine not_true ?_
    have h27 := ev27 ha (va h3) gm bm (by decide) g
    have gs : gR s := by rw [← hs]; exact gR_ld gm.1 g
    rw [hs] at h27
    have e50 := sp50' 195 b r s hb1 (by omega) g gs (by omega) s9 h2 s0
    rw [decide_eq_true (Int.emod_eq_zero_of_dvd hd)] at e50
    exact ev_call (rs := [.v (.int b), .v (rd r), .v (rd s)]) (by rw [x_a1, va h21]; simp only [bd_ok]; rw [x_a1, va h3]; simp only [bd_ok]; rw [x_a1, h27]; simp) rfl rfl e50
  obtain ⟨i1, _⟩ := inv1_ok g (by omega)
  have c2 : evE T cf true (.cmp .IsNot (.call 50 [.var 21, .var 3, .call 27 [.tup [.int 1, .int 0, .var 21, .int 1], .var 3]]) (.bl true)) e = .ok (.v (.bl false)) e := by
    have gm : good (1, 0, b, 1) := ⟨by show 1 * 1 - 0 * b = 1; omega, .inl (show 0 < b by omega)⟩
    have hap : ap (1, 0, b, 1) r = (r.1, b * r.1 + r.2) := by simp [ap]
    have hs : ∃ ε : Int, ε * ε = 1 ∧ (ldR (1, 0, b, 1) r).1 = ε * r.1 ∧ (ldR (1, 0, b, 1) r).2 = ε * (b * r.1 + r.2) := by
      unfold ldR
      rw [hap]
      unfold so
      split
      · exact ⟨1, rfl, by simp, by simp⟩
      · exact ⟨-1, rfl, by simp, by simp⟩
    have gs := gR_ld gm.1 g
    generalize hsd : ldR (1, 0, b, 1) r = s at *
    obtain ⟨ε, he, s1, s2⟩ := hs
    have s0 : 0 ≤ s.2 := by
      rcases gs.2 with q | q
      · omega
      · rw [q]; decide
    have s9 : s.2 < 9000 := by
      have hε : ε = 1 ∨ ε = -1 := by
        have : ε.natAbs = 1 := by
          have h := congrArg Int.natAbs he
          rw [Int.natAbs_mul] at h
          exact Nat.eq_one_of_mul_eq_one_right h
        omega
      have hbx : (b * r.1).natAbs ≤ 30 * 200 := by rw [Int.natAbs_mul]; exact Nat.mul_le_mul (by omega) (by omega)
      rcases hε with rfl | rfl <;> rw [s2] <;> omega
    obtain ⟨i2, _⟩ := inv1_ok gs s9
    refine gen (1, 0, b, 1) _ s (by simp [h21, frzs, frz_v, sizeL, md]) gm ⟨show (1 : Int).natAbs < 2 ^ 20 by decide, show (0 : Int).natAbs < 2 ^ 20 by decide, show b.natAbs < 2 ^ 20 by omega, show (1 : Int).natAbs < 2 ^ 20 by decide⟩ hsd s0 s9 ?_
    exact lead_a g (by omega) i1 he s1 s2 i2
  have c3 : evE T cf true (.cmp .IsNot (.call 50 [.var 21, .var 3, .call 27 [.tup [.int 1, .int 5, .int 0, .int 1], .var 3]]) (.bl true)) e = .ok (.v (.bl false)) e := by
    have hs : ldR (WD.St 5) r = (r.1 + 5 * r.2, r.2) := by
      have hap : ap (WD.St 5) r = (r.1 + 5 * r.2, r.2) := by simp [ap, WD.St]
      unfold ldR
      rw [hap]
      rcases g.2 with q | q
      · exact so_pos q
      · rw [q]; rfl
    have gs := gR_ld (good_St 5).1 g
    rw [hs] at gs
    obtain ⟨i2, _⟩ := inv1_ok gs (show r.2 < 9000 by omega)
    refine gen (WD.St 5) _ (r.1 + 5 * r.2, r.2) (by simp [frzs, frz_v, sizeL, md, WD.St]) (good_St 5) (bd_St (by decide)) hs h2 (show r.2 < 9000 by omega) ?_
    exact lead_b (k := 5) i1 rfl rfl i2
  refine st_or ?_
  rw [or1 c1, or1 c2, x_v1]
  exact c3
end PL.K50
end

section
set_option exponentiation.threshold 5000
namespace PL.K50
open PL PL.K00 PL.RY PL.WD PySem PySem.Spec L2

theorem bs {s : S} {ss : List S} {e e' : EV} (h : exS T cf s e = .ok .next e') : exB T cf (s :: ss) e = exB T cf ss e' := by
  rw [x_b1, h]; simp only [bd_ok]
theorem lap_ok {e : EV} {x y z : Int} (q : Q 22 [(1, .own (tinD x y z))] e) (hz0 : 0 ≤ z) (hz : z ≤ 700) :
    ∃ x' z' e', 0 ≤ z' ∧ z' ≤ z + 12 ∧ exB T cf lapB e = .ok .next e' ∧ Q 22 [(1, .own (tinD x' y z'))] e' := by
  obtain ⟨r, s, x1, z1, hr, hs, z10, z11, e1, h1, q1⟩ := la0 q hz0 (by omega)
  obtain ⟨e2, h2, q2⟩ := la1 (r := r) q1 (q1.get (by simp)) hr
  have q2 := q2.sub (kv' := [(5, .val (md (mvR r))), (4, .val (rd s)), (3, .val (rd r)), (1, .own (tinD x1 y z1))]) (by simp)
  obtain ⟨e3, h3, q3⟩ := la2 q2
  have q3' := q3.sub (kv' := [(5, .val (md (mvR r))), (4, .val (rd s)), (3, .val (rd r)), (1, .own (tinD x1 y z1))]) (by simp)
  obtain ⟨e4, h4, q4, g6⟩ := la3 (r := r) (by intro p hp; simp at hp; rcases hp with rfl | rfl | rfl | rfl <;> simp) q3' (q3'.get (by simp)) q3.g0 hr
  have h5 := la4 (r := r) q4 (q4.get (by simp)) (q4.get (by simp)) g6 hr
  obtain ⟨e6, h6, q6⟩ := la5 (r := r) q4 (q4.get (by simp)) hr
  have q6 := q6.sub (kv' := [(8, .val (.tup ((rowsM (mvR r)).map D.int))), (5, .val (md (mvR r))), (4, .val (rd s)), (3, .val (rd r)), (1, .own (tinD x1 y z1))]) (by simp)
  obtain ⟨e7, e8, h7, h8, q8, g9⟩ := la67 (r := r) (by intro p hp; simp at hp; rcases hp with rfl | rfl | rfl | rfl | rfl <;> simp) q6 q6.g0 (by simp) hr
  have h9 := la8 (r := r) q8 (q8.get (by simp)) g9 hr
  have q8 := q8.sub (kv' := [(5, .val (md (mvR r))), (4, .val (rd s)), (3, .val (rd r)), (1, .own (tinD x1 y z1))]) (by simp)
  obtain ⟨e10, h10, q10⟩ := la9 (r := r) q8 (q8.get (by simp)) hr
  have q10 := q10.sub (kv' := [(10, .val (.tup ((cvR r).map rd))), (5, .val (md (mvR r))), (4, .val (rd s)), (3, .val (rd r)), (1, .own (tinD x1 y z1))]) (by simp)
  obtain ⟨e11, h11, q11⟩ := la10 (r := r) (by intro p hp; simp at hp; rcases hp with rfl | rfl | rfl | rfl | rfl <;> simp) q10 q10.g0 hr
  have q11 := q11.sub (kv' := [(5, .val (md (mvR r))), (4, .val (rd s)), (3, .val (rd r)), (1, .own (tinD x1 y z1))]) (by simp)
  obtain ⟨e12, h12, q12⟩ := la11 (r := r) (s := s) q11 (q11.get (by simp)) (q11.get (by simp)) hr hs
  have q12 := q12.sub (kv' := [(13, .val (md (btw r s))), (5, .val (md (mvR r))), (4, .val (rd s)), (3, .val (rd r)), (1, .own (tinD x1 y z1))]) (by simp)
  obtain ⟨t, x2, z2, ht, z20, z21, e13, h13, q13⟩ := la12 (x := x1) (y := y) (z := z1) q12 (q12.get (by simp)) z10 (by omega)
  have q13 := q13.sub (kv' := [(14, .val (rd t)), (1, .own (tinD x2 y z2)), (13, .val (md (btw r s))), (5, .val (md (mvR r))), (4, .val (rd s)), (3, .val (rd r))]) (by simp)
  have h14 := la13 (r := r) (s := s) (t := t) q13 (q13.get (by simp)) (q13.get (by simp)) (q13.get (by simp)) q13.g0 hr hs ht
  have q13 := q13.sub (kv' := [(5, .val (md (mvR r))), (3, .val (rd r)), (1, .own (tinD x2 y z2))]) (by simp)
  obtain ⟨e15, h15, q15⟩ := la14' (r := r) q13 (q13.get (by simp)) hr
  have q15 := q15.sub (kv' := [(15, .val (md (trn (mvR r)))), (5, .val (md (mvR r))), (3, .val (rd r)), (1, .own (tinD x2 y z2))]) (by simp)
  obtain ⟨e16, h16, q16⟩ := la15 (r := r) q15 (q15.get (by simp)) hr
  have q16 := q16.sub (kv' := [(16, .val (.tup ((nx r).map rd))), (15, .val (md (trn (mvR r)))), (5, .val (md (mvR r))), (3, .val (rd r)), (1, .own (tinD x2 y z2))]) (by simp)
  have h17 := la16 (r := r) q16 (q16.get (by simp)) (q16.get (by simp)) (q16.get (by simp)) q16.g0 hr
  have q16 := q16.sub (kv' := [(3, .val (rd r)), (1, .own (tinD x2 y z2))]) (by simp)
  obtain ⟨e18, h18, q18⟩ := la17 (r := r) (by intro p hp; simp at hp; rcases hp with rfl | rfl <;> simp) q16 q16.g0 (by simp) hr
  obtain ⟨b, x3, z3, b1, b2, z30, z31, e19, h19, q19⟩ := la18 (x := x2) (y := y) (z := z2) q18 (q18.get (by simp)) z20 (by omega)
  have q19 := q19.sub (kv' := [(21, .val (.int b)), (1, .own (tinD x3 y z3)), (3, .val (rd r))]) (by simp)
  have h20 := la19 (r := r) (b := b) q19 (q19.get (by simp)) q19.g0 hr b1 b2
  refine ⟨x3, z3, e19, z30, by omega, ?_, q19.sub (by simp)⟩
  unfold lapB
  rw [bs h1, bs h2, bs h3, bs h4, bs h5, bs h6, bs h7, bs h8, bs h9, bs h10, bs h11, bs h12, bs h13, bs h14, bs h15, bs h16, bs h17, bs h18, bs h19, bs h20, x_b0]
theorem laps {y : Int} : ∀ (ds : List D) (x z : Int) (e : EV), Q 22 [(1, .own (tinD x y z))] e → 0 ≤ z → z + 12 * ds.length ≤ 700 →
    ∃ x' z' e', forL (fun d e => opt (asg (.nm 2) d e) fun e1 => exB T cf lapB e1) ds e = .ok .next e' ∧ Q 22 [(1, .own (tinD x' y z'))] e'
  | [], x, z, e, q, _, _ => ⟨x, z, e, rfl, q⟩
  | d :: ds, x, z, e, q, h0, h1 => by
    simp only [List.length_cons] at h1
    have q1 := q.set (i := 2) (t := .val d) (by decide) (by decide) (Fre.val _)
    obtain ⟨x2, z2, e2, a, b, he, q2⟩ := lap_ok (x := x) (y := y) (z := z) (q1.sub (by simp)) h0 (by omega)
    obtain ⟨x3, z3, e3, h3, q3⟩ := laps ds x2 z2 e2 q2 a (by omega)
    refine ⟨x3, z3, e3, ?_, q3⟩
    rw [forL_cons, x_asg, q.ok (i := 2) (by decide) (by decide)]
    simp only [if_true, opt, he, bd_ok]
    exact h3
theorem en0 (ns : List Int) (hn : ns.length ≤ 63) : ∃ x y e, exS T cf end0 ([.val (.scr ns)] ++ List.replicate 21 .un) = .ok .next e ∧ Q 22 [(1, .own (tinD x y 0))] e := by
  obtain ⟨c, e1⟩ := sp54 198 ns hn
  obtain ⟨x, y, e2⟩ := sp52 198 c
  have e1 : cf 54 _ = _ := e1
  have e2 : cf 52 _ = _ := e2
  have hq : Q 22 [] ([.val (.scr ns)] ++ List.replicate 21 .un) := by
    refine ⟨by simp, fun i h1 h2 => ⟨.un, ?_, Fre.un⟩, by simp⟩
    obtain ⟨j, rfl⟩ : ∃ j, i = j + 1 := ⟨i - 1, by omega⟩
    show (SV.val (.scr ns) :: List.replicate 21 SV.un)[j+1]? = some .un
    rw [List.getElem?_cons_succ, List.getElem?_replicate, if_pos (by omega)]
  refine ⟨x, y, _, st_t (e1 := [.val (.scr ns)] ++ List.replicate 21 .un) (d := tinD x y 0) ?_ (hq.ok (by decide) (by decide)), (hq.set (by decide) (by decide) (Fre.own _)).sub (by simp)⟩
  have h0 : ([SV.val (.scr ns)] ++ List.replicate 21 SV.un)[0]? = some (.val (.scr ns)) := rfl
  generalize [SV.val (.scr ns)] ++ List.replicate 21 SV.un = e at *
  simp [h0, e1, e2]
theorem law_ok : ∀ ns : List Int, ns.length ≤ 63 → ∃ as', callF T 200 58 [.val (.scr ns)] = .ok (.v (.bl true)) as' := by
  intro ns hn
  obtain ⟨x, y, e0, h0, q0⟩ := en0 ns hn
  obtain ⟨ds, hds⟩ : ∃ ds : List D, ds = (List.range 6).map fun (k : Nat) => D.int (0 + (k : Int)) := ⟨_, rfl⟩
  have hl : ds.length = 6 := by rw [hds, List.length_map, List.length_range]
  have hr : rngD [.int 6] = some ds := by rw [hds]; rfl
  obtain ⟨x1, z1, e1, h1, q1⟩ := laps ds x 0 e0 q0 (Int.le_refl 0) (by omega)
  have hc := x_callF T 199 58 [.val (.scr ns)] (F := f58) rfl rfl
  have hn : ([.val (.scr ns)] ++ List.replicate (f58.N.length - [SV.val (.scr ns)].length) .un : EV) = [.val (.scr ns)] ++ List.replicate 21 .un := rfl
  rw [hn, f58_body, bs h0] at hc
  have hf : exS T cf (.for_ (.nm 2) (.rng [.int 6]) lapB) e0 = .ok .next e1 := by
    rw [x_for, x_ir]
    simp only [x_a1, x_a0, x_int, tst, Bool.false_eq_true, if_false, bd_ok, x_conts1, x_conts0, x_cont_v, Option.bind, Option.map, opt, hr]
    exact h1
  have h2 : exS T cf end2 e1 = .ok (.ret (.v (.bl true))) e1 := by simp [end2, retR]
  rw [bs hf, x_b1, h2] at hc
  exact ⟨_, hc⟩
end PL.K50
end

section
open PySem PySem.W PyProof.Rows
set_option maxHeartbeats 0 in
theorem PySem.Challenge.cw_tablelots_k50_across_rays_and_words_holds : PySem.Challenge.rw_tablelots_k50_across_rays_and_words.Holds := by
  w_on; o_law; k_head; (case hw => w_witness2)
  k_fill
  refine L2.walk_of (l := PySem.Challenge.rw_tablelots_k50_across_rays_and_words) (n := 63) (k := 200) (x := "script") (CX := fun w => L2.CX PySem.Challenge.pw_tablelots_k50_across_rays_and_words w) (sp := fun w => PL.spLaw _) rfl (by decide) rfl ⟨rfl, by decide, by decide⟩ (fun w h Y => PySem.W.kIn_of Y) ?F (fun _ _ a ns hl _ hS => ⟨a, ns, rfl, hl, hS, fun _ => rfl⟩) (fun _ _ _ _ _ z => PL.cx_no z)
  case F =>
    intro w mg fa h KX G hmg
    refine' PL.K50.all_mk KX G hmg ?a0 ?l0 ?c0 ?k0 ?a1 ?l1 ?c1 ?k1 ?a2 ?l2 ?c2 ?k2 ?a3 ?l3 ?c3 ?k3 ?a4 ?l4 ?c4 ?k4 ?a5 ?l5 ?c5 ?k5 ?a6 ?l6 ?c6 ?k6 ?a7 ?l7 ?c7 ?k7 ?a8 ?l8 ?c8 ?k8 ?a9 ?l9 ?c9 ?k9 ?a10 ?l10 ?c10 ?k10 ?a11 ?l11 ?c11 ?k11 ?a12 ?l12 ?c12 ?k12 ?a13 ?l13 ?c13 ?k13 ?a14 ?l14 ?c14 ?k14 ?a15 ?l15 ?c15 ?k15 ?a16 ?l16 ?c16 ?k16 ?a17 ?l17 ?c17 ?k17 ?a18 ?l18 ?c18 ?k18 ?a19 ?l19 ?c19 ?k19 ?a20 ?l20 ?c20 ?k20 ?a21 ?l21 ?c21 ?k21 ?a22 ?l22 ?c22 ?k22 ?a23 ?l23 ?c23 ?k23 ?a24 ?l24 ?c24 ?k24 ?a25 ?l25 ?c25 ?k25 ?a26 ?l26 ?c26 ?k26 ?a27 ?l27 ?c27 ?k27 ?a28 ?l28 ?c28 ?k28 ?a29 ?l29 ?c29 ?k29 ?a30 ?l30 ?c30 ?k30 ?a31 ?l31 ?c31 ?k31 ?a32 ?l32 ?c32 ?k32 ?a33 ?l33 ?c33 ?k33 ?a34 ?l34 ?c34 ?k34 ?a35 ?l35 ?c35 ?k35 ?a36 ?l36 ?c36 ?k36 ?a37 ?l37 ?c37 ?k37 ?a38 ?l38 ?c38 ?k38 ?a39 ?l39 ?c39 ?k39 ?a40 ?l40 ?c40 ?k40 ?a41 ?l41 ?c41 ?k41 ?a42 ?l42 ?c42 ?k42 ?a43 ?l43 ?c43 ?k43 ?a44 ?l44 ?c44 ?k44 ?a45 ?l45 ?c45 ?k45 ?a46 ?l46 ?c46 ?k46 ?a47 ?l47 ?c47 ?k47 ?a48 ?l48 ?c48 ?k48 ?a49 ?l49 ?c49 ?k49 ?a50 ?l50 ?c50 ?k50 ?a51 ?l51 ?c51 ?k51 ?a52 ?l52 ?c52 ?k52 ?a53 ?l53 ?c53 ?k53 ?a54 ?l54 ?c54 ?k54 ?a55 ?l55 ?c55 ?k55 ?a56 ?l56 ?c56 ?k56 ?a57 ?l57 ?c57 ?k57 ?a58 ?l58 ?c58 ?k58 ?u0 ?t0 ?u1 ?t5 ?u2 ?t10 ?u3 ?t15 ?u4 ?t20 ?u5 ?u6 ?u7 ?du0 ?dl0 ?ca0 ?cx0 ?ck0 ?cb0 ?ct_0 ?ce0 ?cf0 ?ch0 ?ci0 ?cm0 ?cv0 ?ca1 ?cx1 ?ck1 ?cb1 ?ct_1 ?ce1 ?cf1 ?ch1 ?ci1 ?cm1 ?cv1 ?ca2 ?cx2 ?ck2 ?cb2 ?ct_2 ?ce2 ?cf2 ?ch2 ?ci2 ?cm2 ?cv2 ?cs0_0 ?cs0_1 ?cs0_2 ?cs1_0 ?cs1_1 ?cs1_2 ?cs2_0 ?cs2_1 ?cs2_2 ?e5 ?e6 ?z0 ?z1 ?z2 ?z3 ?z4 ?z5 ?z6 ?z7 ?z8 ?z9 ?z10 ?z11 ?z12 ?z13 ?z14 ?z15 ?z16 ?z17 ?y0 ?y1 ?gg PL.K50.law_ok
    (case a0 => first | k_is | rfl)
    (case l0 => first | k_is | rfl)
    (case c0 => first | k_is | rfl)
    (case k0 => first | k_is | rfl)
    (case a1 => first | k_is | rfl)
    (case l1 => first | k_is | rfl)
    (case c1 => first | k_is | rfl)
    (case k1 => first | k_is | rfl)
    (case a2 => first | k_is | rfl)
    (case l2 => first | k_is | rfl)
    (case c2 => first | k_is | rfl)
    (case k2 => first | k_is | rfl)
    (case a3 => first | k_is | rfl)
    (case l3 => first | k_is | rfl)
    (case c3 => first | k_is | rfl)
    (case k3 => first | k_is | rfl)
    (case a4 => first | k_is | rfl)
    (case l4 => first | k_is | rfl)
    (case c4 => first | k_is | rfl)
    (case k4 => first | k_is | rfl)
    (case a5 => first | k_is | rfl)
    (case l5 => first | k_is | rfl)
    (case c5 => first | k_is | rfl)
    (case k5 => first | k_is | rfl)
    (case a6 => first | k_is | rfl)
    (case l6 => first | k_is | rfl)
    (case c6 => first | k_is | rfl)
    (case k6 => first | k_is | rfl)
    (case a7 => first | k_is | rfl)
    (case l7 => first | k_is | rfl)
    (case c7 => first | k_is | rfl)
    (case k7 => first | k_is | rfl)
    (case a8 => first | k_is | rfl)
    (case l8 => first | k_is | rfl)
    (case c8 => first | k_is | rfl)
    (case k8 => first | k_is | rfl)
    (case a9 => first | k_is | rfl)
    (case l9 => first | k_is | rfl)
    (case c9 => first | k_is | rfl)
    (case k9 => first | k_is | rfl)
    (case a10 => first | k_is | rfl)
    (case l10 => first | k_is | rfl)
    (case c10 => first | k_is | rfl)
    (case k10 => first | k_is | rfl)
    (case a11 => first | k_is | rfl)
    (case l11 => first | k_is | rfl)
    (case c11 => first | k_is | rfl)
    (case k11 => first | k_is | rfl)
    (case a12 => first | k_is | rfl)
    (case l12 => first | k_is | rfl)
    (case c12 => first | k_is | rfl)
    (case k12 => first | k_is | rfl)
    (case a13 => first | k_is | rfl)
    (case l13 => first | k_is | rfl)
    (case c13 => first | k_is | rfl)
    (case k13 => first | k_is | rfl)
    (case a14 => first | k_is | rfl)
    (case l14 => first | k_is | rfl)
    (case c14 => first | k_is | rfl)
    (case k14 => first | k_is | rfl)
    (case a15 => first | k_is | rfl)
    (case l15 => first | k_is | rfl)
    (case c15 => first | k_is | rfl)
    (case k15 => first | k_is | rfl)
    (case a16 => first | k_is | rfl)
    (case l16 => first | k_is | rfl)
    (case c16 => first | k_is | rfl)
    (case k16 => first | k_is | rfl)
    (case a17 => first | k_is | rfl)
    (case l17 => first | k_is | rfl)
    (case c17 => first | k_is | rfl)
    (case k17 => first | k_is | rfl)
    (case a18 => first | k_is | rfl)
    (case l18 => first | k_is | rfl)
    (case c18 => first | k_is | rfl)
    (case k18 => first | k_is | rfl)
    (case a19 => first | k_is | rfl)
    (case l19 => first | k_is | rfl)
    (case c19 => first | k_is | rfl)
    (case k19 => first | k_is | rfl)
    (case a20 => first | k_is | rfl)
    (case l20 => first | k_is | rfl)
    (case c20 => first | k_is | rfl)
    (case k20 => first | k_is | rfl)
    (case a21 => first | k_is | rfl)
    (case l21 => first | k_is | rfl)
    (case c21 => first | k_is | rfl)
    (case k21 => first | k_is | rfl)
    (case a22 => first | k_is | rfl)
    (case l22 => first | k_is | rfl)
    (case c22 => first | k_is | rfl)
    (case k22 => first | k_is | rfl)
    (case a23 => first | k_is | rfl)
    (case l23 => first | k_is | rfl)
    (case c23 => first | k_is | rfl)
    (case k23 => first | k_is | rfl)
    (case a24 => first | k_is | rfl)
    (case l24 => first | k_is | rfl)
    (case c24 => first | k_is | rfl)
    (case k24 => first | k_is | rfl)
    (case a25 => first | k_is | rfl)
    (case l25 => first | k_is | rfl)
    (case c25 => first | k_is | rfl)
    (case k25 => first | k_is | rfl)
    (case a26 => first | k_is | rfl)
    (case l26 => first | k_is | rfl)
    (case c26 => first | k_is | rfl)
    (case k26 => first | k_is | rfl)
    (case a27 => first | k_is | rfl)
    (case l27 => first | k_is | rfl)
    (case c27 => first | k_is | rfl)
    (case k27 => first | k_is | rfl)
    (case a28 => first | k_is | rfl)
    (case l28 => first | k_is | rfl)
    (case c28 => first | k_is | rfl)
    (case k28 => first | k_is | rfl)
    (case a29 => first | k_is | rfl)
    (case l29 => first | k_is | rfl)
    (case c29 => first | k_is | rfl)
    (case k29 => first | k_is | rfl)
    (case a30 => first | k_is | rfl)
    (case l30 => first | k_is | rfl)
    (case c30 => first | k_is | rfl)
    (case k30 => first | k_is | rfl)
    (case a31 => first | k_is | rfl)
    (case l31 => first | k_is | rfl)
    (case c31 => first | k_is | rfl)
    (case k31 => first | k_is | rfl)
    (case a32 => first | k_is | rfl)
    (case l32 => first | k_is | rfl)
    (case c32 => first | k_is | rfl)
    (case k32 => first | k_is | rfl)
    (case a33 => first | k_is | rfl)
    (case l33 => first | k_is | rfl)
    (case c33 => first | k_is | rfl)
    (case k33 => first | k_is | rfl)
    (case a34 => first | k_is | rfl)
    (case l34 => first | k_is | rfl)
    (case c34 => first | k_is | rfl)
    (case k34 => first | k_is | rfl)
    (case a35 => first | k_is | rfl)
    (case l35 => first | k_is | rfl)
    (case c35 => first | k_is | rfl)
    (case k35 => first | k_is | rfl)
    (case a36 => first | k_is | rfl)
    (case l36 => first | k_is | rfl)
    (case c36 => first | k_is | rfl)
    (case k36 => first | k_is | rfl)
    (case a37 => first | k_is | rfl)
    (case l37 => first | k_is | rfl)
    (case c37 => first | k_is | rfl)
    (case k37 => first | k_is | rfl)
    (case a38 => first | k_is | rfl)
    (case l38 => first | k_is | rfl)
    (case c38 => first | k_is | rfl)
    (case k38 => first | k_is | rfl)
    (case a39 => first | k_is | rfl)
    (case l39 => first | k_is | rfl)
    (case c39 => first | k_is | rfl)
    (case k39 => first | k_is | rfl)
    (case a40 => first | k_is | rfl)
    (case l40 => first | k_is | rfl)
    (case c40 => first | k_is | rfl)
    (case k40 => first | k_is | rfl)
    (case a41 => first | k_is | rfl)
    (case l41 => first | k_is | rfl)
    (case c41 => first | k_is | rfl)
    (case k41 => first | k_is | rfl)
    (case a42 => first | k_is | rfl)
    (case l42 => first | k_is | rfl)
    (case c42 => first | k_is | rfl)
    (case k42 => first | k_is | rfl)
    (case a43 => first | k_is | rfl)
    (case l43 => first | k_is | rfl)
    (case c43 => first | k_is | rfl)
    (case k43 => first | k_is | rfl)
    (case a44 => first | k_is | rfl)
    (case l44 => first | k_is | rfl)
    (case c44 => first | k_is | rfl)
    (case k44 => first | k_is | rfl)
    (case a45 => first | k_is | rfl)
    (case l45 => first | k_is | rfl)
    (case c45 => first | k_is | rfl)
    (case k45 => first | k_is | rfl)
    (case a46 => first | k_is | rfl)
    (case l46 => first | k_is | rfl)
    (case c46 => first | k_is | rfl)
    (case k46 => first | k_is | rfl)
    (case a47 => first | k_is | rfl)
    (case l47 => first | k_is | rfl)
    (case c47 => first | k_is | rfl)
    (case k47 => first | k_is | rfl)
    (case a48 => first | k_is | rfl)
    (case l48 => first | k_is | rfl)
    (case c48 => first | k_is | rfl)
    (case k48 => first | k_is | rfl)
    (case a49 => first | k_is | rfl)
    (case l49 => first | k_is | rfl)
    (case c49 => first | k_is | rfl)
    (case k49 => first | k_is | rfl)
    (case a50 => first | k_is | rfl)
    (case l50 => first | k_is | rfl)
    (case c50 => first | k_is | rfl)
    (case k50 => first | k_is | rfl)
    (case a51 => first | k_is | rfl)
    (case l51 => first | k_is | rfl)
    (case c51 => first | k_is | rfl)
    (case k51 => first | k_is | rfl)
    (case a52 => first | k_is | rfl)
    (case l52 => first | k_is | rfl)
    (case c52 => first | k_is | rfl)
    (case k52 => first | k_is | rfl)
    (case a53 => first | k_is | rfl)
    (case l53 => first | k_is | rfl)
    (case c53 => first | k_is | rfl)
    (case k53 => first | k_is | rfl)
    (case a54 => first | k_is | rfl)
    (case l54 => first | k_is | rfl)
    (case c54 => first | k_is | rfl)
    (case k54 => first | k_is | rfl)
    (case a55 => first | k_is | rfl)
    (case l55 => first | k_is | rfl)
    (case c55 => first | k_is | rfl)
    (case k55 => first | k_is | rfl)
    (case a56 => first | k_is | rfl)
    (case l56 => first | k_is | rfl)
    (case c56 => first | k_is | rfl)
    (case k56 => first | k_is | rfl)
    (case a57 => first | k_is | rfl)
    (case l57 => first | k_is | rfl)
    (case c57 => first | k_is | rfl)
    (case k57 => first | k_is | rfl)
    (case a58 => first | k_is | rfl)
    (case l58 => first | k_is | rfl)
    (case c58 => first | k_is | rfl)
    (case k58 => first | k_is | rfl)
    (case u0 => first | k_is | rfl)
    (case t0 => first | k_is | rfl)
    (case u1 => first | k_is | rfl)
    (case t5 => first | k_is | rfl)
    (case u2 => first | k_is | rfl)
    (case t10 => first | k_is | rfl)
    (case u3 => first | k_is | rfl)
    (case t15 => first | k_is | rfl)
    (case u4 => first | k_is | rfl)
    (case t20 => first | k_is | rfl)
    (case u5 => first | k_is | rfl)
    (case u6 => first | k_is | rfl)
    (case u7 => first | k_is | rfl)
    (case du0 => first | k_is | rfl)
    (case dl0 => first | k_is | rfl)
    (case ca0 => first | k_is | rfl)
    (case cx0 => k_exc)
    (case ck0 => first | k_is | rfl)
    (case cb0 => first | k_is | rfl)
    (case ct_0 => first | k_is | rfl)
    (case ce0 => first | k_is | rfl)
    (case cf0 => first | k_is | rfl)
    (case ch0 => first | k_is | rfl)
    (case ci0 => first | k_is | rfl)
    (case cm0 => first | k_is | rfl)
    (case cv0 => first | k_is | rfl)
    (case ca1 => first | k_is | rfl)
    (case cx1 => k_exc)
    (case ck1 => first | k_is | rfl)
    (case cb1 => first | k_is | rfl)
    (case ct_1 => first | k_is | rfl)
    (case ce1 => first | k_is | rfl)
    (case cf1 => first | k_is | rfl)
    (case ch1 => first | k_is | rfl)
    (case ci1 => first | k_is | rfl)
    (case cm1 => first | k_is | rfl)
    (case cv1 => first | k_is | rfl)
    (case ca2 => first | k_is | rfl)
    (case cx2 => k_exc)
    (case ck2 => first | k_is | rfl)
    (case cb2 => first | k_is | rfl)
    (case ct_2 => first | k_is | rfl)
    (case ce2 => first | k_is | rfl)
    (case cf2 => first | k_is | rfl)
    (case ch2 => first | k_is | rfl)
    (case ci2 => first | k_is | rfl)
    (case cm2 => first | k_is | rfl)
    (case cv2 => first | k_is | rfl)
    (case cs0_0 => first | k_is | rfl)
    (case cs0_1 => first | k_is | rfl)
    (case cs0_2 => first | k_is | rfl)
    (case cs1_0 => first | k_is | rfl)
    (case cs1_1 => first | k_is | rfl)
    (case cs1_2 => first | k_is | rfl)
    (case cs2_0 => first | k_is | rfl)
    (case cs2_1 => first | k_is | rfl)
    (case cs2_2 => first | k_is | rfl)
    (case e5 => first | k_is | rfl)
    (case e6 => first | k_is | rfl)
    (case z0 => first | k_is | rfl)
    (case z1 => first | k_is | rfl)
    (case z2 => first | k_is | rfl)
    (case z3 => first | k_is | rfl)
    (case z4 => first | k_is | rfl)
    (case z5 => first | k_is | rfl)
    (case z6 => first | k_is | rfl)
    (case z7 => first | k_is | rfl)
    (case z8 => first | k_is | rfl)
    (case z9 => first | k_is | rfl)
    (case z10 => first | k_is | rfl)
    (case z11 => first | k_is | rfl)
    (case z12 => first | k_is | rfl)
    (case z13 => first | k_is | rfl)
    (case z14 => first | k_is | rfl)
    (case z15 => first | k_is | rfl)
    (case z16 => first | k_is | rfl)
    (case z17 => first | k_is | rfl)
    (case y0 => first | k_is | rfl)
    (case y1 => first | k_is | rfl)
    (case gg => first | k_is | rfl)
end
