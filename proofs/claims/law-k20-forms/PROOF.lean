import PyProof.Rows.All
import Wide.All
import OpenK.AllK
import Wide.FinOn
import HandS.ForMost
import HandS.ForExc
import HandS.TryMany
import HandS.CallSlots
import HandS.CallLocal
import HandS.Flow
import HandS.Style
import HandS.Wide
import HandS.Gcd
import HandS.IsInst
import HandS.ExcIs
import HandS.Zip
import HandS.Small
import HandS.Walk
import HandS.TupAny
import HandS.SortInts
import HandS.Conv
import HandS.Dict
import HandS.TupSets
import KE.SortData
import KE.DataMinMax
import PyProof.Rows.SortShell
import HandS.Base
import HandS.Call
import HandS.List
import KE.GoesEnum
import HandS.Words
import HandS.WordsExc
import PySem.Challenge.RW_tablelots_k20_whole_numbers_of_forms
set_option Elab.async false
set_option linter.all false
set_option maxRecDepth 100000
section
namespace PL
open PySem PySem.Spec L2

/-! ## data -/
inductive D where
  | non | bl (b : Bool) | int (i : Int) | str (x : Str)
  | tup (xs : List D) | lst (xs : List D)
  | scr (ns : List Int)
  | dk (ks : List Key) (xs : List D)
  | dt (ks : List (List Key)) (xs : List D)
  | fn (g : Nat)
  | exn (c : Nat) (p : List D)

/-- what a slot holds: nothing, shared data, a thing of its own (to be changed), a borrowed one (to be changed, not to be let go) -/
inductive SV where
  | un | val (d : D) | own (d : D) | bor (d : D) | fro (d : D)
abbrev EV := List SV
def SV.dat : SV → Option D
  | .un => none
  | .val d => some d
  | .own d => some d
  | .bor d => some d
  | .fro d => some d
def SV.mine : SV → Bool
  | .own _ => true
  | .bor _ => true
  | _ => false
/-- a result: shared data, a new thing of its own, the thing in a slot -/
inductive RV where
  | v (d : D) | t (d : D) | h (i : Nat)
inductive Out (α : Type) where
  | ok (a : α) (e : EV)
  | exc (c : Nat) (p : List D) (e : EV)
  | stuck
def Out.bd {α β : Type} (x : Out α) (f : α → EV → Out β) : Out β :=
  match x with
  | .ok a e => f a e
  | .exc c p e => .exc c p e
  | .stuck => .stuck
@[simp] theorem bd_ok {α β : Type} (a : α) (e : EV) (f : α → EV → Out β) : (Out.ok a e).bd f = f a e := rfl
@[simp] theorem bd_exc {α β : Type} (c : Nat) (p : List D) (e : EV) (f : α → EV → Out β) : (Out.exc c p e).bd f = .exc c p e := rfl
@[simp] theorem bd_stuck {α β : Type} (f : α → EV → Out β) : (Out.stuck : Out α).bd f = .stuck := rfl
/-- a call's outcome: the result, what the arguments have become -/
inductive CO where
  | ok (r : RV) (as : List SV)
  | exc (c : Nat) (p : List D) (as : List SV)
  | stuck
def opt {α β : Type} (o : Option α) (f : α → Out β) : Out β := match o with
  | some a => f a
  | none => .stuck
@[simp] theorem opt_some {α β : Type} (a : α) (f : α → Out β) : opt (some a) f = f a := rfl
@[simp] theorem opt_none {α β : Type} (f : α → Out β) : opt none f = .stuck := rfl

def cont (e : EV) : RV → Option D
  | .v d => some d
  | .t d => some d
  | .h i => (e[i]?).bind SV.dat
/-- shared from now on -/
def frz (e : EV) : RV → Option (D × EV)
  | .v d => some (d, e)
  | .t d => some (d, e)
  | .h i => match e[i]? with
    | some (.own d) => some (d, e.set i (.val d))
    | some (.bor d) => some (d, e.set i (.fro d))
    | some (.val d) => some (d, e)
    | some (.fro d) => some (d, e)
    | _ => none

/-! ## what data is, in the heap -/
structure G0 where
  K : PySem.W.Frag
  gv : Nat → Addr
  cv : Nat → Addr
mutual
def Rep (C : G0) (H : Hp) : D → V → Prop
  | .non, v => v = .non
  | .bl b, v => v = .bl b
  | .int i, v => v = .int i
  | .str x, v => v = .str x
  | .tup ds, v => ∃ a vs, v = .ref a ∧ SqT C.K H a vs ∧ RepL C H ds vs
  | .lst ds, v => ∃ a vs, v = .ref a ∧ H a = some (.lst vs) ∧ RepL C H ds vs
  | .scr ns, v => ∃ a, v = .ref a ∧ SqL C.K H a (ns.map V.int)
  | .dk ks ds, v => ∃ a vs, v = .ref a ∧ H a = some (.dK (ks.zip vs)) ∧ ks.length = ds.length ∧ RepL C H ds vs
  | .dt ks ds, v => ∃ a vs, v = .ref a ∧ H a = some (.dT (ks.zip vs)) ∧ ks.length = ds.length ∧ RepL C H ds vs
  | .fn g, v => v = .ref (C.gv g)
  | .exn _ _, v => ∃ a, v = .ref a
def RepL (C : G0) (H : Hp) : List D → List V → Prop
  | [], vs => vs = []
  | d :: ds, vs => ∃ v r, vs = v :: r ∧ Rep C H d v ∧ RepL C H ds r
end
theorem RepL.len {C : G0} {H : Hp} : ∀ {ds : List D} {vs : List V}, RepL C H ds vs → ds.length = vs.length
  | [], vs, h => by rw [RepL] at h; subst h; rfl
  | d :: ds, vs, h => by
    rw [RepL] at h
    obtain ⟨v, r, rfl, _, h⟩ := h
    simp [RepL.len h]
theorem RepL.nil {C : G0} {H : Hp} : RepL C H [] [] := by rw [RepL]
theorem RepL.cons {C : G0} {H : Hp} {d : D} {ds : List D} {v : V} {vs : List V} (a : Rep C H d v) (b : RepL C H ds vs) : RepL C H (d :: ds) (v :: vs) := by
  rw [RepL]; exact ⟨v, vs, rfl, a, b⟩
theorem RepL.get {C : G0} {H : Hp} : ∀ {ds : List D} {vs : List V} {i : Nat} {d : D}, RepL C H ds vs → ds[i]? = some d → ∃ v, vs[i]? = some v ∧ Rep C H d v
  | [], _, _, _, _, e => by simp at e
  | d :: ds, vs, 0, d', h, e => by
    rw [RepL] at h
    obtain ⟨v, r, rfl, h1, _⟩ := h
    simp at e; subst e
    exact ⟨v, rfl, h1⟩
  | d :: ds, vs, i + 1, d', h, e => by
    rw [RepL] at h
    obtain ⟨v, r, rfl, _, h2⟩ := h
    obtain ⟨v', a, b⟩ := RepL.get (i := i) h2 (by simpa using e)
    exact ⟨v', by simpa using a, b⟩
theorem RepL.get' {C : G0} {H : Hp} : ∀ {ds : List D} {vs : List V} {i : Nat} {v : V}, RepL C H ds vs → vs[i]? = some v → ∃ d, ds[i]? = some d ∧ Rep C H d v
  | [], vs, i, v, h, e => by rw [RepL] at h; subst h; simp at e
  | d :: ds, vs, 0, d', h, e => by
    rw [RepL] at h
    obtain ⟨v, r, rfl, h1, _⟩ := h
    simp at e; subst e
    exact ⟨d, rfl, h1⟩
  | d :: ds, vs, i + 1, d', h, e => by
    rw [RepL] at h
    obtain ⟨v, r, rfl, _, h2⟩ := h
    obtain ⟨v', a, b⟩ := RepL.get' (i := i) h2 (by simpa using e)
    exact ⟨v', by simpa using a, b⟩
theorem RepL.append {C : G0} {H : Hp} : ∀ {ds es : List D} {vs ws : List V}, RepL C H ds vs → RepL C H es ws → RepL C H (ds ++ es) (vs ++ ws)
  | [], _, vs, ws, h, k => by rw [RepL] at h; subst h; exact k
  | d :: ds, es, vs, ws, h, k => by
    rw [RepL] at h
    obtain ⟨v, r, rfl, h1, h2⟩ := h
    exact .cons h1 (RepL.append h2 k)
theorem RepL.set {C : G0} {H : Hp} {d : D} {v : V} (r : Rep C H d v) : ∀ {ds : List D} {vs : List V} (i : Nat), RepL C H ds vs → RepL C H (ds.set i d) (vs.set i v)
  | [], vs, i, h => by rw [RepL] at h; subst h; simp [RepL]
  | d' :: ds, vs, 0, h => by
    rw [RepL] at h
    obtain ⟨v', r', rfl, h1, h2⟩ := h
    exact .cons r h2
  | d' :: ds, vs, i + 1, h => by
    rw [RepL] at h
    obtain ⟨v', r', rfl, h1, h2⟩ := h
    exact .cons h1 (RepL.set r i h2)
theorem RepL.take {C : G0} {H : Hp} : ∀ {ds : List D} {vs : List V} (n : Nat), RepL C H ds vs → RepL C H (ds.take n) (vs.take n)
  | ds, vs, 0, h => by simp [RepL]
  | [], vs, n + 1, h => by rw [RepL] at h; subst h; simp [RepL]
  | d' :: ds, vs, n + 1, h => by
    rw [RepL] at h
    obtain ⟨v', r', rfl, h1, h2⟩ := h
    exact .cons h1 (RepL.take n h2)
theorem RepL.drop {C : G0} {H : Hp} : ∀ {ds : List D} {vs : List V} (n : Nat), RepL C H ds vs → RepL C H (ds.drop n) (vs.drop n)
  | ds, vs, 0, h => h
  | [], vs, n + 1, h => by rw [RepL] at h; subst h; simp [RepL]
  | d' :: ds, vs, n + 1, h => by
    rw [RepL] at h
    obtain ⟨v', r', rfl, h1, h2⟩ := h
    exact RepL.drop n h2
theorem RepL.reverse {C : G0} {H : Hp} : ∀ {ds : List D} {vs : List V}, RepL C H ds vs → RepL C H ds.reverse vs.reverse
  | [], vs, h => by rw [RepL] at h; subst h; simp [RepL]
  | d' :: ds, vs, h => by
    rw [RepL] at h
    obtain ⟨v', r', rfl, h1, h2⟩ := h
    rw [List.reverse_cons, List.reverse_cons]
    exact (RepL.reverse h2).append (.cons h1 .nil)
theorem RepL.dropLast {C : G0} {H : Hp} {ds : List D} {vs : List V} (h : RepL C H ds vs) : RepL C H ds.dropLast vs.dropLast := by
  rw [List.dropLast_eq_take, List.dropLast_eq_take, h.len]; exact h.take _
theorem RepL.eraseIdx {C : G0} {H : Hp} : ∀ {ds : List D} {vs : List V} (n : Nat), RepL C H ds vs → RepL C H (ds.eraseIdx n) (vs.eraseIdx n)
  | [], vs, n, h => by rw [RepL] at h; subst h; simp [RepL]
  | d' :: ds, vs, 0, h => by
    rw [RepL] at h
    obtain ⟨v', r', rfl, h1, h2⟩ := h
    exact h2
  | d' :: ds, vs, n + 1, h => by
    rw [RepL] at h
    obtain ⟨v', r', rfl, h1, h2⟩ := h
    exact .cons h1 (RepL.eraseIdx n h2)
theorem RepL.rep {C : G0} {H : Hp} {ds : List D} {vs : List V} (h : RepL C H ds vs) : ∀ k : Nat, RepL C H (List.replicate k ds).flatten (List.replicate k vs).flatten
  | 0 => by simp [RepL]
  | k + 1 => by rw [List.replicate_succ, List.replicate_succ, List.flatten_cons, List.flatten_cons]; exact h.append (RepL.rep h k)

/-- one heap lies in another one -/
def Sub (H H' : Hp) : Prop := ∀ b o, H b = some o → H' b = some o
theorem Sub.refl (H : Hp) : Sub H H := fun _ _ h => h
theorem Sub.trans {H H1 H2 : Hp} (a : Sub H H1) (b : Sub H1 H2) : Sub H H2 := fun c o h => b c o (a c o h)
theorem Sub.rd {H H' : Hp} (s : Sub H H') {a : Addr} {u : HO} (h : Rd H a u) : Rd H' a u := by
  rcases h with h | ⟨o, h⟩
  · exact .inl (s _ _ h)
  · exact .inr ⟨o, s _ _ h⟩
theorem Sub.sqT {K : PySem.W.Frag} {H H' : Hp} (s : Sub H H') {a : Addr} {xs : List V} (h : SqT K H a xs) : SqT K H' a xs := h.imp s.rd id
theorem Sub.sqL {K : PySem.W.Frag} {H H' : Hp} (s : Sub H H') {a : Addr} {xs : List V} (h : SqL K H a xs) : SqL K H' a xs := h.imp s.rd id
mutual
theorem Rep.mono {C : G0} {H H' : Hp} (s : Sub H H') : ∀ {d : D} {v : V}, Rep C H d v → Rep C H' d v
  | .non, _, h => by rw [Rep] at h ⊢; exact h
  | .bl _, _, h => by rw [Rep] at h ⊢; exact h
  | .int _, _, h => by rw [Rep] at h ⊢; exact h
  | .str _, _, h => by rw [Rep] at h ⊢; exact h
  | .tup ds, _, h => by
    rw [Rep] at h ⊢
    obtain ⟨a, vs, e, h1, h2⟩ := h
    exact ⟨a, vs, e, s.sqT h1, RepL.mono s h2⟩
  | .lst ds, _, h => by
    rw [Rep] at h ⊢
    obtain ⟨a, vs, e, h1, h2⟩ := h
    exact ⟨a, vs, e, s _ _ h1, RepL.mono s h2⟩
  | .scr ds, _, h => by
    rw [Rep] at h ⊢
    obtain ⟨a, e, h1⟩ := h
    exact ⟨a, e, s.sqL h1⟩
  | .dk ks ds, _, h => by
    rw [Rep] at h ⊢
    obtain ⟨a, vs, e, h1, hl, h2⟩ := h
    exact ⟨a, vs, e, s _ _ h1, hl, RepL.mono s h2⟩
  | .dt ks ds, _, h => by
    rw [Rep] at h ⊢
    obtain ⟨a, vs, e, h1, hl, h2⟩ := h
    exact ⟨a, vs, e, s _ _ h1, hl, RepL.mono s h2⟩
  | .fn _, _, h => by rw [Rep] at h ⊢; exact h
  | .exn _ _, _, h => by rw [Rep] at h ⊢; exact h
theorem RepL.mono {C : G0} {H H' : Hp} (s : Sub H H') : ∀ {ds : List D} {vs : List V}, RepL C H ds vs → RepL C H' ds vs
  | [], _, h => by rw [RepL] at h ⊢; exact h
  | d :: ds, _, h => by
    rw [RepL] at h ⊢
    obtain ⟨v, r, e, h1, h2⟩ := h
    exact ⟨v, r, e, Rep.mono s h1, RepL.mono s h2⟩
end

/-- a thing of its own at a: its items are shared, it itself is not -/
def Mine (C : G0) (F H : Hp) (d : D) (a : Addr) : Prop :=
  F a = none ∧ match d with
  | .lst ds => ∃ vs, H a = some (.lst vs) ∧ RepL C F ds vs
  | .dk ks ds => ∃ vs, H a = some (.dK (ks.zip vs)) ∧ ks.length = ds.length ∧ RepL C F ds vs
  | .dt ks ds => ∃ vs, H a = some (.dT (ks.zip vs)) ∧ ks.length = ds.length ∧ RepL C F ds vs
  | _ => False
theorem Mine.there {C : G0} {F H : Hp} {d : D} {a : Addr} (m : Mine C F H d a) : ∃ o, H a = some o := by
  obtain ⟨_, m⟩ := m
  cases d <;> first | exact m.elim | skip
  · obtain ⟨vs, h, _⟩ := m; exact ⟨_, h⟩
  · obtain ⟨vs, h, _⟩ := m; exact ⟨_, h⟩
  · obtain ⟨vs, h, _⟩ := m; exact ⟨_, h⟩
theorem Mine.mono {C : G0} {F F' H H' : Hp} {d : D} {a : Addr} (m : Mine C F H d a) (s : Sub F F') (hf : F' a = none) (k : ∀ o, H a = some o → H' a = some o) : Mine C F' H' d a := by
  obtain ⟨_, m⟩ := m
  refine ⟨hf, ?_⟩
  cases d <;> first | exact m.elim | skip
  · obtain ⟨vs, h, r⟩ := m; exact ⟨vs, k _ h, r.mono s⟩
  · obtain ⟨vs, h, l, r⟩ := m; exact ⟨vs, k _ h, l, r.mono s⟩
  · obtain ⟨vs, h, l, r⟩ := m; exact ⟨vs, k _ h, l, r.mono s⟩

def SlotOk (C : G0) (F H : Hp) (s : SV) (o : Option (Option V)) : Prop := match s with
  | .un => True
  | .val d => ∃ v, o = some (some v) ∧ Rep C F d v
  | .own d => ∃ a, o = some (some (.ref a)) ∧ Mine C F H d a
  | .bor d => ∃ a, o = some (some (.ref a)) ∧ Mine C F H d a
  | .fro d => ∃ v, o = some (some v) ∧ Rep C F d v
/-- the addresses of the things of one's own -/
def OwnA (e : EV) (σ : St) (a : Addr) : Prop := ∃ (i : Nat) (s : SV), e[i]? = some s ∧ s.mine = true ∧ σ[i]? = some (some (.ref a))
structure SR (C : G0) (e : EV) (F : Hp) (σ : St) (H : Hp) : Prop where
  sub : Sub F H
  slot : ∀ (i : Nat) (s : SV), e[i]? = some s → SlotOk C F H s σ[i]?
  dis : ∀ (i j : Nat) (s t : SV) (a : Addr), e[i]? = some s → e[j]? = some t → s.mine = true → t.mine = true → σ[i]? = some (some (.ref a)) → σ[j]? = some (some (.ref a)) → i = j
  len : e.length = σ.length
theorem SR.mine {C : G0} {e : EV} {F : Hp} {σ : St} {H : Hp} (R : SR C e F σ H) {i : Nat} {s : SV} (h : e[i]? = some s) (m : s.mine = true) : ∃ d a, s.dat = some d ∧ σ[i]? = some (some (.ref a)) ∧ Mine C F H d a := by
  have q := R.slot i s h
  cases s with
  | un => cases m
  | val d => cases m
  | own d => obtain ⟨a, h1, h2⟩ := q; exact ⟨d, a, rfl, h1, h2⟩
  | bor d => obtain ⟨a, h1, h2⟩ := q; exact ⟨d, a, rfl, h1, h2⟩
  | fro d => cases m
theorem SR.ownNone {C : G0} {e : EV} {F : Hp} {σ : St} {H : Hp} (R : SR C e F σ H) {a : Addr} (h : OwnA e σ a) : F a = none ∧ ∃ o, H a = some o := by
  obtain ⟨i, s, h1, h2, h3⟩ := h
  obtain ⟨d, b, _, h4, h5⟩ := R.mine h1 h2
  rw [h3] at h4
  cases h4
  exact ⟨h5.1, h5.there⟩
theorem ne_none {α : Type} {o : Option α} (h : o ≠ none) : ∃ a, o = some a := Option.ne_none_iff_exists'.mp h

/-- what may have happened meanwhile; the slots may have changed -/
structure Tr (C : G0) (e : EV) (F : Hp) (σ : St) (H : Hp) (e' : EV) (F' : Hp) (σ' : St) (H' : Hp) : Prop where
  sr : SR C e' F' σ' H'
  fs : Sub F F'
  keep : ∀ b o, H b = some o → ¬ OwnA e σ b → H' b = some o
  there : ∀ b, H b ≠ none → H' b ≠ none
  new : ∀ b o, F' b = some o → F b = some o ∨ H b = none ∨ OwnA e σ b
  own : ∀ (i : Nat) d a, e'[i]? = some (.own d) → σ'[i]? = some (some (.ref a)) → (∃ (j : Nat) (d' : D), e[j]? = some (.own d') ∧ σ[j]? = some (some (.ref a))) ∨ H a = none
  nob : ∀ (i : Nat) d', e'[i]? = some (.bor d') → ∃ d, e[i]? = some (.bor d)
  bor : ∀ (i : Nat) d, e[i]? = some (.bor d) → σ'[i]? = σ[i]? ∧ ∃ d', e'[i]? = some (.bor d') ∨ e'[i]? = some (.fro d')
  fro : ∀ (i : Nat) d, e[i]? = some (.fro d) → σ'[i]? = σ[i]? ∧ e'[i]? = some (.fro d)
  len : e'.length = e.length
theorem Tr.refl {C : G0} {e : EV} {F : Hp} {σ : St} {H : Hp} (R : SR C e F σ H) : Tr C e F σ H e F σ H :=
  ⟨R, Sub.refl _, fun _ _ h _ => h, fun _ h => h, fun _ _ h => .inl h, fun i d a h k => .inl ⟨i, d, h, k⟩, fun _ d h => ⟨d, h⟩, fun _ d h => ⟨rfl, d, .inl h⟩, fun _ _ h => ⟨rfl, h⟩, rfl⟩
theorem Tr.ownA {C : G0} {e e1 : EV} {F F1 : Hp} {σ σ1 : St} {H H1 : Hp} (a : Tr C e F σ H e1 F1 σ1 H1) {c : Addr} (h : OwnA e1 σ1 c) : OwnA e σ c ∨ H c = none := by
  obtain ⟨i, s, h1, h2, h3⟩ := h
  cases s with
  | un => cases h2
  | val d => cases h2
  | own d =>
    rcases a.own i d c h1 h3 with ⟨j, d', k1, k2⟩ | q
    · exact .inl ⟨j, _, k1, rfl, k2⟩
    · exact .inr q
  | bor d =>
    obtain ⟨d', k⟩ := a.nob i d h1
    obtain ⟨k2, _⟩ := a.bor i d' k
    exact .inl ⟨i, _, k, rfl, by rw [← k2]; exact h3⟩
  | fro d => cases h2
theorem Tr.trans {C : G0} {e e1 e2 : EV} {F F1 F2 : Hp} {σ σ1 σ2 : St} {H H1 H2 : Hp} (a : Tr C e F σ H e1 F1 σ1 H1) (b : Tr C e1 F1 σ1 H1 e2 F2 σ2 H2) : Tr C e F σ H e2 F2 σ2 H2 where
  sr := b.sr
  fs := a.fs.trans b.fs
  keep := fun c o h n => b.keep c o (a.keep c o h n) fun q => by
    rcases a.ownA q with q | q
    · exact n q
    · rw [h] at q; cases q
  there := fun c h => b.there c (a.there c h)
  new := fun c o h => by
    rcases b.new c o h with h | h | h
    · exact a.new c o h
    · by_cases q : H c = none
      · exact .inr (.inl q)
      · exact absurd h (a.there c q)
    · exact .inr ((a.ownA h).symm)
  own := fun i d c h k => by
    rcases b.own i d c h k with ⟨j, d', k1, k2⟩ | h
    · exact a.own j d' c k1 k2
    · by_cases q : H c = none
      · exact .inr q
      · exact absurd h (a.there c q)
  nob := fun i d h => by
    obtain ⟨d', h⟩ := b.nob i d h
    exact a.nob i d' h
  bor := fun i d h => by
    obtain ⟨h1, d1, h2 | h2⟩ := a.bor i d h
    · obtain ⟨h3, h4⟩ := b.bor i d1 h2
      exact ⟨h3.trans h1, h4⟩
    · obtain ⟨h3, h4⟩ := b.fro i d1 h2
      exact ⟨h3.trans h1, d1, .inr h4⟩
  fro := fun i d h => by
    obtain ⟨h1, h2⟩ := a.fro i d h
    obtain ⟨h3, h4⟩ := b.fro i d h2
    exact ⟨h3.trans h1, h4⟩
  len := b.len.trans a.len
/-- .. within an expression: the slots stand -/
structure TrE (C : G0) (e : EV) (F : Hp) (σ : St) (H : Hp) (e' : EV) (F' : Hp) (H' : Hp) : Prop extends Tr C e F σ H e' F' σ H' where
  dat : ∀ (i : Nat) (s : SV), e[i]? = some s → s.dat.isSome = true → ∃ s', e'[i]? = some s' ∧ s'.dat.isSome = true
  nom : ∀ (i : Nat) (s' : SV), e'[i]? = some s' → s'.mine = true → ∃ s, e[i]? = some s ∧ s.mine = true
theorem TrE.refl {C : G0} {e : EV} {F : Hp} {σ : St} {H : Hp} (R : SR C e F σ H) : TrE C e F σ H e F H := ⟨Tr.refl R, fun i s h k => ⟨s, h, k⟩, fun i s h k => ⟨s, h, k⟩⟩
theorem TrE.trans {C : G0} {e e1 e2 : EV} {F F1 F2 : Hp} {σ : St} {H H1 H2 : Hp} (a : TrE C e F σ H e1 F1 H1) (b : TrE C e1 F1 σ H1 e2 F2 H2) : TrE C e F σ H e2 F2 H2 :=
  ⟨a.toTr.trans b.toTr, fun i s h k => by
    obtain ⟨s1, h1, k1⟩ := a.dat i s h k
    exact b.dat i s1 h1 k1, fun i s h k => by
    obtain ⟨s1, h1, k1⟩ := b.nom i s h k
    exact a.nom i s1 h1 k1⟩
theorem TrE.ownA' {C : G0} {e e1 : EV} {F F1 : Hp} {σ : St} {H H1 : Hp} (a : TrE C e F σ H e1 F1 H1) {c : Addr} (h : OwnA e1 σ c) : OwnA e σ c := by
  obtain ⟨i, s, h1, h2, h3⟩ := h
  obtain ⟨s', k1, k2⟩ := a.nom i s h1 h2
  exact ⟨i, s', k1, k2, h3⟩

/-- a result, and the value that it is; H0: the heap ahead -/
def RVok (C : G0) (H0 F : Hp) (σ : St) (H : Hp) (e : EV) (r : RV) (v : V) : Prop := match r with
  | .v d => Rep C F d v
  | .t d => ∃ a, v = .ref a ∧ Mine C F H d a ∧ H0 a = none ∧ ¬ OwnA e σ a
  | .h i => σ[i]? = some (some v) ∧ ∃ s, e[i]? = some s ∧ s.dat.isSome = true
theorem RVok.mono {C : G0} {H0 F F1 : Hp} {σ : St} {H H1 : Hp} {e e1 : EV} {r : RV} {v : V} (h : RVok C H0 F σ H e r v) (t : TrE C e F σ H e1 F1 H1) : RVok C H0 F1 σ H1 e1 r v := by
  cases r with
  | v d => exact Rep.mono t.fs h
  | t d =>
    obtain ⟨a, rfl, m, h0, n⟩ := h
    obtain ⟨o, ho⟩ := m.there
    refine ⟨a, rfl, m.mono t.fs ?_ fun o q => t.keep a o q n, h0, fun q => n (t.ownA' q)⟩
    cases q : F1 a with
    | none => rfl
    | some u =>
      rcases t.new a u q with z | z | z
      · rw [m.1] at z; cases z
      · rw [ho] at z; cases z
      · exact absurd z n
  | h i =>
    obtain ⟨h1, s, h2, h3⟩ := h
    exact ⟨h1, t.dat i s h2 h3⟩
theorem RVok.back {C : G0} {H0 H1 F : Hp} {σ : St} {H : Hp} {e : EV} {r : RV} {v : V} (h : RVok C H1 F σ H e r v) (k : ∀ b, H0 b ≠ none → H1 b ≠ none) : RVok C H0 F σ H e r v := by
  cases r with
  | v d => exact h
  | t d =>
    obtain ⟨a, rfl, m, h0, n⟩ := h
    refine ⟨a, rfl, m, ?_, n⟩
    by_cases q : H0 a = none
    · exact q
    · exact absurd h0 (k a q)
  | h i => exact h
theorem Mine.rep {C : G0} {F H : Hp} {d : D} {a : Addr} (m : Mine C F H d a) (s : Sub F H) : Rep C H d (.ref a) := by
  obtain ⟨_, m⟩ := m
  cases d <;> first | exact m.elim | skip
  · obtain ⟨vs, h, r⟩ := m; rw [Rep]; exact ⟨a, vs, rfl, h, r.mono s⟩
  · obtain ⟨vs, h, l, r⟩ := m; rw [Rep]; exact ⟨a, vs, rfl, h, l, r.mono s⟩
  · obtain ⟨vs, h, l, r⟩ := m; rw [Rep]; exact ⟨a, vs, rfl, h, l, r.mono s⟩
/-- what a result holds -/
theorem cont_rep {C : G0} {H0 F : Hp} {σ : St} {H : Hp} {e : EV} {r : RV} {v : V} {d : D} (R : SR C e F σ H) (h : RVok C H0 F σ H e r v) (k : cont e r = some d) : Rep C H d v := by
  cases r with
  | v d' => cases k; exact Rep.mono R.sub h
  | t d' =>
    cases k
    obtain ⟨a, rfl, m, _⟩ := h
    exact m.rep R.sub
  | h i =>
    obtain ⟨h1, s, h2, h3⟩ := h
    simp only [cont, h2, Option.bind_some] at k
    have q := R.slot i s h2
    rw [h1] at q
    cases s with
    | un => cases k
    | val d' => cases k; obtain ⟨v', e1, q⟩ := q; cases e1; exact Rep.mono R.sub q
    | own d' => cases k; obtain ⟨v', e1, q⟩ := q; cases e1; exact q.rep R.sub
    | bor d' => cases k; obtain ⟨v', e1, q⟩ := q; cases e1; exact q.rep R.sub
    | fro d' => cases k; obtain ⟨v', e1, q⟩ := q; cases e1; exact Rep.mono R.sub q
end PL
end

section
namespace PL
open PySem PySem.Spec L2

/-! ## the small language -/
inductive Bop where
  | add | sub | mul | fdiv | mod | pow | shl
  deriving DecidableEq
inductive Bi where
  | dict1 | len | abs | tuple | list | int1 | sum | min1 | max1 | min2 | max2 | all | any | sorted | gcd
  deriving DecidableEq
mutual
inductive E where
  | var (i : Nat) | int (k : Int) | bl (b : Bool) | non | str (x : Str)
  | con (c : Nat) | fnv (g : Nat)
  | bin (o : Bop) (a b : E) | neg (a : E)
  | cmp (o : CmpOp) (a b : E) | chain (o p : CmpOp) (a b c : E)
  | andor (k : Bool) (es : List E) | not_ (a : E) | ite (c a b : E)
  | tup (es : List E) | lst (es : List E)
  | ix (a i : E) | sl (a : E) (lo hi : Option E) | rev (a : E)
  | call (g : Nat) (es : List E) | callk (g : Nat) (es : List E) (ks : List Str) (ws : List E)
  | calld (i : Nat) (es : List E)
  | bi (b : Bi) (es : List E)
  | isi (a : E) (cs : List String)
  | isx (i : Nat) (c : Nat) (own : Bool)
  | dnew (t : Bool)
  | dlit (ks : List Key) (vs : List D) (x : E) (d : Option E)
  | app (i : Nat) (e : E) | ext (i : Nat) (e : E) | pop (i : Nat) | popat (i : Nat) (e : E)
  | comp (own : List Nat) (it : It) (tg : Tg) (cond : Option E) (elt : E)
  | dix (c : Nat) (a : E)
  | lrg (t : Bool) (a : E)
  | dd1 (k v : E)
  | lset (a : E) | sset (a : E)
  | callt (g : Nat) (es : List E)
  | comp2 (own : List Nat) (it : It) (tg : Tg) (cond : Option E) (own1 : List Nat) (it1 : It) (tg1 : Tg) (cond1 : Option E) (elt : E)
inductive It where
  | e (a : E) | rng (es : List E) | enum (a : E) | zip (es : List E)
inductive Tg where
  | nm (i : Nat) | tp (is : List Nat)
end
/-- except C as e: name = ['label', isinstance(e, T)] -/
structure Hd where
  c : Nat
  i : Nat
  j : Nat
  lab : Str
  cls : String
inductive S where
  | ex (e : E) | set (i : Nat) (e : E)
  | par (is : List Nat) (es : List E)
  | unp (is : List Nat) (e : E)
  | aug (i : Nat) (o : Bop) (e : E)
  | six (i : Nat) (k e : E)
  | unpx (ts : List (Nat × E)) (e : E)
  | if_ (c : E) (a b : List S) | wh (c : E) (b : List S)
  | for_ (tg : Tg) (it : It) (b : List S)
  | ret (e : E) | retN | raise_ (c : Nat) | brk | cnt | pass
  | try_ (b : List S) (hs : List Hd)

structure FnD where
  name : Str
  ps : List Str
  N : List Str
  body : List S
structure GT where
  fns : List FnD
  cons : List D
  wf : Nat
  nex : Nat
  dcs : List (List Key × List D)

/-! ## values -/
def sizeL : Nat := 16777216
def mulOk (i j : Int) : Bool := decide (i.natAbs < 2 ^ 64) || decide (j.natAbs < 2 ^ 64) || decide (i.natAbs.log2 + j.natAbs.log2 < 1000000)
def divOk (j : Int) : Bool := decide (0 < j) && decide (j.natAbs.log2 < 9000)
def powOk (i j : Int) : Bool := decide (0 ≤ j) && decide (j ≤ 1000000) && decide (i.natAbs < 2 ^ 64)
def binop : Bop → D → D → Option RV
  | .add, .int i, .int j => some (.v (.int (i + j)))
  | .add, .str x, .str y => if x.length + y.length ≤ sizeL then some (.v (.str (x ++ y))) else none
  | .add, .lst xs, .lst ys => if xs.length + ys.length ≤ sizeL then some (.t (.lst (xs ++ ys))) else none
  | .add, .tup xs, .tup ys => if xs.length + ys.length ≤ sizeL then some (.v (.tup (xs ++ ys))) else none
  | .sub, .int i, .int j => some (.v (.int (i - j)))
  | .mul, .int i, .int j => if mulOk i j then some (.v (.int (i * j))) else none
  | .mul, .lst xs, .int k => if decide (-(2 ^ 63) ≤ k) && decide (k < 2 ^ 63) && decide (xs.length * k.toNat ≤ sizeL) then some (.t (.lst (List.replicate k.toNat xs).flatten)) else none
  | .fdiv, .int i, .int j => if divOk j then some (.v (.int (i / j))) else if decide (j ≠ 0) && decide (j.natAbs < 1073741824) then some (.v (.int (i.fdiv j))) else none
  | .mod, .int i, .int j => if 0 < j then some (.v (.int (i % j))) else none
  | .pow, .int i, .int j => if powOk i j then some (.v (.int (i ^ j.toNat))) else none
  | .shl, .int i, .int j => if powOk i j then some (.v (.int (i * 2 ^ j.toNat))) else none
  | _, _, _ => none
mutual
def toPy : D → PyData
  | .non => .none
  | .bl b => .bool b
  | .int i => .int i
  | .str x => .str x
  | .tup xs => .tuple (toPys xs)
  | .lst xs => .list (toPys xs)
  | _ => .dict []
def toPys : List D → List PyData
  | [] => []
  | d :: ds => toPy d :: toPys ds
end
def eqD (a b : D) : Option Bool := if SeqAt.shaped (toPy a) && SeqAt.shaped (toPy b) then some (PyData.eqv (toPy a) (toPy b)) else none
def keyOf : D → Option Key
  | .int i => some (.inl i)
  | .str x => some (.inr x)
  | _ => none
def keysOf : List D → Option (List Key)
  | [] => some []
  | d :: ds => (keyOf d).bind fun k => (keysOf ds).map fun r => k :: r
def dlook {κ : Type} [DecidableEq κ] : List κ → List D → κ → Option D
  | k :: ks, d :: ds, x => if k = x then some d else dlook ks ds x
  | _, _, _ => none
def drepl {κ : Type} [DecidableEq κ] : List κ → List D → κ → D → List D
  | k :: ks, d :: ds, x, y => (if k = x then y else d) :: drepl ks ds x y
  | _, _, _, _ => []
def dput {κ : Type} [DecidableEq κ] (ks : List κ) (ds : List D) (x : κ) (y : D) : List κ × List D :=
  if x ∈ ks then (ks, drepl ks ds x y) else (ks ++ [x], ds ++ [y])
def flatD : D → Bool
  | .non => true
  | .bl _ => true
  | .int _ => true
  | .str _ => true
  | _ => false
def eqF : D → D → Bool
  | .non, .non => true
  | .bl a, .bl b => a == b
  | .bl a, .int b => (if a then 1 else 0) == b
  | .int a, .bl b => a == (if b then 1 else 0)
  | .int a, .int b => a == b
  | .str a, .str b => a == b
  | _, _ => false
def inD (x : D) (xs : List D) : Option Bool := if flatD x && xs.all flatD then some (xs.any fun y => eqF y x) else none
def isNon : D → Bool
  | .non => true
  | _ => false
def cmpop : CmpOp → D → D → Option Bool
  | .Eq, a, b => eqD a b
  | .NotEq, a, b => (eqD a b).map not
  | .Lt, .int i, .int j => some (decide (i < j))
  | .LtE, .int i, .int j => some (decide (i ≤ j))
  | .Gt, .int i, .int j => some (decide (j < i))
  | .GtE, .int i, .int j => some (decide (j ≤ i))
  | .Is, a, .non => some (isNon a)
  | .IsNot, a, .non => some (!isNon a)
  | .Is, .bl a, .bl b => some (decide (a = b))
  | .IsNot, .bl a, .bl b => some (!decide (a = b))
  | .In, x, .tup xs => inD x xs
  | .In, x, .lst xs => inD x xs
  | .In, x, .dk ks ds => (keyOf x).map fun k => (dlook ks ds k).isSome
  | .NotIn, x, .tup xs => (inD x xs).map not
  | .NotIn, x, .lst xs => (inD x xs).map not
  | .NotIn, x, .dk ks ds => (keyOf x).map fun k => !(dlook ks ds k).isSome
  | _, _, _ => none
def truth : D → Option Bool
  | .non => some false
  | .bl b => some b
  | .int i => some (i != 0)
  | .str y => if y.length ≤ sizeL then some ((y.length : Int) != 0) else none
  | .tup xs => some (!xs.isEmpty)
  | .lst xs => some (!xs.isEmpty)
  | .scr xs => some (!xs.isEmpty)
  | .dk ks _ => some (!ks.isEmpty)
  | _ => none
def item : D → D → Option D
  | .tup xs, .int i => atI xs i
  | .lst xs, .int i => atI xs i
  | .scr ns, .int i => (atI ns i).map D.int
  | .dk ks ds, x => (keyOf x).bind (dlook ks ds)
  | .str z, .int i => if z.length ≤ sizeL then (atI z.cps.toList i).map fun c => .str ⟨#[c]⟩ else none
  | _, _ => none
def cutD {α : Type} (xs : List α) (lo hi : Option Int) : List α := (xs.drop (HT.sIx xs.length 0 lo)).take (HT.sIx xs.length xs.length hi - HT.sIx xs.length 0 lo)
def sliceD : D → Option Int → Option Int → Option RV
  | .lst xs, lo, hi => some (.t (.lst (cutD xs lo hi)))
  | .scr xs, lo, hi => some (.t (.lst ((cutD xs lo hi).map D.int)))
  | .tup xs, lo, hi => some (.v (.tup (cutD xs lo hi)))
  | _, _, _ => none
def revD : D → Option RV
  | .lst xs => some (.t (.lst xs.reverse))
  | .tup xs => some (.v (.tup xs.reverse))
  | _ => none
def intsD : List D → Option (List Int)
  | [] => some []
  | .int i :: r => (intsD r).map fun l => i :: l
  | _ => none
def blsD : List D → Option (List Bool)
  | [] => some []
  | .bl i :: r => (blsD r).map fun l => i :: l
  | _ => none
def isort : List Int → List Int
  | [] => []
  | x :: xs => ins x (isort xs)
where ins (x : Int) : List Int → List Int
  | [] => [x]
  | y :: ys => if x ≤ y then x :: y :: ys else y :: ins x ys
def lmin : List Int → Int
  | [] => 0
  | [x] => x
  | x :: xs => if x ≤ lmin xs then x else lmin xs
def lmax : List Int → Int
  | [] => 0
  | [x] => x
  | x :: xs => if lmax xs ≤ x then x else lmax xs
/-! rows of whole numbers -/
def intsT : List D → Option (List (List Int))
  | [] => some []
  | .tup xs :: ds => (intsD xs).bind fun l => (intsT ds).map fun r => l :: r
  | _ => none
def rowD (l : List Int) : D := .tup (l.map D.int)
def rowsD : D → Option (List (List Int))
  | .lst xs => intsT xs
  | _ => none
def tmin : List (List Int) → List Int
  | [] => []
  | x :: xs => xs.foldl (fun a y => if y < a then y else a) x
def ded : List (List Int) → List (List Int)
  | [] => []
  | x :: xs => if x ∈ xs then ded xs else x :: ded xs
def cdB : Int := 1048576
def insC (x : List Int) : List (List Int) → List (List Int)
  | [] => [x]
  | y :: ys => if TS.code cdB x ≤ TS.code cdB y then x :: y :: ys else y :: insC x ys
def sortC : List (List Int) → List (List Int)
  | [] => []
  | x :: xs => insC x (sortC xs)
def ssort : List (List Int) → Option (List (List Int))
  | [] => none
  | x :: l => if l.length < 63 then
      if 0 < x.length && (x :: l).all (fun t => t.length == x.length && t.all fun k => decide (0 ≤ k) && decide (k < cdB)) then some (sortC (ded (x :: l)))
      else if l.all (fun t => t == x) then some [x] else none
    else none
def lsetN (l : List (List Int)) : Option Int := if l.length < 64 then some (ded l).length else none
/-- a dict of pairs: later ones win -/
def dispP : List D → List Key → List D → Option (List Key × List D)
  | [], ks, ds => some (ks, ds)
  | .tup [k, d] :: r, ks, ds => (keyOf k).bind fun x => dispP r (dput ks ds x d).1 (dput ks ds x d).2
  | _, _, _ => none
def biF : Bi → List D → Option RV
  | .len, [.tup xs] => some (.v (.int xs.length))
  | .len, [.lst xs] => some (.v (.int xs.length))
  | .len, [.scr xs] => some (.v (.int xs.length))
  | .len, [.str x] => if x.length ≤ sizeL then some (.v (.int x.length)) else none
  | .len, [.dk ks _] => some (.v (.int ks.length))
  | .abs, [.int i] => some (.v (.int (if i < 0 then -i else i)))
  | .tuple, [.tup xs] => some (.v (.tup xs))
  | .tuple, [.lst xs] => some (.v (.tup xs))
  | .list, [.tup xs] => some (.t (.lst xs))
  | .list, [.lst xs] => some (.t (.lst xs))
  | .list, [.scr xs] => some (.t (.lst (xs.map D.int)))
  | .int1, [.int i] => some (.v (.int i))
  | .int1, [.bl b] => some (.v (.int (if b then 1 else 0)))
  | .sum, [.lst xs] => (intsD xs).map fun l => .v (.int l.sum)
  | .min1, [.lst (x :: xs)] => match intsD (x :: xs) with
    | some l => some (.v (.int (lmin l)))
    | none => (intsT (x :: xs)).map fun l => .v (rowD (tmin l))
  | .max1, [.lst (x :: xs)] => (intsD (x :: xs)).map fun l => .v (.int (lmax l))
  | .min2, [.int i, .int j] => some (.v (.int (if j < i then j else i)))
  | .max2, [.int i, .int j] => some (.v (.int (if j > i then j else i)))
  | .all, [.lst xs] => (blsD xs).map fun l => .v (.bl (l.all id))
  | .any, [.lst xs] => (blsD xs).map fun l => .v (.bl (l.any id))
  | .sorted, [.lst xs] => (intsD xs).map fun l => .t (.lst ((isort l).map D.int))
  | .sorted, [.tup xs] => (intsD xs).map fun l => .t (.lst ((isort l).map D.int))
  | .gcd, [.int i, .int j] => some (.v (.int ((Nat.gcd i.natAbs j.natAbs : Nat) : Int)))
  | .dict1, [.lst xs] => (dispP xs [] []).map fun p => .t (.dk p.1 p.2)
  | _, _ => none
def tyNm : D → Option String
  | .non => some "NoneType"
  | .bl _ => some "bool"
  | .int _ => some "int"
  | .str _ => some "str"
  | .tup _ => some "tuple"
  | .lst _ => some "list"
  | .scr _ => some "list"
  | .dk _ _ => some "dict"
  | _ => none
def isTy (t c : String) : Bool := t == c || (t == "bool" && c == "int")
def tyOk : List String := ["int", "bool", "str", "tuple", "list", "dict"]

/-! ## how slots change -/
def setOk (e : EV) (i : Nat) : Bool := match e[i]? with
  | some .un => true
  | some (.val _) => true
  | some (.own _) => true
  | _ => false
def setR (i : Nat) (r : RV) (e : EV) : Option EV :=
  if setOk e i then match r with
    | .v d => some (e.set i (.val d))
    | .t d => some (e.set i (.own d))
    | .h _ => none
  else none
/-- handles are shared from now on, new things stay one's own -/
def fzR (e : EV) : RV → Option (RV × EV)
  | .v d => some (.v d, e)
  | .t d => some (.t d, e)
  | .h i => (frz e (.h i)).map fun (d, e') => (.v d, e')
def fzRs (e : EV) : List RV → Option (List RV × EV)
  | [] => some ([], e)
  | r :: rs => (fzR e r).bind fun (r', e1) => (fzRs e1 rs).map fun (l, e2) => (r' :: l, e2)
def setRs : List Nat → List RV → EV → Option EV
  | [], [], e => some e
  | i :: is, r :: rs, e => (setR i r e).bind (setRs is rs)
  | _, _, _ => none
/-- the thing of one's own in a slot, changed -/
def upS (e : EV) (i : Nat) (d : D) : EV := match e[i]? with
  | some (.own _) => e.set i (.own d)
  | some (.bor _) => e.set i (.bor d)
  | _ => e
def mineD (e : EV) (i : Nat) : Option D := match e[i]? with
  | some (.own d) => some d
  | some (.bor d) => some d
  | _ => none
def lstAt (e : EV) (i : Nat) : Bool := match mineD e i with
  | some (.lst _) => true
  | _ => false
def dkAt (e : EV) (i : Nat) : Bool := match mineD e i with
  | some (.dk _ _) => true
  | _ => false
def setVals : List Nat → List D → EV → Option EV
  | [], [], e => some e
  | i :: is, d :: ds, e => if setOk e i then setVals is ds (e.set i (.val d)) else none
  | _, _, _ => none
def asg : Tg → D → EV → Option EV
  | .nm i, d, e => if setOk e i then some (e.set i (.val d)) else none
  | .tp is, .tup ds, e => setVals is ds e
  | _, _, _ => none
def wipeE (e : EV) : List Nat → EV
  | [] => e
  | i :: is => (wipeE e is).set i .un
/-- the slots is again as they were in e -/
def unwipe (e : EV) (e2 : EV) : List Nat → EV
  | [] => e2
  | i :: is => match e[i]? with
    | some s => (unwipe e e2 is).set i s
    | none => unwipe e e2 is
def argOf (e : EV) : RV → Option SV
  | .v d => some (.val d)
  | .t d => some (.val d)
  | .h i => match e[i]? with
    | some (.own d) => some (.bor d)
    | some (.bor d) => some (.bor d)
    | some (.val d) => some (.val d)
    | some (.fro d) => some (.val d)
    | _ => none
def argsOf (e : EV) : List RV → Option (List SV)
  | [] => some []
  | r :: rs => (argOf e r).bind fun a => (argsOf e rs).map fun l => a :: l
def hands : List RV → List Nat
  | [] => []
  | .h i :: rs => i :: hands rs
  | _ :: rs => hands rs
def putBack1 (e : EV) (r : RV) (s : SV) : EV := match r, s with
  | .h i, .bor d => match e[i]? with
    | some (.own _) => e.set i (.own d)
    | some (.bor _) => e.set i (.bor d)
    | _ => e
  | .h i, .fro d => match e[i]? with
    | some (.own _) => e.set i (.val d)
    | some (.bor _) => e.set i (.fro d)
    | _ => e
  | _, _ => e
def putBack : EV → List RV → List SV → EV
  | e, r :: rs, s :: ss => putBack (putBack1 e r s) rs ss
  | e, _, _ => e
def doCall (cf : Nat → List SV → CO) (g : Nat) (rs : List RV) (e : EV) : Out RV :=
  if (hands rs).Nodup then
    match argsOf e rs with
    | none => .stuck
    | some as => match cf g as with
      | .ok r as' => .ok r (putBack e rs as')
      | .exc c p as' => .exc c p (putBack e rs as')
      | .stuck => .stuck
  else .stuck
mutual
/-- no list, no dict in it -/
def tupD : D → Bool
  | .non => true
  | .bl _ => true
  | .int _ => true
  | .str _ => true
  | .tup ds => tupL ds
  | _ => false
def tupL : List D → Bool
  | [] => true
  | d :: ds => tupD d && tupL ds
end
def lstT : D → Bool
  | .lst ds => tupL ds
  | _ => false
def purA : SV → Bool
  | .val _ => true
  | .bor d => lstT d
  | .fro d => lstT d
  | _ => false
def thaw1 : SV → SV → SV
  | .bor _, .bor d => .bor d
  | .bor _, .fro d => .bor d
  | a, _ => a
def thaw (as bs : List SV) : List SV := as.zipWith thaw1 bs
/-- a call that keeps nothing of what it is lent -/
def doCallT (cf : Nat → List SV → CO) (g : Nat) (rs : List RV) (e : EV) : Out RV :=
  if (hands rs).Nodup then
    match argsOf e rs with
    | none => .stuck
    | some as => match cf g as with
      | .ok (.v d) as' => if tupD d && as'.all purA then .ok (.v d) (putBack e rs (thaw as as')) else .stuck
      | .ok _ _ => .stuck
      | .exc c p as' => .exc c p (putBack e rs as')
      | .stuck => .stuck
  else .stuck
/-- the keywords' values in the parameters' order, behind the positional ones -/
def kwSort {α : Type} (ps ks : List Str) (us ws : List α) : List α :=
  us ++ (ps.drop us.length).filterMap fun p => (ks.zip ws).lookup p
def compL (f : D → EV → Out (Option D)) (own : List Nat) : List D → EV → List D → Out (List D)
  | [], e, acc => .ok acc e
  | d :: ds, e, acc => match f d e with
    | .ok (some x) e1 => if acc.length < sizeL then compL f own ds (wipeE e1 own) (acc ++ [x]) else .stuck
    | .ok none e1 => compL f own ds (wipeE e1 own) acc
    | _ => .stuck
/-- two clauses: f leads to the second one's items -/
def comp2L (f : D → EV → Out (Option (List D))) (g : D → EV → Out (Option D)) (own own1 : List Nat) : List D → EV → List D → Out (List D)
  | [], e, acc => .ok acc e
  | d :: ds, e, acc => match f d e with
    | .ok (some xs) e1 => match compL g own1 xs (wipeE e1 own1) acc with
      | .ok acc1 e2 => comp2L f g own own1 ds (wipeE e2 own) acc1
      | _ => .stuck
    | .ok none e1 => comp2L f g own own1 ds (wipeE e1 own) acc
    | _ => .stuck
def conts (e : EV) : List RV → Option (List D)
  | [] => some []
  | r :: rs => (cont e r).bind fun d => (conts e rs).map fun l => d :: l
def frzs (e : EV) : List RV → Option (List D × EV)
  | [] => some ([], e)
  | r :: rs => (frz e r).bind fun (d, e1) => (frzs e1 rs).map fun (l, e2) => (d :: l, e2)
def seqD : D → Option (List D)
  | .tup xs => some xs
  | .lst xs => some xs
  | .scr xs => some (xs.map D.int)
  | _ => none
def seqL : D → Option (List D)
  | .lst xs => some xs
  | .scr xs => some (xs.map D.int)
  | _ => none
def intD : D → Option Int
  | .int i => some i
  | _ => none
def rngD : List D → Option (List D)
  | [.int n] => if decide (-(2 ^ 62) ≤ n) && decide (n < 2 ^ 62) then some ((List.range n.toNat).map fun (k : Nat) => .int (0 + (k : Int))) else none
  | [.int a, .int b] => if decide (-(2 ^ 62) ≤ a) && decide (a < 2 ^ 62) && decide (-(2 ^ 62) ≤ b) && decide (b < 2 ^ 62) then some ((List.range (b - a).toNat).map fun (k : Nat) => .int (a + (k : Int))) else none
  | [.int a, .int b, .int c] => if decide (0 < c) && decide (c < 1073741824) && decide (-(2 ^ 62) ≤ a) && decide (a < 2 ^ 62) && decide (-(2 ^ 62) ≤ b) && decide (b < 2 ^ 62) && Builtin.Range.small a b c && decide (0 ≤ Builtin.Range.rangeSize a b c) then some ((List.range (Builtin.Range.rangeSize a b c).toNat).map fun (k : Nat) => .int (a + (k : Int) * c)) else none
  | _ => none
def rgI (n : Int) : List D := (List.range n.toNat).map fun (k : Nat) => .int (0 + (k : Int))
def enumD (xs : List D) : List D := (List.range xs.length).zipWith (fun (k : Nat) x => .tup [.int k, x]) xs
def zipD (xs ys : List D) : List D := xs.zipWith (fun x y => .tup [x, y]) ys
def dispD : List D → List D → List Key → List D → Option (List Key × List D)
  | [], [], ks, ds => some (ks, ds)
  | k :: r, d :: s, ks, ds => (keyOf k).bind fun k' => let (ks1, ds1) := dput ks ds k' d; dispD r s ks1 ds1
  | _, _, _, _ => none
/-- a value as a test -/
def tst (m : Bool) (x : Out RV) : Out RV := if m then x.bd fun r e => opt ((cont e r).bind truth) fun b => .ok (.v (.bl b)) e else x
@[simp] theorem tst_false (x : Out RV) : tst false x = x := rfl
@[simp] theorem tst_true (x : Out RV) : tst true x = x.bd fun r e => opt ((cont e r).bind truth) fun b => .ok (.v (.bl b)) e := rfl
def toB (x : Out RV) : Out Bool := x.bd fun r e => match r with
  | .v (.bl b) => .ok b e
  | _ => .stuck
@[simp] theorem toB_ok (b : Bool) (e : EV) : toB (.ok (.v (.bl b)) e) = .ok b e := rfl
mutual
def evE (T : GT) (cf : Nat → List SV → CO) (m : Bool) : E → EV → Out RV
  | .var i, e => tst m (match e[i]? with
    | some (.val d) => .ok (.v d) e
    | some (.fro d) => .ok (.v d) e
    | some (.own _) => .ok (.h i) e
    | some (.bor _) => .ok (.h i) e
    | _ => .stuck)
  | .int k, e => tst m (.ok (.v (.int k)) e)
  | .bl b, e => tst m (.ok (.v (.bl b)) e)
  | .non, e => tst m (.ok (.v .non) e)
  | .str x, e => tst m (.ok (.v (.str x)) e)
  | .con c, e => tst m (opt T.cons[c]? fun d => .ok (.v d) e)
  | .fnv g, e => tst m (if g < T.fns.length then .ok (.v (.fn g)) e else .stuck)
  | .bin o a b, e => tst m ((evE T cf false a e).bd fun ra e1 => (evE T cf false b e1).bd fun rb e2 =>
      opt (cont e2 ra) fun x => opt (cont e2 rb) fun y => opt (binop o x y) fun r => .ok r e2)
  | .neg a, e => tst m ((evE T cf false a e).bd fun ra e1 => opt ((cont e1 ra).bind intD) fun i => .ok (.v (.int (-i))) e1)
  | .cmp o a b, e => tst m ((evE T cf false a e).bd fun ra e1 => (evE T cf false b e1).bd fun rb e2 =>
      opt (cont e2 ra) fun x => opt (cont e2 rb) fun y => opt (cmpop o x y) fun r => .ok (.v (.bl r)) e2)
  | .chain o p a b c, e => tst m ((evE T cf false a e).bd fun ra e1 => (evE T cf false b e1).bd fun rb e2 =>
      opt (cont e2 ra) fun x => opt (cont e2 rb) fun y => opt (cmpop o x y) fun r =>
        if r then (evE T cf false c e2).bd fun rc e3 => opt (cont e3 rb) fun y => opt (cont e3 rc) fun z => opt (cmpop p y z) fun r => .ok (.v (.bl r)) e3
        else .ok (.v (.bl false)) e2)
  | .andor k es, e => evV T cf m k es e
  | .not_ a, e => (evE T cf m a e).bd fun r e1 => opt ((cont e1 r).bind truth) fun b => .ok (.v (.bl (!b))) e1
  | .ite c a b, e => if m then .stuck else (toB (evE T cf true c e)).bd fun k e1 => if k then evE T cf false a e1 else evE T cf false b e1
  | .tup es, e => tst m ((evA T cf es e).bd fun rs e1 => opt (frzs e1 rs) fun (ds, e2) => if ds.length ≤ sizeL then .ok (.v (.tup ds)) e2 else .stuck)
  | .lst es, e => tst m ((evA T cf es e).bd fun rs e1 => opt (frzs e1 rs) fun (ds, e2) => if ds.length ≤ sizeL then .ok (.t (.lst ds)) e2 else .stuck)
  | .ix a i, e => tst m ((evE T cf false a e).bd fun ra e1 => (evE T cf false i e1).bd fun ri e2 =>
      opt (cont e2 ra) fun x => opt (cont e2 ri) fun y => opt (item x y) fun d => .ok (.v d) e2)
  | .sl a lo hi, e => tst m ((evE T cf false a e).bd fun ra e1 => (evO T cf lo e1).bd fun l e2 => (evO T cf hi e2).bd fun h e3 =>
      opt (cont e3 ra) fun x => opt (sliceD x l h) fun r => .ok r e3)
  | .rev a, e => tst m ((evE T cf false a e).bd fun ra e1 => opt (cont e1 ra) fun x => opt (revD x) fun r => .ok r e1)
  | .call g es, e => tst m ((evA T cf es e).bd fun rs e1 => doCall cf g rs e1)
  | .callt g es, e => tst m ((evA T cf es e).bd fun rs e1 => doCallT cf g rs e1)
  | .callk g es ks ws, e => tst m ((evA T cf es e).bd fun rs e1 => (evA T cf ws e1).bd fun qs e2 =>
      opt T.fns[g]? fun F => doCall cf g (kwSort F.ps ks rs qs) e2)
  | .calld i es, e => tst m (match e[i]? with
    | some (.val (.fn g)) => if g < T.fns.length then (evA T cf es e).bd fun rs e1 => doCall cf g rs e1 else .stuck
    | _ => .stuck)
  | .bi b es, e => tst m ((evA T cf es e).bd fun rs e1 => opt (conts e1 rs) fun ds => opt (biF b ds) fun r => .ok r e1)
  | .isi a cs, e => tst m ((evE T cf false a e).bd fun ra e1 => opt ((cont e1 ra).bind tyNm) fun t => if cs.all tyOk.contains then .ok (.v (.bl (cs.any (isTy t)))) e1 else .stuck)
  | .isx i c own, e => tst m (.stuck)
  | .dnew t, e => tst m (.ok (.t (if t then .dt [] [] else .dk [] [])) e)
  | .dlit ks vs x d, e => tst m ((evE T cf false x e).bd fun rx e1 => (evM T cf d e1).bd fun rd e2 =>
      opt ((cont e2 rx).bind keyOf) fun k => match dlook ks vs k with
        | some y => .ok (.v y) e2
        | none => opt (frz e2 rd) fun (y, e3) => .ok (.v y) e3)
  | .dd1 k v, e => tst m ((evE T cf false k e).bd fun rk e1 => (evE T cf false v e1).bd fun rv e2 => opt ((cont e2 rk).bind keyOf) fun x => opt (frz e2 rv) fun (d, e3) => .ok (.t (.dk [x] [d])) e3)
  | .lrg t a, e => tst m ((evE T cf false a e).bd fun r e1 => opt ((cont e1 r).bind intD) fun n =>
      if decide (-(2 ^ 62) ≤ n) && decide (n ≤ 16777216) then .ok (if t then .v (.tup (rgI n)) else .t (.lst (rgI n))) e1 else .stuck)
  | .dix k a, e => tst m (opt T.dcs[k]? fun p => (evE T cf false a e).bd fun r e1 => opt ((cont e1 r).bind keyOf) fun x => opt (dlook p.1 p.2 x) fun d => .ok (.v d) e1)
  | .app i a, e => tst m (if lstAt e i then (evE T cf false a e).bd fun ra e1 => opt (frz e1 ra) fun (d, e2) => match mineD e2 i with
    | some (.lst xs) => if xs.length < sizeL then .ok (.v .non) (upS e2 i (.lst (xs ++ [d]))) else .stuck
    | _ => .stuck
    else .stuck)
  | .ext i a, e => tst m (if lstAt e i then (evE T cf false a e).bd fun ra e1 => opt (cont e1 ra) fun d => match mineD e1 i, d with
    | some (.lst xs), .lst ys => if xs.length + ys.length ≤ sizeL then .ok (.v .non) (upS e1 i (.lst (xs ++ ys))) else .stuck
    | _, _ => .stuck
    else .stuck)
  | .pop i, e => tst m (match mineD e i with
    | some (.lst xs) => opt (xs[xs.length - 1]?) fun d => .ok (.v d) (upS e i (.lst xs.dropLast))
    | _ => .stuck)
  | .popat i a, e => tst m (if lstAt e i then (evE T cf false a e).bd fun ra e1 => opt ((cont e1 ra).bind intD) fun k => match mineD e1 i with
    | some (.lst xs) => if decide (-(2 ^ 63) ≤ k) && decide (k < 2 ^ 63) then opt (ixN xs.length k) fun j => opt (xs[j]?) fun d => .ok (.v d) (upS e1 i (.lst (xs.eraseIdx j))) else .stuck
    | _ => .stuck
    else .stuck)
  | .comp own it tg cond elt, e => tst m ((evI T cf it e).bd fun ds e1 =>
      (compL (fun d e => opt (asg tg d e) fun e1 => (evC T cf cond e1).bd fun k e2 => if k then (evE T cf false elt e2).bd fun r e3 => opt (frz e3 r) fun (x, e4) => .ok (some x) e4 else .ok none e2) own ds (wipeE e1 own) []).bd
        fun acc e2 => .ok (.t (.lst acc)) (unwipe e1 e2 own))
  | .lset a, e => tst m ((evE T cf false a e).bd fun r e1 => opt ((cont e1 r).bind rowsD) fun l => opt (lsetN l) fun k => .ok (.v (.int k)) e1)
  | .sset a, e => tst m ((evE T cf false a e).bd fun r e1 => opt ((cont e1 r).bind rowsD) fun l => opt (ssort l) fun k => .ok (.t (.lst (k.map rowD))) e1)
  | .comp2 own it tg cond own1 it1 tg1 cond1 elt, e => tst m ((evI T cf it e).bd fun ds e1 =>
      (comp2L (fun d e => opt (asg tg d e) fun e1 => (evC T cf cond e1).bd fun k e2 => if k then (evI T cf it1 e2).bd fun xs e3 => .ok (some xs) e3 else .ok none e2)
        (fun d e => opt (asg tg1 d e) fun e1 => (evC T cf cond1 e1).bd fun k e2 => if k then (evE T cf false elt e2).bd fun r e3 => opt (frz e3 r) fun (x, e4) => .ok (some x) e4 else .ok none e2) own own1 ds (wipeE e1 own) []).bd
        fun acc e2 => .ok (.t (.lst acc)) (unwipe e1 e2 own))
def evC (T : GT) (cf : Nat → List SV → CO) : Option E → EV → Out Bool
  | none, e => .ok true e
  | some c, e => toB (evE T cf true c e)
def evO (T : GT) (cf : Nat → List SV → CO) : Option E → EV → Out (Option Int)
  | none, e => .ok none e
  | some a, e => (evE T cf false a e).bd fun r e1 => opt ((cont e1 r).bind intD) fun i => .ok (some i) e1
def evM (T : GT) (cf : Nat → List SV → CO) : Option E → EV → Out RV
  | none, e => .ok (.v .non) e
  | some a, e => evE T cf false a e
def evI (T : GT) (cf : Nat → List SV → CO) : It → EV → Out (List D)
  | .e a, e => (evE T cf false a e).bd fun r e1 => opt (frz e1 r) fun (d, e2) => opt (seqD d) fun xs => .ok xs e2
  | .rng es, e => (evA T cf es e).bd fun rs e1 => opt (conts e1 rs) fun ds => opt (rngD ds) fun xs => .ok xs e1
  | .enum a, e => (evE T cf false a e).bd fun r e1 => opt (frz e1 r) fun (d, e2) => opt (seqD d) fun xs => .ok (enumD xs) e2
  | .zip es, e => (evA T cf es e).bd fun rs e1 => opt (frzs e1 rs) fun (ds, e2) => match ds with
    | [.tup xs, .tup ys] => .ok (zipD xs ys) e2
    | [x, y] => opt (seqL x) fun xs => opt (seqL y) fun ys => .ok (zipD xs ys) e2
    | _ => .stuck
def evA (T : GT) (cf : Nat → List SV → CO) : List E → EV → Out (List RV)
  | [], e => .ok [] e
  | a :: as, e => (evE T cf false a e).bd fun r e1 => (evA T cf as e1).bd fun rs e2 => .ok (r :: rs) e2
/-- and, or -/
def evV (T : GT) (cf : Nat → List SV → CO) (m : Bool) (k : Bool) : List E → EV → Out RV
  | [], _ => .stuck
  | a :: as, e => match as with
    | [] => evE T cf m a e
    | _ :: _ => (evE T cf m a e).bd fun r e1 => opt ((cont e1 r).bind truth) fun b => if b = k then evV T cf m k as e1 else .ok r e1
end

/-! ## statements -/
inductive Fl where
  | next | brk | cnt | ret (r : RV)
def forL (f : D → EV → Out Fl) : List D → EV → Out Fl
  | [], e => .ok .next e
  | d :: ds, e => (f d e).bd fun fl e1 => match fl with
    | .next => forL f ds e1
    | .cnt => forL f ds e1
    | .brk => .ok .next e1
    | .ret r => .ok (.ret r) e1
def whL (c : EV → Out Bool) (f : EV → Out Fl) : Nat → EV → Out Fl
  | 0, _ => .stuck
  | n + 1, e => (c e).bd fun b e1 => if b then (f e1).bd fun fl e2 => match fl with
      | .next => whL c f n e2
      | .cnt => whL c f n e2
      | .brk => .ok .next e2
      | .ret r => .ok (.ret r) e2
    else .ok .next e1
def sixE (e : EV) (i : Nat) (k d : D) : Option EV := match mineD e i with
  | some (.lst xs) => (intD k).bind fun z => (ixN xs.length z).map fun j => upS e i (.lst (xs.set j d))
  | some (.dk ks ds) => (keyOf k).bind fun z => if ks.length < sizeL then some (upS e i (.dk (dput ks ds z d).1 (dput ks ds z d).2)) else none
  | _ => none
def retR (e : EV) : RV → Option (RV × EV)
  | .v d => some (.v d, e)
  | .t d => some (.t d, e)
  | .h i => match e[i]? with
    | some (.own d) => some (.t d, e.set i .un)
    | some (.bor d) => some (.v d, e.set i (.fro d))
    | some (.val d) => some (.v d, e)
    | some (.fro d) => some (.v d, e)
    | _ => none
def exH : List Hd → Nat → List D → EV → Out Fl
  | [], c, p, e => .exc c p e
  | h :: hs, c, p, e => if c = h.c then
      if setOk e h.i && setOk (e.set h.i (.val (.exn c p))) h.j && h.i != h.j then .ok .next ((e.set h.j (.own (.lst [.str h.lab, .bl true]))).set h.i .un) else .stuck
    else exH hs c p e
def augop : Bop → D → D → Option D
  | .add, .int i, .int j => some (.int (i + j))
  | .sub, .int i, .int j => some (.int (i - j))
  | _, _, _ => none
/-- several stores into things by place, from the left -/
def stX (T : GT) (cf : Nat → List SV → CO) : List (Nat × E) → List D → EV → Out Fl
  | [], [], e => .ok .next e
  | (i, k) :: ts, d :: ds, e => if lstAt e i || dkAt e i then (evE T cf false k e).bd fun rk e3 => opt (cont e3 rk) fun kd =>
      opt (sixE e3 i kd d) fun e4 => stX T cf ts ds e4
    else .stuck
  | _, _, _ => .stuck
mutual
def exS (T : GT) (cf : Nat → List SV → CO) : S → EV → Out Fl
  | .ex a, e => (evE T cf false a e).bd fun _ e1 => .ok .next e1
  | .set i a, e => (evE T cf false a e).bd fun r e1 => opt (fzR e1 r) fun (r', e2) => opt (setR i r' e2) fun e3 => .ok .next e3
  | .par is es, e => (evA T cf es e).bd fun rs e1 => opt (fzRs e1 rs) fun (rs', e2) => opt (setRs is rs' e2) fun e3 => .ok .next e3
  | .unp is a, e => (evE T cf false a e).bd fun r e1 => opt (cont e1 r) fun d => match d with
    | .tup ds => opt (setVals is ds e1) fun e2 => .ok .next e2
    | _ => .stuck
  | .aug i o a, e => match e[i]? with
    | some (.val x) => (evE T cf false a e).bd fun r e1 => opt (cont e1 r) fun y => opt (augop o x y) fun z => opt (setR i (.v z) e1) fun e2 => .ok .next e2
    | _ => .stuck
  | .six i k a, e => (evE T cf false a e).bd fun r e1 => opt (frz e1 r) fun (d, e2) => if lstAt e2 i || dkAt e2 i then (evE T cf false k e2).bd fun rk e3 => opt (cont e3 rk) fun kd =>
      opt (sixE e3 i kd d) fun e4 => .ok .next e4
    else .stuck
  | .unpx ts a, e => (evE T cf false a e).bd fun r e1 => opt (cont e1 r) fun d => match d with
    | .tup ds => if ds.length = ts.length then stX T cf ts ds e1 else .stuck
    | _ => .stuck
  | .if_ c a b, e => (toB (evE T cf true c e)).bd fun k e1 => if k then exB T cf a e1 else exB T cf b e1
  | .wh c b, e => whL (fun e => toB (evE T cf true c e)) (fun e => exB T cf b e) T.wf e
  | .for_ tg it b, e => (evI T cf it e).bd fun ds e1 => forL (fun d e => opt (asg tg d e) fun e1 => exB T cf b e1) ds e1
  | .ret a, e => (evE T cf false a e).bd fun r e1 => opt (retR e1 r) fun (r2, e2) => .ok (.ret r2) e2
  | .retN, e => .ok (.ret (.v .non)) e
  | .raise_ c, e => .exc c [] e
  | .brk, e => .ok .brk e
  | .cnt, e => .ok .cnt e
  | .pass, e => .ok .next e
  | .try_ b hs, e => match exB T cf b e with
    | .exc c p e1 => if decide (c < T.nex) && p.isEmpty then exH hs c p e1 else .stuck
    | r => r
def exB (T : GT) (cf : Nat → List SV → CO) : List S → EV → Out Fl
  | [], e => .ok .next e
  | s :: ss, e => (exS T cf s e).bd fun fl e1 => match fl with
    | .next => exB T cf ss e1
    | fl => .ok fl e1
end
/-- what the arguments have become -/
def outs : List SV → EV → List SV
  | [], _ => []
  | .bor d :: as, s :: e => s :: outs as e
  | a :: as, _ :: e => a :: outs as e
  | as, [] => as
def fin (as : List SV) : Out Fl → CO
  | .ok .next e => .ok (.v .non) (outs as e)
  | .ok (.ret (.v d)) e => .ok (.v d) (outs as e)
  | .ok (.ret (.t d)) e => .ok (.t d) (outs as e)
  | .exc c p e => .exc c p (outs as e)
  | _ => .stuck
def callF (T : GT) : Nat → Nat → List SV → CO
  | 0, _, _ => .stuck
  | n + 1, g, as => match T.fns[g]? with
    | some F => if as.length = F.ps.length then fin as (exB T (callF T n) F.body (as ++ List.replicate (F.N.length - as.length) .un)) else .stuck
    | none => .stuck
end PL
end

section
namespace PL
open PySem PySem.Spec L2

/-! ## how the small language stands for the program's text -/
structure CC where
  N : List Str
  sc : Scope
  bs : Option Scope
  fn : List Str
  cn : List Str
  en : List Str
  calm : Bool
  kw : List (Nat × List Str × Nat)
  gcd : Bool
  isx : List (Nat × String)
  dn : List Str
def visB (sc : Scope) (x : Str) : Bool := match sc.names.lookup x with
  | some .local => true
  | some .cell => true
  | some .free => true
  | _ => false
def locB (sc : Scope) (x : Str) : Bool := match sc.names.lookup x with
  | some .local => true
  | some .cell => true
  | _ => false
def dbgB (x : Str) : Bool := !(x == ("__debug__" : Str)) && !(x == ("__classdict__" : Str))
def glB (sc : Scope) (x : Str) : Bool := (match sc.names.lookup x with
  | some .globalImplicit => true
  | _ => false) && !(x == ("__debug__" : Str)) && !(x == ("__name__" : Str))
def nmB (c : CC) (i : Nat) (x : Str) : Bool := decide (c.N[i]? = some x) && visB c.sc x && dbgB x
def stB (c : CC) (i : Nat) (x : Str) : Bool := decide (c.N[i]? = some x) && locB c.sc x && (match c.bs with
  | none => true
  | some s => locB s x)
def opOf : Bop → Operator
  | .add => .Add
  | .sub => .Sub
  | .mul => .Mult
  | .fdiv => .FloorDiv
  | .mod => .Mod
  | .pow => .Pow
  | .shl => .LShift
def biNm : Bi → String
  | .len => "len"
  | .abs => "abs"
  | .tuple => "tuple"
  | .list => "list"
  | .int1 => "int"
  | .sum => "sum"
  | .min1 => "min"
  | .max1 => "max"
  | .min2 => "min"
  | .max2 => "max"
  | .all => "all"
  | .any => "any"
  | .sorted => "sorted"
  | .gcd => "gcd"
  | .dict1 => "dict"
def plainB : Expr → Bool
  | .Starred .. => false
  | .Set .. => false
  | .NamedExpr .. => false
  | .Call (.Name x _) [] [] _ => !(x == ("super" : Str))
  | _ => true
def tyName (x : Expr) (s : String) : Bool := match x with
  | .Name y _ => decide (y = Str.ofString s)
  | _ => false
def gNames (c : CC) : List Expr → Bool
  | [] => true
  | .Name y _ :: r => glB c.sc y && gNames c r
  | _ => false
def tyNames : List String → List Expr → Bool
  | [], [] => true
  | s :: ss, x :: xs => tyName x s && tyNames ss xs
  | _, _ => false
def trTg (c : CC) : Tg → Expr → Bool
  | .nm i, .Name x _ => stB c i x
  | .tp is, .Tuple xs _ _ => trNs c is xs
  | _, _ => false
where trNs (c : CC) : List Nat → List Expr → Bool
  | [], [] => true
  | i :: is, .Name x _ :: xs => stB c i x && trNs c is xs
  | _, _ => false
def tgIx : Tg → List Nat
  | .nm i => [i]
  | .tp is => is
def ownP (c : CC) (own : List Nat) : List (Str × Nat) := own.map fun i => (c.N.getD i ("" : Str), i)
def blkCC (c : CC) (scope : Scope) : CC := { c with sc := relS scope c.sc, bs := some scope }
def mthB (p cp : Pos) : Bool := p.endLine == cp.line
def keyLs : List Key → List (Option Expr) → Bool
  | [], [] => true
  | .inl i :: ks, some (.Constant (.int j) _ _) :: r => decide (i = j) && keyLs ks r
  | .inr x :: ks, some (.Constant (.str y) _ _) :: r => decide (x = y) && keyLs ks r
  | _, _ => false
def valLs : List D → List Expr → Bool
  | [], [] => true
  | .int i :: ds, .Constant (.int j) _ _ :: r => decide (i = j) && valLs ds r
  | .str x :: ds, .Constant (.str y) _ _ :: r => decide (x = y) && valLs ds r
  | .bl x :: ds, .Constant (.bool y) _ _ :: r => decide (x = y) && valLs ds r
  | .non :: ds, .Constant .none _ _ :: r => valLs ds r
  | _, _ => false
mutual
def trE (c : CC) : E → Expr → Bool
  | .var i, .Name x _ => nmB c i x
  | .int k, .Constant (.int j) _ _ => decide (k = j)
  | .bl k, .Constant (.bool j) _ _ => decide (k = j)
  | .non, .Constant .none _ _ => true
  | .str k, .Constant (.str j) _ _ => decide (k = j)
  | .con k, .Name x _ => decide (c.cn[k]? = some x) && glB c.sc x
  | .fnv g, .Name x _ => decide (c.fn[g]? = some x) && glB c.sc x
  | .dd1 a b, .Dict [some y] [z] _ => trE c a y && trE c b z
  | .lrg t a, .Call (.Name x _) [.Call (.Name y _) [z] [] _] [] _ => decide (x = if t then "tuple" else "list") && decide (y = "range") && glB c.sc x && glB c.sc y && c.calm && trE c a z
  | .dix k a, .Subscript (.Name x _) y _ => decide (c.dn[k]? = some x) && glB c.sc x && trE c a y
  | .bin o a b, .BinOp x p y _ => decide (opOf o = p) && trE c a x && trE c b y
  | .neg a, .UnaryOp .USub x _ => trE c a x
  | .cmp o a b, .Compare x [p] [y] _ => decide (o = p) && trE c a x && trE c b y
  | .chain o p a b d, .Compare x [o', p'] [y, z] _ => decide (o = o') && decide (p = p') && trE c a x && trE c b y && trE c d z
  | .andor k es, .BoolOp o xs _ => decide ((if k then BoolOp.And else BoolOp.Or) = o) && trA c es xs
  | .not_ a, .UnaryOp .Not x _ => trE c a x
  | .ite d a b, .IfExp x y z _ => trE c d x && trE c a y && trE c b z
  | .tup es, .Tuple xs _ _ => trA c es xs
  | .lst es, .List xs _ => trA c es xs
  | .ix a i, .Subscript x y _ => trE c a x && trE c i y
  | .sl a lo hi, .Subscript x (.Slice l h none _) _ => trE c a x && trO c lo l && trO c hi h
  | .rev a, .Subscript x (.Slice none none (some (.UnaryOp .USub (.Constant (.int j) _ _) _)) _) _ => trE c a x && decide (j = 1)
  | .call g es, .Call (.Name x _) xs [] _ => decide (c.fn[g]? = some x) && glB c.sc x && c.calm && trA c es xs
  | .callt g es, .Call (.Name x _) xs [] _ => decide (c.fn[g]? = some x) && glB c.sc x && c.calm && trA c es xs
  | .callk g es ks ws, .Call (.Name x _) xs kws _ => decide (c.fn[g]? = some x) && glB c.sc x && c.calm && trA c es xs && trK c ks ws kws && c.kw.contains (g, ks, es.length)
  | .calld i es, .Call (.Name x _) xs [] _ => nmB c i x && c.calm && !es.isEmpty && trA c es xs
  | .lset a, .Call (.Name x _) [.Call (.Name y _) [z] [] _] [] _ => decide (x = "len") && decide (y = "set") && glB c.sc x && glB c.sc y && c.calm && trE c a z
  | .sset a, .Call (.Name x _) [.Call (.Name y _) [z] [] _] [] _ => decide (x = "sorted") && decide (y = "set") && glB c.sc x && glB c.sc y && c.calm && trE c a z
  | .bi b es, .Call (.Name x _) xs [] _ => decide (x = Str.ofString (biNm b)) && glB c.sc x && c.calm && !es.isEmpty && (c.gcd || b != .gcd) && trA c es xs
  | .isi a [s], .Call (.Name x _) [y, z] [] _ => decide (x = "isinstance") && glB c.sc x && trE c a y && gNames c [z] && tyName z s && tyOk.contains s
  | .isi a cs, .Call (.Name x _) [y, .Tuple zs _ _] [] _ => decide (x = "isinstance") && glB c.sc x && trE c a y && gNames c zs && tyNames cs zs && cs.all tyOk.contains && decide (cs.length ≤ 100)
  | .dnew _, .Dict [] [] _ => true
  | .dlit ks vs e d, .Call (.Attribute (.Dict keys values _) m ap) (y :: r) [] p => decide (m = "get") && mthB ap p && keyLs ks keys && valLs vs values && decide ks.Nodup && decide (ks.length = vs.length) && decide (ks.length ≤ 15) && !ks.isEmpty && trE c e y && trC c d r
  | .app i e, .Call (.Attribute (.Name x _) m ap) [y] [] p => nmB c i x && decide (m = "append") && mthB ap p && trE c e y
  | .ext i e, .Call (.Attribute (.Name x _) m ap) [y] [] p => nmB c i x && decide (m = "extend") && mthB ap p && trE c e y
  | .pop i, .Call (.Attribute (.Name x _) m ap) [] [] p => nmB c i x && decide (m = "pop") && mthB ap p
  | .popat i e, .Call (.Attribute (.Name x _) m ap) [y] [] p => nmB c i x && decide (m = "pop") && mthB ap p && trE c e y
  | .comp own it tg cond elt, .ListComp x [⟨t, i, ifs, 0⟩] scope _ => c.calm && blkC c.N c.sc scope (ownP c own) && trI c it i && (tgIx tg).all own.contains &&
      trTg (blkCC c scope) tg t && (itTup it tg) && trC (blkCC c scope) cond ifs && trE (blkCC c scope) elt x
  | .comp2 own it tg cond own1 it1 tg1 cond1 elt, .ListComp x [⟨t, i, ifs, 0⟩, ⟨t1, i1, ifs1, 0⟩] scope _ => c.calm && blkC c.N c.sc scope (ownP c own) && trI c it i && (tgIx tg).all own.contains &&
      trTg (blkCC c scope) tg t && (itTup it tg) && trC (blkCC c scope) cond ifs && own1.all own.contains && trI (blkCC c scope) it1 i1 && (tgIx tg1).all own1.contains &&
      trTg (blkCC c scope) tg1 t1 && (itTup it1 tg1) && trC (blkCC c scope) cond1 ifs1 && trE (blkCC c scope) elt x
  | _, _ => false
def trA (c : CC) : List E → List Expr → Bool
  | [], [] => true
  | a :: as, x :: xs => trE c a x && trA c as xs
  | _, _ => false
def trO (c : CC) : Option E → Option Expr → Bool
  | none, none => true
  | some a, some x => trE c a x
  | _, _ => false
def trC (c : CC) : Option E → List Expr → Bool
  | none, [] => true
  | some a, [x] => trE c a x
  | _, _ => false
def trK (c : CC) : List Str → List E → List Keyword → Bool
  | [], [], [] => true
  | k :: ks, a :: as, ⟨some n, x, _⟩ :: xs => decide (k = n) && trE c a x && trK c ks as xs
  | _, _, _ => false
def trI (c : CC) : It → Expr → Bool
  | .e a, x => trE c a x
  | .rng es, .Call (.Name x _) xs [] _ => decide (x = "range") && glB c.sc x && trA c es xs && (xs.length == 1 || xs.length == 2 || xs.length == 3)
  | .enum a, .Call (.Name x _) [y] [] _ => decide (x = "enumerate") && glB c.sc x && trE c a y
  | .zip es, .Call (.Name x _) xs [] _ => decide (x = "zip") && glB c.sc x && trA c es xs && xs.length == 2
  | _, _ => false
/-- pairs are made for a pair of names -/
def itTup : It → Tg → Bool
  | .enum _, .tp _ => true
  | .enum _, .nm _ => false
  | .zip _, .tp _ => true
  | .zip _, .nm _ => false
  | _, _ => true
end
def isLC : Expr → Bool
  | .ListComp .. => true
  | _ => false
def isTup : Expr → Bool
  | .Tuple .. => true
  | _ => false
def locAll (c : CC) (ts : List Expr) : Bool := ts.all fun
  | .Name x _ => c.sc.names.lookup x == some .local
  | _ => false
def idsOf (ts : List Expr) : List Str := ts.filterMap fun
  | .Name x _ => some x
  | _ => none
def lineAll (ts : List Expr) : Bool := ts.all fun t => t.pos.line == (ts.head?.map (·.pos.line)).getD 0
/-- whether the stores are swapped -/
def swN (c : CC) (ts vs : List Expr) : Bool := locAll c ts && (ts.length == 2 || ts.length == 3) && !vs.all (foldedForSure 8)
def parB (c : CC) (ts vs : List Expr) : Bool := lineAll ts && (idsOf ts).eraseDups.length == ts.length && (!swN c ts vs || !vs.all (constantsAlone 8))
def trHd (c : CC) (h : Hd) : ExceptHandler → Bool
  | .ExceptHandler (some (.Name x _)) (some n) [.Assign [.Name y _] (.List [.Constant (.str l) _ _, .Call (.Name f _) [.Name n' _, .Name cl _] [] _] _) _] _ =>
    decide (c.en[h.c]? = some x) && glB c.sc x && stB c h.i n && (match c.sc.names.lookup n with
      | some .local => true
      | _ => false) && nmB c h.i n' && stB c h.j y && decide (h.lab = l) && decide (f = "isinstance") && glB c.sc f && decide (cl = Str.ofString h.cls) && glB c.sc cl && tyExc.contains h.cls && c.isx.contains (h.c, h.cls)
  | _ => false
where tyExc : List String := ["ValueError", "LookupError"]
def trHs (c : CC) : List Hd → List ExceptHandler → Bool
  | [], [] => true
  | h :: hs, x :: xs => trHd c h x && trHs c hs xs
  | _, _ => false
def trX (c : CC) : List (Nat × E) → List Expr → Bool
  | [], [] => true
  | (i, k) :: ts, .Subscript (.Name x _) y _ :: xs => nmB c i x && trE c k y && trX c ts xs
  | _, _ => false
mutual
def trS (c : CC) : S → Stmt → Bool
  | .ex e, .Expr x _ => trE c e x && !isLC x
  | .set i e, .Assign [.Name x _] y _ => stB c i x && trE c e y
  | .par is es, .Assign [.Tuple ts _ _] (.Tuple xs _ _) _ => c.calm && trTg.trNs c is ts && trA c es xs && decide (es.length = is.length) && decide is.Nodup && decide (is.length ≤ 100) && parB c ts xs
  | .unp is e, .Assign [.Tuple ts _ _] x _ => c.calm && trTg.trNs c is ts && trE c e x && !isTup x
  | .aug i o e, .AugAssign (.Name x _) p y _ => stB c i x && nmB c i x && decide (opOf o = p) && (o == .add || o == .sub) && trE c e y
  | .six i k e, .Assign [.Subscript (.Name x _) y _] z _ => nmB c i x && trE c k y && trE c e z
  | .unpx ts a, .Assign [.Tuple xs _ _] (.Tuple vs k p) _ => trX c ts xs && trE c a (.Tuple vs k p) && decide (vs.length = xs.length)
  | .if_ d a b, .If x ys zs _ => trE c d x && trB c a ys && trB c b zs
  | .wh d b, .While x ys [] _ => trE c d x && trB c b ys
  | .for_ tg it b, .For t i ys [] _ => c.calm && trI c it i && trTg c tg t && itTup it tg && trB c b ys
  | .ret e, .Return (some x) _ => trE c e x
  | .retN, .Return none _ => true
  | .raise_ k, .Raise (some (.Call (.Name x _) [] [] _)) none _ => c.calm && decide (c.en[k]? = some x) && glB c.sc x
  | .brk, .Break _ => true
  | .cnt, .Continue _ => true
  | .pass, .Pass _ => true
  | .try_ b hs, .Try ys (x :: xs) [] [] _ => c.calm && trB c b ys && trHs c hs (x :: xs)
  | _, _ => false
def trB (c : CC) : List S → List Stmt → Bool
  | [], [] => true
  | s :: ss, x :: xs => trS c s x && trB c ss xs
  | _, _ => false
end
end PL
end

section
namespace PL
open PySem PySem.Spec L2

variable {C : G0} {e e' : EV} {F F' H0 H H' : Hp} {σ : St}
theorem getE_set_self {α : Type} {l : List α} {i : Nat} {a b : α} (h : l[i]? = some b) : (l.set i a)[i]? = some a := by
  have := (List.getElem?_eq_some_iff.mp h).1
  simp [this]
theorem getE_set_ne {α : Type} {l : List α} {i j : Nat} {a : α} (h : i ≠ j) : (l.set i a)[j]? = l[j]? := List.getElem?_set_ne h
/-- a thing of one's own becomes shared -/
theorem share {i : Nat} {s s' : SV} {d : D} {a : Addr} (R : SR C e F σ H) (h : e[i]? = some s) (m : s.mine = true) (hd : s.dat = some d) (ha : σ[i]? = some (some (.ref a)))
    (hs : (s = .own d ∧ s' = .val d) ∨ (s = .bor d ∧ s' = .fro d)) :
    ∃ F', TrE C e F σ H (e.set i s') F' H ∧ Rep C F' d (.ref a) := by
  obtain ⟨d', a', h1, h2, mm⟩ := R.mine h m
  rw [hd] at h1; cases h1
  rw [ha] at h2; cases h2
  obtain ⟨o, ho⟩ := mm.there
  have hFa := mm.1
  have sF : Sub F (upd F a o) := fun b u q => by
    by_cases e : b = a
    · subst e; rw [hFa] at q; cases q
    · rw [upd_ne e]; exact q
  have sH : Sub (upd F a o) H := fun b u q => by
    by_cases e : b = a
    · subst e; rw [upd_same] at q; cases q; exact ho
    · rw [upd_ne e] at q; exact R.sub b u q
  have rep : Rep C (upd F a o) d (.ref a) := by
    obtain ⟨_, mm⟩ := mm
    cases d <;> first | exact mm.elim | skip
    · obtain ⟨vs, q, r⟩ := mm; rw [ho] at q; cases q; rw [Rep]; exact ⟨a, vs, rfl, upd_same, r.mono sF⟩
    · obtain ⟨vs, q, l, r⟩ := mm; rw [ho] at q; cases q; rw [Rep]; exact ⟨a, vs, rfl, upd_same, l, r.mono sF⟩
    · obtain ⟨vs, q, l, r⟩ := mm; rw [ho] at q; cases q; rw [Rep]; exact ⟨a, vs, rfl, upd_same, l, r.mono sF⟩
  have hi : i < e.length := (List.getElem?_eq_some_iff.mp h).1
  have sm : s'.mine = false := by rcases hs with ⟨_, rfl⟩ | ⟨_, rfl⟩ <;> rfl
  have old : ∀ (j : Nat) (t : SV), (e.set i s')[j]? = some t → t.mine = true → j ≠ i ∧ e[j]? = some t := fun j t q mt => by
    by_cases ej : i = j
    · subst ej; rw [getE_set_self h] at q; cases q; rw [sm] at mt; cases mt
    · rw [getE_set_ne ej] at q; exact ⟨Ne.symm ej, q⟩
  have own : OwnA e σ a := ⟨i, s, h, m, ha⟩
  refine ⟨upd F a o, ⟨⟨⟨sH, fun j t q => ?_, fun j k t u b q1 q2 m1 m2 => R.dis j k t u b (old j t q1 m1).2 (old k u q2 m2).2 m1 m2, by simpa using R.len⟩, sF, fun _ _ q _ => q, fun _ q => q, fun b u q => ?_, fun j d' b q1 q2 => ?_, fun j d' q => ?_, fun j d' q => ?_, fun j d' q => ?_, by simp⟩, fun j t q dt => ?_, fun j t q mt => ⟨t, (old j t q mt).2, mt⟩⟩, rep⟩
  · by_cases ej : i = j
    · subst ej; rw [getE_set_self h] at q; cases q
      rcases hs with ⟨_, rfl⟩ | ⟨_, rfl⟩ <;> exact ⟨_, ha, rep⟩
    · rw [getE_set_ne ej] at q
      have z := R.slot j t q
      cases t with
      | un => trivial
      | val d' => obtain ⟨v, q1, q2⟩ := z; exact ⟨v, q1, q2.mono sF⟩
      | fro d' => obtain ⟨v, q1, q2⟩ := z; exact ⟨v, q1, q2.mono sF⟩
      | own d' =>
        obtain ⟨b, q1, q2⟩ := z
        refine ⟨b, q1, q2.mono sF ?_ fun _ z => z⟩
        have hne : b ≠ a := fun eb => ej (R.dis i j s _ a h q m rfl ha (by rw [← eb]; exact q1))
        rw [upd_ne hne]
        exact q2.1
      | bor d' =>
        obtain ⟨b, q1, q2⟩ := z
        refine ⟨b, q1, q2.mono sF ?_ fun _ z => z⟩
        have hne : b ≠ a := fun eb => ej (R.dis i j s _ a h q m rfl ha (by rw [← eb]; exact q1))
        rw [upd_ne hne]
        exact q2.1
  · by_cases eb : b = a
    · subst eb; exact .inr (.inr own)
    · rw [upd_ne eb] at q; exact .inl q
  · obtain ⟨_, q⟩ := old j _ q1 rfl
    exact .inl ⟨j, d', q, q2⟩
  · obtain ⟨_, q⟩ := old j _ q rfl
    exact ⟨d', q⟩
  · refine ⟨rfl, ?_⟩
    by_cases ej : i = j
    · subst ej
      rw [h] at q; cases q
      rcases hs with ⟨z, _⟩ | ⟨_, rfl⟩
      · cases z
      · exact ⟨d, .inr (getE_set_self h)⟩
    · exact ⟨d', .inl (by rw [getE_set_ne ej]; exact q)⟩
  · refine ⟨rfl, ?_⟩
    by_cases ej : i = j
    · subst ej; rw [h] at q; cases q; cases m
    · rw [getE_set_ne ej]; exact q
  · by_cases ej : i = j
    · subst ej
      refine ⟨s', getE_set_self h, ?_⟩
      rcases hs with ⟨_, rfl⟩ | ⟨_, rfl⟩ <;> rfl
    · exact ⟨t, by rw [getE_set_ne ej]; exact q, dt⟩
/-- a new thing becomes shared at once -/
theorem shareT {d : D} {a : Addr} (R : SR C e F σ H) (mm : Mine C F H d a) (hn : ¬ OwnA e σ a) (hf : H0 a = none) :
    ∃ F', Rep C F' d (.ref a) ∧ Sub F F' ∧ SR C e F' σ H ∧ (∀ b o, F' b = some o → F b = some o ∨ b = a) := by
  obtain ⟨o, ho⟩ := mm.there
  have hFa := mm.1
  have sF : Sub F (upd F a o) := fun b u q => by
    by_cases e : b = a
    · subst e; rw [hFa] at q; cases q
    · rw [upd_ne e]; exact q
  have sH : Sub (upd F a o) H := fun b u q => by
    by_cases e : b = a
    · subst e; rw [upd_same] at q; cases q; exact ho
    · rw [upd_ne e] at q; exact R.sub b u q
  have rep : Rep C (upd F a o) d (.ref a) := by
    obtain ⟨_, mm⟩ := mm
    cases d <;> first | exact mm.elim | skip
    · obtain ⟨vs, q, r⟩ := mm; rw [ho] at q; cases q; rw [Rep]; exact ⟨a, vs, rfl, upd_same, r.mono sF⟩
    · obtain ⟨vs, q, l, r⟩ := mm; rw [ho] at q; cases q; rw [Rep]; exact ⟨a, vs, rfl, upd_same, l, r.mono sF⟩
    · obtain ⟨vs, q, l, r⟩ := mm; rw [ho] at q; cases q; rw [Rep]; exact ⟨a, vs, rfl, upd_same, l, r.mono sF⟩
  refine ⟨upd F a o, rep, sF, ⟨sH, fun j t q => ?_, R.dis, R.len⟩, fun b u q => ?_⟩
  · have z := R.slot j t q
    cases t with
    | un => trivial
    | val d' => obtain ⟨v, q1, q2⟩ := z; exact ⟨v, q1, q2.mono sF⟩
    | fro d' => obtain ⟨v, q1, q2⟩ := z; exact ⟨v, q1, q2.mono sF⟩
    | own d' =>
      obtain ⟨b, q1, q2⟩ := z
      refine ⟨b, q1, q2.mono sF ?_ fun _ z => z⟩
      have hne : b ≠ a := fun eb => hn ⟨j, _, q, rfl, by rw [← eb]; exact q1⟩
      rw [upd_ne hne]
      exact q2.1
    | bor d' =>
      obtain ⟨b, q1, q2⟩ := z
      refine ⟨b, q1, q2.mono sF ?_ fun _ z => z⟩
      have hne : b ≠ a := fun eb => hn ⟨j, _, q, rfl, by rw [← eb]; exact q1⟩
      rw [upd_ne hne]
      exact q2.1
  · by_cases eb : b = a
    · exact .inr eb
    · rw [upd_ne eb] at q; exact .inl q
/-- from an earlier point of view: only the shared part has grown by what is new since -/
theorem TrE.grow {e1 : EV} {F1 F2 H1 : Hp} (t : TrE C e F σ H e1 F1 H1) (s : Sub F1 F2) (r : SR C e1 F2 σ H1) {a : Addr} (hn : ∀ b o, F2 b = some o → F1 b = some o ∨ b = a) (ha : H a = none) : TrE C e F σ H e1 F2 H1 :=
  ⟨⟨r, t.fs.trans s, t.keep, t.there, fun b o q => by
    rcases hn b o q with q | rfl
    · exact t.new b o q
    · exact .inr (.inl ha), t.own, t.nob, t.bor, t.fro, t.len⟩, t.dat, t.nom⟩
theorem frz_ok {e1 : EV} {F1 H1 : Hp} {r : RV} {v : V} {d : D} (t : TrE C e F σ H e1 F1 H1) (h : RVok C H F1 σ H1 e1 r v) (k : frz e1 r = some (d, e')) :
    ∃ F', TrE C e F σ H e' F' H1 ∧ Rep C F' d v ∧ Sub F1 F' := by
  cases r with
  | v d' => cases k; exact ⟨F1, t, h, Sub.refl _⟩
  | t d' =>
    cases k
    obtain ⟨a, rfl, m, h0, n⟩ := h
    obtain ⟨F', q1, q2, q3, q4⟩ := shareT (H0 := H) t.sr m n h0
    exact ⟨F', t.grow q2 q3 q4 h0, q1, q2⟩
  | h i =>
    obtain ⟨h1, s, h2, h3⟩ := h
    have q := t.sr.slot i s h2
    simp only [frz, h2] at k
    cases s with
    | un => cases k
    | val d' => cases k; obtain ⟨v', e1, q⟩ := q; rw [h1] at e1; cases e1; exact ⟨F1, t, q, Sub.refl _⟩
    | fro d' => cases k; obtain ⟨v', e1, q⟩ := q; rw [h1] at e1; cases e1; exact ⟨F1, t, q, Sub.refl _⟩
    | own d' =>
      cases k; obtain ⟨a, e1, q⟩ := q; rw [h1] at e1; cases e1
      obtain ⟨F', q1, q2⟩ := share t.sr h2 rfl rfl h1 (.inl ⟨rfl, rfl⟩)
      exact ⟨F', t.trans q1, q2, q1.fs⟩
    | bor d' =>
      cases k; obtain ⟨a, e1, q⟩ := q; rw [h1] at e1; cases e1
      obtain ⟨F', q1, q2⟩ := share t.sr h2 rfl rfl h1 (.inr ⟨rfl, rfl⟩)
      exact ⟨F', t.trans q1, q2, q1.fs⟩

/-! ## what is wanted of an outcome -/
def ExW (C : G0) (W : WX) (c : Nat) (p : List D) (σ : St) (H : Hp) : Prop := p = [] ∧ W (.ref (C.cv c)) none σ H
def PostE (C : G0) (W : WX) (e : EV) (F : Hp) (σ : St) (H : Hp) (o : Out RV) (Q : VK) : Prop := match o with
  | .ok r e' => ∀ v F' H', TrE C e F σ H e' F' H' → RVok C H F' σ H' e' r v → Q v H'
  | .exc c p e' => ∀ F' H', TrE C e F σ H e' F' H' → ExW C W c p σ H'
  | .stuck => False
def PostB (C : G0) (W : WX) (e : EV) (F : Hp) (σ : St) (H : Hp) (o : Out Bool) (Q : Bool → Hp → Prop) : Prop := match o with
  | .ok r e' => ∀ F' H', TrE C e F σ H e' F' H' → Q r H'
  | .exc c p e' => ∀ F' H', TrE C e F σ H e' F' H' → ExW C W c p σ H'
  | .stuck => False
/-- a list of results -/
def RVs (C : G0) (H0 F : Hp) (σ : St) (H : Hp) (e : EV) : List RV → List V → Prop
  | [], vs => vs = []
  | r :: rs, vs => ∃ v ws, vs = v :: ws ∧ RVok C H0 F σ H e r v ∧ RVs C H0 F σ H e rs ws
theorem RVs.mono {e1 : EV} {F1 H1 : Hp} (t : TrE C e F σ H e1 F1 H1) : ∀ {rs : List RV} {vs : List V}, RVs C H0 F σ H e rs vs → RVs C H0 F1 σ H1 e1 rs vs
  | [], _, h => h
  | r :: rs, _, ⟨v, ws, e, a, b⟩ => ⟨v, ws, e, a.mono t, RVs.mono t b⟩
theorem RVs.back {H1 : Hp} (k : ∀ b, H0 b ≠ none → H1 b ≠ none) : ∀ {rs : List RV} {vs : List V}, RVs C H1 F σ H e rs vs → RVs C H0 F σ H e rs vs
  | [], _, h => h
  | r :: rs, _, ⟨v, ws, e, a, b⟩ => ⟨v, ws, e, a.back k, RVs.back k b⟩
def PostA (C : G0) (W : WX) (e : EV) (F : Hp) (σ : St) (H : Hp) (o : Out (List RV)) (Q : List V → Hp → Prop) : Prop := match o with
  | .ok rs e' => ∀ vs F' H', TrE C e F σ H e' F' H' → RVs C H F' σ H' e' rs vs → Q vs H'
  | .exc c p e' => ∀ F' H', TrE C e F σ H e' F' H' → ExW C W c p σ H'
  | .stuck => False
def PostO (C : G0) (W : WX) (e : EV) (F : Hp) (σ : St) (H : Hp) (o : Out (Option Int)) (Q : Option Int → Hp → Prop) : Prop := match o with
  | .ok r e' => ∀ F' H', TrE C e F σ H e' F' H' → Q r H'
  | .exc c p e' => ∀ F' H', TrE C e F σ H e' F' H' → ExW C W c p σ H'
  | .stuck => False
theorem PostE.shift {W : WX} {e1 : EV} {F1 H1 : Hp} {o : Out RV} {Q : VK} (t : TrE C e F σ H e1 F1 H1) (h : PostE C W e F σ H o Q) : PostE C W e1 F1 σ H1 o Q := by
  cases o with
  | ok r e' => exact fun v F' H' t' r' => h v F' H' (t.trans t') (r'.back t.there)
  | exc c p e' => exact fun F' H' t' => h F' H' (t.trans t')
  | stuck => exact h
theorem PostB.shift {W : WX} {e1 : EV} {F1 H1 : Hp} {o : Out Bool} {Q : Bool → Hp → Prop} (t : TrE C e F σ H e1 F1 H1) (h : PostB C W e F σ H o Q) : PostB C W e1 F1 σ H1 o Q := by
  cases o with
  | ok r e' => exact fun F' H' t' => h F' H' (t.trans t')
  | exc c p e' => exact fun F' H' t' => h F' H' (t.trans t')
  | stuck => exact h
theorem PostA.shift {W : WX} {e1 : EV} {F1 H1 : Hp} {o : Out (List RV)} {Q : List V → Hp → Prop} (t : TrE C e F σ H e1 F1 H1) (h : PostA C W e F σ H o Q) : PostA C W e1 F1 σ H1 o Q := by
  cases o with
  | ok r e' => exact fun v F' H' t' r' => h v F' H' (t.trans t') (r'.back t.there)
  | exc c p e' => exact fun F' H' t' => h F' H' (t.trans t')
  | stuck => exact h
theorem PostO.shift {W : WX} {e1 : EV} {F1 H1 : Hp} {o : Out (Option Int)} {Q : Option Int → Hp → Prop} (t : TrE C e F σ H e1 F1 H1) (h : PostO C W e F σ H o Q) : PostO C W e1 F1 σ H1 o Q := by
  cases o with
  | ok r e' => exact fun F' H' t' => h F' H' (t.trans t')
  | exc c p e' => exact fun F' H' t' => h F' H' (t.trans t')
  | stuck => exact h
/-- first x, then f -/
theorem PostE.first {W : WX} {x : Out RV} {f : RV → EV → Out RV} {Q Q1 : VK} (h : PostE C W e F σ H (x.bd f) Q)
    (k : ∀ r e1 v F1 H1, TrE C e F σ H e1 F1 H1 → RVok C H F1 σ H1 e1 r v → PostE C W e1 F1 σ H1 (f r e1) Q → Q1 v H1) : PostE C W e F σ H x Q1 := by
  cases x with
  | ok r e1 => exact fun v F1 H1 t r1 => k r e1 v F1 H1 t r1 (PostE.shift t h)
  | exc c p e1 => exact h
  | stuck => exact h
theorem PostE.firstA {W : WX} {x : Out (List RV)} {f : List RV → EV → Out RV} {Q : VK} {Q1 : List V → Hp → Prop} (h : PostE C W e F σ H (x.bd f) Q)
    (k : ∀ rs e1 vs F1 H1, TrE C e F σ H e1 F1 H1 → RVs C H F1 σ H1 e1 rs vs → PostE C W e1 F1 σ H1 (f rs e1) Q → Q1 vs H1) : PostA C W e F σ H x Q1 := by
  cases x with
  | ok r e1 => exact fun v F1 H1 t r1 => k r e1 v F1 H1 t r1 (PostE.shift t h)
  | exc c p e1 => exact h
  | stuck => exact h
theorem PostE.firstB {W : WX} {x : Out Bool} {f : Bool → EV → Out RV} {Q : VK} {Q1 : Bool → Hp → Prop} (h : PostE C W e F σ H (x.bd f) Q)
    (k : ∀ r e1 F1 H1, TrE C e F σ H e1 F1 H1 → PostE C W e1 F1 σ H1 (f r e1) Q → Q1 r H1) : PostB C W e F σ H x Q1 := by
  cases x with
  | ok r e1 => exact fun F1 H1 t => k r e1 F1 H1 t (PostE.shift t h)
  | exc c p e1 => exact h
  | stuck => exact h
theorem PostE.firstO {W : WX} {x : Out (Option Int)} {f : Option Int → EV → Out RV} {Q : VK} {Q1 : Option Int → Hp → Prop} (h : PostE C W e F σ H (x.bd f) Q)
    (k : ∀ r e1 F1 H1, TrE C e F σ H e1 F1 H1 → PostE C W e1 F1 σ H1 (f r e1) Q → Q1 r H1) : PostO C W e F σ H x Q1 := by
  cases x with
  | ok r e1 => exact fun F1 H1 t => k r e1 F1 H1 t (PostE.shift t h)
  | exc c p e1 => exact h
  | stuck => exact h
theorem PostE.opt {α : Type} {W : WX} {o : Option α} {f : α → Out RV} {Q : VK} (h : PostE C W e F σ H (opt o f) Q) : ∃ a, o = some a ∧ PostE C W e F σ H (f a) Q := by
  cases o with
  | none => exact h.elim
  | some a => exact ⟨a, rfl, h⟩
/-- a pure end -/
theorem PostE.val {W : WX} {d : D} {v : V} {Q : VK} (R : SR C e F σ H) (h : PostE C W e F σ H (.ok (.v d) e) Q) (r : Rep C F d v) : Q v H := h v F H (TrE.refl R) r
/-- a new tuple is shared -/
theorem TrE.newT {e1 : EV} {F1 H1 : Hp} (t : TrE C e F σ H e1 F1 H1) {p : Addr} {o : HO} (hp : H1 p = none) : TrE C e F σ H e1 (upd F1 p o) (upd H1 p o) := by
  have R := t.sr
  have sF : Sub F1 (upd F1 p o) := fun b u q => by
    rw [upd_ne fun e => by subst e; rw [R.sub _ _ q] at hp; cases hp]; exact q
  have sH : Sub H1 (upd H1 p o) := fun b u q => by rw [upd_ne (ne_of_none q hp)]; exact q
  have hp0 : H p = none := by
    by_cases q : H p = none
    · exact q
    · exact absurd hp (t.there p q)
  have nF : ∀ {a : Addr}, F1 a = none → H1 a ≠ none → upd F1 p o a = none := fun {a} q n => by
    have hne : a ≠ p := fun e => n (by rw [e]; exact hp)
    rw [upd_ne hne]; exact q
  refine ⟨⟨⟨fun b u q => ?_, fun j s q => ?_, R.dis, R.len⟩, t.fs.trans sF, fun b u q n => sH _ _ (t.keep b u q n), fun b q => ?_, fun b u q => ?_, t.own, t.nob, t.bor, t.fro, t.len⟩, t.dat, t.nom⟩
  · by_cases eb : b = p
    · subst eb; rw [upd_same] at q ⊢; exact q
    · rw [upd_ne eb] at q ⊢; exact R.sub b u q
  · have z := R.slot j s q
    cases s with
    | un => trivial
    | val d' => obtain ⟨v, q1, q2⟩ := z; exact ⟨v, q1, q2.mono sF⟩
    | fro d' => obtain ⟨v, q1, q2⟩ := z; exact ⟨v, q1, q2.mono sF⟩
    | own d' =>
      obtain ⟨b, q1, q2⟩ := z
      obtain ⟨u, hu⟩ := q2.there
      exact ⟨b, q1, q2.mono sF (nF q2.1 (by rw [hu]; simp)) fun _ z => sH _ _ z⟩
    | bor d' =>
      obtain ⟨b, q1, q2⟩ := z
      obtain ⟨u, hu⟩ := q2.there
      exact ⟨b, q1, q2.mono sF (nF q2.1 (by rw [hu]; simp)) fun _ z => sH _ _ z⟩
  · obtain ⟨u, hu⟩ := ne_none (t.there b q)
    rw [sH _ _ hu]; simp
  · by_cases eb : b = p
    · subst eb; exact .inr (.inl hp0)
    · rw [upd_ne eb] at q; exact t.new b u q
/-- a new thing, shared or not, as yet in nobody's hands -/
theorem TrE.newL {e1 : EV} {F1 H1 : Hp} (t : TrE C e F σ H e1 F1 H1) {p : Addr} {o : HO} (hp : H1 p = none) : TrE C e F σ H e1 F1 (upd H1 p o) := by
  have R := t.sr
  have sH : Sub H1 (upd H1 p o) := fun b u q => by rw [upd_ne (ne_of_none q hp)]; exact q
  refine ⟨⟨⟨fun b u q => sH _ _ (R.sub b u q), fun j s q => ?_, R.dis, R.len⟩, t.fs, fun b u q n => sH _ _ (t.keep b u q n), fun b q => ?_, t.new, t.own, t.nob, t.bor, t.fro, t.len⟩, t.dat, t.nom⟩
  · have z := R.slot j s q
    cases s with
    | un => trivial
    | val d' => exact z
    | fro d' => exact z
    | own d' =>
      obtain ⟨b, q1, q2⟩ := z
      exact ⟨b, q1, q2.mono (Sub.refl _) q2.1 fun _ z => sH _ _ z⟩
    | bor d' =>
      obtain ⟨b, q1, q2⟩ := z
      exact ⟨b, q1, q2.mono (Sub.refl _) q2.1 fun _ z => sH _ _ z⟩
  · obtain ⟨u, hu⟩ := ne_none (t.there b q)
    rw [sH _ _ hu]; simp
theorem own_there {e1 : EV} {F1 H1 : Hp} (R : SR C e1 F1 σ H1) {p : Addr} (hp : H1 p = none) : ¬ OwnA e1 σ p := fun q => by
  obtain ⟨_, o, h⟩ := R.ownNone q
  rw [hp] at h; cases h
theorem PostE.newTup {W : WX} {ds : List D} {vs : List V} {Q : VK} {p : Addr} (R : SR C e F σ H) (h : PostE C W e F σ H (.ok (.v (.tup ds)) e) Q) (r : RepL C F ds vs) (hp : H p = none) : Q (.ref p) (upd H p (.tup vs)) := by
  have t := (TrE.refl R).newT (o := .tup vs) hp
  refine h _ _ _ t ?_
  show Rep C _ (.tup ds) _
  rw [Rep]
  exact ⟨p, vs, rfl, .inl (.inl upd_same), r.mono t.fs⟩
theorem PostE.newLst {W : WX} {ds : List D} {vs : List V} {Q : VK} {p : Addr} (R : SR C e F σ H) (h : PostE C W e F σ H (.ok (.t (.lst ds)) e) Q) (r : RepL C F ds vs) (hp : H p = none) : Q (.ref p) (upd H p (.lst vs)) := by
  have t := (TrE.refl R).newL (o := .lst vs) hp
  refine h _ _ _ t ⟨p, rfl, ⟨?_, vs, upd_same, r⟩, hp, own_there R hp⟩
  cases q : F p with
  | none => rfl
  | some u => rw [R.sub p u q] at hp; cases hp
theorem PostE.newDk {W : WX} {ks : List Key} {ds : List D} {vs : List V} {Q : VK} {p : Addr} (R : SR C e F σ H) (h : PostE C W e F σ H (.ok (.t (.dk ks ds)) e) Q) (hl : ks.length = ds.length) (r : RepL C F ds vs) (hp : H p = none) : Q (.ref p) (upd H p (.dK (ks.zip vs))) := by
  have t := (TrE.refl R).newL (o := .dK (ks.zip vs)) hp
  refine h _ _ _ t ⟨p, rfl, ⟨?_, vs, upd_same, hl, r⟩, hp, own_there R hp⟩
  cases q : F p with
  | none => rfl
  | some u => rw [R.sub p u q] at hp; cases hp
end PL
end

section
namespace PL
open PySem PySem.Spec L2

theorem sizeL_eq : sizeL = sizeLine := by rw [sizeLine_eq]; rfl
/-- what is held: shared, or a thing of somebody's own -/
def CRp (C : G0) (F H : Hp) (d : D) (v : V) : Prop := Rep C F d v ∨ ∃ a, v = .ref a ∧ Mine C F H d a
section
variable {C : G0} {e e' : EV} {F F' H0 H H' : Hp} {σ : St} {r : RV} {v : V} {d : D}
theorem cont_crp (R : SR C e F σ H) (h : RVok C H0 F σ H e r v) (k : cont e r = some d) : CRp C F H d v := by
  cases r with
  | v d' => cases k; exact .inl h
  | t d' =>
    cases k
    obtain ⟨a, rfl, m, _⟩ := h
    exact .inr ⟨a, rfl, m⟩
  | h i =>
    obtain ⟨h1, s, h2, h3⟩ := h
    simp only [cont, h2, Option.bind_some] at k
    have q := R.slot i s h2
    rw [h1] at q
    cases s with
    | un => cases k
    | val d' => cases k; obtain ⟨v', e1, q⟩ := q; cases e1; exact .inl q
    | own d' => cases k; obtain ⟨v', e1, q⟩ := q; cases e1; exact .inr ⟨_, rfl, q⟩
    | bor d' => cases k; obtain ⟨v', e1, q⟩ := q; cases e1; exact .inr ⟨_, rfl, q⟩
    | fro d' => cases k; obtain ⟨v', e1, q⟩ := q; cases e1; exact .inl q
theorem CRp.rep (h : CRp C F H d v) (s : Sub F H) : Rep C H d v := by
  rcases h with h | ⟨a, rfl, m⟩
  · exact h.mono s
  · exact m.rep s
theorem CRp.flat (h : CRp C F H d v) (f : match d with
    | .lst _ => False
    | .dk _ _ => False
    | .dt _ _ => False
    | _ => True) : Rep C F d v := by
  rcases h with h | ⟨a, rfl, m⟩
  · exact h
  · obtain ⟨_, m⟩ := m
    cases d <;> first | exact m.elim | exact f.elim
theorem CRp.int {i : Int} (h : CRp C F H (.int i) v) : v = .int i := by have q := h.flat trivial; rw [Rep] at q; exact q
theorem CRp.bl {i : Bool} (h : CRp C F H (.bl i) v) : v = .bl i := by have q := h.flat trivial; rw [Rep] at q; exact q
theorem CRp.non (h : CRp C F H .non v) : v = .non := by have q := h.flat trivial; rw [Rep] at q; exact q
theorem CRp.str {x : Str} (h : CRp C F H (.str x) v) : v = .str x := by have q := h.flat trivial; rw [Rep] at q; exact q
theorem CRp.tup {xs : List D} (h : CRp C F H (.tup xs) v) : ∃ a vs, v = .ref a ∧ SqT C.K F a vs ∧ RepL C F xs vs := by have q := h.flat trivial; rw [Rep] at q; exact q
theorem CRp.scr {xs : List Int} (h : CRp C F H (.scr xs) v) : ∃ a, v = .ref a ∧ SqL C.K F a (xs.map V.int) := by have q := h.flat trivial; rw [Rep] at q; exact q
theorem CRp.lst {xs : List D} (h : CRp C F H (.lst xs) v) (s : Sub F H) : ∃ a vs, v = .ref a ∧ H a = some (.lst vs) ∧ RepL C F xs vs := by
  rcases h with h | ⟨a, rfl, _, vs, q, r⟩
  · rw [Rep] at h
    obtain ⟨a, vs, e, q, r⟩ := h
    exact ⟨a, vs, e, s _ _ q, r⟩
  · exact ⟨a, vs, rfl, q, r⟩
theorem CRp.dk {ks : List Key} {xs : List D} (h : CRp C F H (.dk ks xs) v) (s : Sub F H) : ∃ a vs, v = .ref a ∧ H a = some (.dK (ks.zip vs)) ∧ ks.length = xs.length ∧ RepL C F xs vs := by
  rcases h with h | ⟨a, rfl, _, vs, q, l, r⟩
  · rw [Rep] at h
    obtain ⟨a, vs, e, q, l, r⟩ := h
    exact ⟨a, vs, e, s _ _ q, l, r⟩
  · exact ⟨a, vs, rfl, q, l, r⟩
theorem CRp.dt {ks : List (List Key)} {xs : List D} (h : CRp C F H (.dt ks xs) v) (s : Sub F H) : ∃ a vs, v = .ref a ∧ H a = some (.dT (ks.zip vs)) ∧ ks.length = xs.length ∧ RepL C F xs vs := by
  rcases h with h | ⟨a, rfl, _, vs, q, l, r⟩
  · rw [Rep] at h
    obtain ⟨a, vs, e, q, l, r⟩ := h
    exact ⟨a, vs, e, s _ _ q, l, r⟩
  · exact ⟨a, vs, rfl, q, l, r⟩
theorem rep_int {i : Int} : Rep C F (.int i) (.int i) := by rw [Rep]
theorem rep_bl {i : Bool} : Rep C F (.bl i) (.bl i) := by rw [Rep]
theorem rep_non : Rep C F .non .non := by rw [Rep]
theorem rep_str {x : Str} : Rep C F (.str x) (.str x) := by rw [Rep]
end
theorem _root_.L2.PE.to {X : Cx} {x : Expr} {t t' : TE} (h : PE X x t) (k : ∀ σ H Q, t' σ H Q → t σ H Q) : PE X x t' := ⟨fun pins s σ H Q I q => h.run pins s σ H Q I (k σ H Q q)⟩
theorem _root_.L2.PT.to {X : Cx} {x : Expr} {t t' : TT} (h : PT X x t) (k : ∀ σ H Q, t' σ H Q → t σ H Q) : PT X x t' := ⟨fun pins s σ H Q I q => h.run pins s σ H Q I (k σ H Q q)⟩
theorem _root_.L2.PW.to {X : Cx} {x : Expr} {t t' : TT} (h : PW X x t) (k : ∀ σ H Q, t' σ H Q → t σ H Q) : PW X x t' := ⟨fun w pins s σ H Q I q => h.run w pins s σ H Q I (k σ H Q q)⟩
theorem _root_.L2.PA.to {X : Cx} {x : List Expr} {t t' : TA} (h : PA X x t) (k : ∀ σ H Q, t' σ H Q → t σ H Q) : PA X x t' := ⟨fun p pins s σ H Q I q => h.run p pins s σ H Q I (k σ H Q q)⟩

/-! ## the operations -/
/-- an operation's outcome, by its operands -/
def OpP (C : G0) (W : WX) (o : Option RV) (ds : List D) (vs : List V) (H : Hp) (Q : VK) : Prop :=
  ∃ e F σ, SR C e F σ H ∧ (∀ (i : Nat) d v, ds[i]? = some d → vs[i]? = some v → CRp C F H d v) ∧ PostE C W e F σ H (opt o fun r => .ok r e) Q
section
variable {X : Cx} {C : G0} {W : WX}
theorem OpP.v {ds : List D} {vs : List V} {H : Hp} {Q : VK} {d : D} {v : V} (h : OpP C W (some (.v d)) ds vs H Q) (r : ∀ F, Sub F H → (∀ (i : Nat) d v, ds[i]? = some d → vs[i]? = some v → CRp C F H d v) → Rep C F d v) : Q v H := by
  obtain ⟨e, F, σ, R, q, h⟩ := h
  exact h.val R (r F R.sub q)
theorem OpP.tup {ds : List D} {vs : List V} {H : Hp} {Q : VK} {xs : List D} {ws : List V} (h : OpP C W (some (.v (.tup xs))) ds vs H Q) (r : ∀ F, Sub F H → (∀ (i : Nat) d v, ds[i]? = some d → vs[i]? = some v → CRp C F H d v) → RepL C F xs ws) :
    ∀ p, H p = none → Q (.ref p) (upd H p (.tup ws)) := fun p hp => by
  obtain ⟨e, F, σ, R, q, h⟩ := h
  exact h.newTup R (r F R.sub q) hp
theorem OpP.lst {ds : List D} {vs : List V} {H : Hp} {Q : VK} {xs : List D} {ws : List V} (h : OpP C W (some (.t (.lst xs))) ds vs H Q) (r : ∀ F, Sub F H → (∀ (i : Nat) d v, ds[i]? = some d → vs[i]? = some v → CRp C F H d v) → RepL C F xs ws) :
    ∀ p, H p = none → Q (.ref p) (upd H p (.lst ws)) := fun p hp => by
  obtain ⟨e, F, σ, R, q, h⟩ := h
  exact h.newLst R (r F R.sub q) hp
/-- what the operands are, ahead -/
theorem OpP.at {o : Option RV} {ds : List D} {vs : List V} {H : Hp} {Q : VK} (h : OpP C W o ds vs H Q) : ∃ F, Sub F H ∧ (∀ (i : Nat) d v, ds[i]? = some d → vs[i]? = some v → CRp C F H d v) ∧ ∃ r, o = some r := by
  obtain ⟨e, F, σ, R, q, h⟩ := h
  obtain ⟨r, e1, _⟩ := h.opt
  exact ⟨F, R.sub, q, r, e1⟩
/-- one heap, one shape: the items of two views agree -/
theorem repL_of_rd {F H : Hp} {a : Addr} {vs ws : List V} (h : H a = some (.lst vs)) (k : H a = some (.lst ws)) : vs = ws := by rw [h] at k; cases k; rfl
theorem op_bin (hK : X.K = C.K) (o : Bop) : OpR X (binaryOp (opOf o)) (fun x y H Q => ∃ d1 d2, OpP C W (binop o d1 d2) [d1, d2] [x, y] H Q) := by
  intro pins s σ H x y v u Q I rx ry h
  obtain ⟨d1, d2, h⟩ := h
  obtain ⟨F, sF, hq, r, er⟩ := h.at
  have q1 := hq 0 d1 x rfl rfl
  have q2 := hq 1 d2 y rfl rfl
  unfold binop at er
  split at er
  · cases er; cases q1.int; cases q2.int
    exact op_add pins s σ H _ _ v u Q I rx ry ⟨_, _, rfl, rfl, h.v fun _ _ _ => rep_int⟩
  · split at er <;> cases er
    rename_i hz
    cases q1.str; cases q2.str
    simp only [binop, if_pos hz] at h
    exact op_add_str pins s σ H _ _ v u Q I rx ry ⟨_, _, rfl, rfl, by rw [← sizeL_eq]; exact hz, h.v fun _ _ _ => rep_str⟩
  · split at er <;> cases er
    rename_i hz
    simp only [binop, if_pos hz] at h
    obtain ⟨a, vs, rfl, ha, ra⟩ := q1.lst sF
    obtain ⟨b, ws, rfl, hb, rb⟩ := q2.lst sF
    refine op_cat pins s σ H _ _ v u Q I rx ry ⟨a, b, vs, ws, rfl, rfl, ha, hb, by rw [← sizeL_eq, ← ra.len, ← rb.len]; exact hz, h.lst fun F2 s2 k => ?_⟩
    obtain ⟨a2, vs2, e1, ha2, ra2⟩ := (k 0 _ _ rfl rfl).lst s2
    obtain ⟨b2, ws2, e2, hb2, rb2⟩ := (k 1 _ _ rfl rfl).lst s2
    cases e1; cases e2
    rw [ha] at ha2; cases ha2
    rw [hb] at hb2; cases hb2
    exact ra2.append rb2
  · split at er <;> cases er
    rename_i hz
    simp only [binop, if_pos hz] at h
    obtain ⟨e, F2, σ2, R2, k, h⟩ := h
    obtain ⟨a, vs, rfl, ha, ra⟩ := (k 0 _ _ rfl rfl).tup
    obtain ⟨b, ws, rfl, hb, rb⟩ := (k 1 _ _ rfl rfl).tup
    refine op_catA pins s σ H _ _ v u Q I rx ry ⟨a, b, vs, ws, rfl, rfl, by rw [hK]; exact R2.sub.sqT ha, by rw [hK]; exact R2.sub.sqT hb, by rw [← sizeL_eq, ← ra.len, ← rb.len]; exact hz, fun z => ?_, fun _ z => ?_, fun _ _ p hp => ?_⟩
    · refine h.val R2 ?_
      subst z
      have : ∀ xs : List D, RepL C F2 xs [] → xs = [] := fun xs r => by cases xs with
        | nil => rfl
        | cons d ds => have := r.len; simp at this
      rw [this _ ra, List.nil_append, Rep]
      exact ⟨b, ws, rfl, hb, rb⟩
    · refine h.val R2 ?_
      subst z
      have : ∀ xs : List D, RepL C F2 xs [] → xs = [] := fun xs r => by cases xs with
        | nil => rfl
        | cons d ds => have := r.len; simp at this
      rw [this _ rb, List.append_nil, Rep]
      exact ⟨a, vs, rfl, ha, ra⟩
    · exact h.newTup R2 (ra.append rb) hp
  · cases er; cases q1.int; cases q2.int
    exact op_sub pins s σ H _ _ v u Q I rx ry ⟨_, _, rfl, rfl, h.v fun _ _ _ => rep_int⟩
  · split at er <;> cases er
    rename_i hz
    cases q1.int; cases q2.int
    simp only [binop, if_pos hz] at h
    unfold mulOk at hz
    rw [Bool.or_eq_true, Bool.or_eq_true] at hz
    rcases hz with (hz | hz) | hz
    · have hz' := of_decide_eq_true hz
      exact op_mul pins s σ H _ _ v u Q I rx ry ⟨_, _, rfl, rfl, .inl (by omega), h.v fun _ _ _ => rep_int⟩
    · have hz' := of_decide_eq_true hz
      exact op_mul pins s σ H _ _ v u Q I rx ry ⟨_, _, rfl, rfl, .inr (by omega), h.v fun _ _ _ => rep_int⟩
    · have hz' := of_decide_eq_true hz
      exact op_mulW pins s σ H _ _ v u Q I rx ry ⟨_, _, rfl, rfl, hz', h.v fun _ _ _ => rep_int⟩
  · split at er <;> cases er
    rename_i hz
    simp only [binop, if_pos hz] at h
    rw [Bool.and_eq_true, Bool.and_eq_true] at hz
    obtain ⟨a, vs, rfl, ha, ra⟩ := q1.lst sF
    cases q2.int
    refine op_rep pins s σ H _ _ v u Q I rx ry ⟨a, _, vs, rfl, rfl, ha, of_decide_eq_true hz.1.1, of_decide_eq_true hz.1.2, by rw [← sizeL_eq, ← ra.len]; exact of_decide_eq_true hz.2, h.lst fun F2 s2 k => ?_⟩
    obtain ⟨a2, vs2, e1, ha2, ra2⟩ := (k 0 _ _ rfl rfl).lst s2
    cases e1
    rw [ha] at ha2; cases ha2
    exact ra2.rep _
  · rename_i i0 j0
    by_cases hz : divOk j0 = true
    · rw [if_pos hz] at er
      cases er
      cases q1.int; cases q2.int
      simp only [binop, if_pos hz] at h
      unfold divOk at hz
      rw [Bool.and_eq_true] at hz
      exact op_fdivW pins s σ H _ _ v u Q I rx ry ⟨_, _, rfl, rfl, ⟨of_decide_eq_true hz.1, of_decide_eq_true hz.2⟩, h.v fun _ _ _ => rep_int⟩
    · rw [if_neg hz] at er
      split at er <;> cases er
      rename_i hn
      cases q1.int; cases q2.int
      simp only [binop, if_neg hz, if_pos hn] at h
      rw [Bool.and_eq_true] at hn
      exact op_fdivN pins s σ H _ _ v u Q I rx ry ⟨_, _, rfl, rfl, ⟨of_decide_eq_true hn.1, of_decide_eq_true hn.2⟩, h.v fun _ _ _ => rep_int⟩
  · split at er <;> cases er
    rename_i hz
    cases q1.int; cases q2.int
    simp only [binop, if_pos hz] at h
    exact op_mod pins s σ H _ _ v u Q I rx ry ⟨_, _, rfl, rfl, hz, h.v fun _ _ _ => rep_int⟩
  · split at er <;> cases er
    rename_i hz
    cases q1.int; cases q2.int
    simp only [binop, if_pos hz] at h
    unfold powOk at hz
    rw [Bool.and_eq_true, Bool.and_eq_true] at hz
    exact op_pow pins s σ H _ _ v u Q I rx ry ⟨_, _, rfl, rfl, ⟨of_decide_eq_true hz.1.1, of_decide_eq_true hz.1.2, of_decide_eq_true hz.2⟩, h.v fun _ _ _ => rep_int⟩
  · split at er <;> cases er
    rename_i hz
    cases q1.int; cases q2.int
    simp only [binop, if_pos hz] at h
    unfold powOk at hz
    rw [Bool.and_eq_true, Bool.and_eq_true] at hz
    exact op_shl pins s σ H _ _ v u Q I rx ry ⟨_, _, rfl, rfl, ⟨of_decide_eq_true hz.1.1, of_decide_eq_true hz.1.2, of_decide_eq_true hz.2⟩, h.v fun _ _ _ => rep_int⟩
  · cases er
end
end PL
end

section
namespace PL
open PySem PySem.Spec L2

section
variable {X : Cx} {C : G0} {H F : Hp}
mutual
theorem rep_dp : ∀ (d : D) (v : V), Rep C H d v → PyData.canLay0 (toPy d) = true → Dp C.K H v (toPy d)
  | .non, v, h, _ => by rw [Rep] at h; subst h; exact .non
  | .bl b, v, h, _ => by rw [Rep] at h; subst h; exact .bl b
  | .int b, v, h, _ => by rw [Rep] at h; subst h; exact .int b
  | .str b, v, h, _ => by rw [Rep] at h; subst h; exact .str b
  | .tup ds, v, h, k => by
    rw [Rep] at h
    obtain ⟨a, vs, rfl, h1, h2⟩ := h
    rw [toPy, PyData.canLay0] at k
    exact .tup h1 (rep_dps ds vs h2 k)
  | .lst ds, v, h, k => by
    rw [Rep] at h
    obtain ⟨a, vs, rfl, h1, h2⟩ := h
    rw [toPy, PyData.canLay0] at k
    exact .lst (.inl (.inl h1)) (rep_dps ds vs h2 k)
  | .scr _, _, _, k => by simp [toPy, PyData.canLay0] at k
  | .dk _ _, _, _, k => by simp [toPy, PyData.canLay0] at k
  | .dt _ _, _, _, k => by simp [toPy, PyData.canLay0] at k
  | .fn _, _, _, k => by simp [toPy, PyData.canLay0] at k
  | .exn _ _, _, _, k => by simp [toPy, PyData.canLay0] at k
theorem rep_dps : ∀ (ds : List D) (vs : List V), RepL C H ds vs → PyData.canLayAll0 (toPys ds) = true → DpAll C.K H vs (toPys ds)
  | [], vs, h, _ => by rw [RepL] at h; subst h; exact .nil
  | d :: ds, vs, h, k => by
    rw [RepL] at h
    obtain ⟨v, r, rfl, h1, h2⟩ := h
    rw [toPys, PyData.canLayAll0, Bool.and_eq_true] at k
    exact .cons (rep_dp d v h1 k.1) (rep_dps ds r h2 k.2)
end
def toV : D → V
  | .bl b => .bl b
  | .int b => .int b
  | .str b => .str b
  | _ => .non
theorem rep_flat {d : D} {v : V} (h : Rep C H d v) (f : flatD d = true) : v = toV d ∧ flatV v = true := by
  cases d <;> first | (rw [Rep] at h; subst h; exact ⟨rfl, rfl⟩) | cases f
theorem eqV_toV {a b : D} (fa : flatD a = true) (fb : flatD b = true) : eqV (toV a) (toV b) = eqF a b := by
  cases a <;> cases b <;> first | exact absurd (show false = true from fa) Bool.false_ne_true | exact absurd (show false = true from fb) Bool.false_ne_true | rfl
theorem repL_flat : ∀ {ds : List D} {vs : List V}, RepL C H ds vs → ds.all flatD = true → vs = ds.map toV ∧ vs.all flatV = true
  | [], vs, h, _ => by rw [RepL] at h; subst h; exact ⟨rfl, rfl⟩
  | d :: ds, vs, h, f => by
    rw [RepL] at h
    obtain ⟨v, r, rfl, h1, h2⟩ := h
    rw [List.all_cons, Bool.and_eq_true] at f
    obtain ⟨e1, e2⟩ := rep_flat h1 f.1
    obtain ⟨e3, e4⟩ := repL_flat h2 f.2
    exact ⟨by rw [e1, e3]; rfl, by rw [List.all_cons, e2, e4]; rfl⟩
theorem inV_of {x : D} (fx : flatD x = true) : ∀ {ds : List D}, ds.all flatD = true → inV (toV x) (ds.map toV) = ds.any fun y => eqF y x
  | [], _ => rfl
  | d :: ds, f => by
    rw [List.all_cons, Bool.and_eq_true] at f
    have ih := inV_of fx f.2
    unfold inV at ih ⊢
    rw [List.map_cons, List.any_cons, List.any_cons, eqV_toV f.1 fx, ih]
theorem dlook_val {κ : Type} [DecidableEq κ] {k : κ} : ∀ {ks : List κ} {ds : List D} {vs : List V}, ks.length = ds.length → RepL C H ds vs → (valV (ks.zip vs) k).isSome = (dlook ks ds k).isSome ∧ ∀ d, dlook ks ds k = some d → ∃ v, valV (ks.zip vs) k = some v ∧ Rep C H d v
  | [], [], vs, _, h => by rw [RepL] at h; subst h; exact ⟨rfl, fun d e => by cases e⟩
  | j :: ks, d :: ds, vs, l, h => by
    rw [RepL] at h
    obtain ⟨v, r, rfl, h1, h2⟩ := h
    rw [List.zip_cons_cons]
    by_cases e : j = k
    · rw [valV_pos (p := (j, v)) e]
      simp only [dlook, if_pos e]
      exact ⟨rfl, fun d' q => by cases q; exact ⟨v, rfl, h1⟩⟩
    · rw [valV_neg (p := (j, v)) e]
      simp only [dlook, if_neg e]
      exact dlook_val (by simpa using l) h2
theorem keyOf_V {d : D} {k : Key} {v : V} (h : Rep C H d v) (e : keyOf d = some k) : v = kV k := by
  cases d <;> simp only [keyOf] at e <;> first | (cases e; rw [Rep] at h; subst h; rfl) | cases e
theorem non_rep {d : D} {v : V} (h : Rep C H d v) : decide (v = .non) = isNon d := by
  cases d <;> rw [Rep] at h
  case non => subst h; rfl
  case bl => subst h; rfl
  case int => subst h; rfl
  case str => subst h; rfl
  case tup => obtain ⟨a, vs, rfl, _⟩ := h; rfl
  case lst => obtain ⟨a, vs, rfl, _⟩ := h; rfl
  case scr => obtain ⟨a, rfl, _⟩ := h; rfl
  case dk => obtain ⟨a, vs, rfl, _⟩ := h; rfl
  case dt => obtain ⟨a, vs, rfl, _⟩ := h; rfl
  case fn => subst h; rfl
  case exn => obtain ⟨a, rfl⟩ := h; rfl
def rCmp (C : G0) (o : CmpOp) : R2 := fun x y H Q => ∃ d1 d2 b, cmpop o d1 d2 = some b ∧ Rep C H d1 x ∧ Rep C H d2 y ∧ Q (.bl b) H
theorem op_cmp (hK : X.K = C.K) (hu : X.A.units + 64 < cLine) (o : CmpOp) : OpR X (compareOp o) (rCmp C o) := by
  intro pins s σ H x y v u Q I rx ry h
  obtain ⟨d1, d2, b, er, q1, q2, q⟩ := h
  have hu1 : X.A.units + 1 < cLine := by omega
  unfold cmpop at er
  split at er
  · unfold eqD at er
    split at er <;> cases er
    rename_i hz
    rw [Bool.and_eq_true] at hz
    refine op_eqD hu pins s σ H _ _ v u Q I rx ry ⟨_, _, ?_, ?_, hz.1, hz.2, q⟩
    · rw [hK]; exact rep_dp _ _ q1 (SeqAt.canLay_of_shaped hz.1)
    · rw [hK]; exact rep_dp _ _ q2 (SeqAt.canLay_of_shaped hz.2)
  · unfold eqD at er
    split at er <;> cases er
    rename_i hz
    rw [Bool.and_eq_true] at hz
    refine op_neD hu pins s σ H _ _ v u Q I rx ry ⟨_, _, ?_, ?_, hz.1, hz.2, q⟩
    · rw [hK]; exact rep_dp _ _ q1 (SeqAt.canLay_of_shaped hz.1)
    · rw [hK]; exact rep_dp _ _ q2 (SeqAt.canLay_of_shaped hz.2)
  · cases er; rw [Rep] at q1 q2; subst q1 q2
    exact op_lt pins s σ H _ _ v u Q I rx ry ⟨_, _, rfl, rfl, q⟩
  · cases er; rw [Rep] at q1 q2; subst q1 q2
    exact op_le pins s σ H _ _ v u Q I rx ry ⟨_, _, rfl, rfl, q⟩
  · cases er; rw [Rep] at q1 q2; subst q1 q2
    exact op_gt pins s σ H _ _ v u Q I rx ry ⟨_, _, rfl, rfl, q⟩
  · cases er; rw [Rep] at q1 q2; subst q1 q2
    exact op_ge pins s σ H _ _ v u Q I rx ry ⟨_, _, rfl, rfl, q⟩
  · cases er; rw [Rep] at q2; subst q2
    exact op_isN pins s σ H _ _ v u Q I rx ry ⟨rfl, by rw [non_rep q1]; exact q⟩
  · cases er; rw [Rep] at q2; subst q2
    exact op_notN pins s σ H _ _ v u Q I rx ry ⟨rfl, by rw [non_rep q1]; exact q⟩
  · cases er; rw [Rep] at q1 q2; subst q1 q2
    exact op_isBl pins s σ H _ _ v u Q I rx ry ⟨_, _, rfl, rfl, q⟩
  · cases er; rw [Rep] at q1 q2; subst q1 q2
    exact op_notBl pins s σ H _ _ v u Q I rx ry ⟨_, _, rfl, rfl, q⟩
  · unfold inD at er
    split at er <;> cases er
    rename_i hz
    rw [Bool.and_eq_true] at hz
    rw [Rep] at q2
    obtain ⟨a, vs, rfl, h1, h2⟩ := q2
    obtain ⟨e1, e2⟩ := rep_flat q1 hz.1
    obtain ⟨e3, e4⟩ := repL_flat h2 hz.2
    refine op_in_seq pins s σ H _ _ v u Q I rx ry ⟨a, vs, rfl, .inr (by rw [hK]; exact h1), e2, e4, ?_⟩
    rw [e1, e3, if_neg Bool.false_ne_true, inV_of hz.1 hz.2]; exact q
  · unfold inD at er
    split at er <;> cases er
    rename_i hz
    rw [Bool.and_eq_true] at hz
    rw [Rep] at q2
    obtain ⟨a, vs, rfl, h1, h2⟩ := q2
    obtain ⟨e1, e2⟩ := rep_flat q1 hz.1
    obtain ⟨e3, e4⟩ := repL_flat h2 hz.2
    refine op_in_seq pins s σ H _ _ v u Q I rx ry ⟨a, vs, rfl, .inl (.inl (.inl h1)), e2, e4, ?_⟩
    rw [e1, e3, if_neg Bool.false_ne_true, inV_of hz.1 hz.2]; exact q
  · obtain ⟨k, ek, er⟩ := Option.map_eq_some_iff.mp er
    cases er
    rw [Rep] at q2
    obtain ⟨a, vs, rfl, h1, l, h2⟩ := q2
    obtain rfl : u = Value.ref a := ry
    have hk := keyOf_V q1 ek
    obtain ⟨e1, _⟩ := dlook_val (k := k) l h2
    exact d_in hu1 I (.inl ⟨_, k, .inl h1, hk, rfl⟩) rx fun s' I' => ⟨.bl _, H, I', rfl, by rw [e1]; exact q⟩
  · obtain ⟨b', eb, er⟩ := Option.map_eq_some_iff.mp er
    cases er
    unfold inD at eb
    split at eb <;> cases eb
    rename_i hz
    rw [Bool.and_eq_true] at hz
    rw [Rep] at q2
    obtain ⟨a, vs, rfl, h1, h2⟩ := q2
    obtain ⟨e1, e2⟩ := rep_flat q1 hz.1
    obtain ⟨e3, e4⟩ := repL_flat h2 hz.2
    refine op_notIn_seq pins s σ H _ _ v u Q I rx ry ⟨a, vs, rfl, .inr (by rw [hK]; exact h1), e2, e4, ?_⟩
    rw [e1, e3, if_pos rfl, inV_of hz.1 hz.2]; exact q
  · obtain ⟨b', eb, er⟩ := Option.map_eq_some_iff.mp er
    cases er
    unfold inD at eb
    split at eb <;> cases eb
    rename_i hz
    rw [Bool.and_eq_true] at hz
    rw [Rep] at q2
    obtain ⟨a, vs, rfl, h1, h2⟩ := q2
    obtain ⟨e1, e2⟩ := rep_flat q1 hz.1
    obtain ⟨e3, e4⟩ := repL_flat h2 hz.2
    refine op_notIn_seq pins s σ H _ _ v u Q I rx ry ⟨a, vs, rfl, .inl (.inl (.inl h1)), e2, e4, ?_⟩
    rw [e1, e3, if_pos rfl, inV_of hz.1 hz.2]; exact q
  · obtain ⟨k, ek, er⟩ := Option.map_eq_some_iff.mp er
    cases er
    rw [Rep] at q2
    obtain ⟨a, vs, rfl, h1, l, h2⟩ := q2
    obtain rfl : u = Value.ref a := ry
    have hk := keyOf_V q1 ek
    obtain ⟨e1, _⟩ := dlook_val (k := k) l h2
    exact d_notIn hu1 I (.inl ⟨_, k, .inl h1, hk, rfl⟩) rx fun s' I' => ⟨.bl _, H, I', rfl, by rw [e1]; exact q⟩
  · cases er
/-- truth -/
theorem tru_rep {d : D} {v : V} {b : Bool} (h : Rep C H d v) (t : truth d = some b) : (∃ ks xs, d = .dk ks xs ∧ ∃ a vs, v = .ref a ∧ H a = some (.dK (ks.zip vs)) ∧ b = !(ks.zip vs).isEmpty) ∨ TruV C.K v H b := by
  cases d <;> simp only [truth] at t <;> rw [Rep] at h
  case non => cases t; subst h; exact .inr rfl
  case bl => cases t; subst h; exact .inr rfl
  case int => cases t; subst h; exact .inr rfl
  case str =>
    split at t <;> cases t
    rename_i hz
    subst h; exact .inr ⟨by rw [← sizeL_eq]; exact hz, rfl⟩
  case tup =>
    obtain ⟨a, vs, rfl, h1, h2⟩ := h
    cases t
    refine .inr (.inr (.inl ⟨vs, h1, ?_⟩))
    have := h2.len
    cases vs <;> cases ‹List D› <;> simp_all
  case lst =>
    obtain ⟨a, vs, rfl, h1, h2⟩ := h
    cases t
    refine .inr (.inl ⟨vs, .inl (.inl h1), ?_⟩)
    have := h2.len
    cases vs <;> cases ‹List D› <;> simp_all
  case scr ns =>
    obtain ⟨a, rfl, h1⟩ := h
    cases t
    refine .inr (.inl ⟨_, h1, ?_⟩)
    cases ns <;> simp
  case dk ks ds =>
    obtain ⟨a, vs, rfl, h1, l, h2⟩ := h
    cases t
    refine .inl ⟨ks, ds, rfl, a, vs, rfl, h1, ?_⟩
    have := h2.len
    cases vs <;> cases ks <;> simp_all
  all_goals cases t
theorem tru_d (hK : X.K = C.K) : TruR X (fun x H Q => ∃ d b, truth d = some b ∧ Rep C H d x ∧ Q b H) := by
  intro pins s σ H x v Q I rx h
  obtain ⟨d, b, t, r, q⟩ := h
  rcases tru_rep r t with ⟨ks, xs, rfl, a, vs, rfl, hd, eb⟩ | h
  · cases rx
    obtain ⟨hz, hS, vs', r', m⟩ := I.hok a _ hd
    have hlen := Paired.length r'
    have hl := line63
    subst eb
    exact wpAny_truthy_dict hS m (by omega) ⟨H, I.tok _, by rw [isEmpty_kv r']; exact q⟩
  · exact tru_ok pins s σ H x v Q I rx ⟨b, by rw [hK]; exact h, q⟩
end
end PL
end

section
namespace PL
open PySem PySem.Spec L2

/-! ## rows of whole numbers: the least, sets of them -/
def pyR (l : List Int) : PyData := .tuple (l.map PyData.int)
theorem lt_pyR (a b : List Int) : PySem.W.dataLt (pyR a) (pyR b) = decide (a < b) := by
  unfold pyR
  rw [PySem.W.dataLt_tuple]
  exact PySem.W.dataLt_ints a b
theorem pyR_inj {a b : List Int} (h : pyR a = pyR b) : a = b := by
  unfold pyR at h
  injection h with h
  induction a generalizing b with
  | nil => cases b <;> first | rfl | cases h
  | cons x a ih =>
    cases b with
    | nil => cases h
    | cons y b =>
      rw [List.map_cons, List.map_cons] at h
      injection h with h1 h2
      injection h1 with h1
      rw [h1, ih h2]
theorem alike_pyR (a b : List Int) : PySem.W.alike (pyR a) (pyR b) = true := by
  unfold pyR
  rw [PySem.W.alike]
  exact PySem.W.alike_ints a b
theorem depth_pyR (a : List Int) : (pyR a).depth = 1 := by
  unfold pyR
  rw [PyData.depth, PySem.W.depth_ints]
theorem depths_pyR : ∀ ls : List (List Int), PyData.depthAll (ls.map pyR) ≤ 1
  | [] => by simp [PyData.depthAll]
  | a :: ls => by
    have := depths_pyR ls
    rw [List.map_cons, PyData.depthAll, depth_pyR]
    omega
theorem min_pyR (x : List Int) : ∀ (ls : List (List Int)), PySem.W.minD (pyR x) (ls.map pyR) = pyR (tmin (x :: ls)) := by
  intro ls
  unfold PySem.W.minD tmin
  induction ls generalizing x with
  | nil => rfl
  | cons y ls ih =>
    have ih : ∀ x, List.foldl (fun a y => if PySem.W.dataLt y a = true then y else a) (pyR x) (ls.map pyR) = pyR (ls.foldl (fun a y => if y < a then y else a) x) := ih
    show List.foldl (fun a y => if PySem.W.dataLt y a = true then y else a) (pyR x) ((y :: ls).map pyR) = pyR ((y :: ls).foldl (fun a y => if y < a then y else a) x)
    rw [List.map_cons, List.foldl_cons, List.foldl_cons, lt_pyR, ← ih]
    by_cases h : y < x
    · rw [if_pos h, decide_eq_true h]; rfl
    · rw [if_neg h, decide_eq_false h]; rfl
section
variable {X : Cx}
theorem readsAll_nth {h : Heap} : ∀ {us : List Value} {ds : List PyData} {as : List Addr}, ReadsAll h us ds as → ∀ (i : Nat) (u : Value), us[i]? = some u → ∃ d bs, ds[i]? = some d ∧ Reads h u d bs
  | _, _, _, .nil, i, u, e => by simp at e
  | _, _, _, .cons r rs, 0, u, e => by
    rw [List.getElem?_cons_zero] at e
    cases e
    exact ⟨_, _, rfl, r⟩
  | _, _, _, .cons r rs, i + 1, u, e => by
    rw [List.getElem?_cons_succ] at e
    exact readsAll_nth rs i u e
theorem canLay_pyR (l : List Int) : (pyR l).canLay0 = true := by
  unfold pyR
  rw [PyData.canLay0]
  induction l with
  | nil => rfl
  | cons x l ih => rw [List.map_cons, PyData.canLayAll0, ih]; rfl
/-- min(xs), rows of whole numbers -/
theorem cr_minT (hc : X.calm = true) (hu : X.A.units + 64 < cLine) : CallR X (.builtin "min") (fun vs H Q => ∃ (a : Addr) (xs : List V) (ls : List (List Int)), vs = [V.ref a] ∧ SqL X.K H a xs ∧ ls ≠ [] ∧ DpAll X.K H xs (ls.map pyR) ∧
    ∀ (i : Nat) (v : V), xs[i]? = some v → ls[i]? = some (tmin ls) → Q v H) := by
  intro pins s σ H vs us Q I r h
  obtain ⟨a, xs, ls, rfl, hs, hne, hd, q⟩ := h
  obtain ⟨its, rv, pl, _⟩ := I.list hs
  rw [Vals.ref1 r]
  obtain ⟨as, ra⟩ := Dp.readsAll I _ _ _ hd rv
  cases ls with
  | nil => exact absurd rfl hne
  | cons x ls =>
    have hdep := depths_pyR (x :: ls)
    refine PySem.W.min_list_data (x := pyR x) (xs := ls.map pyR) (I.ok.hd hc) pl.isList (show ReadsAll s.heap its.toArray.toList _ as from ra) ⟨fun u hu w hw => ?_, fun u hu => ?_⟩ ?_ fun i v h' tk bs hi rd k => ?_
    · obtain ⟨u', _, rfl⟩ := List.mem_map.mp (show u ∈ (x :: ls).map pyR from hu)
      obtain ⟨w', _, rfl⟩ := List.mem_map.mp (show w ∈ (x :: ls).map pyR from hw)
      exact alike_pyR _ _
    · obtain ⟨u', _, rfl⟩ := List.mem_map.mp (show u ∈ (x :: ls).map pyR from hu)
      simp [pyR]
    · have : PyData.depthAll (pyR x :: ls.map pyR) ≤ 1 := hdep
      omega
    · have hi : its[i]? = some v := by simpa using hi
      obtain ⟨d, ds, e1, e2⟩ := readsAll_nth ra i v hi
      obtain ⟨l, e3, rfl⟩ : ∃ l, (x :: ls)[i]? = some l ∧ pyR l = d := by
        rw [List.getElem?_map] at e1
        exact Option.map_eq_some_iff.mp e1
      have e4 : pyR l = PySem.W.minD (pyR x) (ls.map pyR) := (PySem.Reads.unique (PySem.W.reads_keeps k e2) _ _ rd).1
      rw [min_pyR] at e4
      obtain ⟨y, hy, ry⟩ : ∃ y, xs[i]? = some y ∧ RelV y v := by
        have hlt : i < its.length := (List.getElem?_eq_some_iff.mp hi).1
        have hl : i < xs.length := by rw [rv.length]; exact hlt
        exact ⟨xs[i], List.getElem?_eq_getElem hl, by
          have := rv.get (List.getElem?_eq_getElem hl) 
          obtain ⟨w, w1, w2⟩ := this
          rw [hi] at w1; cases w1; exact w2⟩
      exact ⟨y, H, I.kept k, ry, q i y hy (by rw [e3, pyR_inj e4])⟩
/-- len(a set of rows) -/
theorem cr_lenT : CallR X (.builtin "len") (fun vs H Q => ∃ (a : Addr) (L : List (Addr × List Int)), vs = [V.ref a] ∧ H a = some (SetTO X.prog X.w a L) ∧ (∀ p ∈ L, SqT X.K H p.1 (p.2.map V.int)) ∧
    ((L.map (·.2)).Nodup → Q (.int L.length) H)) := by
  intro pins s σ H vs us Q I r h
  obtain ⟨a, L, rfl, ha, hk, q⟩ := h
  rw [Vals.ref1 r]
  have st : SetT0 X.prog X.w s.heap a L := (I.hok a _ ha).1
  obtain ⟨rows, ep, tab, R⟩ := st.full (fun p m => I.isT (hk p m))
  obtain ⟨ob, e1, e2, e3⟩ := R.ob
  have z1 := R.size
  have z2 := R.few
  exact call_len_set e1 e2 e3 R.fits (by rw [z1]; omega) ⟨.int _, H, I.tok _, ⟨_, by rw [z1]⟩, q R.nd⟩
theorem one_row {k : List Int} : ∀ {L : List (Addr × List Int)}, L ≠ [] → (∀ p ∈ L, p.2 = k) → (L.map (·.2)).Nodup → ∃ t, L = [(t, k)]
  | [], h, _, _ => absurd rfl h
  | [(t, k')], _, h, _ => ⟨t, by have : k' = k := h (t, k') (by simp); rw [this]⟩
  | p :: p' :: r, _, h, nd => by
    have e1 := h p (by simp)
    have e2 := h p' (by simp)
    rw [List.map_cons, List.map_cons, List.nodup_cons, e1, e2] at nd
    exact absurd (List.mem_cons_self) nd.1
open PyProof.Rows in
/-- sorted(a set of one row) -/
theorem cr_sorted1 (hc : X.calm = true) : CallR X (.builtin "sorted") (fun vs H Q => ∃ (a : Addr) (L : List (Addr × List Int)) (k : List Int), vs = [V.ref a] ∧ H a = some (SetTO X.prog X.w a L) ∧ L ≠ [] ∧ (∀ p ∈ L, p.2 = k ∧ SqT X.K H p.1 (p.2.map V.int)) ∧
    ∀ t p, (t, k) ∈ L → H p = none → Q (.ref p) (upd H p (.lst [V.ref t]))) := by
  intro pins s σ H vs us Q I r h
  obtain ⟨a, L, k, rfl, ha, hne, hL, q0⟩ := h
  rw [Vals.ref1 r]
  have st : SetT0 X.prog X.w s.heap a L := (I.hok a _ ha).1
  obtain ⟨rows, ep, tab, R⟩ := st.full (fun p m => I.isT (hL p m).2)
  obtain ⟨t, eL⟩ := one_row hne (fun p m => (hL p m).1) R.nd
  have q := fun p => q0 t p (by rw [eL]; simp)
  obtain ⟨ob, e1, e2, e3⟩ := R.ob
  have z1 := R.size
  have z2 := R.few
  refine Calls.call_function_entry kind_sorted plain_sorted entry_sorted (args_sorted1 (Value.ref a)) ?_
  unfold Builtin.«sorted»
  refine wpAny_bind (m := checkCount "sorted" 1 1 (_)) (wpAny_pure ?_)
  refine wpAny_bind (collect_set (A := X.A.in1) (I.ok.hd hc) ⟨ob, e1, e2.1, e3⟩ R.fits (by unfold scanBound; omega) R.tab.ris R.led fun sA vs kA zA gA oA pm => ?_)
  have hes : rows.toList.map (·.2) = [Value.ref t] := by
    rw [R.rows, eL]; rfl
  rw [hes] at pm
  have hvs := List.perm_singleton.mp pm
  subst hvs
  refine wpAny_bind (wpAny_newList ?_ (by simp [sizeLine_eq]))
  have hoL : (sA.heap.push (seqObj "list" [Value.ref t].toArray 0)).get? sA.heap.objs.size = some (seqObj "list" [Value.ref t].toArray 0) := Heap.get?_push_size _ rfl
  refine wpAny_bind (wpAny_holding (wpAny_call_entry slot_list_sort ⟨_, hoL, rfl⟩ entry_list_sort (SK.plain_sort (s := { sA with heap := sA.heap.push (seqObj "list" [Value.ref t].toArray 0) }) (vs := [Value.ref t]) (r := fun _ => 0) hoL (by simp) (fun h2 => absurd h2 (by simp)) fun ps out h1 h2 h3 => ⟨_, rfl, ?_⟩) (args_list_sort _)))
  obtain ⟨c, hcc⟩ := sortedHeap_at (out := out) hoL
  have ho : out.toList = [Value.ref t] := by
    rw [h1, List.perm_singleton.mp h2]; rfl
  have kk : ∀ b u, s.heap.get? b = some u → (sortedHeap (sA.heap.push (seqObj "list" [Value.ref t].toArray 0)) sA.heap.objs.size [Value.ref t] out).get? b = some u := fun b u e => by
    have e' := kA b u e
    have lt := Heap.lt_size e'
    rw [sortedHeap_old (Nat.ne_of_lt lt) (by rw [size_push']; exact Nat.lt_succ_of_lt lt)]
    exact Heap.get?_push_of_some _ e'
  have hn : H sA.heap.objs.size = none := I.hok.fresh zA
  have vv : Vals [V.ref t] out.toList := by rw [ho]; exact .cons rfl .nil
  have J : Inv X pins σ (upd H sA.heap.objs.size (.lst [V.ref t])) { s with heap := sortedHeap (sA.heap.push (seqObj "list" [Value.ref t].toArray 0)) sA.heap.objs.size [Value.ref t] out, gens := sA.gens, drawn := sA.drawn, toks := sA.toks } :=
    I.call (ch := []) (Un.laid kk zA hn) (I.hok.laid kk zA ⟨by simp [sizeLine_eq], out.toList, c, vv, hcc⟩) (by rw [gA]; exact I.bare) (fun _ m => nomatch m)
  refine wpAny_pure ⟨_, rfl, .ref sA.heap.objs.size, _, ?_, rfl, q _ hn⟩
  have eq : ({ sA with heap := sortedHeap (sA.heap.push (seqObj "list" [Value.ref t].toArray 0)) sA.heap.objs.size [Value.ref t] out } : Shared) = { s with heap := sortedHeap (sA.heap.push (seqObj "list" [Value.ref t].toArray 0)) sA.heap.objs.size [Value.ref t] out, gens := sA.gens, drawn := sA.drawn, toks := sA.toks } := by
    cases sA; cases s; cases oA; rfl
  exact eq ▸ J
end
section
variable {C : G0} {F H : Hp}
theorem intsD_eq : ∀ {ds : List D} {l : List Int}, intsD ds = some l → ds = l.map D.int
  | [], l, e => by cases e; rfl
  | d :: ds, l, e => by
    cases d <;> simp only [intsD] at e <;> first | cases e | skip
    obtain ⟨r, e1, rfl⟩ := Option.map_eq_some_iff.mp e
    rw [intsD_eq e1]; rfl
theorem intsT_eq : ∀ {ds : List D} {ls : List (List Int)}, intsT ds = some ls → ds = ls.map rowD
  | [], l, e => by cases e; rfl
  | d :: ds, l, e => by
    cases d <;> simp only [intsT] at e <;> first | cases e | skip
    obtain ⟨x, e0, e⟩ := Option.bind_eq_some_iff.mp e
    obtain ⟨r, e1, rfl⟩ := Option.map_eq_some_iff.mp e
    rw [intsT_eq e1, intsD_eq e0]; rfl
theorem py_ints : ∀ l : List Int, toPys (l.map D.int) = l.map PyData.int
  | [] => rfl
  | x :: l => by rw [List.map_cons, toPys, py_ints l]; rfl
theorem py_rows : ∀ ls : List (List Int), toPys (ls.map rowD) = ls.map pyR
  | [] => rfl
  | l :: ls => by rw [List.map_cons, toPys, py_rows ls, List.map_cons]; unfold rowD pyR; rw [toPy, py_ints]
theorem canLays_rows : ∀ ls : List (List Int), PyData.canLayAll0 (ls.map pyR) = true
  | [] => rfl
  | l :: ls => by rw [List.map_cons, PyData.canLayAll0, canLays_rows ls, canLay_pyR]; rfl
theorem row_rep {l : List Int} {v : V} (h : Rep C F (rowD l) v) : ∃ a, v = .ref a ∧ SqT C.K F a (l.map V.int) := by
  unfold rowD at h
  rw [Rep] at h
  obtain ⟨a, vs, rfl, h1, h2⟩ := h
  refine ⟨a, rfl, ?_⟩
  have : vs = l.map V.int := by
    clear h1
    induction l generalizing vs with
    | nil => rw [List.map_nil, RepL] at h2; exact h2
    | cons x l ih =>
      rw [List.map_cons, RepL] at h2
      obtain ⟨v, w, rfl, r1, r2⟩ := h2
      rw [Rep] at r1
      rw [r1, ih w r2]; rfl
  rw [← this]; exact h1
theorem rep_row {l : List Int} {a : Addr} (h : SqT C.K F a (l.map V.int)) : Rep C F (rowD l) (.ref a) := by
  unfold rowD
  rw [Rep]
  refine ⟨a, _, rfl, h, ?_⟩
  clear h
  induction l with
  | nil => exact .nil
  | cons x l ih => exact .cons rep_int ih
theorem rows_rep : ∀ {ls : List (List Int)} {vs : List V}, RepL C F (ls.map rowD) vs → ∃ ks : List (Addr × List Int), vs = ks.map (fun p => V.ref p.1) ∧ ks.map (·.2) = ls ∧ ∀ p ∈ ks, SqT C.K F p.1 (p.2.map V.int)
  | [], vs, h => by rw [List.map_nil, RepL] at h; exact ⟨[], h, rfl, fun p m => nomatch m⟩
  | l :: ls, vs, h => by
    rw [List.map_cons, RepL] at h
    obtain ⟨v, w, rfl, r1, r2⟩ := h
    obtain ⟨a, rfl, h1⟩ := row_rep r1
    obtain ⟨ks, rfl, e, h2⟩ := rows_rep r2
    exact ⟨(a, l) :: ks, rfl, by rw [List.map_cons, e], fun p m => by
      rcases List.mem_cons.mp m with rfl | m
      · exact h1
      · exact h2 p m⟩
theorem rep_rows : ∀ {ks : List (Addr × List Int)}, (∀ p ∈ ks, SqT C.K F p.1 (p.2.map V.int)) → RepL C F ((ks.map (·.2)).map rowD) (ks.map fun p => V.ref p.1)
  | [], _ => .nil
  | p :: ks, h => .cons (rep_row (h p (by simp))) (rep_rows fun q m => h q (by simp [m]))
theorem mem_ded : ∀ {l : List (List Int)} {x : List Int}, x ∈ ded l ↔ x ∈ l
  | [], x => Iff.rfl
  | y :: l, x => by
    unfold ded
    by_cases h : y ∈ l
    · rw [if_pos h, mem_ded]
      constructor
      · exact List.mem_cons_of_mem _
      · intro m
        rcases List.mem_cons.mp m with rfl | m
        · exact h
        · exact m
    · rw [if_neg h, List.mem_cons, List.mem_cons, mem_ded]
theorem nodup_ded : ∀ (l : List (List Int)), (ded l).Nodup
  | [] => List.nodup_nil
  | y :: l => by
    unfold ded
    by_cases h : y ∈ l
    · rw [if_pos h]; exact nodup_ded l
    · rw [if_neg h]; exact List.nodup_cons.mpr ⟨fun m => h (mem_ded.mp m), nodup_ded l⟩
/-- what a set of rows holds -/
theorem set_perm {ks L : List (Addr × List Int)} {ls : List (List Int)} (e : ks.map (·.2) = ls) (h1 : ∀ p ∈ L, p ∈ ks) (h2 : ∀ p ∈ ks, p.2 ∈ L.map (·.2)) (nd : (L.map (·.2)).Nodup) : (L.map (·.2)).Perm (ded ls) := by
  refine (List.perm_ext_iff_of_nodup nd (nodup_ded ls)).mpr fun x => ?_
  rw [mem_ded, ← e]
  constructor
  · intro m
    obtain ⟨p, hp, rfl⟩ := List.mem_map.mp m
    exact List.mem_map.mpr ⟨p, h1 p hp, rfl⟩
  · intro m
    obtain ⟨p, hp, rfl⟩ := List.mem_map.mp m
    exact h2 p hp
theorem insC_perm (x : List Int) : ∀ l, (insC x l).Perm (x :: l)
  | [] => List.Perm.refl _
  | y :: l => by
    unfold insC
    split
    · exact List.Perm.refl _
    · exact ((insC_perm x l).cons y).trans (List.Perm.swap x y l)
theorem insC_pw (x : List Int) : ∀ {l : List (List Int)}, l.Pairwise (fun a b => TS.code cdB a ≤ TS.code cdB b) → (insC x l).Pairwise (fun a b => TS.code cdB a ≤ TS.code cdB b)
  | [], _ => by unfold insC; exact List.pairwise_singleton _ _
  | y :: l, h => by
    unfold insC
    obtain ⟨h1, h2⟩ := List.pairwise_cons.mp h
    split
    · rename_i c
      exact List.pairwise_cons.mpr ⟨fun z m => by
        rcases List.mem_cons.mp m with rfl | m
        · exact c
        · exact Int.le_trans c (h1 z m), h⟩
    · rename_i c
      refine List.pairwise_cons.mpr ⟨fun z m => ?_, insC_pw x h2⟩
      rcases List.mem_cons.mp ((insC_perm x l).mem_iff.mp m) with rfl | m
      · omega
      · exact h1 z m
theorem sortC_ok : ∀ l : List (List Int), (sortC l).Perm l ∧ (sortC l).Pairwise (fun a b => TS.code cdB a ≤ TS.code cdB b)
  | [] => ⟨List.Perm.refl _, List.Pairwise.nil⟩
  | x :: l => by
    obtain ⟨h1, h2⟩ := sortC_ok l
    unfold sortC
    exact ⟨(insC_perm x _).trans (h1.cons x), insC_pw x h2⟩
theorem code_inj {B : Int} : ∀ {a b : List Int}, a.length = b.length → TS.Bd B a → TS.Bd B b → TS.code B a = TS.code B b → a = b
  | [], [], _, _, _, _ => rfl
  | [], _ :: _, h, _, _, _ => by simp at h
  | _ :: _, [], h, _, _, _ => by simp at h
  | x :: a, y :: b, h, ha, hb, e => by
    have hl : a.length = b.length := by simpa using h
    rcases Int.lt_trichotomy x y with c | c | c
    · have := TS.code_lt hl ha.tail hb.tail c
      omega
    · subst c
      have e : x * B ^ a.length + TS.code B a = x * B ^ b.length + TS.code B b := e
      rw [hl] at e
      rw [code_inj hl ha.tail hb.tail (by omega)]
    · have := TS.code_lt hl.symm hb.tail ha.tail c
      omega
theorem code_uniq {B : Int} {n : Nat} : ∀ {l m : List (List Int)}, l.Perm m → (∀ x ∈ l, x.length = n ∧ TS.Bd B x) → l.Pairwise (fun a b => TS.code B a ≤ TS.code B b) → m.Pairwise (fun a b => TS.code B a ≤ TS.code B b) → l = m
  | [], m, p, _, _, _ => (List.nil_perm.mp p).symm
  | x :: l, [], p, _, _, _ => absurd p.length_eq (by simp)
  | x :: l, y :: m, p, h, a, b => by
    obtain ⟨a1, a2⟩ := List.pairwise_cons.mp a
    obtain ⟨b1, b2⟩ := List.pairwise_cons.mp b
    have hy := h y (p.mem_iff.mpr (by simp))
    have hx := h x (by simp)
    have e : x = y := by
      refine code_inj (hx.1.trans hy.1.symm) hx.2 hy.2 (Int.le_antisymm ?_ ?_)
      · rcases List.mem_cons.mp (p.mem_iff.mpr (List.mem_cons_self (a := y) (l := m))) with q | q
        · rw [q]; exact Int.le_refl _
        · exact a1 _ q
      · rcases List.mem_cons.mp (p.mem_iff.mp (List.mem_cons_self (a := x) (l := l))) with q | q
        · rw [q]; exact Int.le_refl _
        · exact b1 _ q
    subst e
    rw [code_uniq (List.perm_cons x |>.mp p) (fun z m => h z (by simp [m])) a2 b2]
end
end PL
end

section
set_option maxHeartbeats 4000000
/-! a tuple of whole numbers, sorted -/
namespace SrtO
open PySem PyProof.Rows Srt
section
variable {prog : Program} {w : World} {A : Around} {E : Value → Shared → Prop} {s : Shared}
abbrev grown (h : Heap) (vs : List Value) : Heap :=
  (h.push (seqObj "list" #[] 0)).update h.objs.size (Obj.mapSeq (· ++ vs.toArray))
theorem collect_tupO {t : Addr} {vs : List Value} {Q : List Value → Shared → Prop} (ht : s.heap.IsTuple t vs.toArray) (q : Q vs { s with heap := grown s.heap vs }) (z : vs.length ≤ sizeLine) : wpAny (model prog w) A (collect (.ref t)) Q E s := by
  obtain ⟨ob, g, cl, m, da⟩ := id ht
  unfold collect
  refine wpAny_bind
    (wpAny_runValue (codeAny_builtin entry_proto_collect' ?_))
  show wpAny _ _
    (do again (.builtin "list.__iadd__" ⟨[← newList [], .ref t], []⟩)) _ _ s
  refine wpAny_bind (wpAny_newList (wpAny_pure
    ⟨Code.quiet_builtin _ (by decide +kernel), codeAny_builtin entry_list_iadd' ?_⟩))
  show wpAny _ _
    (Builtin.List.listExtendWith (.ref s.heap.objs.size) (.ref t) (.ref s.heap.objs.size)) _ _
    { s with heap := s.heap.push (seqObj "list" #[] 0) }
  unfold Builtin.List.listExtendWith
  have g' : (s.heap.push (seqObj "list" #[] 0)).get? t = some ob := Heap.get?_push_of_some _ g
  refine wpAny_bind (wpAny_typeOf (T := "tuple") ⟨ob, g', cl⟩ ?_)
  have tt : (Value.type "tuple" == Value.type "tuple") = true := by rfl
  rw [if_pos (by rw [tt]; simp)]
  refine wpAny_bind (listItems_at g' da ?_)
  refine wpAny_bind
    (listItems_at (xs := #[]) (n := 0) (Heap.get?_push_size _ rfl) rfl ?_)
  rw [if_neg (by simp)]
  refine wpAny_bind (listUpdate_at (xs := #[]) (n := 0) (Heap.get?_push_size _ rfl) rfl ?_
    (Nat.zero_le _) (by
      show (#[] ++ vs.toArray).size ≤ sizeLine + 1
      simp only [Array.size_append, List.size_toArray, List.length_nil]
      omega))
  refine wpAny_pure ?_
  show wpAny (model prog w) A (do
      let r ← load s.heap.objs.size
      match r.data with
      | .seq xs _ => pure xs.toList
      | _ => unsupported "internal:collect") Q E { s with heap := grown s.heap vs }
  refine wpAny_bind
    (wpAny_load (get?_update_seq (Heap.get?_push_size _ rfl) _) ?_)
  show wpAny _ _
    (pure ((#[] : Array Value) ++ vs.toArray).toList) Q E _
  have e : ((#[] : Array Value) ++ vs.toArray).toList = vs := by simp
  rw [e]
  exact wpAny_pure q
theorem sorted_tupO {t : Addr} {vs : List Value} {ltv : Value → Value → Bool} {Q : Value → Shared → Prop} (O : Swo ltv) (ht : s.heap.IsTuple t vs.toArray) (z : vs.length ≤ sizeLine)
    (hS : 2 ≤ vs.length → ∀ (h₁ : Heap) (a : Addr), SortableO prog w A.in1.in1 { s with heap := h₁ } a vs ltv)
    (k : ∀ out : List Value, Srtd ltv out → Stb ltv out vs →
      Q (.ref (s.heap.objs.size + 1)) { s with heap := sortedAll s.heap vs out.toArray }) :
    wpAny (model prog w) A (call (.builtin "sorted") [.ref t]) Q E s := by
  refine Calls.call_function_entry kind_sorted plain_sorted entry_sorted
    (args_sorted1 _) ?_
  unfold Builtin.«sorted»
  refine wpAny_bind
    (m := checkCount "sorted" 1 1 _) (wpAny_pure ?_)
  refine wpAny_bind (collect_tupO ht ?_ z)
  refine wpAny_bind (wpAny_newList ?_ z)
  have sz : (grown s.heap vs).objs.size = s.heap.objs.size + 1 := by
    rw [Heap.size_update, size_push']
  have ho : ((grown s.heap vs).push (seqObj "list" vs.toArray 0)).get? (s.heap.objs.size + 1)
      = some (seqObj "list" vs.toArray 0) := by
    rw [← sz]; exact Heap.get?_push_size _ rfl
  show wpAny _ _ _ _ _
    { s with heap := (grown s.heap vs).push (seqObj "list" vs.toArray 0) }
  rw [sz]
  refine wpAny_bind (wpAny_holding (wpAny_call_entry slot_list_sort ⟨_, ho, rfl⟩ entry_list_sort
    (list_sort_ord O ho z (fun h2 => hS h2 _ _) fun out hs hb => ⟨_, rfl, ?_⟩) (args_list_sort _)))
  exact wpAny_pure ⟨_, rfl, k out hs hb⟩
end
end SrtO
namespace L2
open PySem PySem.Spec PyProof.Rows
def rSortedIT (K : PySem.W.Frag) : List V → Hp → VK → Prop := fun vs H Q =>
  ∃ (a : Addr) (ns : List Int), vs = [V.ref a] ∧ SqT K H a (ns.map V.int) ∧
    ∀ (ns' : List Int) (p : Addr), ns'.Perm ns → ns'.Pairwise (· ≤ ·) → H p = none →
      Q (.ref p) (upd H p (.lst (ns'.map V.int)))
theorem cr_sortedIT {X : Cx} : CallR X (.builtin "sorted") (rSortedIT X.K) := by
  intro pins s σ H vs us Q I r h
  obtain ⟨a, ns, rfl, hs, q⟩ := h
  obtain ⟨its, rv, ht, hz⟩ := I.tuple hs
  have ht : s.heap.IsTuple a its.toArray := ht
  rw [Vals.ref1 r]
  have hi := rv.ints
  have zz : its.length ≤ sizeLine := by rw [← rv.length]; exact hz
  refine SrtO.sorted_tupO SrtO.swo_int ht zz (fun h2 h₁ a' => SrtO.ints_sortable hi h2) fun out h1 h2 => ?_
  obtain ⟨k1, k2, k3⟩ := SrtO.ints_out hi h1 h2
  obtain ⟨ep, at'⟩ := PyProof.Rows.sortedAll_at s.heap its out.toArray
  have len : ((out.map SrtO.iv).map V.int).length ≤ sizeLine := by
    rw [List.length_map, k2.length_eq]
    rw [List.length_map] at hz
    exact hz
  have J := I.laid (t' := s.toks) (fun _ _ => PyProof.Rows.sortedAll_old) (Nat.le_succ _) (o := .lst ((out.map SrtO.iv).map V.int))
    ⟨len, out, ep, vals_of_ints k1, at'⟩
  exact ⟨.ref _, _, J, rfl, q _ _ k2 k3 (I.hok.fresh (Nat.le_succ _))⟩
end L2
end

section
namespace PL
open PySem PySem.Spec L2

section
variable {X : Cx} {C : G0} {W : WX} {H F : Hp}
theorem atI_rep {ds : List D} {vs : List V} {i : Int} {d : D} (r : RepL C F ds vs) (h : atI ds i = some d) : ∃ v, atI vs i = some v ∧ Rep C F d v := by
  unfold atI at h ⊢
  rw [← r.len]
  cases e : ixN ds.length i with
  | none => rw [e] at h; cases h
  | some j => rw [e] at h; exact r.get h
/-- an item -/
theorem ix_item (hK : X.K = C.K) (hu : X.A.units + 1 < cLine) : IxR X (fun x y H Q => ∃ d1 d2, OpP C W ((item d1 d2).map RV.v) [d1, d2] [x, y] H Q) := by
  intro value slice pins s σ H x y v u Q I rx ry h hs
  obtain ⟨d1, d2, h⟩ := h
  obtain ⟨e, F, σ2, R, k, hp⟩ := h
  have q1 := k 0 d1 x rfl rfl
  have q2 := k 1 d2 y rfl rfl
  obtain ⟨r, er0, hp0⟩ := hp.opt
  obtain ⟨d, er, rfl⟩ := Option.map_eq_some_iff.mp er0
  clear hp er0
  rename PostE C W e F σ2 H (Out.ok (RV.v d) e) Q => hp
  unfold item at er
  split at er
  · cases q2.int
    obtain ⟨a, vs, rfl, ha, ra⟩ := q1.tup
    obtain ⟨w, ew, rw'⟩ := atI_rep ra er
    exact ix_tup value slice pins s σ H _ _ v u Q I rx ry ⟨a, vs, _, w, rfl, rfl, by rw [hK]; exact R.sub.sqT ha, ew, hp.val R rw'⟩ hs
  · cases q2.int
    obtain ⟨a, vs, rfl, ha, ra⟩ := q1.lst R.sub
    obtain ⟨w, ew, rw'⟩ := atI_rep ra er
    exact ix_list value slice pins s σ H _ _ v u Q I rx ry ⟨a, vs, _, w, rfl, rfl, .inl (.inl ha), ew, hp.val R rw'⟩ hs
  · cases q2.int
    obtain ⟨a, rfl, ha⟩ := q1.scr
    obtain ⟨z, ez, rfl⟩ := Option.map_eq_some_iff.mp er
    refine ix_list value slice pins s σ H _ _ v u Q I rx ry ⟨a, _, _, .int z, rfl, rfl, by rw [hK]; exact R.sub.sqL ha, ?_, hp.val R rep_int⟩ hs
    unfold atI at ez ⊢
    rw [List.length_map]
    rename_i ns i
    cases e1 : ixN ns.length i with
    | none => rw [e1] at ez; cases ez
    | some j => rw [e1] at ez; show (ns.map V.int)[j]? = _; rw [List.getElem?_map]; rw [show ns[j]? = some z from ez]; rfl
  · rename_i ks ds d2'
    obtain ⟨kk, ek, er⟩ := Option.bind_eq_some_iff.mp er
    obtain ⟨a, vs, rfl, h1, l, h2⟩ := q1.dk R.sub
    have hk := keyOf_V (q2.rep R.sub) ek
    obtain ⟨_, hv⟩ := dlook_val (k := kk) l h2
    obtain ⟨w, ew, rw'⟩ := hv d er
    obtain rfl : v = Value.ref a := rx
    have g : DGet H a y (some w) := .inl ⟨_, kk, .inl h1, hk, ew.symm⟩
    exact PyProof.Rows.tail_any (dict_typeIs I g) PySem.F.slot_dict_getitem.lookup (d_getItem hu I g ry fun w' s' I' rr => ⟨w, H, I', rr, hp.val R rw'⟩) hs
  · split at er
    · obtain ⟨z, ez, rfl⟩ := Option.map_eq_some_iff.mp er
      cases q2.int; cases q1.str
      exact ix_str value slice pins s σ H _ _ v u Q I rx ry ⟨_, _, z, rfl, rfl, by rw [← sizeL_eq]; assumption, ez, hp.val R rep_str⟩ hs
    · cases er
  · cases er
theorem cut_rep {ds : List D} {vs : List V} {lo hi : Option Int} (r : RepL C F ds vs) : RepL C F (cutD ds lo hi) (cutV vs lo hi) := by
  unfold cutD cutV
  rw [← r.len]
  exact (r.drop _).take _
theorem cut_map {ns : List Int} {lo hi : Option Int} : cutV (ns.map V.int) lo hi = (cutD ns lo hi).map V.int := by
  unfold cutD cutV
  rw [List.length_map, List.map_take, List.map_drop]
theorem repL_ints : ∀ (ns : List Int), RepL C F (ns.map D.int) (ns.map V.int)
  | [] => .nil
  | n :: ns => .cons rep_int (repL_ints ns)
theorem sl_slice (hK : X.K = C.K) : SlR X (fun x lo hi H Q => ∃ d, OpP C W (sliceD d lo hi) [d] [x] H Q) := by
  intro pins s σ H x v vl vu lo hi sl Q I rx hs pl pu h
  obtain ⟨d, h⟩ := h
  obtain ⟨e, F, σ2, R, k, hp⟩ := h
  have q1 := k 0 d x rfl rfl
  obtain ⟨r, er, hp⟩ := hp.opt
  unfold sliceD at er
  split at er
  · cases er
    obtain ⟨a, vs, rfl, ha, ra⟩ := q1.lst R.sub
    exact sl_list pins s σ H _ v vl vu lo hi sl Q I rx hs pl pu ⟨a, vs, rfl, .inl (.inl ha), fun p hn => hp.newLst R (cut_rep ra) hn⟩
  · cases er
    obtain ⟨a, rfl, ha⟩ := q1.scr
    refine sl_list pins s σ H _ v vl vu lo hi sl Q I rx hs pl pu ⟨a, _, rfl, by rw [hK]; exact R.sub.sqL ha, fun p hn => ?_⟩
    rw [cut_map]
    exact hp.newLst R (repL_ints _) hn
  · cases er
    obtain ⟨a, vs, rfl, ha, ra⟩ := q1.tup
    refine sl_tupA pins s σ H _ v vl vu lo hi sl Q I rx hs pl pu ⟨a, vs, rfl, by rw [hK]; exact R.sub.sqT ha, fun w => ?_, fun _ p hn => hp.newTup R (cut_rep ra) hn⟩
    refine hp.val R ?_
    have z := cut_rep (lo := lo) (hi := hi) ra
    have e1 : cutV vs lo hi = vs := by
      unfold cutV
      rw [w.1, w.2, Nat.sub_zero, List.drop_zero, List.take_length]
    rw [e1] at z
    rw [Rep]
    exact ⟨a, vs, rfl, ha, z⟩
  · cases er
/-! built-in functions -/
def biV : Bi → Value
  | .len => .builtin "len"
  | .abs => .builtin "abs"
  | .tuple => .type "tuple"
  | .list => .type "list"
  | .int1 => .type "int"
  | .sum => .builtin "sum"
  | .min1 => .builtin "min"
  | .max1 => .builtin "max"
  | .min2 => .builtin "min"
  | .max2 => .builtin "max"
  | .all => .builtin "all"
  | .any => .builtin "any"
  | .sorted => .builtin "sorted"
  | .gcd => .builtin "math.gcd"
  | .dict1 => .type "dict"
theorem intsD_rep : ∀ {ds : List D} {ns : List Int} {vs : List V}, intsD ds = some ns → RepL C F ds vs → vs = ns.map V.int
  | [], _, vs, e, r => by cases e; rw [RepL] at r; exact r
  | d :: ds, ns, vs, e, r => by
    rw [RepL] at r
    obtain ⟨v, w, rfl, r1, r2⟩ := r
    cases d <;> simp only [intsD] at e <;> first | cases e | skip
    obtain ⟨l, e1, rfl⟩ := Option.map_eq_some_iff.mp e
    rw [Rep] at r1
    rw [r1, intsD_rep e1 r2]; rfl
theorem blsD_rep : ∀ {ds : List D} {ns : List Bool} {vs : List V}, blsD ds = some ns → RepL C F ds vs → vs = ns.map V.bl
  | [], _, vs, e, r => by cases e; rw [RepL] at r; exact r
  | d :: ds, ns, vs, e, r => by
    rw [RepL] at r
    obtain ⟨v, w, rfl, r1, r2⟩ := r
    cases d <;> simp only [blsD] at e <;> first | cases e | skip
    obtain ⟨l, e1, rfl⟩ := Option.map_eq_some_iff.mp e
    rw [Rep] at r1
    rw [r1, blsD_rep e1 r2]; rfl
theorem lmin_mem : ∀ {l : List Int}, l ≠ [] → lmin l ∈ l ∧ ∀ y ∈ l, lmin l ≤ y
  | [], h => (h rfl).elim
  | [x], _ => ⟨by simp [lmin], by simp [lmin]⟩
  | x :: y :: r, _ => by
    obtain ⟨h1, h2⟩ := lmin_mem (l := y :: r) (by simp)
    rw [lmin]
    split
    · rename_i h
      exact ⟨by simp, fun z hz => by
        rcases List.mem_cons.mp hz with rfl | hz
        · omega
        · exact Int.le_trans h (h2 z hz)⟩
    · rename_i h
      exact ⟨List.mem_cons_of_mem _ h1, fun z hz => by
        rcases List.mem_cons.mp hz with rfl | hz
        · omega
        · exact h2 z hz⟩
    · exact fun h => by cases h
theorem lmax_mem : ∀ {l : List Int}, l ≠ [] → lmax l ∈ l ∧ ∀ y ∈ l, y ≤ lmax l
  | [], h => (h rfl).elim
  | [x], _ => ⟨by simp [lmax], by simp [lmax]⟩
  | x :: y :: r, _ => by
    obtain ⟨h1, h2⟩ := lmax_mem (l := y :: r) (by simp)
    rw [lmax]
    split
    · rename_i h
      exact ⟨by simp, fun z hz => by
        rcases List.mem_cons.mp hz with rfl | hz
        · omega
        · exact Int.le_trans (h2 z hz) h⟩
    · rename_i h
      exact ⟨List.mem_cons_of_mem _ h1, fun z hz => by
        rcases List.mem_cons.mp hz with rfl | hz
        · omega
        · exact h2 z hz⟩
    · exact fun h => by cases h
theorem isort_ins (x : Int) : ∀ l : List Int, (isort.ins x l).Perm (x :: l) ∧ (l.Pairwise (· ≤ ·) → (isort.ins x l).Pairwise (· ≤ ·))
  | [] => ⟨.refl _, fun _ => by simp [isort.ins]⟩
  | y :: ys => by
    rw [isort.ins]
    split
    · rename_i h
      refine ⟨.refl _, fun p => ?_⟩
      refine List.pairwise_cons.mpr ⟨fun z hz => ?_, p⟩
      rcases List.mem_cons.mp hz with rfl | hz
      · exact h
      · exact Int.le_trans h ((List.pairwise_cons.mp p).1 z hz)
    · rename_i h
      obtain ⟨p1, p2⟩ := isort_ins x ys
      refine ⟨(p1.cons y).trans (.swap x y ys), fun p => ?_⟩
      obtain ⟨q1, q2⟩ := List.pairwise_cons.mp p
      refine List.pairwise_cons.mpr ⟨fun z hz => ?_, p2 q2⟩
      rcases List.mem_cons.mp (p1.mem_iff.mp hz) with rfl | hz
      · omega
      · exact q1 z hz
theorem isort_ok : ∀ l : List Int, (isort l).Perm l ∧ (isort l).Pairwise (· ≤ ·)
  | [] => ⟨.refl _, by simp [isort]⟩
  | x :: xs => by
    obtain ⟨p1, p2⟩ := isort_ok xs
    obtain ⟨q1, q2⟩ := isort_ins x (isort xs)
    rw [isort]
    exact ⟨q1.trans (p1.cons x), q2 p2⟩
theorem sorted_uniq : ∀ {l m : List Int}, l.Perm m → l.Pairwise (· ≤ ·) → m.Pairwise (· ≤ ·) → l = m
  | [], m, p, _, _ => by simpa using p.symm.eq_nil
  | x :: l, [], p, _, _ => by simpa using p.eq_nil
  | x :: l, y :: m, p, h1, h2 => by
    obtain ⟨a1, a2⟩ := List.pairwise_cons.mp h1
    obtain ⟨b1, b2⟩ := List.pairwise_cons.mp h2
    have e : x = y := by
      have m1 : y ∈ x :: l := p.mem_iff.mpr (by simp)
      have m2 : x ∈ y :: m := p.mem_iff.mp (by simp)
      rcases List.mem_cons.mp m1 with q | q
      · exact q.symm
      · rcases List.mem_cons.mp m2 with q' | q'
        · exact q'
        · have := a1 y q; have := b1 x q'; omega
    subst e
    rw [sorted_uniq (List.perm_cons x |>.mp p) a2 b2]
theorem one_of {α : Type} {d : D} {vs : List α} (h : [d].length = vs.length) : ∃ v, vs = [v] := by
  cases vs with
  | nil => simp at h
  | cons a l => cases l with
    | nil => exact ⟨a, rfl⟩
    | cons _ _ => simp at h
theorem two_of {α : Type} {d d' : D} {vs : List α} (h : [d, d'].length = vs.length) : ∃ v w, vs = [v, w] := by
  cases vs with
  | nil => simp at h
  | cons a l => cases l with
    | nil => simp at h
    | cons b m => cases m with
      | nil => exact ⟨a, b, rfl⟩
      | cons _ _ => simp at h
theorem drepl_rep {κ : Type} [DecidableEq κ] {C : G0} {F : Hp} {x : κ} {d : D} {v : V} (rv : Rep C F d v) : ∀ {ks : List κ} {ds : List D} {vs : List V}, ks.length = ds.length → RepL C F ds vs →
    ∃ ws, (ks.zip vs).map (fun kv => if kv.1 = x then (kv.1, v) else kv) = ks.zip ws ∧ ks.length = (drepl ks ds x d).length ∧ RepL C F (drepl ks ds x d) ws
  | [], [], vs, _, r => by
    rw [RepL] at r; subst r
    exact ⟨[], rfl, rfl, .nil⟩
  | k :: ks, e :: ds, vs, hl, r => by
    rw [RepL] at r
    obtain ⟨w, ws, rfl, r1, r2⟩ := r
    obtain ⟨us, h1, h2, h3⟩ := drepl_rep (x := x) rv (ks := ks) (ds := ds) (by simpa using hl) r2
    by_cases hk : k = x
    · refine ⟨v :: us, ?_, ?_, ?_⟩
      · simp only [List.zip_cons_cons, List.map_cons, h1]
        rw [if_pos hk]
      · simp only [drepl, List.length_cons, ← h2]
      · simp only [drepl]
        rw [if_pos hk]
        exact .cons rv h3
    · refine ⟨w :: us, ?_, ?_, ?_⟩
      · simp only [List.zip_cons_cons, List.map_cons, h1]
        rw [if_neg hk]
      · simp only [drepl, List.length_cons, ← h2]
      · simp only [drepl]
        rw [if_neg hk]
        exact .cons r1 h3
  | [], _ :: _, _, hl, _ => by simp at hl
  | _ :: _, [], _, hl, _ => by simp at hl
theorem dput_rep {κ : Type} [DecidableEq κ] {C : G0} {F : Hp} {x : κ} {d : D} {v : V} (rv : Rep C F d v) {ks : List κ} {ds : List D} {vs : List V} (hl : ks.length = ds.length) (r : RepL C F ds vs) :
    ∃ ws, putK (ks.zip vs) x v = (dput ks ds x d).1.zip ws ∧ (dput ks ds x d).1.length = (dput ks ds x d).2.length ∧ RepL C F (dput ks ds x d).2 ws := by
  have hlv : ks.length = vs.length := by rw [hl, r.len]
  have ha : ((ks.zip vs).any fun kv => decide (kv.1 = x)) = decide (x ∈ ks) := by
    have : ∀ (ks : List κ) (vs : List V), ks.length = vs.length → ((ks.zip vs).any fun kv => decide (kv.1 = x)) = decide (x ∈ ks) := by
      intro ks
      induction ks with
      | nil => intro vs h; simp
      | cons k ks ih =>
        intro vs h
        cases vs with
        | nil => simp at h
        | cons v vs =>
          rw [List.zip_cons_cons, List.any_cons, ih vs (by simpa using h)]
          by_cases e : k = x
          · simp [e]
          · have : ¬ x = k := fun q => e q.symm
            simp [e, this]
    exact this ks vs hlv
  unfold putK dput
  rw [ha]
  by_cases h : x ∈ ks
  · rw [if_pos (decide_eq_true h), if_pos h]
    exact drepl_rep rv hl r
  · rw [if_neg (by simpa using h), if_neg h]
    refine ⟨vs ++ [v], ?_, ?_, ?_⟩
    · rw [List.zip_append hlv]; rfl
    · simp [hl]
    · exact r.append (.cons rv .nil)
theorem dispP_rep {C : G0} {F H : Hp} (sb : Sub F H) : ∀ {xs : List D} {ks : List Key} {ds : List D} {vs0 ws : List V} {p : List Key × List D}, dispP xs ks ds = some p → ks.length = ds.length → RepL C F ds vs0 → RepL C F xs ws →
    ∃ (ps : List Addr) (kvs : List (Key × V)) (vs : List V), ws = ps.map V.ref ∧ Paired (fun p kv => SqT C.K H p [kV kv.1, kv.2]) ps kvs ∧ mergeK (ks.zip vs0) kvs = p.1.zip vs ∧ p.1.length = p.2.length ∧ RepL C F p.2 vs
  | [], ks, ds, vs0, ws, p, h, hl, r0, r => by
    rw [RepL] at r; subst r
    cases h
    exact ⟨[], [], vs0, rfl, .nil, rfl, hl, r0⟩
  | x :: xs, ks, ds, vs0, ws, p, h, hl, r0, r => by
    rw [RepL] at r
    obtain ⟨w, wr, rfl, r1, r2⟩ := r
    cases x <;> first | (simp only [dispP] at h; cases h; done) | skip
    rename_i l
    match l, h with
    | [], h => simp [dispP] at h
    | [_], h => simp [dispP] at h
    | _ :: _ :: _ :: _, h => simp [dispP] at h
    | [k, d], h =>
      simp only [dispP] at h
      obtain ⟨z, k1, k2⟩ := Option.bind_eq_some_iff.mp h
      rw [Rep] at r1
      obtain ⟨a, us, rfl, q1, q2⟩ := r1
      rw [RepL] at q2
      obtain ⟨vk, u1, rfl, q3, q4⟩ := q2
      rw [RepL] at q4
      obtain ⟨vd, u2, rfl, q5, q6⟩ := q4
      rw [RepL] at q6
      subst q6
      have ek : vk = kV z := by
        cases k <;> simp only [keyOf] at k1 <;> cases k1
        · rw [Rep] at q3; exact q3
        · rw [Rep] at q3; exact q3
      subst ek
      obtain ⟨us, p1, p2, p3⟩ := dput_rep (x := z) q5 hl r0
      obtain ⟨ps, kvs, vs, g1, g2, g3, g4, g5⟩ := dispP_rep sb k2 p2 p3 r2
      refine ⟨a :: ps, (z, vd) :: kvs, vs, by rw [g1]; rfl, .cons (sb.sqT q1) g2, ?_, g4, g5⟩
      show mergeK (putK (ks.zip vs0) z vd) kvs = _
      rw [p1]; exact g3
theorem call_bi (hK : X.K = C.K) (hc : X.calm = true) (hu : X.A.units + 64 < cLine) (b : Bi) : CallR X (biV b) (fun vs H Q => ∃ ds, OpP C W (biF b ds) ds vs H Q ∧ ds.length = vs.length) := by
  intro pins s σ H vs us Q I rv h
  obtain ⟨ds, h, hl⟩ := h
  obtain ⟨e, F, σ2, R, k, hp⟩ := h
  obtain ⟨r, er, hp0⟩ := hp.opt
  clear hp
  unfold biF at er
  split at er
  · cases er
    obtain ⟨v, rfl⟩ := one_of hl
    obtain ⟨a, ws, rfl, ha, ra⟩ := (k 0 _ _ rfl rfl).tup
    refine call_len_seq pins s σ H _ us Q I rv ⟨a, ws, rfl, .inr (by rw [hK]; exact R.sub.sqT ha), ?_⟩
    rw [← ra.len]; exact hp0.val R rep_int
  · cases er
    obtain ⟨v, rfl⟩ := one_of hl
    obtain ⟨a, ws, rfl, ha, ra⟩ := (k 0 _ _ rfl rfl).lst R.sub
    refine call_len_seq pins s σ H _ us Q I rv ⟨a, ws, rfl, .inl (.inl (.inl ha)), ?_⟩
    rw [← ra.len]; exact hp0.val R rep_int
  · cases er
    obtain ⟨v, rfl⟩ := one_of hl
    obtain ⟨a, rfl, ha⟩ := (k 0 _ _ rfl rfl).scr
    refine call_len_seq pins s σ H _ us Q I rv ⟨a, _, rfl, .inl (by rw [hK]; exact R.sub.sqL ha), ?_⟩
    rw [List.length_map]; exact hp0.val R rep_int
  · split at er <;> cases er
    obtain ⟨v, rfl⟩ := one_of hl
    cases (k 0 _ _ rfl rfl).str
    exact call_len_str pins s σ H _ us Q I rv ⟨_, rfl, by rw [← sizeL_eq]; assumption, hp0.val R rep_int⟩
  · cases er
    obtain ⟨v, rfl⟩ := one_of hl
    rename_i ks xs
    obtain ⟨a, ws, rfl, ha, l, ra⟩ := (k 0 _ _ rfl rfl).dk R.sub
    refine call_lenD pins s σ H _ us Q I rv ⟨a, _, rfl, ha, ?_⟩
    rw [List.length_zip, ← ra.len, l, Nat.min_self, ← l]
    exact hp0.val R rep_int
  · cases er
    obtain ⟨v, rfl⟩ := one_of hl
    cases (k 0 _ _ rfl rfl).int
    exact call_abs pins s σ H _ us Q I rv ⟨_, rfl, hp0.val R rep_int⟩
  · cases er
    obtain ⟨v, rfl⟩ := one_of hl
    obtain ⟨a, ws, rfl, ha, ra⟩ := (k 0 _ _ rfl rfl).tup
    exact call_tuple_of pins s σ H _ us Q I rv ⟨a, ws, rfl, .inr ⟨by rw [hK]; exact R.sub.sqT ha, hp0.val R (by rw [Rep]; exact ⟨a, ws, rfl, ha, ra⟩)⟩⟩
  · cases er
    obtain ⟨v, rfl⟩ := one_of hl
    obtain ⟨a, ws, rfl, ha, ra⟩ := (k 0 _ _ rfl rfl).lst R.sub
    exact call_tuple_of pins s σ H _ us Q I rv ⟨a, ws, rfl, .inl ⟨.inl (.inl ha), fun l hn => hp0.newTup R ra hn⟩⟩
  · cases er
    obtain ⟨v, rfl⟩ := one_of hl
    obtain ⟨a, ws, rfl, ha, ra⟩ := (k 0 _ _ rfl rfl).tup
    exact call_list_of pins s σ H _ us Q I rv ⟨a, ws, rfl, .inr (by rw [hK]; exact R.sub.sqT ha), fun l hn => hp0.newLst R ra hn⟩
  · cases er
    obtain ⟨v, rfl⟩ := one_of hl
    obtain ⟨a, ws, rfl, ha, ra⟩ := (k 0 _ _ rfl rfl).lst R.sub
    exact call_list_of pins s σ H _ us Q I rv ⟨a, ws, rfl, .inl (.inl (.inl ha)), fun l hn => hp0.newLst R ra hn⟩
  · cases er
    obtain ⟨v, rfl⟩ := one_of hl
    obtain ⟨a, rfl, ha⟩ := (k 0 _ _ rfl rfl).scr
    exact call_list_of pins s σ H _ us Q I rv ⟨a, _, rfl, .inl (by rw [hK]; exact R.sub.sqL ha), fun l hn => hp0.newLst R (repL_ints _) hn⟩
  · cases er
    obtain ⟨v, rfl⟩ := one_of hl
    cases (k 0 _ _ rfl rfl).int
    exact call_int1 pins s σ H _ us Q I rv (.inl ⟨_, rfl, hp0.val R rep_int⟩)
  · cases er
    obtain ⟨v, rfl⟩ := one_of hl
    cases (k 0 _ _ rfl rfl).bl
    exact call_int1 pins s σ H _ us Q I rv (.inr ⟨_, rfl, hp0.val R rep_int⟩)
  · obtain ⟨l, e1, rfl⟩ := Option.map_eq_some_iff.mp er
    obtain ⟨v, rfl⟩ := one_of hl
    obtain ⟨a, ws, rfl, ha, ra⟩ := (k 0 _ _ rfl rfl).lst R.sub
    cases intsD_rep e1 ra
    exact cr_sum hc pins s σ H _ us Q I rv ⟨a, l, rfl, .inl (.inl ha), hp0.val R rep_int⟩
  · obtain ⟨v, rfl⟩ := one_of hl
    obtain ⟨a, ws, rfl, ha, ra⟩ := (k 0 _ _ rfl rfl).lst R.sub
    split at er
    case h_2 =>
      obtain ⟨ls, e1, rfl⟩ := Option.map_eq_some_iff.mp er
      have e2 := intsT_eq e1
      rw [e2] at ra
      refine cr_minT hc hu pins s σ H _ us Q I rv ⟨a, ws, ls, rfl, .inl (.inl ha), fun z => by subst z; simp at e2, ?_, fun i v h1 h2 => ?_⟩
      · rw [hK, ← py_rows]
        exact (rep_dps _ _ (ra.mono R.sub) (by rw [py_rows]; exact canLays_rows ls))
      · obtain ⟨v', h3, h4⟩ := ra.get (i := i) (d := rowD (tmin ls)) (by rw [List.getElem?_map, h2]; rfl)
        rw [h1] at h3; cases h3
        exact hp0.val R h4
    rename_i l e1
    cases er
    have hlen := ra.len
    cases intsD_rep e1 ra
    rw [List.length_map] at hlen
    have hne : l ≠ [] := fun z => by subst z; simp at hlen
    refine cr_min hc pins s σ H _ us Q I rv ⟨a, l, rfl, .inl (.inl ha), by rw [← hlen]; simp, fun m h1 h2 => ?_⟩
    obtain ⟨g1, g2⟩ := lmin_mem hne
    have := h2 _ g1
    have := g2 _ h1
    have e : m = lmin l := by omega
    rw [e]; exact hp0.val R rep_int
  · obtain ⟨l, e1, rfl⟩ := Option.map_eq_some_iff.mp er
    obtain ⟨v, rfl⟩ := one_of hl
    obtain ⟨a, ws, rfl, ha, ra⟩ := (k 0 _ _ rfl rfl).lst R.sub
    have hlen := ra.len
    cases intsD_rep e1 ra
    rw [List.length_map] at hlen
    have hne : l ≠ [] := fun z => by subst z; simp at hlen
    refine cr_max hc pins s σ H _ us Q I rv ⟨a, l, rfl, .inl (.inl ha), by rw [← hlen]; simp, fun m h1 h2 => ?_⟩
    obtain ⟨g1, g2⟩ := lmax_mem hne
    have := h2 _ g1
    have := g2 _ h1
    have e : m = lmax l := by omega
    rw [e]; exact hp0.val R rep_int
  · cases er
    obtain ⟨v, w, rfl⟩ := two_of hl
    cases (k 0 _ _ rfl rfl).int; cases (k 1 _ _ rfl rfl).int
    exact call_min2 hc pins s σ H _ us Q I rv ⟨_, _, rfl, hp0.val R rep_int⟩
  · cases er
    obtain ⟨v, w, rfl⟩ := two_of hl
    cases (k 0 _ _ rfl rfl).int; cases (k 1 _ _ rfl rfl).int
    exact call_max2 hc pins s σ H _ us Q I rv ⟨_, _, rfl, hp0.val R rep_int⟩
  · obtain ⟨l, e1, rfl⟩ := Option.map_eq_some_iff.mp er
    obtain ⟨v, rfl⟩ := one_of hl
    obtain ⟨a, ws, rfl, ha, ra⟩ := (k 0 _ _ rfl rfl).lst R.sub
    cases blsD_rep e1 ra
    exact cr_all hc pins s σ H _ us Q I rv ⟨a, l, rfl, .inl (.inl ha), hp0.val R rep_bl⟩
  · obtain ⟨l, e1, rfl⟩ := Option.map_eq_some_iff.mp er
    obtain ⟨v, rfl⟩ := one_of hl
    obtain ⟨a, ws, rfl, ha, ra⟩ := (k 0 _ _ rfl rfl).lst R.sub
    cases blsD_rep e1 ra
    exact cr_any hc pins s σ H _ us Q I rv ⟨a, l, rfl, .inl (.inl ha), hp0.val R rep_bl⟩
  · obtain ⟨l, e1, rfl⟩ := Option.map_eq_some_iff.mp er
    obtain ⟨v, rfl⟩ := one_of hl
    obtain ⟨a, ws, rfl, ha, ra⟩ := (k 0 _ _ rfl rfl).lst R.sub
    cases intsD_rep e1 ra
    refine cr_sortedI pins s σ H _ us Q I rv ⟨a, l, rfl, .inl (.inl ha), fun ns' p h1 h2 hn => ?_⟩
    obtain ⟨g1, g2⟩ := isort_ok l
    rw [sorted_uniq (h1.trans g1.symm) h2 g2]
    exact hp0.newLst R (repL_ints _) hn
  · obtain ⟨l, e1, rfl⟩ := Option.map_eq_some_iff.mp er
    obtain ⟨v, rfl⟩ := one_of hl
    obtain ⟨a, ws, rfl, ha, ra⟩ := (k 0 _ _ rfl rfl).tup
    cases intsD_rep e1 ra
    refine cr_sortedIT pins s σ H _ us Q I rv ⟨a, l, rfl, hK ▸ R.sub.sqT ha, fun ns' p h1 h2 hn => ?_⟩
    obtain ⟨g1, g2⟩ := isort_ok l
    rw [sorted_uniq (h1.trans g1.symm) h2 g2]
    exact hp0.newLst R (repL_ints _) hn
  · cases er
    obtain ⟨v, w, rfl⟩ := two_of hl
    cases (k 0 _ _ rfl rfl).int; cases (k 1 _ _ rfl rfl).int
    exact cr_gcd pins s σ H _ us Q I rv ⟨_, _, rfl, hp0.val R rep_int⟩
  · obtain ⟨p, e1, rfl⟩ := Option.map_eq_some_iff.mp er
    obtain ⟨v, rfl⟩ := one_of hl
    obtain ⟨a, ws, rfl, ha, ra⟩ := (k 0 _ _ rfl rfl).lst R.sub
    obtain ⟨ps, kvs, vs, g1, g2, g3, g4, g5⟩ := dispP_rep R.sub e1 rfl .nil ra
    subst g1
    refine call_dictP hc pins s σ H _ us Q I rv ⟨a, ps, kvs, rfl, .inl (.inl ha), by rw [hK]; exact g2, fun q hn => ?_⟩
    have g3 : mergeK [] kvs = p.1.zip vs := g3
    rw [g3]
    exact hp0.newDk R g4 g5 hn
  · cases er
end
end PL
end

section
namespace PL
open PySem PySem.Spec L2

/-! ## the readings -/
section
variable (T : GT) (C : G0) (n : Nat) (W : WX)
def RE (a : E) : TE := fun σ H Q => ∃ e F, SR C e F σ H ∧ PostE C W e F σ H (evE T (callF T n) false a e) Q
def RT (a : E) : TT := fun σ H Q => ∃ e F, SR C e F σ H ∧ PostB C W e F σ H (toB (evE T (callF T n) true a e)) Q
def RA (as : List E) : TA := fun σ H Q => ∃ e F, SR C e F σ H ∧ PostA C W e F σ H (evA T (callF T n) as e) Q
def RO (a : Option E) : TO := fun σ H Q => ∃ e F, SR C e F σ H ∧ PostO C W e F σ H (evO T (callF T n) a e) Q
def RV' (k : Bool) (as : List E) : TE := fun σ H Q => ∃ e F, SR C e F σ H ∧ PostE C W e F σ H (evV T (callF T n) false k as e) Q
def RW (k : Bool) (as : List E) : TT := fun σ H Q => ∃ e F, SR C e F σ H ∧ PostB C W e F σ H (toB (evV T (callF T n) true k as e)) Q
end
/-- what a def promises -/
def SpI (T : GT) (C : G0) (n g : Nat) (np : Nat) : Sp := fun vs H Q E => ∃ (as : List SV) (F : Hp), vs.length = np ∧ (∀ s ∈ as, (∃ d, s = .val d) ∨ ∃ d, s = .bor d) ∧ SR C as F (vs.map some) H ∧
  match callF T n g as with
  | .ok r as' => ∀ v F' H', TrE C as F (vs.map some) H as' F' H' → RVok C H F' (vs.map some) H' as' r v → Q v H'
  | .exc c p as' => ∀ F' H', TrE C as F (vs.map some) H as' F' H' → p = [] ∧ E (.ref (C.cv c)) none H'
  | .stuck => False
def bnames : List String := ["len", "abs", "tuple", "list", "int", "sum", "min", "max", "all", "any", "sorted", "isinstance", "bool", "str", "dict", "range", "enumerate", "zip", "set"]
def kwG (ps ks : List Str) (np : Nat) {α : Type} (us ws : List α) : List α := if us.length = np ∧ ws.length = ks.length then kwSort ps ks us ws else []
/-! ### a dict of the module, whole numbers for keys -/
def KDI (K : PySem.W.Frag) (a : Addr) (k : Int) (v : V) : Prop :=
  ∃ es n u, K.lookup a = some ⟨.type "dict", none, .dict es n, #[]⟩ ∧ (∀ e ∈ es.toList, ∃ x t, e.key = .int x t ∧ e.hash = hashInt x) ∧ findBy Value.isInt es k = some u ∧ RelV v u
theorem ix_kint {X : Cx} : IxR X (fun x y H Q => ∃ a k v, x = .ref a ∧ y = .int k ∧ KDI X.K a k v ∧ Q v H) := by
  intro value slice pins s σ H x y v u Q I rx ry h hs
  obtain ⟨a, k, r, rfl, rfl, ⟨es, n, u0, hl, hk, e, ru⟩, q⟩ := h
  obtain rfl : v = Value.ref a := rx
  obtain ⟨t, rfl⟩ := ry
  have hm : s.heap.MapOf (PySem.intKind X.prog X.w) a (fun k => findBy Value.isInt es k) := ⟨_, es, n, I.kIn _ _ hl, ⟨rfl, rfl, rfl⟩, rfl, fun e he => by
    obtain ⟨x, t, e1, e2⟩ := hk e (Array.mem_toList_iff.mpr he)
    exact ⟨x, by rw [e1]; exact PySem.intKind_is X.prog X.w x t, e2⟩, fun _ => rfl⟩
  exact PyProof.Rows.tail_any hm.typeIs slot_dict_getitem.lookup (wpAny_getItem_of (PySem.intKind_is X.prog X.w k t) hm e ⟨r, H, I.tok _, ru, q⟩) hs
structure Glob (T : GT) (C : G0) (n : Nat) (c : CC) (P : Program) (w : World) (mg : Str → Option Value) (base : Heap) : Prop where
  names : ∀ (g : Nat) (x : Str), c.fn[g]? = some x → mg x = some (.ref (C.gv g)) ∧ g < T.fns.length
  fns : ∀ (g : Nat) (F : FnD), T.fns[g]? = some F → PySem.W.keepIn C.K (.ref (C.gv g)) = true ∧ ∃ fd, FnOk P w C.K mg base (CX P w) n (C.gv g) fd F.ps (SpI T C n g F.ps.length) ∧ Binds C.K fd F.ps [] ∧
    ∀ ks np, (g, ks, np) ∈ c.kw → KBinds C.K fd F.ps ks (kwG F.ps ks np) (kwG F.ps ks np)
  cons : ∀ (k : Nat) (x : Str) (d : D), c.cn[k]? = some x → T.cons[k]? = some d → ∃ v u, mg x = some u ∧ RelV v u ∧ ∀ H, Rep C H d v
  bi : ∀ s ∈ bnames, mg (Str.ofString s) = none
  gcd : c.gcd = true → mg (Str.ofString "gcd") = some (.builtin "math.gcd")
  dcs : ∀ (k : Nat) (x : Str) (p : List Key × List D), c.dn[k]? = some x → T.dcs[k]? = some p → ∃ a, mg x = some (.ref a) ∧ ∀ kk d, dlook p.1 p.2 kk = some d → ∃ i v, kk = .inl i ∧ KDI C.K a i v ∧ ∀ H, Rep C H d v
structure Good (T : GT) (C : G0) (n : Nat) (W : WX) (c : CC) (X : Cx) : Prop where
  K : X.K = C.K
  N : X.N = c.N
  nd : c.N.Nodup
  sc : X.env.scope = c.sc
  st : ∀ i x, stB c i x = true → Loc X.env.scope x ∧ (X.fn x = true ∨ X.env.scope.names.lookup x = some .local)
  cm : c.calm = true → X.calm = true
  hu : X.A.units + 64 < cLine
  room : c.calm = true → Room n X.A
  tk : Takes X W
  gl : Glob T C n c X.prog X.w X.mg X.base
theorem vis_of {sc : Scope} {x : Str} (h : visB sc x = true) : Vis sc x := by
  unfold visB at h
  split at h <;> first | exact .inl (by assumption) | exact .inr (.inl (by assumption)) | exact .inr (.inr (by assumption)) | cases h
theorem gl_of {sc : Scope} {x : Str} (h : glB sc x = true) : sc.names.lookup x = some .globalImplicit ∧ (x == ("__debug__" : Str)) = false ∧ x ≠ "__name__" := by
  unfold glB at h
  rw [Bool.and_eq_true, Bool.and_eq_true] at h
  obtain ⟨⟨h1, h2⟩, h3⟩ := h
  refine ⟨?_, by simpa using h2, fun e => by subst e; simp at h3⟩
  split at h1 <;> first | assumption | cases h1
section
variable {T : GT} {C : G0} {n : Nat} {W : WX} {c : CC} {X : Cx}
theorem Good.nm (G : Good T C n W c X) {i : Nat} {x : Str} {pos : Pos} (h : nmB c i x = true) : PE X (.Name x pos) (tVar i) := by
  unfold nmB at h
  rw [Bool.and_eq_true, Bool.and_eq_true] at h
  obtain ⟨⟨h1, h2⟩, h3⟩ := h
  unfold dbgB at h3
  rw [Bool.and_eq_true] at h3
  exact pe_var (by rw [G.N]; exact of_decide_eq_true h1) (by rw [G.sc]; exact vis_of h2) (by simpa using h3.1) (by simpa using h3.2)
theorem Good.glb (G : Good T C n W c X) {x : Str} (h : glB c.sc x = true) : Gl X x ∧ (x == ("__debug__" : Str)) = false ∧ x ≠ "__name__" := by
  obtain ⟨h1, h2⟩ := gl_of h
  refine ⟨?_, h2⟩
  show X.env.scope.names.lookup x = _
  rw [G.sc]; exact h1
/-! ### names, constants -/
theorem s_var (G : Good T C n W c X) {i : Nat} {x : Str} {pos : Pos} (h : nmB c i x = true) : PE X (.Name x pos) (RE T C n W (.var i)) := by
  refine (G.nm h).to fun σ H Q => ?_
  rintro ⟨e, F, R, q⟩
  simp only [evE, tst_false] at q
  cases es : e[i]? with
  | none => rw [es] at q; exact q.elim
  | some s =>
    rw [es] at q
    have z := R.slot i s es
    cases s with
    | un => exact q.elim
    | val d => obtain ⟨v, h1, h2⟩ := z; exact ⟨v, h1, q.val R h2⟩
    | fro d => obtain ⟨v, h1, h2⟩ := z; exact ⟨v, h1, q.val R h2⟩
    | own d => obtain ⟨a, h1, h2⟩ := z; exact ⟨_, h1, q _ _ _ (TrE.refl R) ⟨h1, _, es, rfl⟩⟩
    | bor d => obtain ⟨a, h1, h2⟩ := z; exact ⟨_, h1, q _ _ _ (TrE.refl R) ⟨h1, _, es, rfl⟩⟩
theorem s_int {k : Int} {j pos} : PE X (.Constant (.int k) j pos) (RE T C n W (.int k)) := pe_int.to fun σ H Q ⟨e, F, R, q⟩ => q.val R rep_int
theorem s_bl {k : Bool} {j pos} : PE X (.Constant (.bool k) j pos) (RE T C n W (.bl k)) := pe_bl.to fun σ H Q ⟨e, F, R, q⟩ => q.val R rep_bl
theorem s_non {j pos} : PE X (.Constant .none j pos) (RE T C n W .non) := pe_non.to fun σ H Q ⟨e, F, R, q⟩ => q.val R rep_non
theorem s_str {k : Str} {j pos} : PE X (.Constant (.str k) j pos) (RE T C n W (.str k)) := pe_str.to fun σ H Q ⟨e, F, R, q⟩ => q.val R rep_str
theorem s_con (G : Good T C n W c X) {k : Nat} {x : Str} {pos : Pos} (h : c.cn[k]? = some x) (hg : glB c.sc x = true) : PE X (.Name x pos) (RE T C n W (.con k)) := by
  obtain ⟨g1, g2, _⟩ := G.glb hg
  refine ⟨fun pins s σ H Q I h' => ?_⟩
  obtain ⟨e, F, R, q⟩ := h'
  obtain ⟨d, ed, q⟩ := PostE.opt (show PostE C W e F σ H (opt T.cons[k]? fun d => .ok (.v d) e) Q from q)
  obtain ⟨v, u, m, r, rep⟩ := G.gl.cons k x d h ed
  exact ld_glob I g1 m ⟨v, H, I, r, q.val R (rep F)⟩ g2
theorem s_fnv (G : Good T C n W c X) {g : Nat} {x : Str} {pos : Pos} (h : c.fn[g]? = some x) (hg : glB c.sc x = true) : PE X (.Name x pos) (RE T C n W (.fnv g)) := by
  obtain ⟨g1, g2, _⟩ := G.glb hg
  obtain ⟨m, hl⟩ := G.gl.names g x h
  refine ⟨fun pins s σ H Q I h' => ?_⟩
  obtain ⟨e, F, R, q⟩ := h'
  simp only [evE, tst_false, if_pos hl] at q
  exact ld_glob I g1 m ⟨.ref (C.gv g), H, I, rfl, q.val R (by rw [Rep])⟩ g2
/-! ### operators -/
theorem s_bin (G : Good T C n W c X) {o : Bop} {a b : E} {x y : Expr} {pos : Pos} (ha : PE X x (RE T C n W a)) (hb : PE X y (RE T C n W b)) : PE X (.BinOp x (opOf o) y pos) (RE T C n W (.bin o a b)) := by
  refine (pe_op (op_bin (W := W) G.K o) ha hb).to fun σ H Q => ?_
  rintro ⟨e, F, R, q⟩
  refine ⟨e, F, R, PostE.first (show PostE C W e F σ H ((evE T (callF T n) false a e).bd _) Q from q) fun ra e1 v1 F1 H1 t1 r1 q => ?_⟩
  refine ⟨e1, F1, t1.sr, PostE.first q fun rb e2 v2 F2 H2 t2 r2 q => ?_⟩
  obtain ⟨d1, k1, q⟩ := q.opt
  obtain ⟨d2, k2, q⟩ := q.opt
  refine ⟨d1, d2, e2, F2, σ, t2.sr, fun i d v h1 h2 => ?_, q⟩
  match i, h1, h2 with
  | 0, h1, h2 => cases h1; cases h2; exact cont_crp t2.sr (r1.mono t2) k1
  | 1, h1, h2 => cases h1; cases h2; exact cont_crp t2.sr r2 k2
theorem s_neg {a : E} {x : Expr} {pos : Pos} (ha : PE X x (RE T C n W a)) : PE X (.UnaryOp .USub x pos) (RE T C n W (.neg a)) := by
  refine (pe_un un_neg ha).to fun σ H Q => ?_
  rintro ⟨e, F, R, q⟩
  refine ⟨e, F, R, PostE.first (show PostE C W e F σ H ((evE T (callF T n) false a e).bd _) Q from q) fun ra e1 v1 F1 H1 t1 r1 q => ?_⟩
  obtain ⟨i, k1, q⟩ := q.opt
  obtain ⟨d, k1, k2⟩ := Option.bind_eq_some_iff.mp k1
  have z := cont_crp t1.sr r1 k1
  cases d <;> cases k2
  cases z.int
  exact ⟨_, rfl, q.val t1.sr rep_int⟩

theorem tru_V {H : Hp} {d : D} {v : V} {b : Bool} (h : Rep C H d v) (t : truth d = some b) : TruV C.K v H b := by
  rcases tru_rep h t with ⟨ks, xs, rfl, a, vs, rfl, e, k⟩ | h
  · exact .inr (.inr ⟨_, e, k⟩)
  · exact h
theorem tst_post {e : EV} {F : Hp} {σ : St} {H : Hp} {x : Out RV} {Q : Bool → Hp → Prop} (h : PostB C W e F σ H (toB (tst true x)) Q) : PostE C W e F σ H x fun v H' => ∃ k, TruV C.K v H' k ∧ Q k H' := by
  cases x with
  | ok r e' =>
    simp only [tst_true, bd_ok] at h
    cases k1 : (cont e' r).bind truth with
    | none => rw [k1] at h; exact h.elim
    | some b =>
      rw [k1] at h
      obtain ⟨d, k2, k3⟩ := Option.bind_eq_some_iff.mp k1
      exact fun v F' H' t r => ⟨b, tru_V (cont_rep t.sr r k2) k3, h F' H' t⟩
  | exc c p e' => exact h
  | stuck => exact h
/-- whose test is its value's truth -/
theorem s_plain (G : Good T C n W c X) {a : E} {x : Expr} (h : PE X x (RE T C n W a)) (ev : ∀ e, evE T (callF T n) true a e = tst true (evE T (callF T n) false a e))
    (he : ∀ whole, isTrue x X.env whole = (do let v ← whole; standAt x.pos; holding [v] (truthy v))) : PT X x (RT T C n W a) := by
  refine (pt_truth h he).to fun σ H Q ⟨e, F, R, q⟩ => ⟨e, F, R, ?_⟩
  rw [ev] at q
  rw [G.K]
  exact tst_post q
theorem rd_cmp {o : CmpOp} {a b : E} {σ : St} {H : Hp} {Q Q' : VK} (h : RE T C n W (.cmp o a b) σ H Q) (k : ∀ b H, Q (.bl b) H → Q' (.bl b) H) : tOp (rCmp C o) (RE T C n W a) (RE T C n W b) σ H Q' := by
  obtain ⟨e, F, R, q⟩ := h
  refine ⟨e, F, R, PostE.first (show PostE C W e F σ H ((evE T (callF T n) false a e).bd _) Q from q) fun ra e1 v1 F1 H1 t1 r1 q => ?_⟩
  refine ⟨e1, F1, t1.sr, PostE.first q fun rb e2 v2 F2 H2 t2 r2 q => ?_⟩
  obtain ⟨d1, k1, q⟩ := q.opt
  obtain ⟨d2, k2, q⟩ := q.opt
  obtain ⟨b, k3, q⟩ := q.opt
  exact ⟨d1, d2, b, k3, cont_rep t2.sr (r1.mono t2) k1, cont_rep t2.sr r2 k2, k _ _ (q.val t2.sr rep_bl)⟩
theorem s_cmp (G : Good T C n W c X) {o : CmpOp} {a b : E} {x y : Expr} {pos : Pos} (ha : PE X x (RE T C n W a)) (hb : PE X y (RE T C n W b)) (hm : behindInMarks o y = false) :
    PE X (.Compare x [o] [y] pos) (RE T C n W (.cmp o a b)) ∧ PT X (.Compare x [o] [y] pos) (RT T C n W (.cmp o a b)) := by
  refine ⟨(pe_cmpR (op_cmp G.K G.hu o) ha hb hm).to fun σ H Q h => rd_cmp h fun _ _ h => h, (pt_cmpR (op_cmp G.K G.hu o) ha hb hm).to fun σ H Q ⟨e, F, R, q⟩ => ?_⟩
  have q : PostB C W e F σ H (toB (tst true (evE T (callF T n) false (.cmp o a b) e))) Q := q
  exact rd_cmp ⟨e, F, R, tst_post q⟩ fun b H ⟨k, k1, k2⟩ => ⟨_, rfl, by cases (show k = b from k1); exact k2⟩
theorem rd_chain {o p : CmpOp} {a b d : E} {σ : St} {H : Hp} {Q Q' : VK} (h : RE T C n W (.chain o p a b d) σ H Q) (k : ∀ b H, Q (.bl b) H → Q' (.bl b) H) : tChain (rCmp C o) (rCmp C p) (RE T C n W a) (RE T C n W b) (RE T C n W d) σ H Q' := by
  obtain ⟨e, F, R, q⟩ := h
  refine ⟨e, F, R, PostE.first (show PostE C W e F σ H ((evE T (callF T n) false a e).bd _) Q from q) fun ra e1 v1 F1 H1 t1 r1 q => ?_⟩
  refine ⟨e1, F1, t1.sr, PostE.first q fun rb e2 v2 F2 H2 t2 r2 q => ?_⟩
  obtain ⟨d1, k1, q⟩ := q.opt
  obtain ⟨d2, k2, q⟩ := q.opt
  obtain ⟨z, k3, q⟩ := q.opt
  refine ⟨d1, d2, z, k3, cont_rep t2.sr (r1.mono t2) k1, cont_rep t2.sr r2 k2, z, rfl, ?_⟩
  cases z with
  | false =>
    rw [if_neg Bool.false_ne_true] at q ⊢
    exact k _ _ (q.val t2.sr rep_bl)
  | true =>
    rw [if_pos rfl] at q ⊢
    refine ⟨e2, F2, t2.sr, PostE.first q fun rc e3 v3 F3 H3 t3 r3 q => ?_⟩
    obtain ⟨d4, k4, q⟩ := q.opt
    obtain ⟨d5, k5, q⟩ := q.opt
    obtain ⟨b, k6, q⟩ := q.opt
    exact ⟨d4, d5, b, k6, cont_rep t3.sr (r2.mono t3) k4, cont_rep t3.sr r3 k5, k _ _ (q.val t3.sr rep_bl)⟩
theorem s_chain (G : Good T C n W c X) {o p : CmpOp} {a b d : E} {x y z : Expr} {pos : Pos} (ha : PE X x (RE T C n W a)) (hb : PE X y (RE T C n W b)) (hc : PE X z (RE T C n W d)) (hm : lastMarks [o, p] [y, z] = false) :
    PE X (.Compare x [o, p] [y, z] pos) (RE T C n W (.chain o p a b d)) ∧ PT X (.Compare x [o, p] [y, z] pos) (RT T C n W (.chain o p a b d)) := by
  refine ⟨(pe_chain (op_cmp G.K G.hu o) (op_cmp G.K G.hu p) ha hb hc hm).to fun σ H Q h => rd_chain h fun _ _ h => h, (pt_chain (op_cmp G.K G.hu o) (op_cmp G.K G.hu p) ha hb hc hm).to fun σ H Q ⟨e, F, R, q⟩ => ?_⟩
  have q : PostB C W e F σ H (toB (tst true (evE T (callF T n) false (.chain o p a b d) e))) Q := q
  exact rd_chain ⟨e, F, R, tst_post q⟩ fun b H ⟨k, k1, k2⟩ => ⟨_, rfl, by cases (show k = b from k1); exact k2⟩
/-! ### and, or, not, if-else -/
theorem PostB.of {e : EV} {F : Hp} {σ : St} {H : Hp} {x : Out RV} {Q : Bool → Hp → Prop} (h : PostB C W e F σ H (toB x) Q) : PostE C W e F σ H x fun v H' => ∃ b, v = .bl b ∧ Q b H' := by
  cases x with
  | ok r e' =>
    cases r with
    | v d =>
      cases d <;> first | exact h.elim | skip
      intro v F' H' t r
      refine ⟨_, (show v = .bl _ from by have q : Rep C F' (.bl _) v := r; rw [Rep] at q; exact q), h F' H' t⟩
    | t d => exact h.elim
    | h i => exact h.elim
  | exc c p e' => exact h
  | stuck => exact h
/-- in test mode a result is a bool -/
theorem toB_first {e : EV} {F : Hp} {σ : St} {H : Hp} {x : Out RV} {f : RV → EV → Out RV} {Q Q1 : Bool → Hp → Prop} (h : PostB C W e F σ H (toB (x.bd f)) Q) (hb : ∀ r e', x = .ok r e' → ∃ b, r = .v (.bl b))
    (k : ∀ b e1 F1 H1, TrE C e F σ H e1 F1 H1 → PostB C W e1 F1 σ H1 (toB (f (.v (.bl b)) e1)) Q → Q1 b H1) : PostB C W e F σ H (toB x) Q1 := by
  cases x with
  | ok r e1 =>
    obtain ⟨b, rfl⟩ := hb r e1 rfl
    exact fun F1 H1 t => k b e1 F1 H1 t (PostB.shift t h)
  | exc c p e1 => exact h
  | stuck => exact h
theorem tst_bool {x : Out RV} {r : RV} {e : EV} (h : tst true x = .ok r e) : ∃ b, r = .v (.bl b) := by
  cases x with
  | ok r' e' =>
    simp only [tst_true, bd_ok] at h
    cases k1 : (cont e' r').bind truth with
    | none => rw [k1] at h; cases h
    | some b => rw [k1] at h; cases h; exact ⟨b, rfl⟩
  | exc c p e' => cases h
  | stuck => cases h
theorem bd_eq {α β : Type} {x : Out α} {f : α → EV → Out β} {r : β} {e : EV} (h : x.bd f = .ok r e) : ∃ a e1, x = .ok a e1 ∧ f a e1 = .ok r e := by
  cases x with
  | ok a e1 => exact ⟨a, e1, rfl, h⟩
  | exc c p e1 => cases h
  | stuck => cases h
theorem opt_eq {α β : Type} {x : Option α} {f : α → Out β} {r : β} {e : EV} (h : opt x f = .ok r e) : ∃ a, x = some a ∧ f a = .ok r e := by
  cases x with
  | none => cases h
  | some a => exact ⟨a, rfl, h⟩
mutual
theorem evE_bool : ∀ (a : E) (e : EV) (r : RV) (e' : EV), evE T (callF T n) true a e = .ok r e' → ∃ b, r = .v (.bl b)
  | .var _, _, _, _, h => tst_bool h
  | .int _, _, _, _, h => tst_bool h
  | .bl _, _, _, _, h => tst_bool h
  | .non, _, _, _, h => tst_bool h
  | .str _, _, _, _, h => tst_bool h
  | .con _, _, _, _, h => tst_bool h
  | .fnv _, _, _, _, h => tst_bool h
  | .dix _ _, _, _, _, h => tst_bool h
  | .lrg _ _, _, _, _, h => tst_bool h
  | .lset _, _, _, _, h => tst_bool h
  | .sset _, _, _, _, h => tst_bool h
  | .comp2 _ _ _ _ _ _ _ _ _, _, _, _, h => tst_bool h
  | .dd1 _ _, _, _, _, h => tst_bool h
  | .bin _ _ _, _, _, _, h => tst_bool h
  | .neg _, _, _, _, h => tst_bool h
  | .cmp _ _ _, _, _, _, h => tst_bool h
  | .chain _ _ _ _ _, _, _, _, h => tst_bool h
  | .andor k es, e, r, e', h => evV_bool es k e r e' h
  | .not_ a, e, r, e', h => by
    simp only [evE] at h
    obtain ⟨_, _, _, h⟩ := bd_eq h
    obtain ⟨b, _, h⟩ := opt_eq h
    cases h
    exact ⟨_, rfl⟩
  | .ite _ _ _, _, _, _, h => by simp only [evE, if_pos] at h; cases h
  | .tup _, _, _, _, h => tst_bool h
  | .lst _, _, _, _, h => tst_bool h
  | .ix _ _, _, _, _, h => tst_bool h
  | .sl _ _ _, _, _, _, h => tst_bool h
  | .rev _, _, _, _, h => tst_bool h
  | .call _ _, _, _, _, h => tst_bool h
  | .callt _ _, _, _, _, h => tst_bool h
  | .callk _ _ _ _, _, _, _, h => tst_bool h
  | .calld _ _, _, _, _, h => tst_bool h
  | .bi _ _, _, _, _, h => tst_bool h
  | .isi _ _, _, _, _, h => tst_bool h
  | .isx _ _ _, _, _, _, h => tst_bool h
  | .dnew _, _, _, _, h => tst_bool h
  | .dlit _ _ _ _, _, _, _, h => tst_bool h
  | .app _ _, _, _, _, h => tst_bool h
  | .ext _ _, _, _, _, h => tst_bool h
  | .pop _, _, _, _, h => tst_bool h
  | .popat _ _, _, _, _, h => tst_bool h
  | .comp _ _ _ _ _, _, _, _, h => tst_bool h
theorem evV_bool : ∀ (as : List E) (k : Bool) (e : EV) (r : RV) (e' : EV), evV T (callF T n) true k as e = .ok r e' → ∃ b, r = .v (.bl b)
  | [], _, _, _, _, h => by simp only [evV] at h; cases h
  | a :: as, k, e, r, e', h => by
    cases as with
    | nil => simp only [evV] at h; exact evE_bool a e r e' h
    | cons b bs =>
      rw [evV] at h
      obtain ⟨r1, e1, h1, h⟩ := bd_eq h
      obtain ⟨z, _, h⟩ := opt_eq h
      split at h
      · exact evV_bool (b :: bs) k e1 r e' h
      · cases h; exact evE_bool a e r e' h1
end
end
end PL
end

section
/-! the reverse of a tuple by a slice -/
namespace PL.RevT
open PySem PySem.Spec PyProof.Rows L2

section
variable {prog : Program} {w : World} {A : Around} {E : Value → Shared → Prop} {s : Shared}
theorem places_rev (n : Nat) : Builtin.Slice.slicePlaces ((n : Int) - 1) (-1) (-1) = n := by
  unfold Builtin.Slice.slicePlaces
  rw [if_neg (by decide)]
  by_cases h : ((n : Int) - 1) > -1
  · rw [if_pos h]
    simp
  · rw [if_neg h]
    omega
theorem applied_rev {sl : Addr} {vs : Value} {n : Nat} {Q : Int × Int × Nat → Shared → Prop} (hs : s.heap.IsSliceOf sl .none .none vs) (ps : IsPart vs (some (-1)))
    (h : Q ((n : Int) - 1, -1, n) s) : wpAny (model prog w) A (Builtin.Slice.sliceApplied (.ref sl) (pure (n : Int))) Q E s := by
  obtain ⟨os, hos, hcs, hds⟩ := id hs
  unfold Builtin.Slice.sliceApplied Builtin.Slice.sliceFields
  refine wpAny_bind (wpAny_bind (wpAny_field hos hds (x := .none) rfl (wpAny_bind (wpAny_field hos hds (x := .none) rfl (wpAny_bind (wpAny_field hos hds (x := vs) rfl (wpAny_pure ?_)))))))
  refine wpAny_bind (HT.slicePart_ ps ?_)
  show wpAny _ _ (if ((-1 : Int) == 0) = true then _ else _) _ _ s
  rw [if_neg (by decide)]
  refine wpAny_bind (HT.slicePart_ .none (wpAny_bind (HT.slicePart_ .none (wpAny_bind (wpAny_pure ?_)))))
  show wpAny _ _ (match Builtin.Slice.sliceAdjust none none (-1) (n : Int) with | (lo, hi) => pure (lo, (-1 : Int), Builtin.Slice.slicePlaces lo hi (-1))) _ _ s
  have e : Builtin.Slice.sliceAdjust none none (-1) (n : Int) = ((n : Int) - 1, -1) := rfl
  rw [e]
  show wpAny _ _ (pure ((n : Int) - 1, (-1 : Int), Builtin.Slice.slicePlaces ((n : Int) - 1) (-1) (-1))) _ _ s
  rw [places_rev]
  exact wpAny_pure h
theorem pick_rev (xs : Array Value) : ((List.range xs.size).filterMap fun (m : Nat) => xs[(((xs.size : Int) - 1) + (m : Int) * (-1)).toNat]?).toArray = xs.toList.reverse.toArray := by
  have h := PySem.W.krv_pick xs
  unfold slicePick at h
  rw [← h]
  congr 1
  rw [show (sliceBounds none none (some (-1)) xs.size).1 = (xs.size : Int) - 1 from rfl, show (sliceBounds none none (some (-1)) xs.size).2.1 = -1 from rfl, show (sliceBounds none none (some (-1)) xs.size).2.2 = -1 from rfl, PySem.W.krv_sliceRange, List.filterMap_map]
  have : ∀ l : List Nat, (∀ m ∈ l, m < xs.size) → l.filterMap (fun (m : Nat) => xs[(((xs.size : Int) - 1) + (m : Int) * (-1)).toNat]?) = l.filterMap ((fun x => xs[x]?) ∘ fun k => xs.size - 1 - k) := by
    intro l
    induction l with
    | nil => intro _; rfl
    | cons m l ih =>
      intro hm
      have hk := hm m (by simp)
      have e : (((xs.size : Int) - 1) + (m : Int) * (-1)).toNat = xs.size - 1 - m := by omega
      rw [List.filterMap_cons, List.filterMap_cons, ih (fun k hk => hm k (by simp [hk])), e]
      rfl
  exact this _ fun m hm => List.mem_range.mp hm
theorem getItem_tuple_rev {t sl : Addr} {items : Array Value} {vs : Value} {Q : Value → Shared → Prop} (ht : IsTup s.heap t items) (hs : s.heap.IsSliceOf sl .none .none vs) (ps : IsPart vs (some (-1)))
    (h : Q (.ref s.heap.objs.size) { s with heap := s.heap.push { cls := .type "tuple", data := .seq items.toList.reverse.toArray } })
    (hsz : items.size ≤ sizeLine) : wpAny (model prog w) A (getItem (.ref t) (.ref sl)) Q E s := by
  have htake : sizeOk (.seq items.toList.reverse.toArray) := by
    show items.toList.reverse.toArray.size ≤ sizeLine
    rw [List.size_toArray, List.length_reverse, Array.length_toList]
    exact hsz
  obtain ⟨os, hos, hcs, hds⟩ := id hs
  have hTs : s.TypeIs (.ref sl) "slice" := ⟨os, hos, hcs⟩
  unfold getItem
  try with_reducible refine wpAny_holding ?_
  first | refine wpAny_bind (wpAny_pure ?_) | skip
  refine wpAny_bind (wpAny_sequenceKey ht.typeIs (by decide) ?_)
  refine wpAny_bind (wpAny_callSpecial?_slot (name := Str.ofString "__getitem__") ht.typeIs PyProof.Rows.slot_tuple_getitem
    (wpAny_call_entry PyProof.Rows.slot_tuple_getitem ht.typeIs entry_tuple_getitem ?_ (args_tuple_getitem _ _)))
  show wpAny _ _ (Builtin.Tuple.tupleItemsOf (.ref t) >>= _) _ _ s
  refine wpAny_bind (tupleItemsOf_ ht ?_)
  refine wpAny_bind (wpAny_typeOf hTs ?_)
  rw [if_pos (by decide)]
  refine wpAny_bind (applied_rev hs ps ?_)
  have hno : ¬ ((((items.size : Int) - 1) == 0 && (-1 : Int) == 1 && items.size == items.size) = true) := by
    intro q
    rw [Bool.and_eq_true, Bool.and_eq_true] at q
    have := eq_of_beq q.1.2
    omega
  show wpAny _ _ (if (((items.size : Int) - 1) == 0 && (-1 : Int) == 1 && items.size == items.size) = true then _ else _) _ _ s
  rw [if_neg hno, pick_rev]
  first
    | exact wpAny_bind (m := Builtin.Tuple.tupleExact _) (wpAny_newObj_type (wpAny_pure ⟨_, rfl, wpAny_pure h⟩) htake)
    | exact wpAny_bind (m := Builtin.Tuple.tupleExact _) (wpAny_newObj_type (wpAny_bind (wpAny_pure (wpAny_pure ⟨_, rfl, wpAny_pure h⟩))) htake)
    | exact wpAny_bind (wpAny_bind (m := Builtin.Tuple.tupleExact _) (wpAny_newObj_type (wpAny_pure (wpAny_pure ⟨_, rfl, wpAny_pure h⟩)) htake))
    | exact wpAny_bind (wpAny_bind (m := Builtin.Tuple.tupleExact _) (wpAny_newObj_type (wpAny_pure ⟨_, rfl, wpAny_pure h⟩) htake))
end
section
variable {X : Cx}
/-- a list or a tuple, back to front -/
def tRevA (K : PySem.W.Frag) (te : TE) : TE := fun σ H Q => te σ H fun x H1 => (∃ a xs, x = .ref a ∧ SqL K H1 a xs ∧ ∀ p, H1 p = none → Q (.ref p) (upd H1 p (.lst xs.reverse))) ∨
  (∃ a xs, x = .ref a ∧ SqT K H1 a xs ∧ ∀ p, H1 p = none → Q (.ref p) (upd H1 p (.tup xs.reverse)))
theorem pe_revA {e : Expr} {te : TE} {k : Nat} {p1 p2 p3 pos : Pos} (he : PE X e te) : PE X (.Subscript e (.Slice none none (some (.UnaryOp .USub (.Constant (.int 1) k p1) p2)) p3) pos) (tRevA X.K te) := by
  refine ⟨fun pins s σ H Q I h => ?_⟩
  refine Subscript_ (thn (he.run pins s σ H _ I h) fun v s1 ⟨x, H1, I1, r1, q1⟩ => ?_)
  have hst : PO X (some (.UnaryOp .USub (.Constant (.int 1) k p1) p2)) (tPart (tUn (rU fun i => .int (-i)) (tC (.int 1)))) := po_some (pe_un un_neg pe_int)
  refine wpAny_Slice (thn (po_none.run pins s1 σ H1 (fun o H2 => o = none ∧ H2 = H1) I1 ⟨rfl, rfl⟩) fun vl s2 ⟨l, H2, I2, pl, el, e2⟩ => ?_)
  subst el e2
  refine thn (po_none.run pins s2 σ H2 (fun o H3 => o = none ∧ H3 = H2) I2 ⟨rfl, rfl⟩) fun vu s3 ⟨u, H3, I3, pu, eu, e3⟩ => ?_
  subst eu e3
  refine thn (hst.run pins s3 σ H3 (fun o H4 => o = some (-1) ∧ H4 = H3) I3 ⟨1, rfl, -1, rfl, rfl, rfl⟩) fun vs s4 ⟨o, H4, I4, ps, eo, e4⟩ => ?_
  subst eo e4
  have I5 : Inv X pins σ H4 { s4 with heap := s4.heap.push { cls := .type "slice", data := .fields #[vl, vu, vs] } } := I4.kept (t' := s4.toks) fun b ob q => Heap.get?_push_of_some _ q
  rcases q1 with ⟨a, xs, ex, hx, q⟩ | ⟨a, xs, ex, hx, q⟩
  · subst ex
    cases r1
    obtain ⟨its, r, ht, hz⟩ := I5.list hx
    have hlen := r.length
    show wpAny (model X.prog X.w) X.A (subscriptTail e (.Slice none none (some (.UnaryOp .USub (.Constant (.int 1) k p1) p2)) p3) (.ref a) (.ref s4.heap.objs.size)) (EP X pins σ Q) X.xe { s4 with heap := s4.heap.push { cls := .type "slice", data := .fields #[vl, vu, vs] } }
    refine tail_any (ops := [.ref a, .ref s4.heap.objs.size]) ht.isList.typeIs (PySem.slot_list_getitem.lookup) ?_ (by with_unfolding_all rfl)
    refine wpAny_getItem_list_slice ht.isList (Heap.IsSliceOf.new _ vl vu vs) pl pu ps (by decide) ?_ (by rw [List.size_toArray]; omega)
    rw [PySem.W.krv_pick]
    refine ⟨.ref _, _, I5.laid (t' := s4.toks) (o := .lst xs.reverse) (fun b ob q => Heap.get?_push_of_some _ q) (Nat.le_refl _) ?_, rfl, q _ (I5.hok.fresh (Nat.le_refl _))⟩
    exact ⟨by rw [List.length_reverse]; exact hz, _, 0, r.reverse, Heap.get?_push_size _ rfl⟩
  · subst ex
    cases r1
    obtain ⟨its, r, ht, hz⟩ := I5.tuple hx
    have hlen := r.length
    cases pl
    cases pu
    show wpAny (model X.prog X.w) X.A (subscriptTail e (.Slice none none (some (.UnaryOp .USub (.Constant (.int 1) k p1) p2)) p3) (.ref a) (.ref s4.heap.objs.size)) (EP X pins σ Q) X.xe { s4 with heap := s4.heap.push { cls := .type "slice", data := .fields #[.none, .none, vs] } }
    refine tail_any (ops := [.ref a, .ref s4.heap.objs.size]) ht.typeIs (PyProof.Rows.slot_tuple_getitem.lookup) ?_ (by with_unfolding_all rfl)
    refine getItem_tuple_rev ht (Heap.IsSliceOf.new _ .none .none vs) ps ?_ (by rw [List.size_toArray]; omega)
    refine ⟨.ref _, _, I5.laid (t' := s4.toks) (o := .tup xs.reverse) (fun b ob q => Heap.get?_push_of_some _ q) (Nat.le_refl _) ?_, rfl, q _ (I5.hok.fresh (Nat.le_refl _))⟩
    exact ⟨by rw [List.length_reverse]; exact hz, _, r.reverse, IsTup.new _ _⟩
end
end PL.RevT
end

section
namespace PL
open PySem PySem.Spec L2

section
variable {T : GT} {C : G0} {n : Nat} {W : WX} {c : CC} {X : Cx}
def bopOf (k : Bool) : BoolOp := if k then .And else .Or
theorem s_andor1 {k : Bool} {a : E} {x : Expr} {pos : Pos} (ha : PE X x (RE T C n W a)) : PE X (.BoolOp (bopOf k) [x] pos) (RE T C n W (.andor k [a])) := by
  refine (pe_one ha).to fun σ H Q ⟨e, F, R, q⟩ => ⟨e, F, R, ?_⟩
  simpa only [evE, evV] using q
theorem s_andor (G : Good T C n W c X) {k : Bool} {a b : E} {as : List E} {x y : Expr} {xs : List Expr} {pos : Pos} (ha : PE X x (RE T C n W a)) (hb : PE X (.BoolOp (bopOf k) (y :: xs) pos) (RE T C n W (.andor k (b :: as)))) :
    PE X (.BoolOp (bopOf k) (x :: y :: xs) pos) (RE T C n W (.andor k (a :: b :: as))) := by
  have main : ∀ {σ H Q}, RE T C n W (.andor k (a :: b :: as)) σ H Q → RE T C n W a σ H fun v H1 => ∃ z, TruV C.K v H1 z ∧ if z = k then RE T C n W (.andor k (b :: as)) σ H1 Q else Q v H1 := fun {σ H Q} ⟨e, F, R, q⟩ => by
    have q : PostE C W e F σ H ((evE T (callF T n) false a e).bd fun r e1 => opt ((cont e1 r).bind truth) fun z => if z = k then evV T (callF T n) false k (b :: as) e1 else .ok r e1) Q := q
    refine ⟨e, F, R, ?_⟩
    revert q
    generalize evE T (callF T n) false a e = o
    intro q
    cases o with
    | exc c p e' => exact q
    | stuck => exact q
    | ok r e1 =>
      intro v F1 H1 t1 r1
      obtain ⟨z, k1, q⟩ := PostE.opt (show PostE C W e F σ H (opt _ _) Q from q)
      obtain ⟨d, k1, k2⟩ := Option.bind_eq_some_iff.mp k1
      refine ⟨z, tru_V (cont_rep t1.sr r1 k1) k2, ?_⟩
      split at q
      · rename_i hz
        rw [if_pos hz]
        exact ⟨e1, F1, t1.sr, PostE.shift t1 q⟩
      · rename_i hz
        rw [if_neg hz]
        exact q _ _ _ t1 r1
  cases k with
  | true =>
    refine (pe_andT ha hb).to fun σ H Q h => ?_
    have := main h
    rw [← G.K] at this
    exact this
  | false =>
    refine (pe_orT ha hb).to fun σ H Q h => ?_
    obtain ⟨e, F, R, q⟩ := main h
    refine ⟨e, F, R, ?_⟩
    rw [G.K]
    revert q
    generalize evE T (callF T n) false a e = o
    intro q
    cases o with
    | ok r e' =>
      intro v F' H' t r
      obtain ⟨z, z1, z2⟩ := q v F' H' t r
      refine ⟨z, z1, ?_⟩
      cases z with
      | true => rw [if_neg (by simp)] at z2; rw [if_pos rfl]; exact z2
      | false => rw [if_pos rfl] at z2; rw [if_neg (by simp)]; exact z2
    | exc c p e' => exact q
    | stuck => exact q
theorem t_andor1 {k : Bool} {a : E} {x : Expr} {pos : Pos} (ha : PT X x (RT T C n W a)) : PW X (.BoolOp (bopOf k) [x] pos) (RT T C n W (.andor k [a])) := by
  have z : PW X (.BoolOp (bopOf k) [x] pos) (RT T C n W a) := by
    cases k with
    | true => exact pw_and1 ha
    | false => exact pw_or1 ha
  refine z.to fun σ H Q ⟨e, F, R, q⟩ => ⟨e, F, R, ?_⟩
  simpa only [evE, evV] using q
theorem t_andor {k : Bool} {a b : E} {as : List E} {x y : Expr} {xs : List Expr} {pos : Pos} (ha : PT X x (RT T C n W a)) (hb : PW X (.BoolOp (bopOf k) (y :: xs) pos) (RT T C n W (.andor k (b :: as)))) :
    PW X (.BoolOp (bopOf k) (x :: y :: xs) pos) (RT T C n W (.andor k (a :: b :: as))) := by
  have main : ∀ {σ H Q}, RT T C n W (.andor k (a :: b :: as)) σ H Q → RT T C n W a σ H fun z H1 => if z = k then RT T C n W (.andor k (b :: as)) σ H1 Q else Q z H1 := fun {σ H Q} ⟨e, F, R, q⟩ => by
    refine ⟨e, F, R, toB_first (f := fun r e1 => opt ((cont e1 r).bind truth) fun z => if z = k then evV T (callF T n) true k (b :: as) e1 else .ok r e1) q (fun r e' h => evE_bool a e r e' h) fun z e1 F1 H1 t1 q => ?_⟩
    have q : PostB C W e1 F1 σ H1 (toB (if z = k then evV T (callF T n) true k (b :: as) e1 else .ok (.v (.bl z)) e1)) Q := q
    split at q
    · rename_i hz
      rw [if_pos hz]
      exact ⟨e1, F1, t1.sr, q⟩
    · rename_i hz
      rw [if_neg hz]
      exact q _ _ (TrE.refl t1.sr)
  cases k with
  | true =>
    refine (pw_and ha hb).to fun σ H Q h => ?_
    obtain ⟨e, F, R, q⟩ := main h
    refine ⟨e, F, R, ?_⟩
    revert q
    generalize toB (evE T (callF T n) true a e) = o
    intro q
    cases o with
    | ok r e' =>
      intro F' H' t
      have z2 := q F' H' t
      cases r with
      | false => rw [if_neg (by simp)] at z2; rw [if_neg (by simp)]; exact z2
      | true => rw [if_pos rfl] at z2; rw [if_pos rfl]; exact z2
    | exc c p e' => exact q
    | stuck => exact q
  | false =>
    refine (pw_or ha hb).to fun σ H Q h => ?_
    obtain ⟨e, F, R, q⟩ := main h
    refine ⟨e, F, R, ?_⟩
    revert q
    generalize toB (evE T (callF T n) true a e) = o
    intro q
    cases o with
    | ok r e' =>
      intro F' H' t
      have z2 := q F' H' t
      cases r with
      | true => rw [if_neg (by simp)] at z2; rw [if_pos rfl]; exact z2
      | false => rw [if_pos rfl] at z2; rw [if_neg (by simp)]; exact z2
    | exc c p e' => exact q
    | stuck => exact q
theorem s_not (G : Good T C n W c X) {a : E} {x : Expr} {pos : Pos} (ha : PE X x (RE T C n W a)) : PE X (.UnaryOp .Not x pos) (RE T C n W (.not_ a)) := by
  refine (pe_notT ha).to fun σ H Q => ?_
  rintro ⟨e, F, R, q⟩
  rw [G.K]
  refine ⟨e, F, R, PostE.first (show PostE C W e F σ H ((evE T (callF T n) false a e).bd _) Q from q) fun ra e1 v1 F1 H1 t1 r1 q => ?_⟩
  obtain ⟨z, k1, q⟩ := q.opt
  obtain ⟨d, k1, k2⟩ := Option.bind_eq_some_iff.mp k1
  exact ⟨z, tru_V (cont_rep t1.sr r1 k1) k2, q.val t1.sr rep_bl⟩
theorem t_not {a : E} {x : Expr} {pos : Pos} (ha : PT X x (RT T C n W a)) : PT X (.UnaryOp .Not x pos) (RT T C n W (.not_ a)) := by
  refine (pt_not ha).to fun σ H Q => ?_
  rintro ⟨e, F, R, q⟩
  refine ⟨e, F, R, toB_first (show PostB C W e F σ H (toB ((evE T (callF T n) true a e).bd _)) Q from by simpa only [evE] using q) (fun r e' h => evE_bool a e r e' h) fun z e1 F1 H1 t1 q => ?_⟩
  exact q _ _ (TrE.refl t1.sr)
theorem s_ite {a b d : E} {x y z : Expr} {pos : Pos} (hd : PT X x (RT T C n W d)) (ha : PE X y (RE T C n W a)) (hb : PE X z (RE T C n W b)) : PE X (.IfExp x y z pos) (RE T C n W (.ite d a b)) := by
  refine (pe_ifExp hd ha hb).to fun σ H Q => ?_
  rintro ⟨e, F, R, q⟩
  refine ⟨e, F, R, PostE.firstB (show PostE C W e F σ H ((toB (evE T (callF T n) true d e)).bd _) Q from by simpa only [evE, Bool.false_eq_true, if_false] using q) fun r e1 F1 H1 t1 q => ?_⟩
  cases r with
  | true => exact ⟨e1, F1, t1.sr, q⟩
  | false => exact ⟨e1, F1, t1.sr, q⟩
theorem t_no {a : E} {x : Expr} (h : ∀ e, evE T (callF T n) true a e = .stuck) : PT X x (RT T C n W a) := by
  refine PT.to (t := fun _ _ _ => False) ⟨fun _ _ _ _ _ _ q => q.elim⟩ fun σ H Q ⟨e, F, R, q⟩ => ?_
  rw [h] at q
  exact q
/-! ### argument lists -/
theorem s_nil : PA X [] (RA T C n W []) := pa_nil.to fun σ H Q ⟨e, F, R, q⟩ => by
  simp only [evA] at q
  exact q [] F H (TrE.refl R) rfl
theorem s_cons {a : E} {as : List E} {x : Expr} {xs : List Expr} (ha : PE X x (RE T C n W a)) (hr : PA X xs (RA T C n W as)) (hs : starEach (x :: xs) X.env = (false, eval x X.env) :: starEach xs X.env) : PA X (x :: xs) (RA T C n W (a :: as)) := by
  refine (pa_cons ha hr hs).to fun σ H Q => ?_
  rintro ⟨e, F, R, q⟩
  simp only [evA] at q
  refine ⟨e, F, R, ?_⟩
  revert q
  generalize evE T (callF T n) false a e = o
  intro q
  cases o with
  | exc c p e' => exact q
  | stuck => exact q
  | ok r e1 =>
    intro v F1 H1 t r1
    refine ⟨e1, F1, t.sr, ?_⟩
    simp only [bd_ok] at q
    revert q
    generalize evA T (callF T n) as e1 = o
    intro q
    cases o with
    | exc c p e' => exact fun F' H' t' => q F' H' (t.trans t')
    | stuck => exact q
    | ok rs e2 => exact fun vs F2 H2 t2 r2 => q (v :: vs) F2 H2 (t.trans t2) ⟨v, vs, rfl, r1.mono t2, r2.back t.there⟩
/-! ### subscripts, slices -/
theorem s_ix (G : Good T C n W c X) {a i : E} {x y : Expr} {pos : Pos} (ha : PE X x (RE T C n W a)) (hb : PE X y (RE T C n W i)) (hs : PlainIx y) : PE X (.Subscript x y pos) (RE T C n W (.ix a i)) := by
  refine (pe_ix (ix_item (W := W) G.K (by have := G.hu; omega)) ha hb hs).to fun σ H Q => ?_
  rintro ⟨e, F, R, q⟩
  refine ⟨e, F, R, PostE.first (show PostE C W e F σ H ((evE T (callF T n) false a e).bd _) Q from q) fun ra e1 v1 F1 H1 t1 r1 q => ?_⟩
  refine ⟨e1, F1, t1.sr, PostE.first q fun rb e2 v2 F2 H2 t2 r2 q => ?_⟩
  obtain ⟨d1, k1, q⟩ := q.opt
  obtain ⟨d2, k2, q⟩ := q.opt
  obtain ⟨d3, k3, q⟩ := q.opt
  refine ⟨d1, d2, e2, F2, σ, t2.sr, fun i d v h1 h2 => ?_, ?_⟩
  · match i, h1, h2 with
    | 0, h1, h2 => cases h1; cases h2; exact cont_crp t2.sr (r1.mono t2) k1
    | 1, h1, h2 => cases h1; cases h2; exact cont_crp t2.sr r2 k2
  · rw [k3]; exact q
theorem s_dix (G : Good T C n W c X) {k : Nat} {i : E} {x : Str} {y : Expr} {p pos : Pos} (h : c.dn[k]? = some x) (hg : glB c.sc x = true) (hb : PE X y (RE T C n W i)) (hs : PlainIx y) : PE X (.Subscript (.Name x p) y pos) (RE T C n W (.dix k i)) := by
  obtain ⟨g1, g2, _⟩ := G.glb hg
  refine ⟨fun pins s σ H Q I h' => ?_⟩
  obtain ⟨e, F, R, q⟩ := h'
  obtain ⟨pp, hd, q⟩ := PostE.opt (show PostE C W e F σ H (opt T.dcs[k]? fun p => (evE T (callF T n) false i e).bd fun r e1 => opt ((cont e1 r).bind keyOf) fun x => opt (dlook p.1 p.2 x) fun d => .ok (.v d) e1) Q from q)
  obtain ⟨a, m, hv⟩ := G.gl.dcs k x pp h hd
  have ha : PE X (.Name x p) (fun σ H Q => Q (.ref a) H) := ⟨fun pins s σ H Q I h' => ld_glob I g1 m ⟨.ref a, H, I, rfl, h'⟩ g2⟩
  refine (pe_ix (pos := pos) ix_kint ha hb hs).run pins s σ H Q I ?_
  refine ⟨e, F, R, PostE.first q fun ra e1 v1 F1 H1 t1 r1 q => ?_⟩
  obtain ⟨kk, k0, q⟩ := q.opt
  obtain ⟨d, k3, q2⟩ := q.opt
  obtain ⟨d1, k1, k2⟩ := Option.bind_eq_some_iff.mp k0
  clear k0
  obtain ⟨i0, v, rfl, kd, rp⟩ := hv kk d k3
  have cr := cont_crp t1.sr r1 k1
  cases d1 <;> simp only [keyOf] at k2 <;> cases k2
  exact ⟨a, i0, v, rfl, cr.int, by rw [G.K]; exact kd, q2.val t1.sr (rp F1)⟩
structure POr (X : Cx) (a : Option Expr) (t : TO) : Prop where
  po : PO X a t
theorem s_po0 : PO X none (RO T C n W none) := ⟨fun pins s σ H Q I ⟨e, F, R, q⟩ => by
  simp only [evO] at q
  exact po_none.run pins s σ H Q I (q F H (TrE.refl R))⟩
theorem s_po1 {a : E} {x : Expr} (ha : PE X x (RE T C n W a)) : PO X (some x) (RO T C n W (some a)) := ⟨fun pins s σ H Q I ⟨e, F, R, q⟩ => by
  refine (po_some ha).run pins s σ H Q I ⟨e, F, R, ?_⟩
  simp only [evO] at q
  revert q
  generalize evE T (callF T n) false a e = o
  intro q
  cases o with
  | exc c p e' => exact q
  | stuck => exact q
  | ok r e1 =>
    intro v F1 H1 t r1
    simp only [bd_ok] at q
    cases k1 : (cont e1 r).bind intD with
    | none => rw [k1] at q; exact q.elim
    | some i =>
      rw [k1] at q
      obtain ⟨d, k1, k2⟩ := Option.bind_eq_some_iff.mp k1
      have z := cont_crp t.sr r1 k1
      cases d <;> cases k2
      cases z.int
      exact ⟨_, rfl, q F1 H1 t⟩⟩
theorem s_sl (G : Good T C n W c X) {a : E} {lo hi : Option E} {x : Expr} {l h : Option Expr} {p2 pos : Pos} (ha : PE X x (RE T C n W a)) (hl : PO X l (RO T C n W lo)) (hh : PO X h (RO T C n W hi)) : PE X (.Subscript x (.Slice l h none p2) pos) (RE T C n W (.sl a lo hi)) := by
  refine (pe_slice (sl_slice (W := W) G.K) ha hl hh).to fun σ H Q => ?_
  rintro ⟨e, F, R, q⟩
  refine ⟨e, F, R, PostE.first (show PostE C W e F σ H ((evE T (callF T n) false a e).bd _) Q from q) fun ra e1 v1 F1 H1 t1 r1 q => ?_⟩
  refine ⟨e1, F1, t1.sr, PostE.firstO q fun l e2 F2 H2 t2 q => ?_⟩
  refine ⟨e2, F2, t2.sr, PostE.firstO q fun h e3 F3 H3 t3 q => ?_⟩
  obtain ⟨d1, k1, q⟩ := q.opt
  refine ⟨d1, e3, F3, σ, t3.sr, fun i d v h1 h2 => ?_, q⟩
  match i, h1, h2 with
  | 0, h1, h2 => cases h1; cases h2; exact cont_crp t3.sr ((r1.mono t2).mono t3) k1
theorem s_rev (G : Good T C n W c X) {a : E} {x : Expr} {k : Nat} {p1 p2 p3 pos : Pos} (ha : PE X x (RE T C n W a)) : PE X (.Subscript x (.Slice none none (some (.UnaryOp .USub (.Constant (.int 1) k p1) p2)) p3) pos) (RE T C n W (.rev a)) := by
  refine (RevT.pe_revA ha).to fun σ H Q => ?_
  rintro ⟨e, F, R, q⟩
  refine ⟨e, F, R, PostE.first (show PostE C W e F σ H ((evE T (callF T n) false a e).bd _) Q from q) fun ra e1 v1 F1 H1 t1 r1 q => ?_⟩
  obtain ⟨d1, k1, q⟩ := q.opt
  obtain ⟨r, k2, q⟩ := q.opt
  have z := cont_crp t1.sr r1 k1
  cases d1 <;> cases k2
  · obtain ⟨a, vs, rfl, ha, ra⟩ := z.tup
    exact .inr ⟨a, vs, rfl, by rw [G.K]; exact t1.sr.sub.sqT ha, fun p hp => q.newTup t1.sr ra.reverse hp⟩
  · obtain ⟨a, vs, rfl, ha, ra⟩ := z.lst t1.sr.sub
    exact .inl ⟨a, vs, rfl, .inl (.inl ha), fun p hp => q.newLst t1.sr ra.reverse hp⟩
end
end PL
end

section
namespace PL
open PySem PySem.Spec L2

section
variable {C : G0} {e e1 e2 ek : EV} {F F1 F2 Fk H0 H H1 : Hp} {σ : St}
theorem shareT' {d : D} {a : Addr} (R : SR C e Fk σ H) (s : Sub F Fk) (mm : Mine C F H d a) (hn : ¬ OwnA e σ a) :
    ∃ F', Rep C F' d (.ref a) ∧ Sub Fk F' ∧ SR C e F' σ H ∧ (∀ b o, F' b = some o → Fk b = some o ∨ b = a) := by
  cases q : Fk a with
  | none => exact shareT (H0 := fun _ => none) R (mm.mono s q fun _ h => h) hn rfl
  | some u =>
    have hu := R.sub a u q
    refine ⟨Fk, ?_, Sub.refl _, R, fun b o h => .inl h⟩
    obtain ⟨_, mm⟩ := mm
    cases d <;> first | exact mm.elim | skip
    · obtain ⟨vs, z, r⟩ := mm; rw [hu] at z; cases z; rw [Rep]; exact ⟨a, vs, rfl, q, r.mono s⟩
    · obtain ⟨vs, z, l, r⟩ := mm; rw [hu] at z; cases z; rw [Rep]; exact ⟨a, vs, rfl, q, l, r.mono s⟩
    · obtain ⟨vs, z, l, r⟩ := mm; rw [hu] at z; cases z; rw [Rep]; exact ⟨a, vs, rfl, q, l, r.mono s⟩
/-- a result, its new things as they were at F1 -/
def RVw (C : G0) (H0 F1 F : Hp) (σ : St) (H : Hp) (e : EV) (r : RV) (v : V) : Prop := match r with
  | .v d => Rep C F d v
  | .t d => ∃ a, v = .ref a ∧ Mine C F1 H d a ∧ H0 a = none ∧ ¬ OwnA e σ a
  | .h i => σ[i]? = some (some v) ∧ ∃ s, e[i]? = some s ∧ s.dat.isSome = true
theorem RVw.grow {r : RV} {v : V} (h : RVw C H0 F1 Fk σ H e r v) (s : Sub Fk F2) : RVw C H0 F1 F2 σ H e r v := by
  cases r with
  | v d => exact Rep.mono s h
  | t d => exact h
  | h i => exact h
theorem RVw.step {r : RV} {v : V} (h : RVw C H0 F1 Fk σ H e r v) (t : TrE C e Fk σ H e1 F2 H) : RVw C H0 F1 F2 σ H e1 r v := by
  cases r with
  | v d => exact Rep.mono t.fs h
  | t d => obtain ⟨a, q1, q2, q3, q4⟩ := h; exact ⟨a, q1, q2, q3, fun q => q4 (t.ownA' q)⟩
  | h i =>
    obtain ⟨h1, s, h2, h3⟩ := h
    exact ⟨h1, t.dat i s h2 h3⟩
/-- one result shared, the others as they were -/
theorem frz_w {r : RV} {v : V} {d : D} (t : TrE C e F σ H ek Fk H1) (s : Sub F1 Fk) (h : RVw C H F1 Fk σ H1 ek r v) (k : frz ek r = some (d, e2)) :
    ∃ F2, TrE C e F σ H e2 F2 H1 ∧ Sub Fk F2 ∧ Rep C F2 d v ∧ ∀ r' v', RVw C H F1 Fk σ H1 ek r' v' → RVw C H F1 F2 σ H1 e2 r' v' := by
  cases r with
  | v d' => cases k; exact ⟨Fk, t, Sub.refl _, h, fun _ _ h => h⟩
  | t d' =>
    cases k
    obtain ⟨a, rfl, m, h0, n⟩ := h
    obtain ⟨F', q1, q2, q3, q4⟩ := shareT' t.sr s m n
    exact ⟨F', t.grow q2 q3 q4 h0, q2, q1, fun _ _ h => h.grow q2⟩
  | h i =>
    obtain ⟨h1, s', h2, h3⟩ := h
    have q := t.sr.slot i s' h2
    simp only [frz, h2] at k
    cases s' with
    | un => cases k
    | val d' => cases k; obtain ⟨v', e1, q⟩ := q; rw [h1] at e1; cases e1; exact ⟨Fk, t, Sub.refl _, q, fun _ _ h => h⟩
    | fro d' => cases k; obtain ⟨v', e1, q⟩ := q; rw [h1] at e1; cases e1; exact ⟨Fk, t, Sub.refl _, q, fun _ _ h => h⟩
    | own d' =>
      cases k; obtain ⟨a, e1, q⟩ := q; rw [h1] at e1; cases e1
      obtain ⟨F', q1, q2⟩ := share t.sr h2 rfl rfl h1 (.inl ⟨rfl, rfl⟩)
      exact ⟨F', t.trans q1, q1.fs, q2, fun _ _ h => h.step q1⟩
    | bor d' =>
      cases k; obtain ⟨a, e1, q⟩ := q; rw [h1] at e1; cases e1
      obtain ⟨F', q1, q2⟩ := share t.sr h2 rfl rfl h1 (.inr ⟨rfl, rfl⟩)
      exact ⟨F', t.trans q1, q1.fs, q2, fun _ _ h => h.step q1⟩
def RVsw (C : G0) (H0 F1 F : Hp) (σ : St) (H : Hp) (e : EV) : List RV → List V → Prop
  | [], vs => vs = []
  | r :: rs, vs => ∃ v ws, vs = v :: ws ∧ RVw C H0 F1 F σ H e r v ∧ RVsw C H0 F1 F σ H e rs ws
theorem RVsw.imp (k : ∀ r v, RVw C H0 F1 Fk σ H e r v → RVw C H0 F1 F2 σ H e2 r v) : ∀ {rs : List RV} {vs : List V}, RVsw C H0 F1 Fk σ H e rs vs → RVsw C H0 F1 F2 σ H e2 rs vs
  | [], _, h => h
  | r :: rs, _, ⟨v, ws, e, a, b⟩ => ⟨v, ws, e, k _ _ a, RVsw.imp k b⟩
theorem RVs.w : ∀ {rs : List RV} {vs : List V}, RVs C H0 F σ H e rs vs → RVsw C H0 F F σ H e rs vs
  | [], _, h => h
  | r :: rs, _, ⟨v, ws, e, a, b⟩ => ⟨v, ws, e, (by cases r <;> exact a), RVs.w b⟩
theorem frzs_w : ∀ {rs : List RV} {vs : List V} {ds : List D} {ek e2 : EV} {Fk : Hp}, TrE C e F σ H ek Fk H1 → Sub F1 Fk → RVsw C H F1 Fk σ H1 ek rs vs → frzs ek rs = some (ds, e2) → ∃ F2, TrE C e F σ H e2 F2 H1 ∧ Sub Fk F2 ∧ RepL C F2 ds vs
  | [], vs, ds, ek, e2, Fk, t, s, r, k => by
    cases k
    have r : vs = [] := r
    subst r
    exact ⟨Fk, t, Sub.refl _, .nil⟩
  | r :: rs, vs, ds, ek, e2, Fk, t, s, ⟨v, ws, ev, r1, r2⟩, k => by
    subst ev
    simp only [frzs] at k
    obtain ⟨⟨d, e3⟩, k1, k⟩ := Option.bind_eq_some_iff.mp k
    obtain ⟨F3, t3, s3, rp, im⟩ := frz_w t s r1 k1
    cases k2 : frzs e3 rs with
    | none => rw [k2] at k; cases k
    | some z =>
      obtain ⟨l, e4⟩ := z
      rw [k2] at k
      cases k
      obtain ⟨F4, t4, s4, rl⟩ := frzs_w t3 (s.trans s3) (r2.imp im) k2
      exact ⟨F4, t4, s3.trans s4, .cons (rp.mono s4) rl⟩
theorem frzs_ok {rs : List RV} {vs : List V} {ds : List D} (t : TrE C e F σ H e1 F1 H1) (r : RVs C H F1 σ H1 e1 rs vs) (k : frzs e1 rs = some (ds, e2)) : ∃ F2, TrE C e F σ H e2 F2 H1 ∧ Sub F1 F2 ∧ RepL C F2 ds vs :=
  frzs_w t (Sub.refl _) r.w k
/-- first x, then f; the point of view stays -/
theorem PostE.first0 {W : WX} {x : Out RV} {f : RV → EV → Out RV} {Q Q1 : VK} (h : PostE C W e F σ H (x.bd f) Q)
    (k : ∀ r e1 v F1 H1, TrE C e F σ H e1 F1 H1 → RVok C H F1 σ H1 e1 r v → PostE C W e F σ H (f r e1) Q → Q1 v H1) : PostE C W e F σ H x Q1 := by
  cases x with
  | ok r e1 => exact fun v F1 H1 t r1 => k r e1 v F1 H1 t r1 h
  | exc c p e1 => exact h
  | stuck => exact h
theorem PostE.firstA0 {W : WX} {x : Out (List RV)} {f : List RV → EV → Out RV} {Q : VK} {Q1 : List V → Hp → Prop} (h : PostE C W e F σ H (x.bd f) Q)
    (k : ∀ rs e1 vs F1 H1, TrE C e F σ H e1 F1 H1 → RVs C H F1 σ H1 e1 rs vs → PostE C W e F σ H (f rs e1) Q → Q1 vs H1) : PostA C W e F σ H x Q1 := by
  cases x with
  | ok r e1 => exact fun v F1 H1 t r1 => k r e1 v F1 H1 t r1 h
  | exc c p e1 => exact h
  | stuck => exact h
theorem PostE.newTup' {W : WX} {ds : List D} {vs : List V} {Q : VK} {p : Addr} (t : TrE C e F σ H e1 F1 H1) (h : PostE C W e F σ H (.ok (.v (.tup ds)) e1) Q) (r : RepL C F1 ds vs) (hp : H1 p = none) : Q (.ref p) (upd H1 p (.tup vs)) := by
  have t' := t.newT (o := .tup vs) hp
  have z := (TrE.refl t.sr).newT (o := .tup vs) hp
  refine h _ _ _ t' ?_
  show Rep C _ (.tup ds) _
  rw [Rep]
  exact ⟨p, vs, rfl, .inl (.inl upd_same), r.mono z.fs⟩
theorem PostE.newLst' {W : WX} {ds : List D} {vs : List V} {Q : VK} {p : Addr} (t : TrE C e F σ H e1 F1 H1) (h : PostE C W e F σ H (.ok (.t (.lst ds)) e1) Q) (r : RepL C F1 ds vs) (hp : H1 p = none) : Q (.ref p) (upd H1 p (.lst vs)) := by
  have t' := t.newL (o := .lst vs) hp
  refine h _ _ _ t' ⟨p, rfl, ⟨?_, vs, upd_same, r⟩, ?_, own_there t.sr hp⟩
  · cases q : F1 p with
    | none => rfl
    | some u => rw [t.sr.sub p u q] at hp; cases hp
  · by_cases q : H p = none
    · exact q
    · exact absurd hp (t.there p q)
end
section
variable {T : GT} {C : G0} {n : Nat} {W : WX} {c : CC} {X : Cx}
theorem s_tup {as : List E} {xs : List Expr} {x1} {pos : Pos} (ha : PA X xs (RA T C n W as)) : PE X (.Tuple xs x1 pos) (RE T C n W (.tup as)) := by
  refine (pe_tup ha).to fun σ H Q => ?_
  rintro ⟨e, F, R, q⟩
  refine ⟨e, F, R, PostE.firstA0 (show PostE C W e F σ H ((evA T (callF T n) as e).bd _) Q from q) fun rs e1 vs F1 H1 t1 r1 q => ?_⟩
  obtain ⟨⟨ds, e2⟩, k1, q⟩ := q.opt
  obtain ⟨F2, t2, s2, rl⟩ := frzs_ok t1 r1 k1
  dsimp only at q
  split at q
  · rename_i hz
    exact ⟨by rw [← sizeL_eq, ← rl.len]; exact hz, fun p hp => q.newTup' t2 rl hp⟩
  · exact q.elim
theorem s_lst {as : List E} {xs : List Expr} {pos : Pos} (ha : PA X xs (RA T C n W as)) : PE X (.List xs pos) (RE T C n W (.lst as)) := by
  refine (pe_lst ha).to fun σ H Q => ?_
  rintro ⟨e, F, R, q⟩
  refine ⟨e, F, R, PostE.firstA0 (show PostE C W e F σ H ((evA T (callF T n) as e).bd _) Q from q) fun rs e1 vs F1 H1 t1 r1 q => ?_⟩
  obtain ⟨⟨ds, e2⟩, k1, q⟩ := q.opt
  obtain ⟨F2, t2, s2, rl⟩ := frzs_ok t1 r1 k1
  dsimp only at q
  split at q
  · rename_i hz
    exact ⟨by rw [← sizeL_eq, ← rl.len]; exact hz, fun p hp => q.newLst' t2 rl hp⟩
  · exact q.elim
/-! ### built-in functions -/
theorem conts_len {e : EV} : ∀ {rs : List RV} {ds : List D}, conts e rs = some ds → ds.length = rs.length
  | [], ds, h => by cases h; rfl
  | r :: rs, ds, h => by
    simp only [conts] at h
    obtain ⟨d, _, h⟩ := Option.bind_eq_some_iff.mp h
    cases k : conts e rs with
    | none => rw [k] at h; cases h
    | some l => rw [k] at h; cases h; simp [conts_len k]
theorem RVs.len {H0 F H : Hp} {σ : St} {e : EV} : ∀ {rs : List RV} {vs : List V}, RVs C H0 F σ H e rs vs → rs.length = vs.length
  | [], _, h => by have h : _ = [] := h; subst h; rfl
  | r :: rs, _, ⟨v, ws, e, a, b⟩ => by subst e; simp [RVs.len b]
theorem RVs.get {H0 F H : Hp} {σ : St} {e : EV} : ∀ {rs : List RV} {vs : List V} {i : Nat} {r : RV}, RVs C H0 F σ H e rs vs → rs[i]? = some r → ∃ v, vs[i]? = some v ∧ RVok C H0 F σ H e r v
  | [], _, _, _, h, k => by simp at k
  | r :: rs, _, 0, _, ⟨v, ws, e, a, b⟩, k => by subst e; simp at k; subst k; exact ⟨v, rfl, a⟩
  | r :: rs, _, i + 1, _, ⟨v, ws, e, a, b⟩, k => by
    subst e
    obtain ⟨v', k1, k2⟩ := RVs.get (i := i) b (by simpa using k)
    exact ⟨v', by simpa using k1, k2⟩
theorem conts_get {H0 F H : Hp} {σ : St} {e : EV} (R : SR C e F σ H) : ∀ {rs : List RV} {ds : List D} {vs : List V} {i : Nat} {d : D} {v : V}, conts e rs = some ds → RVs C H0 F σ H e rs vs → ds[i]? = some d → vs[i]? = some v → CRp C F H d v
  | [], ds, vs, i, d, v, h, r, k1, k2 => by cases h; simp at k1
  | r :: rs, ds, vs, i, d, v, h, ⟨v', ws, ev, a, b⟩, k1, k2 => by
    subst ev
    simp only [conts] at h
    obtain ⟨d', h1, h⟩ := Option.bind_eq_some_iff.mp h
    cases k : conts e rs with
    | none => rw [k] at h; cases h
    | some l =>
      rw [k] at h; cases h
      cases i with
      | zero => simp at k1 k2; subst k1; subst k2; exact cont_crp R a h1
      | succ i => exact conts_get (i := i) R k b (by simpa using k1) (by simpa using k2)
theorem s_bi (G : Good T C n W c X) {b : Bi} {a : E} {as : List E} {x : Str} {y : Expr} {xs : List Expr} {p pos : Pos} (hx : x = Str.ofString (biNm b)) (hg : glB c.sc x = true) (hc : c.calm = true) (hgcd : b = .gcd → c.gcd = true) (ha : PA X (y :: xs) (RA T C n W as))
    (he : starEach (y :: xs) X.env = (false, eval y X.env) :: starEach xs X.env) (hpl : (backTo pos (starEach xs X.env)).any (·.1) = false) : PE X (.Call (.Name x p) (y :: xs) [] pos) (RE T C n W (.bi b as)) := by
  obtain ⟨g1, g2, g3⟩ := G.glb hg
  have main : PE X (.Call (.Name x p) (y :: xs) [] pos) (tCB (fun vs H Q => ∃ ds, OpP C W (biF b ds) ds vs H Q ∧ ds.length = vs.length) (RA T C n W as)) := by
    have hb := call_bi (W := W) G.K (G.cm hc) G.hu b
    subst hx
    cases b
    case gcd => exact pe_callBfun hb g1 (G.gl.gcd (hgcd rfl)) ha g2 he hpl
    case tuple => exact pe_callTy hb g1 (G.gl.bi _ (by decide)) (by decide +kernel) ha g3 g2 he hpl
    case list => exact pe_callTy hb g1 (G.gl.bi _ (by decide)) (by decide +kernel) ha g3 g2 he hpl
    case dict1 => exact pe_callTy hb g1 (G.gl.bi _ (by decide)) (by decide +kernel) ha g3 g2 he hpl
    case int1 => exact pe_callTy hb g1 (G.gl.bi _ (by decide)) (by decide +kernel) ha g3 g2 he hpl
    all_goals exact pe_callB hb g1 (G.gl.bi _ (by decide)) (by decide +kernel) ha g3 g2 he hpl
  refine main.to fun σ H Q => ?_
  rintro ⟨e, F, R, q⟩
  refine ⟨e, F, R, PostE.firstA (show PostE C W e F σ H ((evA T (callF T n) as e).bd _) Q from q) fun rs e1 vs F1 H1 t1 r1 q => ?_⟩
  obtain ⟨ds, k1, q⟩ := q.opt
  exact ⟨ds, ⟨e1, F1, σ, t1.sr, fun i d v h1 h2 => conts_get t1.sr k1 r1 h1 h2, q⟩, by rw [conts_len k1, r1.len]⟩
end
end PL
end

section
namespace PL
open PySem PySem.Spec L2

section
variable {C : G0} {e e1 e2 ek : EV} {F F1 F2 H0 H H1 : Hp} {σ : St}
def ArgR (C : G0) (F : Hp) (σ : St) (e : EV) (r : RV) (s : SV) (v : V) : Prop :=
  (∃ d, s = .val d ∧ Rep C F d v ∧ ∀ i, r = .h i → ∃ s0, e[i]? = some s0 ∧ s0.mine = false ∧ s0.dat.isSome = true) ∨
  (∃ i d, r = .h i ∧ s = .bor d ∧ σ[i]? = some (some v) ∧ (e[i]? = some (.own d) ∨ e[i]? = some (.bor d)))
def ArgRs (C : G0) (F : Hp) (σ : St) (e : EV) : List RV → List SV → List V → Prop
  | [], ss, vs => ss = [] ∧ vs = []
  | r :: rs, ss, vs => ∃ s st v vt, ss = s :: st ∧ vs = v :: vt ∧ ArgR C F σ e r s v ∧ ArgRs C F σ e rs st vt
theorem ArgR.mono {r : RV} {s : SV} {v : V} (h : ArgR C F σ e r s v) (k : Sub F F2) : ArgR C F2 σ e r s v := by
  rcases h with ⟨d, h1, h2, h3⟩ | h
  · exact .inl ⟨d, h1, h2.mono k, h3⟩
  · exact .inr h
theorem args_w : ∀ {rs : List RV} {vs : List V} {as : List SV} {Fk : Hp}, TrE C e F σ H e1 Fk H1 → Sub F1 Fk → RVsw C H F1 Fk σ H1 e1 rs vs → argsOf e1 rs = some as → ∃ F2, TrE C e F σ H e1 F2 H1 ∧ Sub Fk F2 ∧ ArgRs C F2 σ e1 rs as vs
  | [], vs, as, Fk, t, s, r, k => by
    cases k
    have r : vs = [] := r
    subst r
    exact ⟨Fk, t, Sub.refl _, rfl, rfl⟩
  | r :: rs, vs, as, Fk, t, s, ⟨v, ws, ev, r1, r2⟩, k => by
    subst ev
    simp only [argsOf] at k
    obtain ⟨a, k1, k⟩ := Option.bind_eq_some_iff.mp k
    cases k2 : argsOf e1 rs with
    | none => rw [k2] at k; cases k
    | some l =>
      rw [k2] at k
      cases k
      have step : ∃ F3, TrE C e F σ H e1 F3 H1 ∧ Sub Fk F3 ∧ ArgR C F3 σ e1 r a v := by
        cases r with
        | v d => cases k1; exact ⟨Fk, t, Sub.refl _, .inl ⟨d, rfl, r1, fun i z => by cases z⟩⟩
        | t d =>
          cases k1
          obtain ⟨a, rfl, m, h0, n⟩ := r1
          obtain ⟨F', q1, q2, q3, q4⟩ := shareT' t.sr s m n
          exact ⟨F', t.grow q2 q3 q4 h0, q2, .inl ⟨d, rfl, q1, fun i z => by cases z⟩⟩
        | h i =>
          obtain ⟨h1, s0, h2, h3⟩ := r1
          have z := t.sr.slot i s0 h2
          simp only [argOf, h2] at k1
          refine ⟨Fk, t, Sub.refl _, ?_⟩
          cases s0 with
          | un => cases k1
          | val d => cases k1; obtain ⟨v', q1, q2⟩ := z; rw [h1] at q1; cases q1; exact .inl ⟨d, rfl, q2, fun j z => by cases z; exact ⟨_, h2, rfl, rfl⟩⟩
          | fro d => cases k1; obtain ⟨v', q1, q2⟩ := z; rw [h1] at q1; cases q1; exact .inl ⟨d, rfl, q2, fun j z => by cases z; exact ⟨_, h2, rfl, rfl⟩⟩
          | own d => cases k1; exact .inr ⟨i, d, rfl, rfl, h1, .inl h2⟩
          | bor d => cases k1; exact .inr ⟨i, d, rfl, rfl, h1, .inr h2⟩
      obtain ⟨F3, t3, s3, ar⟩ := step
      obtain ⟨F4, t4, s4, rl⟩ := args_w t3 (s.trans s3) (r2.imp fun _ _ h => h.grow s3) k2
      exact ⟨F4, t4, s3.trans s4, a, l, v, ws, rfl, rfl, ar.mono s4, rl⟩
theorem ArgRs.get : ∀ {rs : List RV} {as : List SV} {vs : List V} {j : Nat} {s : SV}, ArgRs C F σ e rs as vs → as[j]? = some s → ∃ r v, rs[j]? = some r ∧ vs[j]? = some v ∧ ArgR C F σ e r s v
  | [], _, _, _, _, ⟨h, _⟩, k => by subst h; simp at k
  | r :: rs, _, _, 0, _, ⟨s, st, v, vt, h1, h2, h3, h4⟩, k => by subst h1 h2; simp at k; subst k; exact ⟨r, v, rfl, rfl, h3⟩
  | r :: rs, _, _, j + 1, _, ⟨s, st, v, vt, h1, h2, h3, h4⟩, k => by
    subst h1 h2
    obtain ⟨r', v', k1, k2, k3⟩ := ArgRs.get (j := j) h4 (by simpa using k)
    exact ⟨r', v', by simpa using k1, by simpa using k2, k3⟩
theorem ArgRs.len : ∀ {rs : List RV} {as : List SV} {vs : List V}, ArgRs C F σ e rs as vs → as.length = rs.length ∧ vs.length = rs.length
  | [], _, _, ⟨h, k⟩ => by subst h k; exact ⟨rfl, rfl⟩
  | r :: rs, _, _, ⟨s, st, v, vt, h1, h2, h3, h4⟩ => by subst h1 h2; have := ArgRs.len h4; simp [this.1, this.2]
theorem hands_mem : ∀ {rs : List RV} {i : Nat}, i ∈ hands rs ↔ ∃ j : Nat, rs[j]? = some (RV.h i)
  | [], i => by simp [hands]
  | .h k :: rs, i => by
    simp only [hands, List.mem_cons]
    rw [hands_mem (rs := rs)]
    constructor
    · rintro (rfl | ⟨j, h⟩)
      · exact ⟨0, rfl⟩
      · exact ⟨j + 1, by simpa using h⟩
    · rintro ⟨j, h⟩
      cases j with
      | zero => simp at h; exact .inl h.symm
      | succ j => exact .inr ⟨j, by simpa using h⟩
  | .v d :: rs, i => by
    simp only [hands]
    rw [hands_mem (rs := rs)]
    constructor
    · rintro ⟨j, h⟩; exact ⟨j + 1, by simpa using h⟩
    · rintro ⟨j, h⟩
      cases j with
      | zero => simp at h
      | succ j => exact ⟨j, by simpa using h⟩
  | .t d :: rs, i => by
    simp only [hands]
    rw [hands_mem (rs := rs)]
    constructor
    · rintro ⟨j, h⟩; exact ⟨j + 1, by simpa using h⟩
    · rintro ⟨j, h⟩
      cases j with
      | zero => simp at h
      | succ j => exact ⟨j, by simpa using h⟩
theorem hands_pos : ∀ {rs : List RV} {i j k : Nat}, (hands rs).Nodup → rs[j]? = some (.h i) → rs[k]? = some (.h i) → j = k
  | [], _, _, _, _, h, _ => by simp at h
  | r :: rs, i, j, k, nd, h1, h2 => by
    have tl : (hands rs).Nodup := by
      cases r <;> simp only [hands] at nd
      · exact nd
      · exact nd
      · exact (List.nodup_cons.mp nd).2
    cases j with
    | zero =>
      cases k with
      | zero => rfl
      | succ k =>
        simp at h1; subst h1
        simp only [hands] at nd
        exact absurd (hands_mem.mpr ⟨k, by simpa using h2⟩) (List.nodup_cons.mp nd).1
    | succ j =>
      cases k with
      | zero =>
        simp at h2; subst h2
        simp only [hands] at nd
        exact absurd (hands_mem.mpr ⟨j, by simpa using h1⟩) (List.nodup_cons.mp nd).1
      | succ k => rw [hands_pos (j := j) (k := k) tl (by simpa using h1) (by simpa using h2)]
def back1 (o : Option SV) (s : SV) : Option SV := match o, s with
  | some (.own _), .bor d => some (.own d)
  | some (.bor _), .bor d => some (.bor d)
  | some (.own _), .fro d => some (.val d)
  | some (.bor _), .fro d => some (.fro d)
  | o, _ => o
theorem putBack1_ne {r : RV} {s : SV} {i : Nat} (h : r ≠ .h i) : (putBack1 e r s)[i]? = e[i]? := by
  unfold putBack1
  split
  · rename_i k d
    have hk : k ≠ i := fun q => h (by rw [q])
    split <;> first | rfl | exact getE_set_ne hk
  · rename_i k d
    have hk : k ≠ i := fun q => h (by rw [q])
    split <;> first | rfl | exact getE_set_ne hk
  · rfl
theorem putBack1_eq {s : SV} {i : Nat} : (putBack1 e (.h i) s)[i]? = back1 e[i]? s := by
  unfold putBack1
  cases s with
  | bor d =>
    dsimp only
    split
    · rename_i d' h; rw [getE_set_self h, h]; rfl
    · rename_i d' h; rw [getE_set_self h, h]; rfl
    · rename_i h1 h2
      unfold back1
      split <;> first | rfl | (rename_i h; exact absurd h (by first | exact h1 _ | exact h2 _)) | skip
      all_goals first | rfl | (rename_i hh; simp_all)
  | fro d =>
    dsimp only
    split
    · rename_i d' h; rw [getE_set_self h, h]; rfl
    · rename_i d' h; rw [getE_set_self h, h]; rfl
    · rename_i h1 h2
      unfold back1
      split <;> first | rfl | (rename_i h; exact absurd h (by first | exact h1 _ | exact h2 _)) | skip
      all_goals first | rfl | (rename_i hh; simp_all)
  | un => show e[i]? = back1 e[i]? _; unfold back1; split <;> first | rfl | simp_all
  | val d => show e[i]? = back1 e[i]? _; unfold back1; split <;> first | rfl | simp_all
  | own d => show e[i]? = back1 e[i]? _; unfold back1; split <;> first | rfl | simp_all
theorem putBack1_len {r : RV} {s : SV} : (putBack1 e r s).length = e.length := by
  unfold putBack1
  split
  · split <;> simp
  · split <;> simp
  · rfl
theorem putBack_len : ∀ {rs : List RV} {ss : List SV} {e : EV}, (putBack e rs ss).length = e.length
  | [], _, e => by simp [putBack]
  | r :: rs, [], e => by simp [putBack]
  | r :: rs, s :: ss, e => by rw [putBack, putBack_len, putBack1_len]
theorem putBack_ne : ∀ {rs : List RV} {ss : List SV} {e : EV} {i : Nat}, i ∉ hands rs → (putBack e rs ss)[i]? = e[i]?
  | [], _, e, i, h => by simp [putBack]
  | r :: rs, [], e, i, h => by simp [putBack]
  | r :: rs, s :: ss, e, i, h => by
    rw [putBack, putBack_ne (rs := rs), putBack1_ne]
    · rintro rfl; exact h (by simp [hands])
    · intro q; apply h; cases r <;> simp [hands, q]
theorem putBack_eq : ∀ {rs : List RV} {ss : List SV} {e : EV} {i j : Nat} {s : SV}, (hands rs).Nodup → rs[j]? = some (.h i) → ss[j]? = some s → (putBack e rs ss)[i]? = back1 e[i]? s
  | [], _, e, i, j, s, _, h, _ => by simp at h
  | r :: rs, [], e, i, j, s, _, _, h => by simp at h
  | r :: rs, s' :: ss, e, i, j, s, nd, h1, h2 => by
    have tl : (hands rs).Nodup := by
      cases r <;> simp only [hands] at nd
      · exact nd
      · exact nd
      · exact (List.nodup_cons.mp nd).2
    rw [putBack]
    cases j with
    | zero =>
      simp at h1 h2; subst h1 h2
      simp only [hands] at nd
      rw [putBack_ne (List.nodup_cons.mp nd).1, putBack1_eq]
    | succ j =>
      have h3 : rs[j]? = some (.h i) := by simpa using h1
      rw [putBack_eq (j := j) (s := s) tl h3 (by simpa using h2), putBack1_ne]
      rintro rfl
      simp only [hands] at nd
      exact (List.nodup_cons.mp nd).1 (hands_mem.mpr ⟨j, h3⟩)
theorem call_ok {rs : List RV} {vs : List V} {as : List SV} (t : TrE C e F σ H e1 F1 H1) (r : RVs C H F1 σ H1 e1 rs vs) (nd : (hands rs).Nodup) (ha : argsOf e1 rs = some as) :
    ∃ F2, SR C as F2 (vs.map some) H1 ∧ as.length = vs.length ∧ (∀ s ∈ as, (∃ d, s = .val d) ∨ ∃ d, s = .bor d) ∧ ∀ as' F' H', TrE C as F2 (vs.map some) H1 as' F' H' → TrE C e F σ H (putBack e1 rs as') F' H' ∧
      (∀ d v, RVok C H1 F' (vs.map some) H' as' (.t d) v → RVok C H F' σ H' (putBack e1 rs as') (.t d) v) := by
  obtain ⟨F2, t2, s2, ar⟩ := args_w t (Sub.refl _) r.w ha
  obtain ⟨l1, l2⟩ := ar.len
  have R := t2.sr
  have vm : ∀ {j : Nat} {v : V}, vs[j]? = some v → (vs.map some)[j]? = some (some v) := fun {j v} h => by rw [List.getElem?_map, h]; rfl
  have ownAs : ∀ {b : Addr}, OwnA as (vs.map some) b → ∃ (i : Nat) (s : SV) (j : Nat), rs[j]? = some (RV.h i) ∧ e1[i]? = some s ∧ s.mine = true ∧ σ[i]? = some (some (V.ref b)) := fun {b} ⟨j, s, h1, h2, h3⟩ => by
    obtain ⟨r, v, k1, k2, k3⟩ := ar.get h1
    rw [vm k2] at h3; cases h3
    rcases k3 with ⟨d, rfl, _⟩ | ⟨i, d, rfl, rfl, q1, q2 | q2⟩
    · cases h2
    · exact ⟨i, _, j, k1, q2, rfl, q1⟩
    · exact ⟨i, _, j, k1, q2, rfl, q1⟩
  have ownE : ∀ {b : Addr}, OwnA as (vs.map some) b → OwnA e1 σ b := fun h => by
    obtain ⟨i, s, j, _, h1, h2, h3⟩ := ownAs h
    exact ⟨i, s, h1, h2, h3⟩
  have sr : SR C as F2 (vs.map some) H1 := by
    refine ⟨R.sub, fun j s h => ?_, fun j k s s' a h1 h2 m1 m2 a1 a2 => ?_, by simp [l1, l2]⟩
    · obtain ⟨r, v, k1, k2, k3⟩ := ar.get h
      rw [vm k2]
      rcases k3 with ⟨d, rfl, q, _⟩ | ⟨i, d, rfl, rfl, q1, q2 | q2⟩
      · exact ⟨v, rfl, q⟩
      · obtain ⟨a, z1, z2⟩ := R.slot i _ q2
        rw [q1] at z1; cases z1
        exact ⟨a, rfl, z2⟩
      · obtain ⟨a, z1, z2⟩ := R.slot i _ q2
        rw [q1] at z1; cases z1
        exact ⟨a, rfl, z2⟩
    · obtain ⟨r, v, k1, k2, k3⟩ := ar.get h1
      obtain ⟨r', v', k1', k2', k3'⟩ := ar.get h2
      rw [vm k2] at a1; cases a1
      rw [vm k2'] at a2; cases a2
      rcases k3 with ⟨d, rfl, q, _⟩ | ⟨i, d, rfl, rfl, q1, q2⟩
      · cases m1
      rcases k3' with ⟨d', rfl, q', _⟩ | ⟨i', d', rfl, rfl, q1', q2'⟩
      · cases m2
      have ei : i = i' := by
        rcases q2 with q2 | q2 <;> rcases q2' with q2' | q2' <;> exact R.dis i i' _ _ a q2 q2' rfl rfl q1 q1'
      subst ei
      exact hands_pos nd k1 k1'
  refine ⟨F2, sr, by rw [l1, l2], fun s hs => ?_, fun as' F' H' u => ?_⟩
  · obtain ⟨j, hj⟩ := List.getElem?_of_mem hs
    obtain ⟨r, v, k1, k2, k3⟩ := ar.get hj
    rcases k3 with ⟨d, rfl, _⟩ | ⟨i, d, _, rfl, _⟩
    · exact .inl ⟨d, rfl⟩
    · exact .inr ⟨d, rfl⟩
  · have char : ∀ i : Nat, ((putBack e1 rs as')[i]? = e1[i]? ∧ ∀ s, e1[i]? = some s → s.mine = true → i ∉ hands rs) ∨
        ∃ (j : Nat) (d d' : D) (v : V), vs[j]? = some v ∧ σ[i]? = some (some v) ∧ ((e1[i]? = some (.own d) ∧ ((as'[j]? = some (.bor d') ∧ (putBack e1 rs as')[i]? = some (.own d')) ∨ (as'[j]? = some (.fro d') ∧ (putBack e1 rs as')[i]? = some (.val d')))) ∨
          (e1[i]? = some (.bor d) ∧ ((as'[j]? = some (.bor d') ∧ (putBack e1 rs as')[i]? = some (.bor d')) ∨ (as'[j]? = some (.fro d') ∧ (putBack e1 rs as')[i]? = some (.fro d'))))) := fun i => by
      by_cases hi : i ∈ hands rs
      · obtain ⟨j, hj⟩ := hands_mem.mp hi
        have hjl : j < rs.length := (List.getElem?_eq_some_iff.mp hj).1
        obtain ⟨s, hs⟩ : ∃ s, as[j]? = some s := ⟨as[j]'(by omega), List.getElem?_eq_getElem _⟩
        obtain ⟨r, v, k1, k2, k3⟩ := ar.get hs
        rw [hj] at k1; cases k1
        have hl' : as'.length = as.length := u.len
        obtain ⟨s', hs'⟩ : ∃ s', as'[j]? = some s' := ⟨as'[j]'(by omega), List.getElem?_eq_getElem _⟩
        have pe := putBack_eq (e := e1) nd hj hs'
        rcases k3 with ⟨d, rfl, q, q0⟩ | ⟨i', d, ei, rfl, q1, q2⟩
        · obtain ⟨s0, z1, z2, z3⟩ := q0 i rfl
          refine .inl ⟨?_, fun s1 h1 h2 => ?_⟩
          · rw [pe, z1]
            cases s0 <;> first | cases z2 | skip
            all_goals cases s' <;> rfl
          · rw [z1] at h1; cases h1; rw [z2] at h2; cases h2
        · cases ei
          obtain ⟨_, d', z⟩ := u.bor j d hs
          refine .inr ⟨j, d, d', v, k2, q1, ?_⟩
          rcases q2 with q2 | q2
          · refine .inl ⟨q2, ?_⟩
            rcases z with z | z
            · rw [hs'] at z; cases z; exact .inl ⟨hs', by rw [pe, q2]; rfl⟩
            · rw [hs'] at z; cases z; exact .inr ⟨hs', by rw [pe, q2]; rfl⟩
          · refine .inr ⟨q2, ?_⟩
            rcases z with z | z
            · rw [hs'] at z; cases z; exact .inl ⟨hs', by rw [pe, q2]; rfl⟩
            · rw [hs'] at z; cases z; exact .inr ⟨hs', by rw [pe, q2]; rfl⟩
      · exact .inl ⟨putBack_ne hi, fun _ _ _ => hi⟩
    have nom : ∀ (i : Nat) (s' : SV), (putBack e1 rs as')[i]? = some s' → s'.mine = true → ∃ s, e1[i]? = some s ∧ s.mine = true := fun i s' h m => by
      rcases char i with ⟨q, _⟩ | ⟨j, d, d', v, hv, hσ, ⟨q1, q2 | q2⟩ | ⟨q1, q2 | q2⟩⟩
      · rw [q] at h; exact ⟨s', h, m⟩
      all_goals exact ⟨_, q1, rfl⟩
    have big : TrE C e1 F2 σ H1 (putBack e1 rs as') F' H' := by
      refine ⟨⟨⟨u.sr.sub, fun i s h => ?_, fun i k s s' a h1 h2 m1 m2 a1 a2 => ?_, by rw [putBack_len]; exact R.len⟩, u.fs, fun b o h k => u.keep b o h fun q => k (ownE q), u.there, fun b o h => ?_, fun i d a h1 h2 => ?_, fun i d' h => ?_, fun i d h => ⟨rfl, ?_⟩, fun i d h => ⟨rfl, ?_⟩, putBack_len⟩, fun i s h k => ?_, nom⟩
      · rcases char i with ⟨q, hq⟩ | ⟨j, d, d', v, hv, hσ, ⟨q1, ⟨q2, q3⟩ | ⟨q2, q3⟩⟩ | ⟨q1, ⟨q2, q3⟩ | ⟨q2, q3⟩⟩⟩
        · rw [q] at h
          have z := R.slot i s h
          have stay : ∀ {d : D} {a : Addr}, s.mine = true → σ[i]? = some (some (.ref a)) → Mine C F2 H1 d a → Mine C F' H' d a := fun {d a} ms ea mm => by
            have no : ¬ OwnA as (vs.map some) a := fun oa => by
              obtain ⟨i', s', j, w1, w2, w3, w4⟩ := ownAs oa
              have := R.dis i' i s' s a w2 h w3 ms w4 ea
              subst this
              exact hq s h ms (hands_mem.mpr ⟨j, w1⟩)
            refine mm.mono u.fs ?_ fun o ho => u.keep a o ho no
            cases fa : F' a with
            | none => rfl
            | some o =>
              obtain ⟨o', ho'⟩ := mm.there
              rcases u.new a o fa with w | w | w
              · rw [mm.1] at w; cases w
              · rw [ho'] at w; cases w
              · exact absurd w no
          cases s with
          | un => trivial
          | val d => obtain ⟨v, z1, z2⟩ := z; exact ⟨v, z1, z2.mono u.fs⟩
          | fro d => obtain ⟨v, z1, z2⟩ := z; exact ⟨v, z1, z2.mono u.fs⟩
          | own d => obtain ⟨a, z1, z2⟩ := z; exact ⟨a, z1, stay rfl z1 z2⟩
          | bor d => obtain ⟨a, z1, z2⟩ := z; exact ⟨a, z1, stay rfl z1 z2⟩
        · rw [q3] at h; cases h
          obtain ⟨a, z1, z2⟩ := u.sr.slot j _ q2
          rw [vm hv] at z1; cases z1
          exact ⟨a, hσ, z2⟩
        · rw [q3] at h; cases h
          obtain ⟨v', z1, z2⟩ := u.sr.slot j _ q2
          rw [vm hv] at z1; cases z1
          exact ⟨_, hσ, z2⟩
        · rw [q3] at h; cases h
          obtain ⟨a, z1, z2⟩ := u.sr.slot j _ q2
          rw [vm hv] at z1; cases z1
          exact ⟨a, hσ, z2⟩
        · rw [q3] at h; cases h
          obtain ⟨v', z1, z2⟩ := u.sr.slot j _ q2
          rw [vm hv] at z1; cases z1
          exact ⟨_, hσ, z2⟩
      · obtain ⟨t1, w1, w2⟩ := nom i s h1 m1
        obtain ⟨t2, w3, w4⟩ := nom k s' h2 m2
        exact R.dis i k t1 t2 a w1 w3 w2 w4 a1 a2
      · rcases u.new b o h with w | w | w
        · exact .inl w
        · exact .inr (.inl w)
        · exact .inr (.inr (ownE w))
      · rcases char i with ⟨q, hq⟩ | ⟨j, d0, d', v, hv, hσ, ⟨q1, ⟨q2, q3⟩ | ⟨q2, q3⟩⟩ | ⟨q1, ⟨q2, q3⟩ | ⟨q2, q3⟩⟩⟩
        · rw [q] at h1; exact .inl ⟨i, d, h1, h2⟩
        · exact .inl ⟨i, d0, q1, h2⟩
        all_goals (rw [q3] at h1; cases h1)
      · rcases char i with ⟨q, hq⟩ | ⟨j, d0, d', v, hv, hσ, ⟨q1, ⟨q2, q3⟩ | ⟨q2, q3⟩⟩ | ⟨q1, ⟨q2, q3⟩ | ⟨q2, q3⟩⟩⟩
        · rw [q] at h; exact ⟨d', h⟩
        · rw [q3] at h; cases h
        · rw [q3] at h; cases h
        · exact ⟨d0, q1⟩
        · exact ⟨d0, q1⟩
      · rcases char i with ⟨q, hq⟩ | ⟨j, d0, d', v, hv, hσ, ⟨q1, ⟨q2, q3⟩ | ⟨q2, q3⟩⟩ | ⟨q1, ⟨q2, q3⟩ | ⟨q2, q3⟩⟩⟩
        · exact ⟨d, .inl (by rw [q]; exact h)⟩
        · rw [q1] at h; cases h
        · rw [q1] at h; cases h
        · exact ⟨d', .inl q3⟩
        · exact ⟨d', .inr q3⟩
      · rcases char i with ⟨q, hq⟩ | ⟨j, d0, d', v, hv, hσ, ⟨q1, ⟨q2, q3⟩ | ⟨q2, q3⟩⟩ | ⟨q1, ⟨q2, q3⟩ | ⟨q2, q3⟩⟩⟩
        · rw [q]; exact h
        all_goals (rw [q1] at h; cases h)
      · rcases char i with ⟨q, hq⟩ | ⟨j, d0, d', v, hv, hσ, ⟨q1, ⟨q2, q3⟩ | ⟨q2, q3⟩⟩ | ⟨q1, ⟨q2, q3⟩ | ⟨q2, q3⟩⟩⟩
        · exact ⟨s, by rw [q]; exact h, k⟩
        all_goals exact ⟨_, q3, rfl⟩
    refine ⟨t2.trans big, fun d v h => ?_⟩
    obtain ⟨a, rfl, m, h0, no⟩ := h
    refine ⟨a, rfl, m, ?_, fun q => ?_⟩
    · by_cases z : H a = none
      · exact z
      · exact absurd h0 (t.there a z)
    · obtain ⟨_, o, ho⟩ := R.ownNone (big.ownA' q)
      rw [h0] at ho; cases ho
end
end PL
end

section
/-! what was lent comes back -/
namespace PL
open PySem PySem.Spec L2

variable {C : G0}
mutual
theorem rep_tup {F G : Hp} (k : ∀ b o, F b = some o → (∀ vs, o ≠ .lst vs) → G b = some o) : ∀ {d : D} {v : V}, tupD d = true → Rep C F d v → Rep C G d v
  | .non, _, _, h => by rw [Rep] at h ⊢; exact h
  | .bl _, _, _, h => by rw [Rep] at h ⊢; exact h
  | .int _, _, _, h => by rw [Rep] at h ⊢; exact h
  | .str _, _, _, h => by rw [Rep] at h ⊢; exact h
  | .tup ds, _, t, h => by
    rw [Rep] at h ⊢
    rw [tupD] at t
    obtain ⟨a, vs, e, h1, h2⟩ := h
    refine ⟨a, vs, e, h1.imp (fun r => ?_) id, repl_tup k t h2⟩
    rcases r with r | ⟨o, r⟩
    · exact .inl (k _ _ r (fun vs q => by cases q))
    · exact .inr ⟨o, k _ _ r (fun vs q => by cases q)⟩
  | .lst _, _, t, _ => by simp [tupD] at t
  | .scr _, _, t, _ => by simp [tupD] at t
  | .dk _ _, _, t, _ => by simp [tupD] at t
  | .dt _ _, _, t, _ => by simp [tupD] at t
  | .fn _, _, t, _ => by simp [tupD] at t
  | .exn _ _, _, t, _ => by simp [tupD] at t
theorem repl_tup {F G : Hp} (k : ∀ b o, F b = some o → (∀ vs, o ≠ .lst vs) → G b = some o) : ∀ {ds : List D} {vs : List V}, tupL ds = true → RepL C F ds vs → RepL C G ds vs
  | [], _, _, h => by rw [RepL] at h ⊢; exact h
  | d :: ds, _, t, h => by
    rw [RepL] at h ⊢
    rw [tupL, Bool.and_eq_true] at t
    obtain ⟨v, r, e, h1, h2⟩ := h
    exact ⟨v, r, e, rep_tup k t.1 h1, repl_tup k t.2 h2⟩
end
open Classical in
theorem thaw_ok {as as' : List SV} {F2 F' H1 H' : Hp} {σ : St} (sr : SR C as F2 σ H1) (hv : ∀ s ∈ as, (∃ d, s = .val d) ∨ ∃ d, s = .bor d) (u : TrE C as F2 σ H1 as' F' H') (hp : as'.all purA = true) :
    ∃ G, TrE C as F2 σ H1 (thaw as as') G H' ∧ ∀ d v, tupD d = true → Rep C F' d v → Rep C G d v := by
  have hl : as'.length = as.length := u.len
  have hg : ∀ {j : Nat} {a : SV}, as[j]? = some a → (∃ d, a = .val d) ∨ ∃ d, a = .bor d := fun h => hv _ (List.mem_of_getElem? h)
  have tg : ∀ {j : Nat} {s : SV}, (thaw as as')[j]? = some s → ∃ a b, as[j]? = some a ∧ as'[j]? = some b ∧ s = thaw1 a b := fun {j s} h => by
    unfold thaw at h
    rw [List.getElem?_zipWith] at h
    split at h
    · next a b h1 h2 => cases h; exact ⟨a, b, h1, h2, rfl⟩
    · cases h
  have gt : ∀ {j : Nat} {a b : SV}, as[j]? = some a → as'[j]? = some b → (thaw as as')[j]? = some (thaw1 a b) := fun {j a b} h1 h2 => by
    unfold thaw
    rw [List.getElem?_zipWith, h1, h2]
  have bl : ∀ {j : Nat} {d : D}, as[j]? = some (.bor d) → ∃ x ds vs, σ[j]? = some (some (.ref x)) ∧ (as'[j]? = some (.bor (.lst ds)) ∨ as'[j]? = some (.fro (.lst ds))) ∧ tupL ds = true ∧ H' x = some (.lst vs) ∧ RepL C F' ds vs ∧ (F' x = none ∨ F' x = some (.lst vs)) := fun {j d} h => by
    obtain ⟨_, d', q⟩ := u.bor j d h
    obtain ⟨x, hx, _⟩ := sr.slot j _ h
    rcases q with q | q
    · have pu := List.all_eq_true.mp hp _ (List.mem_of_getElem? q)
      have z := u.sr.slot j _ q
      obtain ⟨y, hy, mm⟩ := z
      rw [hx] at hy; cases hy
      cases d' with
      | lst ds =>
        obtain ⟨m1, vs, m2, m3⟩ := mm
        exact ⟨x, ds, vs, hx, .inl q, pu, m2, m3, .inl m1⟩
      | _ => simp [purA, lstT] at pu
    · have pu := List.all_eq_true.mp hp _ (List.mem_of_getElem? q)
      have z := u.sr.slot j _ q
      obtain ⟨v, hy, mm⟩ := z
      rw [hx] at hy; cases hy
      cases d' with
      | lst ds =>
        rw [Rep] at mm
        obtain ⟨a, vs, e, m2, m3⟩ := mm
        cases e
        exact ⟨x, ds, vs, hx, .inr q, pu, u.sr.sub _ _ m2, m3, .inr m2⟩
      | _ => simp [purA, lstT] at pu
  have ow : ∀ {b : Addr}, OwnA as σ b → ∃ (j : Nat) (d : D), as[j]? = some (SV.bor d) ∧ σ[j]? = some (some (V.ref b)) := fun ⟨j, s, h1, h2, h3⟩ => by
    rcases hg h1 with ⟨d, rfl⟩ | ⟨d, rfl⟩
    · cases h2
    · exact ⟨j, d, h1, h3⟩
  have owF : ∀ {b : Addr}, OwnA as σ b → F' b = none ∨ ∃ vs, F' b = some (.lst vs) := fun h => by
    obtain ⟨j, d, h1, h2⟩ := ow h
    obtain ⟨x, ds, vs, k1, _, _, _, _, k2⟩ := bl h1
    rw [h2] at k1; cases k1
    rcases k2 with k2 | k2
    · exact .inl k2
    · exact .inr ⟨vs, k2⟩
  have km : ∀ b o, F' b = some o → (∀ vs, o ≠ .lst vs) → (fun b => if OwnA as σ b then none else F' b) b = some o := fun b o h1 h2 => by
    show (if OwnA as σ b then none else F' b) = some o
    by_cases hb : OwnA as σ b
    · rcases owF hb with q | ⟨vs, q⟩
      · rw [q] at h1; cases h1
      · rw [q] at h1; cases h1; exact absurd rfl (h2 vs)
    · rw [if_neg hb]; exact h1
  have sG : Sub F2 (fun b => if OwnA as σ b then none else F' b) := fun b o h => by
    show (if OwnA as σ b then none else F' b) = some o
    by_cases hb : OwnA as σ b
    · rw [(sr.ownNone hb).1] at h; cases h
    · rw [if_neg hb]; exact u.fs b o h
  have G' : ∀ b o, (fun b => if OwnA as σ b then none else F' b) b = some o → ¬ OwnA as σ b ∧ F' b = some o := fun b o h => by
    by_cases hb : OwnA as σ b
    · simp only [if_pos hb] at h; cases h
    · simp only [if_neg hb] at h; exact ⟨hb, h⟩
  have mn : ∀ {j : Nat} {s : SV}, (thaw as as')[j]? = some s → s.mine = true → ∃ d, as[j]? = some (.bor d) := fun {j s} h m => by
    obtain ⟨a, b, h1, h2, rfl⟩ := tg h
    rcases hg h1 with ⟨d, rfl⟩ | ⟨d, rfl⟩
    · cases b <;> cases m
    · exact ⟨d, h1⟩
  have ex : ∀ {j : Nat} {a : SV}, as[j]? = some a → ∃ b, as'[j]? = some b := fun {j a} h => by
    have := (List.getElem?_eq_some_iff.mp h).1
    exact ⟨as'[j]'(by omega), List.getElem?_eq_getElem _⟩
  refine ⟨fun b => if OwnA as σ b then none else F' b, ⟨⟨⟨fun b o h => u.sr.sub b o (G' b o h).2, fun j s h => ?_, fun i j s t a h1 h2 m1 m2 a1 a2 => ?_, ?_⟩, sG, u.keep, u.there, fun b o h => u.new b o (G' b o h).2, fun i d a h _ => ?_, fun i d' h => ?_, fun i d h => ⟨rfl, ?_⟩, fun i d h => ?_, ?_⟩, fun i s h k => ?_, fun i s' h m => ?_⟩, fun d v t r => rep_tup km t r⟩
  · obtain ⟨a, b, h1, h2, rfl⟩ := tg h
    rcases hg h1 with ⟨d, rfl⟩ | ⟨d, rfl⟩
    · obtain ⟨v, q1, q2⟩ := sr.slot j _ h1
      have : thaw1 (.val d) b = .val d := by cases b <;> rfl
      rw [this]
      exact ⟨v, q1, q2.mono sG⟩
    · obtain ⟨x, ds, vs, k1, k2, k3, k4, k5, k6⟩ := bl h1
      have : thaw1 (.bor d) b = .bor (.lst ds) := by
        rcases k2 with q | q <;> (rw [h2] at q; cases q; rfl)
      rw [this]
      have hx : OwnA as σ x := ⟨j, _, h1, rfl, k1⟩
      exact ⟨x, k1, if_pos hx, vs, k4, repl_tup km k3 k5⟩
  · obtain ⟨d1, q1⟩ := mn h1 m1
    obtain ⟨d2, q2⟩ := mn h2 m2
    exact sr.dis i j _ _ a q1 q2 rfl rfl a1 a2
  · unfold thaw
    rw [List.length_zipWith, hl, Nat.min_self]; exact sr.len
  · exfalso
    obtain ⟨a, b, h1, h2, e⟩ := tg h
    rcases hg h1 with ⟨d, rfl⟩ | ⟨d, rfl⟩ <;> cases b <;> cases e
  · exact mn h rfl
  · obtain ⟨b, hb⟩ := ex h
    obtain ⟨x, ds, vs, k1, k2, _⟩ := bl h
    refine ⟨.lst ds, .inl ?_⟩
    rcases k2 with q | q <;> exact gt h q
  · rcases hg h with ⟨_, q⟩ | ⟨_, q⟩ <;> cases q
  · unfold thaw
    rw [List.length_zipWith, hl, Nat.min_self]
  · obtain ⟨b, hb⟩ := ex h
    refine ⟨_, gt h hb, ?_⟩
    rcases hg h with ⟨d, rfl⟩ | ⟨d, rfl⟩
    · cases b <;> rfl
    · cases b <;> rfl
  · obtain ⟨d, q⟩ := mn h m
    exact ⟨_, q, rfl⟩
end PL
end

section
namespace PL
open PySem PySem.Spec L2

section
variable {T : GT} {C : G0} {n : Nat} {W : WX} {c : CC} {X : Cx}
theorem callF_stuck {n g : Nat} {as : List SV} (h : T.fns[g]? = none) : callF T n g as = .stuck := by
  cases n with
  | zero => rfl
  | succ n => simp only [callF, h]
theorem callF_len {n g : Nat} {as : List SV} {F : FnD} (h : T.fns[g]? = some F) (k : callF T n g as ≠ .stuck) : as.length = F.ps.length := by
  cases n with
  | zero => exact absurd rfl k
  | succ n =>
    simp only [callF, h] at k
    split at k
    · assumption
    · exact absurd rfl k
/-- what a def asks, from the outcome of the call -/
theorem spi_of {e e1 : EV} {F F1 H H1 : Hp} {σ : St} {rs : List RV} {vs : List V} {g : Nat} {Q : VK} (t : TrE C e F σ H e1 F1 H1) (r : RVs C H F1 σ H1 e1 rs vs)
    (q : PostE C W e F σ H (doCall (callF T n) g rs e1) Q) : ∃ fn, T.fns[g]? = some fn ∧ SpI T C n g fn.ps.length vs H1 Q (WE W σ) := by
  unfold doCall at q
  split at q
  · rename_i nd
    cases ha : argsOf e1 rs with
    | none => rw [ha] at q; exact q.elim
    | some as =>
      rw [ha] at q
      dsimp only at q
      obtain ⟨F2, sr, hl, hv, k⟩ := call_ok t r nd ha
      cases hf : T.fns[g]? with
      | none => rw [callF_stuck hf] at q; exact q.elim
      | some fn =>
        refine ⟨fn, rfl, as, F2, ?_, hv, sr, ?_⟩
        · rw [← hl]
          refine callF_len (n := n) hf fun z => ?_
          rw [z] at q; exact q
        · cases hc : callF T n g as with
          | stuck => rw [hc] at q; exact q
          | exc x p as' =>
            rw [hc] at q
            exact fun F' H' u => q F' H' (k as' F' H' u).1
          | ok z as' =>
            rw [hc] at q
            intro v F' H' u rv
            obtain ⟨k1, k2⟩ := k as' F' H' u
            refine q v F' H' k1 ?_
            cases z with
            | v d => exact rv
            | t d => exact k2 d v rv
            | h i =>
              exfalso
              have : ∀ as o, fin as o ≠ .ok (.h i) as' := fun as o => by
                unfold fin
                split <;> simp
              cases n with
              | zero => cases hc
              | succ n =>
                simp only [callF, hf] at hc
                split at hc
                · exact this _ _ hc
                · cases hc
  · exact q.elim
/-! ### no stars -/
theorem spi_ofT {e e1 : EV} {F F1 H H1 : Hp} {σ : St} {rs : List RV} {vs : List V} {g : Nat} {Q : VK} (t : TrE C e F σ H e1 F1 H1) (r : RVs C H F1 σ H1 e1 rs vs)
    (q : PostE C W e F σ H (doCallT (callF T n) g rs e1) Q) : ∃ fn, T.fns[g]? = some fn ∧ SpI T C n g fn.ps.length vs H1 Q (WE W σ) := by
  unfold doCallT at q
  split at q
  · rename_i nd
    cases ha : argsOf e1 rs with
    | none => rw [ha] at q; exact q.elim
    | some as =>
      rw [ha] at q
      dsimp only at q
      obtain ⟨F2, sr, hl, hv, k⟩ := call_ok t r nd ha
      cases hf : T.fns[g]? with
      | none => rw [callF_stuck hf] at q; exact q.elim
      | some fn =>
        refine ⟨fn, rfl, as, F2, ?_, hv, sr, ?_⟩
        · rw [← hl]
          refine callF_len (n := n) hf fun z => ?_
          rw [z] at q; exact q
        · cases hc : callF T n g as with
          | stuck => rw [hc] at q; exact q
          | exc x p as' =>
            rw [hc] at q
            exact fun F' H' u => q F' H' (k as' F' H' u).1
          | ok z as' =>
            rw [hc] at q
            intro v F' H' u rv
            cases z with
            | v d =>
              dsimp only at q
              split at q
              · rename_i hq
                rw [Bool.and_eq_true] at hq
                obtain ⟨G, k1, k2⟩ := thaw_ok sr hv u hq.2
                exact q v G H' (k _ G H' k1).1 (k2 d v hq.1 rv)
              · exact q.elim
            | t d => exact q.elim
            | h i => exact q.elim
  · exact q.elim
def nst : Expr → Bool
  | .Starred .. => false
  | _ => true
theorem star_cons {x : Expr} {xs : List Expr} {env : Env} (h : nst x = true) : starEach (x :: xs) env = (false, eval x env) :: starEach xs env := by
  cases x <;> first | rfl | cases h
theorem star_any {pos : Pos} {env : Env} : ∀ {xs : List Expr}, xs.all nst = true → (backTo pos (starEach xs env)).any (·.1) = false
  | [], _ => rfl
  | x :: xs, h => by
    rw [List.all_cons, Bool.and_eq_true] at h
    rw [star_cons h.1]
    show (false || (backTo pos (starEach xs env)).any (·.1)) = false
    rw [star_any h.2]; rfl
theorem star_all {pos : Pos} {env : Env} : ∀ {xs : List Expr}, xs.all nst = true → (backTo pos (starEach xs env)).all (fun x => !x.1) = true
  | [], _ => rfl
  | x :: xs, h => by
    rw [List.all_cons, Bool.and_eq_true] at h
    rw [star_cons h.1]
    show (!false && (backTo pos (starEach xs env)).all (fun x => !x.1)) = true
    rw [star_all h.2]; rfl
theorem run_sp (G : Good T C n W c X) (hc : c.calm = true) {g : Nat} {fn : FnD} {pins : List (Addr × Obj)} {σ : St} {H : Hp} {s : Shared} {Q : VK} {us : List Value} {vs : List V} (hf : T.fns[g]? = some fn)
    (I : Inv X pins σ H s) (r : Vals vs us) (h : SpI T C n g fn.ps.length vs H Q (WE W σ)) : wpAny (model X.prog X.w) X.A (call (.ref (C.gv g)) us) (EP X pins σ Q) X.xe s := by
  obtain ⟨hk, fd, F, hb, _⟩ := G.gl.fns g fn hf
  rw [← G.K] at F hb
  exact run_fnSD (E := WE W) F (G.room hc) hb .nil (passAt G.tk σ) I r (by rw [List.append_nil]; exact h)
/-- the arguments, then the call -/
theorem call_with (G : Good T C n W c X) (hc : c.calm = true) {g : Nat} (hlt : g < T.fns.length) {as : List E} {xs : List Expr} {pos : Pos} {pins : List (Addr × Obj)} {σ : St} {H : Hp} {s : Shared} {Q : VK} (ha : PA X xs (RA T C n W as)) (hs : xs.all nst = true) (hl : as.length = xs.length)
    (I : Inv X pins σ H s) {e : EV} {F : Hp} (R : SR C e F σ H) (q : PostE C W e F σ H ((evA T (callF T n) as e).bd fun rs e1 => doCall (callF T n) g rs e1) Q) :
    wpAny (model X.prog X.w) X.A (callWith pos (.ref (C.gv g)) [] (backTo pos (starEach xs X.env)) (backToKw pos (keywordEach [] X.env))) (EP X pins σ Q) X.xe s := by
  have hk : ∀ {fn}, T.fns[g]? = some fn → PySem.W.keepIn X.K (.ref (C.gv g)) = true := fun {fn} hf => by rw [G.K]; exact (G.gl.fns g fn hf).1
  cases xs with
  | nil =>
    cases as with
    | cons a as => cases hl
    | nil =>
      simp only [evA, bd_ok] at q
      obtain ⟨fn, hf, sp⟩ := spi_of (TrE.refl R) (show RVs C H F σ H e [] [] from rfl) q
      exact PySem.W.callWith_K0 I.kIn (hk hf) (run_sp G hc hf I .nil sp)
  | cons x xs =>
    rw [List.all_cons, Bool.and_eq_true] at hs
    have main : RA T C n W as σ H fun vs H1 => ∃ fn, T.fns[g]? = some fn ∧ SpI T C n g fn.ps.length vs H1 Q (WE W σ) :=
      ⟨e, F, R, PostE.firstA0 q fun rs e1 vs F1 H1 t1 r1 q => spi_of t1 r1 q⟩
    refine PySem.W.callWith_K (h₀ := X.base) I.ok.mod.kin (hk (List.getElem?_eq_getElem hlt)) (thn (ha.run pos pins s σ H _ I main) fun us s1 ⟨vs, H1, I1, r, q⟩ => ⟨I1.kIn, ?_⟩) (star_cons hs.1) (star_any hs.2)
    obtain ⟨fn, hf, sp⟩ := q
    exact run_sp G hc hf I1 r sp
theorem s_call (G : Good T C n W c X) (hc : c.calm = true) {g : Nat} {as : List E} {x : Str} {xs : List Expr} {p pos : Pos} (h : c.fn[g]? = some x) (hg : glB c.sc x = true) (ha : PA X xs (RA T C n W as)) (hs : xs.all nst = true) (hl : as.length = xs.length) :
    PE X (.Call (.Name x p) xs [] pos) (RE T C n W (.call g as)) := by
  obtain ⟨g1, g2, g3⟩ := G.glb hg
  obtain ⟨hm, hlt⟩ := G.gl.names g x h
  refine ⟨fun pins s σ H Q I ⟨e, F, R, q⟩ => ?_⟩
  refine wpAny_Call_Name_kw (ld_glob I g1 hm ?_ g2)
  exact call_with G hc hlt ha hs hl I R (by simpa only [evE, tst_false] using q)
theorem call_withT (G : Good T C n W c X) (hc : c.calm = true) {g : Nat} (hlt : g < T.fns.length) {as : List E} {xs : List Expr} {pos : Pos} {pins : List (Addr × Obj)} {σ : St} {H : Hp} {s : Shared} {Q : VK} (ha : PA X xs (RA T C n W as)) (hs : xs.all nst = true) (hl : as.length = xs.length)
    (I : Inv X pins σ H s) {e : EV} {F : Hp} (R : SR C e F σ H) (q : PostE C W e F σ H ((evA T (callF T n) as e).bd fun rs e1 => doCallT (callF T n) g rs e1) Q) :
    wpAny (model X.prog X.w) X.A (callWith pos (.ref (C.gv g)) [] (backTo pos (starEach xs X.env)) (backToKw pos (keywordEach [] X.env))) (EP X pins σ Q) X.xe s := by
  have hk : ∀ {fn}, T.fns[g]? = some fn → PySem.W.keepIn X.K (.ref (C.gv g)) = true := fun {fn} hf => by rw [G.K]; exact (G.gl.fns g fn hf).1
  cases xs with
  | nil =>
    cases as with
    | cons a as => cases hl
    | nil =>
      simp only [evA, bd_ok] at q
      obtain ⟨fn, hf, sp⟩ := spi_ofT (TrE.refl R) (show RVs C H F σ H e [] [] from rfl) q
      exact PySem.W.callWith_K0 I.kIn (hk hf) (run_sp G hc hf I .nil sp)
  | cons x xs =>
    rw [List.all_cons, Bool.and_eq_true] at hs
    have main : RA T C n W as σ H fun vs H1 => ∃ fn, T.fns[g]? = some fn ∧ SpI T C n g fn.ps.length vs H1 Q (WE W σ) :=
      ⟨e, F, R, PostE.firstA0 q fun rs e1 vs F1 H1 t1 r1 q => spi_ofT t1 r1 q⟩
    refine PySem.W.callWith_K (h₀ := X.base) I.ok.mod.kin (hk (List.getElem?_eq_getElem hlt)) (thn (ha.run pos pins s σ H _ I main) fun us s1 ⟨vs, H1, I1, r, q⟩ => ⟨I1.kIn, ?_⟩) (star_cons hs.1) (star_any hs.2)
    obtain ⟨fn, hf, sp⟩ := q
    exact run_sp G hc hf I1 r sp
theorem s_callt (G : Good T C n W c X) (hc : c.calm = true) {g : Nat} {as : List E} {x : Str} {xs : List Expr} {p pos : Pos} (h : c.fn[g]? = some x) (hg : glB c.sc x = true) (ha : PA X xs (RA T C n W as)) (hs : xs.all nst = true) (hl : as.length = xs.length) :
    PE X (.Call (.Name x p) xs [] pos) (RE T C n W (.callt g as)) := by
  obtain ⟨g1, g2, g3⟩ := G.glb hg
  obtain ⟨hm, hlt⟩ := G.gl.names g x h
  refine ⟨fun pins s σ H Q I ⟨e, F, R, q⟩ => ?_⟩
  refine wpAny_Call_Name_kw (ld_glob I g1 hm ?_ g2)
  exact call_withT G hc hlt ha hs hl I R (by simpa only [evE, tst_false] using q)
theorem s_calld (G : Good T C n W c X) (hc : c.calm = true) {i : Nat} {as : List E} {x : Str} {xs : List Expr} {p pos : Pos} (h : nmB c i x = true) (ha : PA X xs (RA T C n W as)) (hs : xs.all nst = true) (hl : as.length = xs.length) :
    PE X (.Call (.Name x p) xs [] pos) (RE T C n W (.calld i as)) := by
  refine ⟨fun pins s σ H Q I ⟨e, F, R, q⟩ => ?_⟩
  simp only [evE, tst_false] at q
  split at q
  · rename_i g eg
    obtain ⟨v, h1, h2⟩ := R.slot i _ eg
    rw [Rep] at h2
    subst h2
    refine wpAny_Call_Name_kw (thn ((G.nm (pos := p) h).run pins s σ H (fun v H1 => v = .ref (C.gv g) ∧ H1 = H) I ⟨_, h1, rfl, rfl⟩) fun u s1 ⟨v, H1, I1, r1, q1⟩ => ?_)
    obtain ⟨rfl, rfl⟩ := q1
    cases r1
    split at q
    · rename_i hlt
      exact call_with G hc hlt ha hs hl I1 R q
    · exact q.elim
  · exact q.elim
end
end PL
end

section
namespace PL
open PySem PySem.Spec L2

/-! ### calls with keywords -/
theorem Paired.lookup {α β : Type} {R : α → β → Prop} {p : Str} : ∀ {ks : List Str} {xs : List α} {ys : List β}, Paired R xs ys → ((ks.zip xs).lookup p = none ∧ (ks.zip ys).lookup p = none) ∨ ∃ x y, (ks.zip xs).lookup p = some x ∧ (ks.zip ys).lookup p = some y ∧ R x y
  | [], _, _, _ => .inl ⟨rfl, rfl⟩
  | k :: ks, _, _, .nil => .inl ⟨rfl, rfl⟩
  | k :: ks, x :: xs, y :: ys, .cons r t => by
    simp only [List.zip_cons_cons, List.lookup_cons]
    cases p == k with
    | true => exact .inr ⟨x, y, rfl, rfl, r⟩
    | false => exact Paired.lookup t
theorem Paired.fm {α β : Type} {R : α → β → Prop} {ks : List Str} {xs : List α} {ys : List β} (h : Paired R xs ys) : ∀ ps : List Str, Paired R (ps.filterMap fun p => (ks.zip xs).lookup p) (ps.filterMap fun p => (ks.zip ys).lookup p)
  | [] => .nil
  | p :: ps => by
    rcases Paired.lookup (p := p) (ks := ks) h with ⟨h1, h2⟩ | ⟨x, y, h1, h2, r⟩
    · simp only [List.filterMap_cons, h1, h2]; exact Paired.fm h ps
    · simp only [List.filterMap_cons, h1, h2]; exact .cons r (Paired.fm h ps)
theorem Paired.app {α β : Type} {R : α → β → Prop} {xs xs' : List α} {ys ys' : List β} (h : Paired R xs ys) (k : Paired R xs' ys') : Paired R (xs ++ xs') (ys ++ ys') := by
  induction h with
  | nil => exact k
  | cons r t ih => exact .cons r ih
theorem Paired.kw {α β : Type} {R : α → β → Prop} {ps ks : List Str} {xs zs : List α} {ys ws : List β} (h : Paired R xs ys) (k : Paired R zs ws) : Paired R (kwSort ps ks xs zs) (kwSort ps ks ys ws) := by
  unfold kwSort
  rw [Paired.length h]
  exact Paired.app h (Paired.fm k _)
theorem RVs.pair {C : G0} {H0 F H : Hp} {σ : St} {e : EV} : ∀ {rs : List RV} {vs : List V}, RVs C H0 F σ H e rs vs → Paired (RVok C H0 F σ H e) rs vs
  | [], _, h => by have h : _ = [] := h; subst h; exact .nil
  | r :: rs, _, ⟨v, ws, e, a, b⟩ => by subst e; exact .cons a (RVs.pair b)
theorem RVs.ofPair {C : G0} {H0 F H : Hp} {σ : St} {e : EV} : ∀ {rs : List RV} {vs : List V}, Paired (RVok C H0 F σ H e) rs vs → RVs C H0 F σ H e rs vs
  | _, _, .nil => rfl
  | _, _, .cons a b => ⟨_, _, rfl, a, RVs.ofPair b⟩
section
variable {T : GT} {C : G0} {n : Nat} {W : WX} {c : CC} {X : Cx}
theorem evA_len {cf : Nat → List SV → CO} : ∀ {as : List E} {e e' : EV} {rs : List RV}, evA T cf as e = .ok rs e' → rs.length = as.length
  | [], e, e', rs, h => by simp only [evA] at h; cases h; rfl
  | a :: as, e, e', rs, h => by
    simp only [evA] at h
    obtain ⟨r, e1, _, h⟩ := bd_eq h
    obtain ⟨rs', e2, h1, h⟩ := bd_eq h
    cases h
    simp [evA_len h1]
theorem run_fnkS {CX : CXT} {k : Nat} {f : Addr} {fd : FuncData} {ps ks : List Str} {sp : Sp} {E : St → XK} {g : List Value → List Value → List Value} {gV : List V → List V → List V} {pins : List (Addr × Obj)} {σ : St} {H : Hp} {s : Shared} {Q : VK} {us ws : List Value} {vs zs : List V} (F : FnOk X.prog X.w X.K X.mg X.base CX k f fd ps sp) (hr : Room k X.A) (hb : KBinds X.K fd ps ks g gV) (hx : PassesAt CX X σ (E σ))
    (I : Inv X pins σ H s) (r : Vals vs us) (rz : Vals zs ws) (h : sp (gV vs zs) H Q (E σ)) : wpAny (model X.prog X.w) X.A (call (.ref f) us (ks.zip ws)) (EP X pins σ Q) X.xe s := by
  have r2 := hb.rel r rz
  have hl : (g us ws).length = ps.length := by rw [← r2.length]; exact F.len _ _ _ _ h
  refine wpAny_call (codeAny_mono (F.run X.A X.stack s H ⟨us, ks.zip ws⟩ (g us ws) (gV vs zs) Q (E σ) hr I.env0 (hb.to s us ws I.kIn hl) r2 h) fun r s' hq => ?_)
  cases r with
  | error e => exact hx pins H s e s' I hq
  | ok fl =>
    cases fl with
    | ret u => exact I.after hq
    | next => exact False.elim hq
    | brk => exact False.elim hq
    | cont => exact False.elim hq
/-- keywords with names -/
def kwNames : List Keyword → List Str → Bool
  | [], [] => true
  | ⟨some n, _, _⟩ :: xs, k :: ks => decide (k = n) && kwNames xs ks
  | _, _ => false
theorem kw_all {pos : Pos} {env : Env} : ∀ {kws : List Keyword} {ks : List Str}, kwNames kws ks = true → (backToKw pos (keywordEach kws env)).all (·.1.isSome) = true ∧ (backToKw pos (keywordEach kws env)).filterMap (·.1) = ks ∧ (backToKw pos (keywordEach kws env)).any (·.1.isNone) = false
  | [], [], _ => ⟨rfl, rfl, rfl⟩
  | ⟨some n, x, p⟩ :: xs, k :: ks, h => by
    simp only [kwNames, Bool.and_eq_true] at h
    obtain ⟨h1, h2, h3⟩ := kw_all (pos := pos) (env := env) h.2
    have e := of_decide_eq_true h.1
    subst e
    refine ⟨?_, ?_, ?_⟩
    · show (true && (backToKw pos (keywordEach xs env)).all (·.1.isSome)) = true; rw [h1]; rfl
    · show k :: (backToKw pos (keywordEach xs env)).filterMap (·.1) = _; rw [h2]
    · show (false || (backToKw pos (keywordEach xs env)).any (·.1.isNone)) = false; rw [h3]; rfl
  | [], _ :: _, h => by simp [kwNames] at h
  | ⟨none, _, _⟩ :: _, _, h => by simp [kwNames] at h
  | ⟨some _, _, _⟩ :: _, [], h => by simp [kwNames] at h
theorem s_knil : PK X [] (RA T C n W []) := ⟨fun pos pins s σ H Q I ⟨e, F, R, q⟩ => by
  simp only [evA] at q
  exact pk_nil.run pos pins s σ H Q I (q [] F H (TrE.refl R) rfl)⟩
theorem s_kcons {a : E} {as : List E} {x : Expr} {nm : Option Str} {kp : Pos} {kws : List Keyword} (ha : PE X x (RE T C n W a)) (hr : PK X kws (RA T C n W as)) : PK X (⟨nm, x, kp⟩ :: kws) (RA T C n W (a :: as)) := ⟨fun pos pins s σ H Q I ⟨e, F, R, q⟩ => by
  refine (pk_cons ha hr).run pos pins s σ H Q I ⟨e, F, R, ?_⟩
  simp only [evA] at q
  revert q
  generalize evE T (callF T n) false a e = o
  intro q
  cases o with
  | exc c p e' => exact q
  | stuck => exact q
  | ok r e1 =>
    intro v F1 H1 t r1
    refine ⟨e1, F1, t.sr, ?_⟩
    simp only [bd_ok] at q
    revert q
    generalize evA T (callF T n) as e1 = o
    intro q
    cases o with
    | exc c p e' => exact fun F' H' t' => q F' H' (t.trans t')
    | stuck => exact q
    | ok rs e2 => exact fun vs F2 H2 t2 r2 => q (v :: vs) F2 H2 (t.trans t2) ⟨v, vs, rfl, r1.mono t2, r2.back t.there⟩⟩
theorem s_callk (G : Good T C n W c X) (hc : c.calm = true) {g : Nat} {as ws : List E} {ks : List Str} {x : Str} {xs : List Expr} {kws : List Keyword} {p pos : Pos} (h : c.fn[g]? = some x) (hg : glB c.sc x = true) (ha : PA X xs (RA T C n W as)) (hs : xs.all nst = true) (hl : as.length = xs.length)
    (hk : PK X kws (RA T C n W ws)) (hn : kwNames kws ks = true) (hw : ws.length = ks.length) (hkw : (g, ks, as.length) ∈ c.kw) : PE X (.Call (.Name x p) xs kws pos) (RE T C n W (.callk g as ks ws)) := by
  obtain ⟨g1, g2, g3⟩ := G.glb hg
  obtain ⟨hm, hlt⟩ := G.gl.names g x h
  obtain ⟨fn, hf⟩ : ∃ fn, T.fns[g]? = some fn := ⟨_, List.getElem?_eq_getElem hlt⟩
  obtain ⟨hkp, fd, F, hb, kb⟩ := G.gl.fns g fn hf
  have kb := kb ks as.length hkw
  rw [← G.K] at F kb hkp
  obtain ⟨n1, n2, n3⟩ := kw_all (pos := pos) (env := X.env) hn
  refine ⟨fun pins s σ H Q I ⟨e, F0, R, q⟩ => ?_⟩
  refine wpAny_Call_Name_kw (ld_glob I g1 hm ?_ g2)
  simp only [evE, tst_false] at q
  have inner : ∀ rs e1 vs F1 H1, rs.length = as.length → TrE C e F0 σ H e1 F1 H1 → RVs C H F1 σ H1 e1 rs vs → PostE C W e F0 σ H ((evA T (callF T n) ws e1).bd fun qs e2 => opt T.fns[g]? fun F => doCall (callF T n) g (kwSort F.ps ks rs qs) e2) Q →
      RA T C n W ws σ H1 fun zs H2 => zs.length = ks.length ∧ SpI T C n g fn.ps.length (kwSort fn.ps ks vs zs) H2 Q (WE W σ) := fun rs e1 vs F1 H1 hrl t1 r1 q => by
    refine ⟨e1, F1, t1.sr, ?_⟩
    cases ho : evA T (callF T n) ws e1 with
    | exc z p e' => rw [ho] at q; exact fun F' H' t' => q F' H' (t1.trans t')
    | stuck => rw [ho] at q; exact q
    | ok qs e2 =>
      rw [ho] at q
      simp only [bd_ok, hf, opt_some] at q
      intro zs F2 H2 t2 r2
      obtain ⟨fn', hf', sp⟩ := spi_of (t1.trans t2) (RVs.ofPair (Paired.kw (ps := fn.ps) (ks := ks) (r1.mono t2).pair (r2.back t1.there).pair)) q
      rw [hf] at hf'; cases hf'
      exact ⟨by rw [← r2.len, evA_len ho, hw], sp⟩
  have fin : ∀ {s2 : Shared} {H2 : Hp} {us uz : List Value} {vs zs : List V}, Inv X pins σ H2 s2 → Vals vs us → Vals zs uz → vs.length = as.length → zs.length = ks.length ∧ SpI T C n g fn.ps.length (kwSort fn.ps ks vs zs) H2 Q (WE W σ) →
      wpAny (model X.prog X.w) X.A (call (.ref (C.gv g)) us (ks.zip uz)) (EP X pins σ Q) X.xe s2 := fun {s2 H2 us uz vs zs} I2 r rz hvl q => by
    refine run_fnkS (E := WE W) F (G.room hc) kb (passAt G.tk σ) I2 r rz ?_
    unfold kwG
    rw [if_pos ⟨hvl, q.1⟩]
    exact q.2
  cases xs with
  | nil =>
    cases as with
    | cons a as => cases hl
    | nil =>
      simp only [evA, bd_ok] at q
      have q := inner [] e [] F0 H rfl (TrE.refl R) rfl q
      refine PySem.W.callWith_KW0 (h₀ := X.base) I.ok.mod.kin hkp n1 (thn (hk.run pos pins s σ H _ I q) fun uz s2 ⟨zs, H2, I2, rz, q2⟩ => ⟨I2.kIn, ?_⟩) (by rw [n3, Bool.or_false]; rfl)
      rw [n2]
      exact fin I2 .nil rz rfl q2
  | cons y xs =>
    rw [List.all_cons, Bool.and_eq_true] at hs
    have main : RA T C n W as σ H fun vs H1 => vs.length = as.length ∧ RA T C n W ws σ H1 fun zs H2 => zs.length = ks.length ∧ SpI T C n g fn.ps.length (kwSort fn.ps ks vs zs) H2 Q (WE W σ) := by
      refine ⟨e, F0, R, ?_⟩
      cases ho : evA T (callF T n) as e with
      | exc z p e' => rw [ho] at q; exact q
      | stuck => rw [ho] at q; exact q
      | ok rs e1 =>
        rw [ho] at q
        intro vs F1 H1 t1 r1
        exact ⟨by rw [← r1.len, evA_len ho], inner rs e1 vs F1 H1 (evA_len ho) t1 r1 q⟩
    refine PySem.W.callWith_KW (h₀ := X.base) I.ok.mod.kin hkp n1 (thn (ha.run pos pins s σ H _ I main) fun us s1 ⟨vs, H1, I1, r, hvl, q⟩ => ?_) (by rw [n3, star_any (by rw [List.all_cons, hs.1, hs.2]; rfl)]; rfl) (star_cons hs.1)
    refine thn (hk.run pos pins s1 σ H1 _ I1 q) fun uz s2 ⟨zs, H2, I2, rz, q2⟩ => ⟨I2.kIn, ?_⟩
    rw [n2]
    exact fin I2 r rz hvl q2
/-! ### isinstance -/
theorem tyX_rep {H : Hp} {d : D} {v : V} {t : String} (h : Rep C H d v) (k : tyNm d = some t) : TyX C.K H v (.type t) := by
  have sql : ∀ {a : Addr} {xs : List V}, SqL C.K H a xs → TyX C.K H (.ref a) (.type "list") := fun {a xs} h => by
    rcases h with (h | ⟨o, h⟩) | ⟨o, its, n, h1, h2, _⟩
    · exact .base (.lst h)
    · exact .base (.frz h)
    · exact .kList h1 h2
  cases d <;> simp only [tyNm] at k <;> cases k <;> rw [Rep] at h
  case non => subst h; exact .base .non
  case bl => subst h; exact .base (.bl _)
  case int => subst h; exact .base (.int _)
  case str => subst h; exact .base (.str _)
  case tup =>
    obtain ⟨a, vs, rfl, h1, h2⟩ := h
    rcases h1 with (h | ⟨o, h⟩) | ⟨o, its, n, h1, h2, _⟩
    · exact .base (.tup h)
    · exact .fTuple h
    · exact .kTuple h1 h2
  case lst => obtain ⟨a, vs, rfl, h1, h2⟩ := h; exact .base (.lst h1)
  case scr => obtain ⟨a, rfl, h1⟩ := h; exact sql h1
  case dk => obtain ⟨a, vs, rfl, h1, l, h2⟩ := h; exact .base (.dK h1)
theorem kit_nm {d : D} {t s : String} (k : tyNm d = some t) (h : tyOk.contains s = true) : kitB t s = some (isTy t s) := by
  have hs : s ∈ tyOk := List.contains_iff_mem.mp h
  have all : ∀ t ∈ ["NoneType", "bool", "int", "str", "tuple", "list", "dict"], ∀ s ∈ tyOk, kitB t s = some (isTy t s) := by decide +kernel
  refine all t ?_ s hs
  cases d <;> simp only [tyNm] at k <;> cases k <;> simp
theorem ty_boot : ∀ s ∈ tyOk, bootBuiltins (Str.ofString s) = some (.type s) ∧ s ∈ bnames := by decide +kernel
theorem s_ty (G : Good T C n W c X) {s : String} {x : Str} {p : Pos} (h : tyOk.contains s = true) (hx : x = Str.ofString s) (hg : glB c.sc x = true) : PE X (.Name x p) (tC (.ty s)) := by
  have hs : s ∈ tyOk := List.contains_iff_mem.mp h
  obtain ⟨g1, g2, g3⟩ := G.glb hg
  subst hx
  exact pe_bltn g1 (G.gl.bi s (ty_boot s hs).2) (ty_boot s hs).1 rfl g3 g2
theorem s_isi1 (G : Good T C n W c X) {a : E} {s : String} {y : Expr} {z : Str} {zp p pos : Pos} (ha : PE X y (RE T C n W a)) (hy : nst y = true) (hg : glB c.sc "isinstance" = true) (hs : tyOk.contains s = true) (hz : z = Str.ofString s) (hgz : glB c.sc z = true) :
    PE X (.Call (.Name "isinstance" p) [y, .Name z zp] [] pos) (RE T C n W (.isi a [s])) := by
  obtain ⟨g1, g2, g3⟩ := G.glb hg
  have hpa : PA X [y, .Name z zp] (tCons (RE T C n W a) (tCons (tC (.ty s)) tNil)) := pa_cons ha (pa_cons (s_ty G hs hz hgz) pa_nil) (star_cons hy)
  have hstar : [Expr.Name z zp].all nst = true := rfl
  refine (pe_callB call_isi g1 (G.gl.bi "isinstance" (by decide)) (by decide +kernel) hpa g3 g2 (star_cons hy) (star_any hstar)).to fun σ H Q => ?_
  rintro ⟨e, F, R, q⟩
  refine ⟨e, F, R, PostE.first (show PostE C W e F σ H ((evE T (callF T n) false a e).bd _) Q from q) fun ra e1 v1 F1 H1 t1 r1 q => ?_⟩
  obtain ⟨t, k1, q⟩ := q.opt
  obtain ⟨d, k1, k2⟩ := Option.bind_eq_some_iff.mp k1
  rw [if_pos (by rw [List.all_cons, hs]; rfl)] at q
  refine ⟨v1, .ty s, .type t, .type s, isTy t s, rfl, .ty s, ?_, kit_ty (kit_nm k2 hs), ?_⟩
  · rw [G.K]; exact tyX_rep (cont_rep t1.sr r1 k1) k2
  · have := q.val t1.sr (v := .bl (isTy t s)) (by simp only [List.any_cons, List.any_nil, Bool.or_false]; exact rep_bl)
    exact this
theorem kit_any {K : PySem.W.Frag} {d : D} {t : String} (k : tyNm d = some t) : ∀ {cs : List String}, cs.all tyOk.contains = true → PySem.W.kitAny K (.type t) (cs.map Value.type) = some (cs.any (isTy t))
  | [], _ => rfl
  | s :: cs, h => by
    rw [List.all_cons, Bool.and_eq_true] at h
    refine kitAny_cons (kit_ty (kit_nm k h.1)) (fun hf => ?_) fun ht => ?_
    · rw [List.any_cons, hf, Bool.false_or]; exact kit_any k h.2
    · rw [List.any_cons, ht, Bool.true_or]
theorem clsV_all : ∀ cs : List String, Paired ClsV (cs.map V.ty) (cs.map Value.type)
  | [] => .nil
  | s :: cs => .cons (.ty s) (clsV_all cs)
theorem names_pa (G : Good T C n W c X) : ∀ {cs : List String} {zs : List Expr}, cs.all tyOk.contains = true → tyNames cs zs = true → gNames c zs = true → PA X zs (fun _ H Q => Q (cs.map V.ty) H)
  | [], [], _, _, _ => pa_nil
  | s :: cs, .Name z p :: zs, h, h1, h2 => by
    rw [List.all_cons, Bool.and_eq_true] at h
    simp only [tyNames, tyName, Bool.and_eq_true] at h1
    simp only [gNames, Bool.and_eq_true] at h2
    exact pa_cons (s_ty G h.1 (of_decide_eq_true h1.1) h2.1) (names_pa G h.2 h1.2 h2.2)
  | [], _ :: _, _, h, _ => by simp [tyNames] at h
  | _ :: _, [], _, h, _ => by simp [tyNames] at h
  | s :: cs, z :: zs, h, h1, h2 => by
    cases z <;> first | (simp [gNames] at h2; done) | skip
    rename_i z p
    rw [List.all_cons, Bool.and_eq_true] at h
    simp only [tyNames, tyName, Bool.and_eq_true] at h1
    simp only [gNames, Bool.and_eq_true] at h2
    exact pa_cons (s_ty G h.1 (of_decide_eq_true h1.1) h2.1) (names_pa G h.2 h1.2 h2.2)
theorem s_isiT (G : Good T C n W c X) {a : E} {cs : List String} {y : Expr} {zs : List Expr} {k} {zp p pos : Pos} (ha : PE X y (RE T C n W a)) (hy : nst y = true) (hg : glB c.sc "isinstance" = true) (hz : tyNames cs zs = true) (hgz : gNames c zs = true) (hlen : cs.length ≤ 100) (hs : cs.all tyOk.contains = true) :
    PE X (.Call (.Name "isinstance" p) [y, .Tuple zs k zp] [] pos) (RE T C n W (.isi a cs)) := by
  obtain ⟨g1, g2, g3⟩ := G.glb hg
  have hpa : PA X [y, .Tuple zs k zp] (tCons (RE T C n W a) (tCons (tTup fun _ H Q => Q (cs.map V.ty) H) tNil)) := pa_cons ha (pa_cons (pe_tup (names_pa G hs hz hgz)) pa_nil) (star_cons hy)
  have hstar : [Expr.Tuple zs k zp].all nst = true := rfl
  refine (pe_callB call_isiT g1 (G.gl.bi "isinstance" (by decide)) (by decide +kernel) hpa g3 g2 (star_cons hy) (star_any hstar)).to fun σ H Q => ?_
  rintro ⟨e, F, R, q⟩
  refine ⟨e, F, R, PostE.first (show PostE C W e F σ H ((evE T (callF T n) false a e).bd _) Q from q) fun ra e1 v1 F1 H1 t1 r1 q => ?_⟩
  obtain ⟨t, k1, q⟩ := q.opt
  obtain ⟨d, k1, k2⟩ := Option.bind_eq_some_iff.mp k1
  rw [if_pos hs] at q
  refine ⟨by rw [List.length_map, ← sizeL_eq]; unfold sizeL; omega, fun tp htp => ?_⟩
  have t2 := (TrE.refl t1.sr).newT (o := .tup (cs.map V.ty)) htp
  refine ⟨v1, tp, cs.map V.ty, .type t, cs.map Value.type, cs.any (isTy t), rfl, upd_same, clsV_all cs, ?_, kit_any k2 hs, ?_⟩
  · rw [G.K]; exact tyX_rep ((cont_rep t1.sr r1 k1).mono fun b o h => by rw [upd_ne (ne_of_none h htp)]; exact h) k2
  · exact q (.bl _) _ _ t2 (show Rep C (upd F1 tp (.tup (cs.map V.ty))) (.bl _) (.bl _) from rep_bl)
theorem s_lrg (G : Good T C n W c X) {t : Bool} {a : E} {y w : Str} {z : Expr} {q q2 p2 pos : Pos} (hy : y = Str.ofString (if t then "tuple" else "list")) (hw : w = "range") (g1 : glB c.sc y = true) (g2 : glB c.sc w = true) (hc : c.calm = true) (hn : nst z = true) (ha : PE X z (RE T C n W a)) :
    PE X (.Call (.Name y q) [.Call (.Name w q2) [z] [] p2] [] pos) (RE T C n W (.lrg t a)) := by
  subst hw
  obtain ⟨k1, _, _⟩ := G.glb g1
  obtain ⟨k2, _, _⟩ := G.glb g2
  have m2 := G.gl.bi "range" (by decide)
  have hr : PRg X (.Call (.Name "range" q2) [z] [] p2) (tRg1 (RE T C n W a)) := prg_1 k2 m2 ha (star_cons hn)
  have na : starEach [Expr.Call (.Name "range" q2) [z] [] p2] X.env = (false, eval (.Call (.Name "range" q2) [z] [] p2) X.env) :: starEach [] X.env := rfl
  have rv : ∀ (F : Hp) (m : Int), RepL C F (rgI m) (rgV 0 m) := fun F m => by
    have e1 : rgI m = ((List.range m.toNat).map fun (k : Nat) => (0 + (k : Int))).map D.int := by unfold rgI; rw [List.map_map]; rfl
    have e2 : rgV 0 m = ((List.range m.toNat).map fun (k : Nat) => (0 + (k : Int))).map V.int := by unfold rgV; rw [List.map_map, Int.sub_zero]; rfl
    rw [e1, e2]; exact repL_ints _
  cases t with
  | false =>
    have hy : y = ("list" : Str) := hy
    subst hy
    have m1 := G.gl.bi "list" (by decide)
    refine (pe_listRg (G.cm hc) k1 m1 hr na).to fun σ H Q => ?_
    rintro ⟨e, F, R, h⟩
    refine ⟨e, F, R, PostE.first (show PostE C W e F σ H ((evE T (callF T n) false a e).bd _) Q from h) fun ra e1 v1 F1 H1 t1 r1 h => ?_⟩
    obtain ⟨m, km, h⟩ := h.opt
    obtain ⟨d, kd, ki⟩ := Option.bind_eq_some_iff.mp km
    have cr := cont_crp t1.sr r1 kd
    cases d <;> cases ki
    refine ⟨m, cr.int, ?_⟩
    split at h
    · rename_i hz
      rw [Bool.and_eq_true] at hz
      have z1 := of_decide_eq_true hz.1
      have z2 := of_decide_eq_true hz.2
      exact ⟨⟨by omega, by omega, z1, by omega, by omega⟩, fun p hp => PostE.newLst t1.sr (show PostE C W e1 F1 σ H1 (.ok (.t (.lst (rgI m))) e1) Q from h) (rv F1 m) hp⟩
    · exact h.elim
  | true =>
    have hy : y = ("tuple" : Str) := hy
    subst hy
    have m1 := G.gl.bi "tuple" (by decide)
    refine (pe_tupRg (G.cm hc) k1 m1 hr na).to fun σ H Q => ?_
    rintro ⟨e, F, R, h⟩
    refine ⟨e, F, R, PostE.first (show PostE C W e F σ H ((evE T (callF T n) false a e).bd _) Q from h) fun ra e1 v1 F1 H1 t1 r1 h => ?_⟩
    obtain ⟨m, km, h⟩ := h.opt
    obtain ⟨d, kd, ki⟩ := Option.bind_eq_some_iff.mp km
    have cr := cont_crp t1.sr r1 kd
    cases d <;> cases ki
    refine ⟨m, cr.int, ?_⟩
    split at h
    · rename_i hz
      rw [Bool.and_eq_true] at hz
      have z1 := of_decide_eq_true hz.1
      have z2 := of_decide_eq_true hz.2
      exact ⟨⟨by omega, by omega, z1, by omega, by omega⟩, fun p hp => PostE.newTup t1.sr (show PostE C W e1 F1 σ H1 (.ok (.v (.tup (rgI m))) e1) Q from h) (rv F1 m) hp⟩
    · exact h.elim
/-! sets of rows -/
theorem sub_upd {H : Hp} {a : Addr} {o : HO} (h : H a = none) : Sub H (upd H a o) := fun b u k => by rw [upd_ne (ne_of_none k h)]; exact k
theorem s_setT (G : Good T C n W c X) {a : E} {z : Expr} {q2 p2 : Pos} (g2 : glB c.sc "set" = true) (hc : c.calm = true) (hn : nst z = true) (ha : PE X z (RE T C n W a)) :
    PE X (.Call (.Name "set" q2) [z] [] p2) (tCB (rSetOfT X.K X.prog X.w) (tCons (RE T C n W a) tNil)) := by
  obtain ⟨k1, k2, k3⟩ := G.glb g2
  exact pe_callTy (cr_setOfT (G.cm hc) G.hu) k1 (G.gl.bi "set" (by decide)) (by decide +kernel) (pa_cons ha pa_nil (star_cons hn)) k3 k2 (star_cons hn) rfl
theorem rows_in (G : Good T C n W c X) {e1 : EV} {F1 H1 : Hp} {σ : St} {r : RV} {v : V} {l : List (List Int)} (R : SR C e1 F1 σ H1) {H0 : Hp} (r1 : RVok C H0 F1 σ H1 e1 r v) (k : (cont e1 r).bind rowsD = some l) :
    ∃ (a : Addr) (ks : List (Addr × List Int)), v = V.ref a ∧ SqL X.K H1 a (ks.map fun p => V.ref p.1) ∧ ks.map (·.2) = l ∧ (∀ p ∈ ks, SqT C.K F1 p.1 (p.2.map V.int)) ∧ (∀ p ∈ ks, SqT X.K H1 p.1 (p.2.map V.int)) := by
  obtain ⟨d, kd, ki⟩ := Option.bind_eq_some_iff.mp k
  have cr := cont_crp R r1 kd
  cases d <;> first | (cases ki; done) | skip
  obtain ⟨a, ws, rfl, ha, ra⟩ := cr.lst R.sub
  rw [intsT_eq ki] at ra
  obtain ⟨ks, rfl, e, h⟩ := rows_rep ra
  exact ⟨a, ks, rfl, .inl (.inl ha), e, h, fun p m => by rw [G.K]; exact R.sub.sqT (h p m)⟩
theorem s_lset (G : Good T C n W c X) {a : E} {z : Expr} {q q2 p2 pos : Pos} (g1 : glB c.sc "len" = true) (g2 : glB c.sc "set" = true) (hc : c.calm = true) (hn : nst z = true) (ha : PE X z (RE T C n W a)) :
    PE X (.Call (.Name "len" q) [.Call (.Name "set" q2) [z] [] p2] [] pos) (RE T C n W (.lset a)) := by
  obtain ⟨k1, k2, k3⟩ := G.glb g1
  refine (pe_callB cr_lenT k1 (G.gl.bi "len" (by decide)) (by decide +kernel) (pa_cons (s_setT (q2 := q2) (p2 := p2) G g2 hc hn ha) pa_nil) k3 k2 rfl rfl).to fun σ H Q => ?_
  rintro ⟨e, F, R, h⟩
  refine ⟨e, F, R, PostE.first (show PostE C W e F σ H ((evE T (callF T n) false a e).bd _) Q from h) fun ra e1 v1 F1 H1 t1 r1 h => ?_⟩
  obtain ⟨l, km, h⟩ := h.opt
  obtain ⟨k, kn, h⟩ := h.opt
  obtain ⟨b, ks, rfl, hb, hl, hf, hk⟩ := rows_in G t1.sr r1 km
  unfold lsetN at kn
  split at kn <;> cases kn
  rename_i hz
  refine ⟨b, ks, rfl, hb, hk, by rw [← hl, List.length_map] at hz; exact hz, fun s L hs hL1 hL2 => ?_⟩
  have sb := sub_upd (o := SetTO X.prog X.w s L) hs
  refine ⟨s, L, rfl, upd_same, fun p m => sb.sqT (hk p (hL1 p m)), fun nd => ?_⟩
  have e2 : L.length = (ded l).length := by
    rw [← (set_perm hl hL1 hL2 nd).length_eq, List.length_map]
  rw [e2]
  exact h (.int _) _ _ ((TrE.refl t1.sr).newL hs) (show Rep C F1 (.int _) (.int _) from rep_int)
theorem s_sset (G : Good T C n W c X) {a : E} {z : Expr} {q q2 p2 pos : Pos} (g1 : glB c.sc "sorted" = true) (g2 : glB c.sc "set" = true) (hc : c.calm = true) (hn : nst z = true) (ha : PE X z (RE T C n W a)) :
    PE X (.Call (.Name "sorted" q) [.Call (.Name "set" q2) [z] [] p2] [] pos) (RE T C n W (.sset a)) := by
  obtain ⟨k1, k2, k3⟩ := G.glb g1
  have both : CallR X (.builtin "sorted") (fun vs H Q => rSortedT X.K X.prog X.w vs H Q ∨ ∃ (a : Addr) (L : List (Addr × List Int)) (k : List Int), vs = [V.ref a] ∧ H a = some (SetTO X.prog X.w a L) ∧ L ≠ [] ∧ (∀ p ∈ L, p.2 = k ∧ SqT X.K H p.1 (p.2.map V.int)) ∧
      ∀ t p, (t, k) ∈ L → H p = none → Q (.ref p) (upd H p (.lst [V.ref t]))) := by
    intro pins s σ H vs us Q I r h
    rcases h with h | h
    · exact cr_sortedT (G.cm hc) pins s σ H vs us Q I r h
    · exact cr_sorted1 (G.cm hc) pins s σ H vs us Q I r h
  refine (pe_callB both k1 (G.gl.bi "sorted" (by decide)) (by decide +kernel) (pa_cons (s_setT (q2 := q2) (p2 := p2) G g2 hc hn ha) pa_nil) k3 k2 rfl rfl).to fun σ H Q => ?_
  rintro ⟨e, F, R, h⟩
  refine ⟨e, F, R, PostE.first (show PostE C W e F σ H ((evE T (callF T n) false a e).bd _) Q from h) fun ra e1 v1 F1 H1 t1 r1 h => ?_⟩
  obtain ⟨l, km, h⟩ := h.opt
  obtain ⟨k, kn, h⟩ := h.opt
  have h9 : PostE C W e1 F1 σ H1 (.ok (.t (.lst (k.map rowD))) e1) Q := h
  clear h
  obtain ⟨b, ks, rfl, hb, hl, hf, hk⟩ := rows_in G t1.sr r1 km
  cases l with
  | nil => cases kn
  | cons x l =>
    simp only [ssort] at kn
    split at kn
    case isFalse => cases kn
    rename_i hz
    have hz' : ks.length < 64 := by
      have := congrArg List.length hl
      rw [List.length_map, List.length_cons] at this
      omega
    refine ⟨b, ks, rfl, hb, hk, hz', fun s L hs hL1 hL2 => ?_⟩
    have sb := sub_upd (o := SetTO X.prog X.w s L) hs
    have fin : ∀ (L' : List (Addr × List Int)) (p : Addr), (∀ q ∈ L', q ∈ ks) → L'.map (·.2) = k → upd H1 s (SetTO X.prog X.w s L) p = none → Q (.ref p) (upd (upd H1 s (SetTO X.prog X.w s L)) p (.lst (L'.map fun q => V.ref q.1))) := fun L' p hm hk' hp => by
      have t2 := (TrE.refl t1.sr).newL (o := SetTO X.prog X.w s L) hs
      refine PostE.newLst' t2 h9 ?_ hp
      rw [← hk']
      exact rep_rows fun q m => hf q (hm q m)
    have nd0 : (L.map (·.2)).Nodup → (L.map (·.2)).Perm (ded (x :: l)) := set_perm hl hL1 hL2
    by_cases hg : (0 < x.length && (x :: l).all (fun t => t.length == x.length && t.all fun k => decide (0 ≤ k) && decide (k < cdB))) = true
    · rw [if_pos hg] at kn
      cases kn
      rw [Bool.and_eq_true, decide_eq_true_eq] at hg
      have good : ∀ y ∈ x :: l, y.length = x.length ∧ TS.Bd cdB y := fun y m => by
        have := List.all_eq_true.mp hg.2 y m
        rw [Bool.and_eq_true, beq_iff_eq] at this
        refine ⟨this.1, fun k hk => ?_⟩
        have := List.all_eq_true.mp this.2 k hk
        rw [Bool.and_eq_true, decide_eq_true_eq, decide_eq_true_eq] at this
        exact this
      have inL : ∀ p ∈ L, p.2 ∈ x :: l := fun p m => by rw [← hl]; exact List.mem_map.mpr ⟨p, hL1 p m, rfl⟩
      refine .inl ⟨s, L, x.length, cdB, rfl, upd_same, fun p m => sb.sqT (hk p (hL1 p m)), hg.1, fun p m => good _ (inL p m), fun L' p pm nd hlt pw hp => ?_⟩
      refine fin L' p (fun q m => hL1 q (pm.mem_iff.mp m)) ?_ hp
      have pm2 : (L'.map (·.2)).Perm (L.map (·.2)) := pm.map _
      obtain ⟨g1, g2⟩ := sortC_ok (ded (x :: l))
      refine code_uniq (B := cdB) (n := x.length) (pm2.trans ((nd0 (pm2.nodup_iff.mp nd)).trans g1.symm)) (fun y m => ?_) (List.pairwise_map.mpr pw) g2
      obtain ⟨q, hq, rfl⟩ := List.mem_map.mp m
      exact good _ (inL q (pm.mem_iff.mp hq))
    · rw [if_neg hg] at kn
      split at kn <;> cases kn
      rename_i ha1
      -- one row alone
      have one : ∀ p ∈ ks, p.2 = x := fun p m => by
        have : p.2 ∈ x :: l := by rw [← hl]; exact List.mem_map.mpr ⟨p, m, rfl⟩
        rcases List.mem_cons.mp this with q | q
        · exact q
        · exact beq_iff_eq.mp (List.all_eq_true.mp ha1 _ q)
      have kne : ks ≠ [] := fun z => by subst z; simp at hl
      refine .inr ⟨s, L, x, rfl, upd_same, fun z => ?_, fun p m => ⟨one p (hL1 p m), sb.sqT (hk p (hL1 p m))⟩, fun t p m hp => ?_⟩
      · cases ks with
        | nil => exact kne rfl
        | cons p _ =>
          have := hL2 p (by simp)
          rw [z] at this; simp at this
      · exact fin [(t, x)] p (fun q hq => by cases List.mem_singleton.mp hq; exact hL1 _ m) rfl hp
end
end PL
end

section
namespace PL
open PySem PySem.Spec L2

section
variable {C : G0} {e e1 : EV} {F F1 H H1 : Hp} {σ σ1 : St}
theorem upS_self {i : Nat} {s : SV} {d : D} (h : e[i]? = some s) (m : s.mine = true) : ∃ s', (upS e i d)[i]? = some s' ∧ s'.mine = true ∧ s'.dat = some d ∧ ((∃ x, s = .own x) ↔ s' = .own d) ∧ ((∃ x, s = .bor x) ↔ s' = .bor d) := by
  cases s <;> first | cases m | skip
  · rename_i x
    refine ⟨.own d, ?_, rfl, rfl, by simp, by simp⟩
    unfold upS; rw [h]; exact getE_set_self h
  · rename_i x
    refine ⟨.bor d, ?_, rfl, rfl, by simp, by simp⟩
    unfold upS; rw [h]; exact getE_set_self h
theorem upS_ne {i j : Nat} {d : D} (h : i ≠ j) : (upS e i d)[j]? = e[j]? := by
  unfold upS; split <;> first | rfl | exact getE_set_ne h
theorem upS_len {i : Nat} {d : D} : (upS e i d).length = e.length := by
  unfold upS; split <;> simp
/-- a thing of one's own is changed -/
theorem mut_ok {i : Nat} {s : SV} {a : Addr} {d : D} {o : HO} (R : SR C e F σ H) (h : e[i]? = some s) (m : s.mine = true) (ha : σ[i]? = some (some (.ref a))) (mm : Mine C F (upd H a o) d a) :
    TrE C e F σ H (upS e i d) F (upd H a o) := by
  have own : OwnA e σ a := ⟨i, s, h, m, ha⟩
  obtain ⟨hF, o0, h0⟩ := R.ownNone own
  obtain ⟨s', g1, g2, g3, g4, g5⟩ := upS_self (d := d) h m
  have sub' : Sub F (upd H a o) := fun b u q => by
    rw [upd_ne fun e => by subst e; rw [hF] at q; cases q]; exact R.sub b u q
  have back : ∀ (j : Nat) (t : SV), (upS e i d)[j]? = some t → t.mine = true → ∃ t0, e[j]? = some t0 ∧ t0.mine = true := fun j t q mt => by
    by_cases ej : i = j
    · subst ej; exact ⟨s, h, m⟩
    · rw [upS_ne ej] at q; exact ⟨t, q, mt⟩
  refine ⟨⟨⟨sub', fun j t q => ?_, fun j k t u b q1 q2 m1 m2 a1 a2 => ?_, by rw [upS_len]; exact R.len⟩, Sub.refl _, fun b u q n => ?_, fun b q => ?_, fun b u q => .inl q, fun j d' b q1 q2 => ?_, fun j d' q => ?_, fun j d' q => ⟨rfl, ?_⟩, fun j d' q => ⟨rfl, ?_⟩, upS_len⟩, fun j t q dt => ?_, back⟩
  · by_cases ej : i = j
    · subst ej
      rw [g1] at q; cases q
      cases s' <;> first | cases g2 | skip
      · cases g3; exact ⟨a, ha, mm⟩
      · cases g3; exact ⟨a, ha, mm⟩
    · rw [upS_ne ej] at q
      have z := R.slot j t q
      cases t with
      | un => trivial
      | val d' => exact z
      | fro d' => exact z
      | own d' =>
        obtain ⟨b, q1, q2⟩ := z
        have hne : b ≠ a := fun eb => ej (R.dis i j s _ a h q m rfl ha (by rw [← eb]; exact q1))
        exact ⟨b, q1, q2.mono (Sub.refl _) q2.1 fun o ho => by rw [upd_ne hne]; exact ho⟩
      | bor d' =>
        obtain ⟨b, q1, q2⟩ := z
        have hne : b ≠ a := fun eb => ej (R.dis i j s _ a h q m rfl ha (by rw [← eb]; exact q1))
        exact ⟨b, q1, q2.mono (Sub.refl _) q2.1 fun o ho => by rw [upd_ne hne]; exact ho⟩
  · obtain ⟨t0, w1, w2⟩ := back j t q1 m1
    obtain ⟨u0, w3, w4⟩ := back k u q2 m2
    exact R.dis j k t0 u0 b w1 w3 w2 w4 a1 a2
  · rw [upd_ne fun e => by subst e; exact n own]; exact q
  · by_cases e : b = a
    · subst e; rw [upd_same]; simp
    · rw [upd_ne e]; exact q
  · by_cases ej : i = j
    · subst ej
      rw [g1] at q1; cases q1
      have q3 := R.slot i s h
      cases s <;> first | cases m | skip
      · exact .inl ⟨i, _, h, q2⟩
      · have := g5.mp ⟨_, rfl⟩; cases this
    · rw [upS_ne ej] at q1; exact .inl ⟨j, d', q1, q2⟩
  · by_cases ej : i = j
    · subst ej
      rw [g1] at q; cases q
      cases s <;> first | cases m | skip
      · have := g4.mp ⟨_, rfl⟩; cases this
      · exact ⟨_, h⟩
    · rw [upS_ne ej] at q; exact ⟨d', q⟩
  · by_cases ej : i = j
    · subst ej
      rw [h] at q; cases q
      have := g5.mp ⟨_, rfl⟩
      exact ⟨d, .inl (by rw [g1, this])⟩
    · exact ⟨d', .inl (by rw [upS_ne ej]; exact q)⟩
  · by_cases ej : i = j
    · subst ej; rw [h] at q; cases q; cases m
    · rw [upS_ne ej]; exact q
  · by_cases ej : i = j
    · subst ej; exact ⟨s', g1, by rw [g3]; rfl⟩
    · exact ⟨t, by rw [upS_ne ej]; exact q, dt⟩
theorem mineD_eq {i : Nat} {d : D} (h : mineD e i = some d) : ∃ s, e[i]? = some s ∧ s.mine = true ∧ s.dat = some d := by
  unfold mineD at h
  split at h
  · rename_i d' q; cases h; exact ⟨_, q, rfl, rfl⟩
  · rename_i d' q; cases h; exact ⟨_, q, rfl, rfl⟩
  · cases h
/-- the thing in the slot -/
theorem mineD_ok {i : Nat} {d : D} (R : SR C e F σ H) (h : mineD e i = some d) : ∃ s a, e[i]? = some s ∧ s.mine = true ∧ σ[i]? = some (some (.ref a)) ∧ Mine C F H d a := by
  obtain ⟨s, h1, h2, h3⟩ := mineD_eq h
  obtain ⟨d', a, k1, k2, k3⟩ := R.mine h1 h2
  rw [h3] at k1; cases k1
  exact ⟨s, a, h1, h2, k2, k3⟩
theorem Mine.lst' {a : Addr} {xs : List D} (h : Mine C F H (.lst xs) a) : F a = none ∧ ∃ vs, H a = some (.lst vs) ∧ RepL C F xs vs := h
end
section
variable {T : GT} {C : G0} {n : Nat} {W : WX} {c : CC} {X : Cx}
theorem PostE.fin {e e1 : EV} {F F1 H H1 : Hp} {σ : St} {d : D} {v : V} {Q : VK} (h : PostE C W e F σ H (.ok (.v d) e1) Q) (t : TrE C e F σ H e1 F1 H1) (r : Rep C F1 d v) : Q v H1 := h v F1 H1 t r
theorem s_dnew {t : Bool} {pos : Pos} : PE X (.Dict [] [] pos) (RE T C n W (.dnew t)) := by
  have new : ∀ {σ : St} {H : Hp} {e : EV} {F : Hp} {Q : VK} {d : D} {o : HO}, SR C e F σ H → PostE C W e F σ H (.ok (.t d) e) Q → (∀ p, H p = none → F p = none → Mine C F (upd H p o) d p) → ∀ p, H p = none → Q (.ref p) (upd H p o) := fun {σ H e F Q d o} R q hm p hp => by
    have t := (TrE.refl R).newL (o := o) hp
    have hF : F p = none := by
      cases z : F p with
      | none => rfl
      | some u => rw [R.sub p u z] at hp; cases hp
    exact q _ _ _ t ⟨p, rfl, hm p hp hF, hp, own_there R hp⟩
  cases t with
  | false =>
    refine pe_dnewK.to fun σ H Q ⟨e, F, R, q⟩ => ?_
    exact new R (d := .dk [] []) (show PostE C W e F σ H (.ok (.t (.dk [] [])) e) Q from q) fun p hp hF => ⟨hF, [], upd_same, rfl, .nil⟩
  | true =>
    refine pe_dnewT.to fun σ H Q ⟨e, F, R, q⟩ => ?_
    exact new R (d := .dt [] []) (show PostE C W e F σ H (.ok (.t (.dt [] [])) e) Q from q) fun p hp hF => ⟨hF, [], upd_same, rfl, .nil⟩
/-- one argument -/
theorem pa_one {y : Expr} {te : TE} (h : PE X y te) (hy : nst y = true) : PA X [y] (tCons te tNil) := pa_cons h pa_nil (star_cons hy)
theorem few_one {y : Expr} {pos : Pos} (hy : nst y = true) : ((backTo pos (starEach [y] X.env)).all (fun x => !x.1) && (backToKw pos (keywordEach [] X.env)).all (fun x => x.1.isSome)
      && decide ([y].length + ([] : List Keyword).length + (if ([] : List Keyword).isEmpty then 0 else 1) < 30)) = true := by
  rw [star_cons hy]; rfl

theorem lstAt_ok {i : Nat} {e : EV} {F H : Hp} {σ : St} (R : SR C e F σ H) (h : lstAt e i = true) : ∃ a, σ[i]? = some (some (.ref a)) ∧ ∃ vs, H a = some (.lst vs) := by
  unfold lstAt at h
  split at h
  · rename_i xs hx
    obtain ⟨s, a, h1, h2, h3, m⟩ := mineD_ok R hx
    obtain ⟨_, vs, h4, _⟩ := m.lst'
    exact ⟨a, h3, vs, h4⟩
  · cases h
theorem dkAt_ok {i : Nat} {e : EV} {F H : Hp} {σ : St} (R : SR C e F σ H) (h : dkAt e i = true) : ∃ a, σ[i]? = some (some (.ref a)) ∧ ∃ kvs, H a = some (.dK kvs) := by
  unfold dkAt at h
  split at h
  · rename_i ks xs hx
    obtain ⟨s, a, h1, h2, h3, m⟩ := mineD_ok R hx
    obtain ⟨_, vs, h4, _⟩ := m
    exact ⟨a, h3, _, h4⟩
  · cases h
theorem s_app (G : Good T C n W c X) {i : Nat} {a : E} {x : Str} {y : Expr} {xp ap pos : Pos} (hx : nmB c i x = true) (hm : mthB ap pos = true) (ha : PE X y (RE T C n W a)) (hy : nst y = true) :
    PE X (.Call (.Attribute (.Name x xp) "append" ap) [y] [] pos) (RE T C n W (.app i a)) := by
  refine (pe_bm (T := "list") PySem.F.plainAttrs_list PySem.F.slot_list_append PySem.F.type_list_append mt_append (G.nm hx) (pa_one ha hy) rfl (few_one hy) hm (star_cons hy) rfl).to fun σ H Q => ?_
  rintro ⟨e, F, R, q⟩
  simp only [evE, tst_false] at q
  split at q
  · rename_i hl
    obtain ⟨p, h1, vs, h2⟩ := lstAt_ok R hl
    refine ⟨.ref p, h1, .inl ⟨rfl, vs, .inl (.inl h2)⟩, e, F, R, PostE.first0 q fun r e1 v F1 H1 t1 r1 q => ?_⟩
    obtain ⟨⟨d, e2⟩, k1, q⟩ := q.opt
    obtain ⟨F2, t2, rp, s2⟩ := frz_ok t1 r1 k1
    dsimp only at q
    split at q
    · rename_i xs hx
      split at q
      · rename_i hz
        obtain ⟨s, p', g1, g2, g3, m⟩ := mineD_ok t2.sr hx
        rw [h1] at g3; cases g3
        obtain ⟨hF, ws, g4, g5⟩ := m.lst'
        exact ⟨p, ws, v, rfl, rfl, g4, by rw [← sizeL_eq, ← g5.len]; exact hz, q.fin (t2.trans (mut_ok t2.sr g1 g2 h1 ⟨hF, _, upd_same, g5.append (.cons rp .nil)⟩)) rep_non⟩
      · exact q.elim
    · exact q.elim
  · exact q.elim
theorem s_ext (G : Good T C n W c X) {i : Nat} {a : E} {x : Str} {y : Expr} {xp ap pos : Pos} (hx : nmB c i x = true) (hm : mthB ap pos = true) (ha : PE X y (RE T C n W a)) (hy : nst y = true) :
    PE X (.Call (.Attribute (.Name x xp) "extend" ap) [y] [] pos) (RE T C n W (.ext i a)) := by
  refine (pe_bm (T := "list") PySem.F.plainAttrs_list PySem.F.slot_list_extend PySem.F.type_list_extend mt_extend (G.nm hx) (pa_one ha hy) rfl (few_one hy) hm (star_cons hy) rfl).to fun σ H Q => ?_
  rintro ⟨e, F, R, q⟩
  simp only [evE, tst_false] at q
  split at q
  · rename_i hl
    obtain ⟨p, h1, vs, h2⟩ := lstAt_ok R hl
    refine ⟨.ref p, h1, .inl ⟨rfl, vs, .inl (.inl h2)⟩, e, F, R, PostE.first0 q fun r e1 v F1 H1 t1 r1 q => ?_⟩
    obtain ⟨d, k1, q⟩ := q.opt
    have z := cont_crp t1.sr r1 k1
    split at q
    · rename_i xs ys hx
      split at q
      · rename_i hz
        obtain ⟨s, p', g1, g2, g3, m⟩ := mineD_ok t1.sr hx
        rw [h1] at g3; cases g3
        obtain ⟨hF, ws, g4, g5⟩ := m.lst'
        obtain ⟨b, zs, rfl, hb, rb⟩ := z.lst t1.sr.sub
        exact ⟨p, b, ws, zs, rfl, rfl, g4, hb, by rw [← sizeL_eq, ← g5.len, ← rb.len]; exact hz, q.fin (t1.trans (mut_ok t1.sr g1 g2 h1 ⟨hF, _, upd_same, g5.append rb⟩)) rep_non⟩
      · exact q.elim
    · exact q.elim
  · exact q.elim
theorem s_pop (G : Good T C n W c X) {i : Nat} {x : Str} {xp ap pos : Pos} (hx : nmB c i x = true) (hm : mthB ap pos = true) : PE X (.Call (.Attribute (.Name x xp) "pop" ap) [] [] pos) (RE T C n W (.pop i)) := by
  refine (pe_bm0 (T := "list") PySem.F.plainAttrs_list PySem.F.slot_list_pop PySem.F.type_list_pop mt_pop (G.nm hx) rfl hm).to fun σ H Q => ?_
  rintro ⟨e, F, R, q⟩
  simp only [evE, tst_false] at q
  split at q
  · rename_i xs hx
    obtain ⟨d, k1, q⟩ := q.opt
    obtain ⟨s, p, g1, g2, g3, m⟩ := mineD_ok R hx
    obtain ⟨hF, ws, g4, g5⟩ := m.lst'
    obtain ⟨v, k2, k3⟩ := g5.get k1
    exact ⟨.ref p, g3, .inl ⟨rfl, ws, .inl (.inl g4)⟩, p, ws, v, rfl, rfl, g4, by rw [← g5.len]; exact k2, q.fin (mut_ok R g1 g2 g3 ⟨hF, _, upd_same, g5.dropLast⟩) k3⟩
  · exact q.elim
theorem s_popat (G : Good T C n W c X) {i : Nat} {a : E} {x : Str} {y : Expr} {xp ap pos : Pos} (hx : nmB c i x = true) (hm : mthB ap pos = true) (ha : PE X y (RE T C n W a)) (hy : nst y = true) :
    PE X (.Call (.Attribute (.Name x xp) "pop" ap) [y] [] pos) (RE T C n W (.popat i a)) := by
  refine (pe_bm (T := "list") PySem.F.plainAttrs_list PySem.F.slot_list_pop PySem.F.type_list_pop mt_popAt (G.nm hx) (pa_one ha hy) rfl (few_one hy) hm (star_cons hy) rfl).to fun σ H Q => ?_
  rintro ⟨e, F, R, q⟩
  simp only [evE, tst_false] at q
  split at q
  · rename_i hl
    obtain ⟨p, h1, vs, h2⟩ := lstAt_ok R hl
    refine ⟨.ref p, h1, .inl ⟨rfl, vs, .inl (.inl h2)⟩, e, F, R, PostE.first0 q fun r e1 v F1 H1 t1 r1 q => ?_⟩
    obtain ⟨k, k1, q⟩ := q.opt
    obtain ⟨d, k1, k2⟩ := Option.bind_eq_some_iff.mp k1
    have z := cont_crp t1.sr r1 k1
    cases d <;> cases k2
    cases z.int
    split at q
    · rename_i xs hx
      split at q
      · rename_i hz
        rw [Bool.and_eq_true] at hz
        obtain ⟨j, j1, q⟩ := q.opt
        obtain ⟨d, j2, q⟩ := q.opt
        obtain ⟨s, p', g1, g2, g3, m⟩ := mineD_ok t1.sr hx
        rw [h1] at g3; cases g3
        obtain ⟨hF, ws, g4, g5⟩ := m.lst'
        obtain ⟨v, k2, k3⟩ := g5.get j2
        exact ⟨p, ws, _, j, v, rfl, rfl, g4, of_decide_eq_true hz.1, of_decide_eq_true hz.2, by rw [← g5.len]; exact (L2.ixN_seq j1).1, k2, q.fin (t1.trans (mut_ok t1.sr g1 g2 h1 ⟨hF, _, upd_same, g5.eraseIdx _⟩)) k3⟩
      · exact q.elim
    · exact q.elim
  · exact q.elim
end
end PL
end

section
/-! a tuple's items with their places -/
namespace PL
open PySem PySem.Spec PyProof.Rows L2

/-- the object by which a tuple is gone through -/
abbrev tIt (t : Addr) : Obj := { cls := .type "tuple_iterator", data := .fields #[.ref t, .int 0 0] }
abbrev tEn (it : Addr) : Obj :=
  { cls := .type "enumerate",
    data := .fields #[.none, .bool false, .ref it, rawInt 0, .none, .none] }
set_option maxHeartbeats 1000000 in
theorem enT_new (t : Addr) (xs : Array Value) :
    Meets (Builtin.«enumerate.__new__» ⟨[.type "enumerate", .ref t], []⟩)
      (fun _ R s => s.heap.IsTuple t xs ∧
        R (.ok (.ret (.ref (s.heap.push (tIt t)).objs.size)))
          { s with heap := (s.heap.push (tIt t)).push (tEn s.heap.objs.size) }) :=
  .of_wp fun prog w A R s h => by
    obtain ⟨hp, gg, dd, tk, os⟩ := s
    obtain ⟨ht, hr⟩ := h
    have q0 := sub_enumerate
    have q1 : ∀ {A' : Around} {E Q : Value → Shared → Prop},
        Q (.ref hp.objs.size) ⟨hp.push (tIt t), gg, dd, tk, os⟩ →
        wpAny (model prog w) A' (pyIter (.ref t)) Q E ⟨hp, gg, dd, tk, os⟩ :=
      fun q => (begins_tuple t xs).iter prog w _ _ ⟨hp, gg, dd, tk, os⟩ _ ht q
    wp_walk using q1
    refine wpAny_stack_any fun _ => wpAny_pure ?_
    split
    · rename_i cc _ _ _ _ _
      cases (cc == Value.type "enumerate") <;> (wp_walk using q1; exact ⟨_, rfl, hr⟩)
    · wp_walk using q1
      exact ⟨_, rfl, hr⟩
theorem enT_call {prog : Program} {w : World} {A : Around} {E Q : Value → Shared → Prop} {s : Shared} {t : Addr} {xs : Array Value} (ht : s.heap.IsTuple t xs)
    (k : ∀ h', IsEnum h' (s.heap.objs.size + 1) s.heap.objs.size 0 .none →
      h'.IsTupleIter s.heap.objs.size t 0 → (∀ b o, s.heap.get? b = some o → h'.get? b = some o) →
      Q (.ref (s.heap.objs.size + 1)) { s with heap := h' }) :
    wpAny (model prog w) A (call (.type "enumerate") [.ref t]) Q E s := by
  refine callType_new F.called_enumerate (by decide) (F.typeCall_enumerate_1 _) (F.newCall_enumerate_1 _)
    (fun obj => F.args_object_init_2 obj _) F.entry_enumerate_new (enT_new t xs) ⟨ht, ?_⟩
  have sz : (s.heap.push (tIt t)).objs.size = s.heap.objs.size + 1 := Heap.size_push ..
  show _ ∧ _
  rw [sz]
  have e1 := Heap.get?_push_size (s.heap.push (tIt t)) (o := tEn s.heap.objs.size) rfl
  rw [sz] at e1
  exact ⟨⟨_, e1, rfl⟩, k _ e1
    ⟨_, Heap.get?_push_of_some _ (Heap.get?_push_size _ rfl), rfl, rfl⟩
    fun b o z => Heap.get?_push_of_some _ (Heap.get?_push_of_some _ z)⟩
/-- the tuple at a: each item in a new pair -/
def IteT (K : PySem.W.Frag) (a : Addr) : L2.It :=
  ⟨fun i H => ∃ (xs : List V) (x : V), SqT K H a xs ∧ xs[i]? = some x,
   fun i H v H' => ∃ T x, v = .ref T ∧ H T = none ∧ H' = upd H T (.tup [.int (i : Nat), x]) ∧
     ∀ xs, SqT K H a xs → xs[i]? = some x,
   fun i H => ∃ xs : List V, SqT K H a xs ∧ i = xs.length⟩
theorem turn_enT {P : Program} {w : World} {K : PySem.W.Frag} {elts : List Expr} {kk : Nat} {tpos : Pos} (a e it : Addr) (hat : a ≠ it) :
    Turn P w K (.Tuple elts kk tpos) (IteT K a) [e, it] e
      (fun i h => (∃ old, IsEnum h e it ((i : Nat) : Int) old) ∧ h.IsTupleIter it a i ∧ e ≠ it ∧ a ≠ e) where
  mem := by simp
  obj := fun i h st b hb => by
    obtain ⟨⟨old, he⟩, ⟨o, ho, hc, hd⟩, _, _⟩ := st
    have cases2 : b = e ∨ b = it := by simpa using hb
    rcases cases2 with rfl | rfl
    · exact ⟨_, he, fun v q => nomatch q⟩
    · exact ⟨o, ho, fun v q => by rw [hd] at q; cases q⟩
  keep := fun i h h' st k => by
    obtain ⟨⟨old, he⟩, hi, ne, ne2⟩ := st
    exact ⟨⟨old, k e (by simp) _ he⟩, hi.at fun o q => k it (by simp) o q, ne, ne2⟩
  item := by
    intro X hP hw hK hc i pins s σ H E I hf st hg
    subst hP hw hK
    obtain ⟨⟨old, he⟩, hit, ne, ne2⟩ := st
    obtain ⟨xs, x, hq, hx⟩ := hg
    obtain ⟨its, rv, p, _⟩ := I.tuple hq
    obtain ⟨u, hu, ru⟩ := rv.get hx
    have lte : e < s.heap.objs.size := Heap.lt_size he
    have lti : it < s.heap.objs.size := by obtain ⟨_, q, _⟩ := hit; exact Heap.lt_size q
    have pt : s.heap.IsTuple a its.toArray := p
    have dr := Draws.tuple (prog := X.prog) (w := X.w) (A := X.A.in1) (I.ok.hd hc) it a hat its.toArray
    have hi : i < its.toArray.size := by
      have := (List.getElem?_eq_some_iff.mp hu).1
      simpa using this
    have nof : e ∉ [it, a] := by
      intro m
      have : e = it ∨ e = a := by simpa using m
      rcases this with z | z
      · exact ne z
      · exact ne2 z.symm
    refine wpAny_pyNext_enum_itemD dr he ⟨hit, pt⟩ hi ne nof fun x' h' tk hx' ho st' hT hsz hk => ?_
    have ex : x' = u := by
      have h1 : its.toArray[i]? = some u := by simpa using hu
      rw [h1] at hx'
      exact (Option.some.inj hx').symm
    subst ex
    refine ⟨_, rfl, wpAny_letOwnedTupleGo_enum (s := { s with heap := h', toks := tk + 1 }) ho fun h2 he2 sb => ?_⟩
    have hT2 : h2.get? s.heap.objs.size = some { cls := .type "tuple", data := .seq #[.int i tk, x'] } :=
      (sb.2 _ (Nat.ne_of_gt lte)).trans hT
    have fresh : ObjOk X.prog X.w (upd H s.heap.objs.size (.tup [.int (i : Nat), x])) h2 s.heap.objs.size (.tup [.int (i : Nat), x]) :=
      ⟨by show 2 ≤ sizeLine; decide, [.int i tk, x'], .cons ⟨_, rfl⟩ (.cons ru .nil), ⟨_, hT2, rfl, _, rfl⟩⟩
    have I1 : Inv X pins σ (upd H s.heap.objs.size (.tup [.int (i : Nat), x])) { s with heap := h2, toks := tk + 1 } :=
      I.turnedNew (ch := [e, it]) (fun b ob hb q =>
        (sb.2 b (fun z => hb (by simp [z]))).trans (hk b ob (fun z => hb (by simp [z])) (fun z => hb (by simp [z])) q)) hf (Nat.le_refl _) fresh
    refine ⟨.ref s.heap.objs.size, _, I1, rfl,
      ⟨_, x, rfl, I.hok.fresh (Nat.le_refl _), rfl, fun ys hy => by rw [I.tuple_inj hy hq]; exact hx⟩,
      ⟨⟨x', ?_⟩, st'.1.at fun o q => (sb.2 it (Ne.symm ne)).trans q, ne, ne2⟩, fun b hb => ?_⟩
    · rw [show ((i + 1 : Nat) : Int) = (i : Int) + 1 from by omega]
      exact he2
    · have lt : b < s.heap.objs.size := by
        have cases2 : b = e ∨ b = it := by simpa using hb
        rcases cases2 with rfl | rfl
        · exact lte
        · exact lti
      rw [upd_ne (Nat.ne_of_lt lt)]
      exact (hf b hb).1
  done := by
    intro X hP hw hK hc i pins s σ H E I hf st hg
    subst hP hw hK
    obtain ⟨⟨old, he⟩, hit, ne, ne2⟩ := st
    obtain ⟨xs, hq, hx⟩ := hg
    obtain ⟨its, rv, p, _⟩ := I.tuple hq
    obtain ⟨f0, f1, f2, f3, f4, f5⟩ := hf it (by simp)
    have hl := rv.length
    have pt : s.heap.IsTuple a its.toArray := p
    have dr := Draws.tuple (prog := X.prog) (w := X.w) (A := X.A.in1) (I.ok.hd hc) it a hat its.toArray
    have hn : i = its.toArray.size := by simp; omega
    subst hn
    exact wpAny_pyNext_enum_endD dr he ⟨hit, pt⟩ fun h' eb =>
      ⟨rfl, I.turned (t' := s.toks) (fun b o hb q => eb b o hb q) f0 f1 f3 f4 f5⟩
  self := fun A i s Q E st h => by
    obtain ⟨⟨_, he⟩, _⟩ := st
    exact wpAny_pyIter_enum he h
/-- of a list or of a tuple -/
def iEnA (K : PySem.W.Frag) (ta : TA) : TI := fun σ H R => ta σ H fun vs H1 => ∃ a xs, vs = [.ref a] ∧
  ((SqL K H1 a xs ∧ R (Ite K a) H1) ∨ (SqT K H1 a xs ∧ R (IteT K a) H1))
theorem pi_enA {X : Cx} {e : Expr} {ta : TA} {p pos tpos : Pos} {elts : List Expr} {kk : Nat} (hg : Gl X "enumerate") (hm : X.mg "enumerate" = none) (ha : PA X [e] ta)
    (hs : starEach [e] X.env = [(false, eval e X.env)] := by rfl) :
    PI X (.Tuple elts kk tpos) (.Call (.Name "enumerate" p) [e] [] pos) (iEnA X.K ta) := by
  refine ⟨fun pins s σ H R I h => ?_⟩
  refine Call_ (ld_blt I hg hm boot_enumerate (callWith_type1 (thn (ha.run pos pins s σ H _ I h)
    fun us s1 ⟨vs, H1, I1, r1, q1⟩ => ?_) hs rfl))
  obtain ⟨a, xs, ex, q1⟩ := q1
  subst ex
  cases r1 with
  | cons r rr =>
    cases rr
    cases r
    have new2 : ∀ b ∈ [s1.heap.objs.size + 1, s1.heap.objs.size], FpOk X pins H1 b := fun b hb => by
      have cases2 : b = s1.heap.objs.size + 1 ∨ b = s1.heap.objs.size := by simpa using hb
      have le : s1.heap.objs.size ≤ b := by
        rcases cases2 with rfl | rfl
        · exact Nat.le_add_right _ _
        · exact Nat.le_refl _
      exact I1.fpOk le (I1.hok.fresh le)
    rcases q1 with ⟨hq, q⟩ | ⟨hq, q⟩
    · obtain ⟨its, rv, pl, _⟩ := I1.list hq
      refine call_enumerate_list pl.isList fun h' he hit _ hk => wpAny_pyIter_enum he ?_
      have I2 : Inv X pins σ H1 { s1 with heap := h' } := I1.kept (t' := s1.toks) hk
      exact ⟨_, _, _, _, H1, rfl, I2, turn_enum a _ _, ⟨⟨.none, he⟩, hit, Nat.succ_ne_self _⟩, new2, q⟩
    · obtain ⟨its, rv, pt, _⟩ := I1.tuple hq
      have pt : s1.heap.IsTuple a its.toArray := pt
      have lta : a < s1.heap.objs.size := by obtain ⟨o, ho, _⟩ := id pt; exact Heap.lt_size ho
      refine enT_call pt fun h' he hit hk => wpAny_pyIter_enum he ?_
      have I2 : Inv X pins σ H1 { s1 with heap := h' } := I1.kept (t' := s1.toks) hk
      exact ⟨_, _, _, _, H1, rfl, I2, turn_enT a _ _ (Nat.ne_of_lt lta),
        ⟨⟨.none, he⟩, hit, Nat.succ_ne_self _, Nat.ne_of_lt (Nat.lt_succ_of_lt lta)⟩, new2, q⟩
theorem walk_enT {K : PySem.W.Frag} {a : Addr} {xs : List V} : Walk (IteT K a) xs.length (fun H => SqT K H a xs) (YPair (fun i => some (.int (i : Nat))) (fun i => xs[i]?)) := by
  refine ⟨fun i _ hi q => ⟨xs, xs[i], q, by simp [hi]⟩, fun _ q => ⟨xs, q, rfl⟩, ?_⟩
  rintro i H v H' _ q ⟨T, x, h1, h2, h3, h4⟩
  exact ⟨T, .int (i : Nat), x, h1, h2, h3, rfl, h4 xs q⟩
end PL
end

section
namespace PL
open PySem PySem.Spec L2

/-! ## slots are set -/
section
variable {C : G0} {e e1 : EV} {F F1 H H1 : Hp} {σ σ1 : St}
theorem setOk_not {i : Nat} (h : setOk e i = true) : i < e.length ∧ (∀ d, e[i]? ≠ some (.bor d)) ∧ ∀ d, e[i]? ≠ some (.fro d) := by
  unfold setOk at h
  split at h <;> first | (rename_i q; exact ⟨(List.getElem?_eq_some_iff.mp q).1, fun d z => by (rw [q] at z; cases z), fun d z => by (rw [q] at z; cases z)⟩) | cases h
theorem set0 {i : Nat} {s' : SV} {o : Option V} (t : Tr C e F σ H e1 F1 σ1 H1) (hl : i < e1.length) (nb : ∀ d, e[i]? ≠ some (.bor d)) (nf : ∀ d, e[i]? ≠ some (.fro d))
    (hs : (s' = .un) ∨ (∃ d v, s' = .val d ∧ o = some v ∧ Rep C F1 d v) ∨ ∃ d a, s' = .own d ∧ o = some (.ref a) ∧ Mine C F1 H1 d a ∧ ¬ OwnA e1 σ1 a ∧ ((∃ (j : Nat) (d' : D), e[j]? = some (.own d') ∧ σ[j]? = some (some (.ref a))) ∨ H a = none)) :
    Tr C e F σ H (e1.set i s') F1 (σ1.set i o) H1 := by
  have R := t.sr
  have hlσ : i < σ1.length := by rw [← R.len]; exact hl
  have ge : (e1.set i s')[i]? = some s' := by simp [hl]
  have gσ : (σ1.set i o)[i]? = some o := by simp [hlσ]
  have notown : ∀ {a : Addr} {j : Nat} {s : SV}, s'.mine = true → o = some (.ref a) → e1[j]? = some s → s.mine = true → σ1[j]? = some (some (.ref a)) → False := fun {a j s} m ho h1 h2 h3 => by
    rcases hs with rfl | ⟨d, v, rfl, _⟩ | ⟨d, a', rfl, e, mm, no, _⟩
    · cases m
    · cases m
    · rw [ho] at e; cases e; exact no ⟨j, s, h1, h2, h3⟩
  refine ⟨⟨R.sub, fun j s q => ?_, fun j k s s2 a q1 q2 m1 m2 a1 a2 => ?_, by simp [R.len]⟩, t.fs, t.keep, t.there, t.new, fun j d a q1 q2 => ?_, fun j d q => ?_, fun j d q => ?_, fun j d q => ?_, by simp [t.len]⟩
  · by_cases ej : i = j
    · subst ej
      rw [ge] at q; cases q
      rw [gσ]
      rcases hs with rfl | ⟨d, v, rfl, rfl, r⟩ | ⟨d, a', rfl, rfl, mm, no, _⟩
      · trivial
      · exact ⟨v, rfl, r⟩
      · exact ⟨a', rfl, mm⟩
    · rw [getE_set_ne ej] at q
      rw [getE_set_ne ej]
      exact R.slot j s q
  · by_cases ej : i = j
    · by_cases ek : i = k
      · rw [← ej, ← ek]
      · subst ej
        rw [ge] at q1; cases q1
        rw [gσ] at a1; cases a1
        rw [getE_set_ne ek] at q2 a2
        exact (notown m1 rfl q2 m2 a2).elim
    · by_cases ek : i = k
      · subst ek
        rw [ge] at q2; cases q2
        rw [gσ] at a2; cases a2
        rw [getE_set_ne ej] at q1 a1
        exact (notown m2 rfl q1 m1 a1).elim
      · rw [getE_set_ne ej] at q1 a1
        rw [getE_set_ne ek] at q2 a2
        exact R.dis j k s s2 a q1 q2 m1 m2 a1 a2
  · by_cases ej : i = j
    · subst ej
      rw [ge] at q1; cases q1
      rw [gσ] at q2; cases q2
      rcases hs with h | ⟨d, v, h, _⟩ | ⟨d', a', h, e, mm, no, hh⟩
      · cases h
      · cases h
      · cases e; exact hh
    · rw [getE_set_ne ej] at q1 q2
      exact t.own j d a q1 q2
  · by_cases ej : i = j
    · subst ej
      rw [ge] at q; cases q
      rcases hs with h | ⟨d, v, h, _⟩ | ⟨d', a', h, _⟩ <;> cases h
    · rw [getE_set_ne ej] at q
      exact t.nob j d q
  · obtain ⟨h1, d', h2⟩ := t.bor j d q
    have ej : i ≠ j := fun ej => by
      subst ej
      exact nb _ q
    rw [getE_set_ne ej, getE_set_ne ej]
    exact ⟨h1, d', h2⟩
  · obtain ⟨h1, h2⟩ := t.fro j d q
    have ej : i ≠ j := fun ej => by
      subst ej; exact nf _ q
    rw [getE_set_ne ej, getE_set_ne ej]
    exact ⟨h1, h2⟩
theorem set1 {i : Nat} {s' : SV} {o : Option V} (t : Tr C e F σ H e1 F1 σ1 H1) (ok : setOk e1 i = true)
    (hs : (s' = .un) ∨ (∃ d v, s' = .val d ∧ o = some v ∧ Rep C F1 d v) ∨ ∃ d a, s' = .own d ∧ o = some (.ref a) ∧ Mine C F1 H1 d a ∧ ¬ OwnA e1 σ1 a ∧ ((∃ (j : Nat) (d' : D), e[j]? = some (.own d') ∧ σ[j]? = some (some (.ref a))) ∨ H a = none)) :
    Tr C e F σ H (e1.set i s') F1 (σ1.set i o) H1 := by
  obtain ⟨hl, nb, nf⟩ := setOk_not ok
  refine set0 t hl (fun d q => ?_) (fun d q => ?_) hs
  · obtain ⟨_, d', h | h⟩ := t.bor i d q
    · exact nb _ h
    · exact nf _ h
  · exact nf _ (t.fro i d q).2
/-- what a store changes -/
structure AsgR (ix : List Nat) (e1 : EV) (σ1 : St) (e2 : EV) (σ2 : St) : Prop where
  len : σ2.length = σ1.length
  same : ∀ j, j ∉ ix → σ2[j]? = σ1[j]? ∧ e2[j]? = e1[j]?
  mine : ∀ (j : Nat) (s : SV), e2[j]? = some s → s.mine = true → e1[j]? = some s ∧ σ2[j]? = σ1[j]?
theorem AsgR.refl (ix : List Nat) (e : EV) (σ : St) : AsgR ix e σ e σ := ⟨rfl, fun _ _ => ⟨rfl, rfl⟩, fun _ _ h _ => ⟨h, rfl⟩⟩
theorem AsgR.trans {ix : List Nat} {e1 e2 e3 : EV} {σ1 σ2 σ3 : St} (a : AsgR ix e1 σ1 e2 σ2) (b : AsgR ix e2 σ2 e3 σ3) : AsgR ix e1 σ1 e3 σ3 :=
  ⟨b.len.trans a.len, fun j h => ⟨(b.same j h).1.trans (a.same j h).1, (b.same j h).2.trans (a.same j h).2⟩, fun j s h m => by
    obtain ⟨h1, h2⟩ := b.mine j s h m
    obtain ⟨h3, h4⟩ := a.mine j s h1 m
    exact ⟨h3, h2.trans h4⟩⟩
theorem AsgR.one {ix : List Nat} {i : Nat} {s' : SV} {o : Option V} (hi : i ∈ ix) (m : s'.mine = false) : AsgR ix e σ (e.set i s') (σ.set i o) :=
  ⟨by simp, fun j h => by
    have hne : i ≠ j := fun z => h (by rw [← z]; exact hi)
    exact ⟨getE_set_ne hne, getE_set_ne hne⟩, fun j s h ms => by
    by_cases z : i = j
    · subst z
      rw [List.getElem?_set_self'] at h
      cases q : e[i]? with
      | none => rw [q] at h; cases h
      | some u => rw [q] at h; cases h; exact absurd (show s'.mine = true from ms) (by rw [m]; simp)
    · rw [getE_set_ne z] at h; exact ⟨h, getE_set_ne z⟩⟩
/-- a target that is a name, several names -/
def gNms : List Nat → TGs
  | [] => gNil
  | i :: is => gCons (gName i) (gNms is)
def gTg (K : PySem.W.Frag) : Tg → TG
  | .nm i => gName i
  | .tp is => gTup K is.length (gNms is)
theorem setVals_ok : ∀ {is : List Nat} {ds : List D} {vs : List V} {e1 e2 : EV} {σ1 : St} {Q : St → Hp → Prop}, Tr C e F σ H e1 F1 σ1 H1 → RepL C F1 ds vs → setVals is ds e1 = some e2 → (∀ σ2, Tr C e F σ H e2 F1 σ2 H1 → AsgR is e1 σ1 e2 σ2 → Q σ2 H1) → gNms is vs σ1 H1 Q
  | [], [], vs, e1, e2, σ1, Q, t, r, k, q => by
    cases k
    rw [RepL] at r
    exact ⟨r, q σ1 t (AsgR.refl _ _ _)⟩
  | i :: is, d :: ds, vs, e1, e2, σ1, Q, t, r, k, q => by
    rw [RepL] at r
    obtain ⟨v, ws, rfl, r1, r2⟩ := r
    simp only [setVals] at k
    split at k
    · rename_i ok
      refine ⟨v, ws, rfl, setVals_ok (set1 t ok (.inr (.inl ⟨d, v, rfl, rfl, r1⟩))) r2 k fun σ2 t2 a => q σ2 t2 ?_⟩
      refine (AsgR.one (ix := i :: is) (by simp) rfl).trans ⟨a.len, fun j h => a.same j fun z => h (by simp [z]), a.mine⟩
    · cases k
  | [], _ :: _, _, _, _, _, _, _, _, k, _ => by simp [setVals] at k
  | _ :: _, [], _, _, _, _, _, _, _, k, _ => by simp [setVals] at k
theorem setVals_len : ∀ {is : List Nat} {ds : List D} {e1 e2 : EV}, setVals is ds e1 = some e2 → is.length = ds.length
  | [], [], _, _, _ => rfl
  | i :: is, d :: ds, e1, e2, k => by
    simp only [setVals] at k
    split at k
    · simp [setVals_len k]
    · cases k
  | [], _ :: _, _, _, k => by simp [setVals] at k
  | _ :: _, [], _, _, k => by simp [setVals] at k
theorem asg_ok {tg : Tg} {d : D} {v : V} {e2 : EV} {Q : St → Hp → Prop} (t : Tr C e F σ H e1 F1 σ1 H1) (r : Rep C F1 d v) (k : asg tg d e1 = some e2) (q : ∀ σ2, Tr C e F σ H e2 F1 σ2 H1 → AsgR (tgIx tg) e1 σ1 e2 σ2 → Q σ2 H1) : gTg C.K tg v σ1 H1 Q := by
  cases tg with
  | nm i =>
    simp only [asg] at k
    split at k
    · rename_i ok
      cases k
      exact q _ (set1 t ok (.inr (.inl ⟨d, v, rfl, rfl, r⟩))) (AsgR.one (by simp [tgIx]) rfl)
    · cases k
  | tp is =>
    cases d <;> simp only [asg] at k <;> first | cases k | skip
    rw [Rep] at r
    obtain ⟨a, vs, rfl, h1, h2⟩ := r
    exact ⟨a, vs, rfl, t.sr.sub.sqT h1, by rw [← h2.len, setVals_len k], setVals_ok t h2 k q⟩
end
section
variable {T : GT} {C : G0} {n : Nat} {W : WX} {c : CC} {X : Cx}
theorem s_tgName (G : Good T C n W c X) {i : Nat} {x : Str} {pos : Pos} (h : stB c i x = true) : PG X (.Name x pos) (gName i) := by
  obtain ⟨h1, h2⟩ := G.st i x h
  unfold stB at h
  rw [Bool.and_eq_true, Bool.and_eq_true] at h
  exact pg_name (by rw [G.N]; exact G.nd) (by rw [G.N]; exact of_decide_eq_true h.1.1) h1 h2
theorem s_tgNames (G : Good T C n W c X) : ∀ {is : List Nat} {xs : List Expr}, trTg.trNs c is xs = true → PGs X xs (gNms is) ∧ (assignEach xs X.env).length = is.length ∧ (assignEach xs X.env).findIdx? (·.1) = none
  | [], [], _ => ⟨pgs_nil, rfl, rfl⟩
  | i :: is, .Name x p :: xs, h => by
    simp only [trTg.trNs, Bool.and_eq_true] at h
    obtain ⟨h1, h2, h3⟩ := s_tgNames G h.2
    refine ⟨pgs_cons (s_tgName G h.1) h1, ?_, ?_⟩
    · show (assignEach xs X.env).length + 1 = _; rw [h2]; rfl
    · show List.findIdx? (·.1) ((false, _) :: assignEach xs X.env) = none
      rw [List.findIdx?_cons, h3]; rfl
  | [], _ :: _, h => by simp [trTg.trNs] at h
  | _ :: _, [], h => by simp [trTg.trNs] at h
  | i :: is, x :: xs, h => by
    cases x <;> first | (simp [trTg.trNs] at h; done) | skip
    rename_i x p
    simp only [trTg.trNs, Bool.and_eq_true] at h
    obtain ⟨h1, h2, h3⟩ := s_tgNames G h.2
    refine ⟨pgs_cons (s_tgName G h.1) h1, ?_, ?_⟩
    · show (assignEach xs X.env).length + 1 = _; rw [h2]; rfl
    · show List.findIdx? (·.1) ((false, _) :: assignEach xs X.env) = none
      rw [List.findIdx?_cons, h3]; rfl
theorem s_tg (G : Good T C n W c X) (hc : c.calm = true) {tg : Tg} {x : Expr} (h : trTg c tg x = true) : PG X x (gTg C.K tg) := by
  cases tg with
  | nm i =>
    cases x <;> simp only [trTg] at h <;> first | cases h | skip
    exact s_tgName G h
  | tp is =>
    cases x <;> simp only [trTg] at h <;> first | cases h | skip
    obtain ⟨h1, h2, h3⟩ := s_tgNames G h
    rw [← G.K]
    exact pg_tup (G.cm hc) h1 h2 h3
/-! ### what is walked -/
def YD (C : G0) (F1 : Hp) (ds : List D) : Nat → Hp → V → Hp → Prop := fun i H x H' => ∃ d, ds[i]? = some d ∧ ((H' = H ∧ Rep C F1 d x) ∨
  ∃ p d1 d2 x1 x2, x = .ref p ∧ H p = none ∧ H' = upd H p (.tup [x1, x2]) ∧ d = .tup [d1, d2] ∧ Rep C F1 d1 x1 ∧ Rep C F1 d2 x2)
def WalkD (C : G0) (F1 : Hp) (J : L2.It) (ds : List D) : Prop := Walk J ds.length (fun H => Sub F1 H) (YD C F1 ds)
def PostI (C : G0) (W : WX) (e : EV) (F : Hp) (σ : St) (H : Hp) (o : Out (List D)) (R : L2.It → Hp → Prop) : Prop := match o with
  | .ok ds e' => ∀ J F' H', TrE C e F σ H e' F' H' → WalkD C F' J ds → R J H'
  | .exc c p e' => ∀ F' H', TrE C e F σ H e' F' H' → ExW C W c p σ H'
  | .stuck => False
def RI (T : GT) (C : G0) (n : Nat) (W : WX) (it : It) : TI := fun σ H R => ∃ e F, SR C e F σ H ∧ PostI C W e F σ H (evI T (callF T n) it e) R
theorem PostI.opt {e : EV} {F : Hp} {σ : St} {H : Hp} {α : Type} {o : Option α} {f : α → Out (List D)} {R : L2.It → Hp → Prop} (h : PostI C W e F σ H (PL.opt o f) R) : ∃ a, o = some a ∧ PostI C W e F σ H (f a) R := by
  cases o with
  | none => exact h.elim
  | some a => exact ⟨a, rfl, h⟩
theorem PostI.first {e : EV} {F : Hp} {σ : St} {H : Hp} {x : Out RV} {f : RV → EV → Out (List D)} {R : L2.It → Hp → Prop} {Q1 : VK} (h : PostI C W e F σ H (x.bd f) R)
    (k : ∀ r e1 v F1 H1, x = .ok r e1 → TrE C e F σ H e1 F1 H1 → RVok C H F1 σ H1 e1 r v → PostI C W e F σ H (f r e1) R → Q1 v H1) : PostE C W e F σ H x Q1 := by
  cases x with
  | ok r e1 => exact fun v F1 H1 t r1 => k r e1 v F1 H1 rfl t r1 h
  | exc c p e1 => exact h
  | stuck => exact h
theorem PostI.firstA {e : EV} {F : Hp} {σ : St} {H : Hp} {x : Out (List RV)} {f : List RV → EV → Out (List D)} {R : L2.It → Hp → Prop} {Q1 : List V → Hp → Prop} (h : PostI C W e F σ H (x.bd f) R)
    (k : ∀ rs e1 vs F1 H1, x = .ok rs e1 → TrE C e F σ H e1 F1 H1 → RVs C H F1 σ H1 e1 rs vs → PostI C W e F σ H (f rs e1) R → Q1 vs H1) : PostA C W e F σ H x Q1 := by
  cases x with
  | ok r e1 => exact fun v F1 H1 t r1 => k r e1 v F1 H1 rfl t r1 h
  | exc c p e1 => exact h
  | stuck => exact h
theorem walkD_list {F1 : Hp} {a : Addr} {vs : List V} {ds : List D} (h : SqL C.K F1 a vs) (r : RepL C F1 ds vs) : WalkD C F1 (Itl C.K a) ds := by
  unfold WalkD
  rw [r.len]
  exact walk_list.mono (fun H s => s.sqL h) fun i H x H' hi s y => by
    obtain ⟨d, k1, k2⟩ := r.get' y.2
    exact ⟨d, k1, .inl ⟨y.1, k2⟩⟩
theorem walkD_tup {F1 : Hp} {a : Addr} {vs : List V} {ds : List D} (h : SqT C.K F1 a vs) (r : RepL C F1 ds vs) : WalkD C F1 (Itt C.K a) ds := by
  unfold WalkD
  rw [r.len]
  exact walk_tup.mono (fun H s => s.sqT h) fun i H x H' hi s y => by
    obtain ⟨d, k1, k2⟩ := r.get' y.2
    exact ⟨d, k1, .inl ⟨y.1, k2⟩⟩
theorem walkD_range {F1 : Hp} {lo : Int} {m : Nat} : WalkD C F1 (Itr lo m) ((List.range m).map fun (k : Nat) => .int (lo + (k : Int))) := by
  have hl : ((List.range m).map fun (k : Nat) => D.int (lo + (k : Int))).length = m := by simp
  unfold WalkD
  rw [hl]
  exact walk_range.mono (fun H s => trivial) fun i H x H' hi s y => ⟨.int (lo + i), by simp [hi], .inl ⟨y.1, by rw [y.2]; exact rep_int⟩⟩
theorem walkD_enum {F1 : Hp} {a : Addr} {vs : List V} {ds : List D} (h : SqL C.K F1 a vs) (r : RepL C F1 ds vs) : WalkD C F1 (Ite C.K a) (enumD ds) := by
  have hl : (enumD ds).length = vs.length := by simp [enumD, r.len]
  unfold WalkD
  rw [hl]
  exact walk_enum.mono (fun H s => s.sqL h) fun i H x H' hi s y => by
    obtain ⟨p, x1, x2, e1, e2, e3, e4, e5⟩ := y
    cases e4
    obtain ⟨d, k1, k2⟩ := r.get' e5
    refine ⟨.tup [.int i, d], ?_, .inr ⟨p, .int i, d, _, x2, e1, e2, e3, rfl, rep_int, k2⟩⟩
    have hi' : i < ds.length := by rw [r.len]; exact hi
    simp [enumD, List.getElem?_zipWith, hi']
    exact (List.getElem?_eq_some_iff.mp k1).2
theorem walkD_enT {F1 : Hp} {a : Addr} {vs : List V} {ds : List D} (h : SqT C.K F1 a vs) (r : RepL C F1 ds vs) : WalkD C F1 (IteT C.K a) (enumD ds) := by
  have hl : (enumD ds).length = vs.length := by simp [enumD, r.len]
  unfold WalkD
  rw [hl]
  exact walk_enT.mono (fun H s => s.sqT h) fun i H x H' hi s y => by
    obtain ⟨p, x1, x2, e1, e2, e3, e4, e5⟩ := y
    cases e4
    obtain ⟨d, k1, k2⟩ := r.get' e5
    refine ⟨.tup [.int i, d], ?_, .inr ⟨p, .int i, d, _, x2, e1, e2, e3, rfl, rep_int, k2⟩⟩
    have hi' : i < ds.length := by rw [r.len]; exact hi
    simp [enumD, List.getElem?_zipWith, hi']
    exact (List.getElem?_eq_some_iff.mp k1).2
theorem walkD_zip {F1 : Hp} {J : L2.It} {vs ws : List V} {xs ys : List D} (r1 : RepL C F1 xs vs) (r2 : RepL C F1 ys ws) {n : Nat} (hn : n = min vs.length ws.length) (w : Walk J n (fun H => Sub F1 H) (YPair (fun i => vs[i]?) (fun i => ws[i]?))) : WalkD C F1 J (zipD xs ys) := by
  have hl : (zipD xs ys).length = n := by simp [zipD, r1.len, r2.len, hn]
  unfold WalkD
  rw [hl]
  exact w.mono (fun H s => s) fun i H x H' hi s y => by
    obtain ⟨p, x1, x2, e1, e2, e3, e4, e5⟩ := y
    obtain ⟨d1, k1, k2⟩ := r1.get' e4
    obtain ⟨d2, k3, k4⟩ := r2.get' e5
    refine ⟨.tup [d1, d2], ?_, .inr ⟨p, d1, d2, x1, x2, e1, e2, e3, rfl, k2, k4⟩⟩
    simp [zipD, List.getElem?_zipWith, k1, k3]
theorem s_itE (G : Good T C n W c X) {a : E} {x tg : Expr} (ha : PE X x (RE T C n W a)) : PI X tg x (RI T C n W (.e a)) := by
  refine ⟨fun pins s σ H R I ⟨e, F, R0, q⟩ => ?_⟩
  simp only [evI] at q
  have hK := G.K
  cases he : evE T (callF T n) false a e with
  | exc z p e' =>
    rw [he] at q
    exact (pi_list ha).run pins s σ H R I ⟨e, F, R0, by rw [he]; exact q⟩
  | stuck => rw [he] at q; exact q.elim
  | ok r e1 =>
    rw [he] at q
    simp only [bd_ok] at q
    obtain ⟨⟨d, e2⟩, k1, q⟩ := q.opt
    obtain ⟨ds, k2, q⟩ := q.opt
    cases d <;> simp only [seqD] at k2 <;> cases k2
    case ok.tup.refl =>
      refine (pi_tup ha).run pins s σ H R I ⟨e, F, R0, ?_⟩
      rw [he]
      intro v F1 H1 t1 r1
      obtain ⟨F2, t2, rp, s2⟩ := frz_ok t1 r1 k1
      rw [Rep] at rp
      obtain ⟨a, vs, rfl, h1, h2⟩ := rp
      rw [hK]
      exact ⟨a, rfl, ⟨vs, t2.sr.sub.sqT h1⟩, q _ F2 H1 t2 (walkD_tup h1 h2)⟩
    case ok.lst.refl =>
      refine (pi_list ha).run pins s σ H R I ⟨e, F, R0, ?_⟩
      rw [he]
      intro v F1 H1 t1 r1
      obtain ⟨F2, t2, rp, s2⟩ := frz_ok t1 r1 k1
      rw [Rep] at rp
      obtain ⟨a, vs, rfl, h1, h2⟩ := rp
      have h1 : SqL C.K F2 a vs := .inl (.inl h1)
      rw [hK]
      exact ⟨a, rfl, ⟨vs, t2.sr.sub.sqL h1⟩, q _ F2 H1 t2 (walkD_list h1 h2)⟩
    case ok.scr.refl =>
      refine (pi_list ha).run pins s σ H R I ⟨e, F, R0, ?_⟩
      rw [he]
      intro v F1 H1 t1 r1
      obtain ⟨F2, t2, rp, s2⟩ := frz_ok t1 r1 k1
      rw [Rep] at rp
      obtain ⟨a, rfl, h1⟩ := rp
      rw [hK]
      exact ⟨a, rfl, ⟨_, t2.sr.sub.sqL h1⟩, q _ F2 H1 t2 (walkD_list h1 (repL_ints _))⟩
theorem conts_int {e : EV} {F H0 H : Hp} {σ : St} (R : SR C e F σ H) {rs : List RV} {vs : List V} {i : Int} (k : conts e rs = some [.int i]) (r : RVs C H0 F σ H e rs vs) : vs = [.int i] := by
  have l1 := conts_len k
  have l2 := r.len
  match vs, l2 with
  | [v], _ => rw [(conts_get (i := 0) R k r rfl rfl).int]
  | [], l2 => rw [← l1] at l2; cases l2
  | _ :: _ :: _, l2 => rw [← l1] at l2; simp at l2
theorem conts_int2 {e : EV} {F H0 H : Hp} {σ : St} (R : SR C e F σ H) {rs : List RV} {vs : List V} {i j : Int} (k : conts e rs = some [.int i, .int j]) (r : RVs C H0 F σ H e rs vs) : vs = [.int i, .int j] := by
  have l1 := conts_len k
  have l2 := r.len
  match vs, l2 with
  | [v, w], _ => rw [(conts_get (i := 0) R k r rfl rfl).int, (conts_get (i := 1) R k r rfl rfl).int]
  | [], l2 => rw [← l1] at l2; cases l2
  | [_], l2 => rw [← l1] at l2; cases l2
  | _ :: _ :: _ :: _, l2 => rw [← l1] at l2; simp at l2
theorem walkD_rangeC {F1 : Hp} {lo k : Int} {m : Nat} : WalkD C F1 (Itc lo k m) ((List.range m).map fun (j : Nat) => .int (lo + (j : Int) * k)) := by
  have hl : ((List.range m).map fun (j : Nat) => D.int (lo + (j : Int) * k)).length = m := by simp
  unfold WalkD
  rw [hl]
  exact walk_rangeC.mono (fun H s => trivial) fun i H x H' hi s y => ⟨.int (lo + i * k), by simp [hi], .inl ⟨y.1, by rw [y.2]; exact rep_int⟩⟩
theorem conts_int3 {e : EV} {F H0 H : Hp} {σ : St} (R : SR C e F σ H) {rs : List RV} {vs : List V} {i j l : Int} (k : conts e rs = some [.int i, .int j, .int l]) (r : RVs C H0 F σ H e rs vs) : vs = [.int i, .int j, .int l] := by
  have l1 := conts_len k
  have l2 := r.len
  match vs, l2 with
  | [v, w, u], _ => rw [(conts_get (i := 0) R k r rfl rfl).int, (conts_get (i := 1) R k r rfl rfl).int, (conts_get (i := 2) R k r rfl rfl).int]
  | [], l2 => rw [← l1] at l2; cases l2
  | [_], l2 => rw [← l1] at l2; cases l2
  | [_, _], l2 => rw [← l1] at l2; simp at l2
  | _ :: _ :: _ :: _ :: _, l2 => rw [← l1] at l2; simp at l2
theorem s_itR (G : Good T C n W c X) {as : List E} {xs : List Expr} {tg : Expr} {p pos : Pos} (hg : glB c.sc "range" = true) (ha : PA X xs (RA T C n W as)) (hs : xs.all nst = true) (hl : (xs.length == 1 || xs.length == 2 || xs.length == 3) = true) (hla : as.length = xs.length) :
    PI X tg (.Call (.Name "range" p) xs [] pos) (RI T C n W (.rng as)) := by
  obtain ⟨g1, g2, g3⟩ := G.glb hg
  have hm := G.gl.bi "range" (by decide)
  match xs, hl, hs, ha, hla with
  | [x], _, hs, ha, hla =>
    rw [List.all_cons, Bool.and_eq_true] at hs
    refine ⟨fun pins s σ H R I ⟨e, F, R0, q⟩ => (pi_range1 g1 hm ha (star_cons hs.1)).run pins s σ H R I ⟨e, F, R0, PostI.firstA (by simpa only [evI] using q) fun rs e1 vs F1 H1 hx t1 r1 q => ?_⟩⟩
    obtain ⟨ds, k1, q⟩ := q.opt
    obtain ⟨zs, k2, q⟩ := q.opt
    unfold rngD at k2
    split at k2
    · rename_i j
      split at k2 <;> cases k2
      rename_i hz
      rw [Bool.and_eq_true] at hz
      refine ⟨j, conts_int t1.sr k1 r1, of_decide_eq_true hz.1, of_decide_eq_true hz.2, q _ F1 H1 t1 walkD_range⟩
    · have h := (conts_len k1).trans ((evA_len hx).trans hla); simp at h
    · have h := (conts_len k1).trans ((evA_len hx).trans hla); simp at h
    · cases k2
  | [x, y], _, hs, ha, hla =>
    rw [List.all_cons, Bool.and_eq_true, List.all_cons, Bool.and_eq_true] at hs
    refine ⟨fun pins s σ H R I ⟨e, F, R0, q⟩ => (pi_range2 g1 hm ha (by rw [star_cons hs.1, star_cons hs.2.1]; rfl) (by rw [star_cons hs.2.1]; rfl)).run pins s σ H R I ⟨e, F, R0, PostI.firstA (by simpa only [evI] using q) fun rs e1 vs F1 H1 hx t1 r1 q => ?_⟩⟩
    obtain ⟨ds, k1, q⟩ := q.opt
    obtain ⟨zs, k2, q⟩ := q.opt
    unfold rngD at k2
    split at k2
    · have h := (conts_len k1).trans ((evA_len hx).trans hla); simp at h
    · rename_i i j
      split at k2 <;> cases k2
      rename_i hz
      simp only [Bool.and_eq_true] at hz
      refine ⟨i, j, conts_int2 t1.sr k1 r1, ⟨of_decide_eq_true hz.1.1.1, of_decide_eq_true hz.1.1.2, of_decide_eq_true hz.1.2, of_decide_eq_true hz.2⟩, q _ F1 H1 t1 walkD_range⟩
    · have h := (conts_len k1).trans ((evA_len hx).trans hla); simp at h
    · cases k2
  | [x, y, z], _, hs, ha, hla =>
    rw [List.all_cons, Bool.and_eq_true, List.all_cons, Bool.and_eq_true, List.all_cons, Bool.and_eq_true] at hs
    refine ⟨fun pins s σ H R I ⟨e, F, R0, q⟩ => (pi_range3 g1 hm ha (by rw [star_cons hs.1, star_cons hs.2.1]; first | done | rfl | (rw [star_cons hs.2.2.1]; rfl)) (by first | rfl | (rw [star_cons hs.2.1, star_cons hs.2.2.1]; rfl))).run pins s σ H R I ⟨e, F, R0, PostI.firstA (by simpa only [evI] using q) fun rs e1 vs F1 H1 hx t1 r1 q => ?_⟩⟩
    obtain ⟨ds, k1, q⟩ := q.opt
    obtain ⟨zs, k2, q⟩ := q.opt
    unfold rngD at k2
    split at k2
    · have h := (conts_len k1).trans ((evA_len hx).trans hla); simp at h
    · have h := (conts_len k1).trans ((evA_len hx).trans hla); simp at h
    · rename_i i j l
      split at k2 <;> cases k2
      rename_i hz
      simp only [Bool.and_eq_true, decide_eq_true_eq] at hz
      obtain ⟨⟨⟨⟨⟨⟨⟨z1, z2⟩, z3⟩, z4⟩, z5⟩, z6⟩, z7⟩, z8⟩ := hz
      exact ⟨i, j, l, _, conts_int3 t1.sr k1 r1, ⟨by omega, by omega, z7, (Int.toNat_of_nonneg z8).symm⟩, q _ F1 H1 t1 walkD_rangeC⟩
    · cases k2
theorem seqL_ok {F H0 H : Hp} {d : D} {v : V} {xs : List D} (s : Sub F H) (k : seqL d = some xs) (r : Rep C F d v) : ∃ a vs, v = .ref a ∧ SqL C.K F a vs ∧ RepL C F xs vs := by
  cases d <;> simp only [seqL] at k <;> cases k <;> rw [Rep] at r
  · obtain ⟨a, vs, rfl, h1, h2⟩ := r
    exact ⟨a, vs, rfl, .inl (.inl h1), h2⟩
  · obtain ⟨a, rfl, h1⟩ := r
    exact ⟨a, _, rfl, h1, repL_ints _⟩
theorem s_itN (G : Good T C n W c X) {a : E} {x : Expr} {elts : List Expr} {k : Nat} {tp p pos : Pos} (hg : glB c.sc "enumerate" = true) (ha : PE X x (RE T C n W a)) (hx : nst x = true) :
    PI X (.Tuple elts k tp) (.Call (.Name "enumerate" p) [x] [] pos) (RI T C n W (.enum a)) := by
  obtain ⟨g1, g2, g3⟩ := G.glb hg
  have hm := G.gl.bi "enumerate" (by decide)
  refine ⟨fun pins s σ H R I ⟨e, F, R0, q⟩ => (pi_enA g1 hm (pa_one ha hx) (star_cons hx)).run pins s σ H R I ⟨e, F, R0, PostI.first (by simpa only [evI] using q) fun r e1 v F1 H1 hx t1 r1 q => ?_⟩⟩
  obtain ⟨⟨d, e2⟩, k1, q⟩ := q.opt
  obtain ⟨ds, k2, q⟩ := q.opt
  obtain ⟨F2, t2, rp, s2⟩ := frz_ok t1 r1 k1
  rw [G.K]
  cases hd : seqL d with
  | some ds' =>
    have e : ds' = ds := by
      cases d <;> simp only [seqL, seqD] at hd k2 <;> first | (cases hd; done) | (cases hd; cases k2; rfl)
    subst e
    obtain ⟨a, vs, rfl, h1, h2⟩ := seqL_ok (H0 := H) t2.sr.sub hd rp
    exact ⟨a, vs, rfl, .inl ⟨t2.sr.sub.sqL h1, q _ F2 H1 t2 (walkD_enum h1 h2)⟩⟩
  | none =>
    cases d <;> simp only [seqL, seqD] at hd k2 <;> first | (cases hd; done) | (cases k2; done) | skip
    cases k2
    rw [Rep] at rp
    obtain ⟨a, vs, rfl, h1, h2⟩ := rp
    exact ⟨a, vs, rfl, .inr ⟨t2.sr.sub.sqT h1, q _ F2 H1 t2 (walkD_enT h1 h2)⟩⟩
theorem s_itZ (G : Good T C n W c X) {as : List E} {xs : List Expr} {elts : List Expr} {k : Nat} {tp p pos : Pos} (hg : glB c.sc "zip" = true) (ha : PA X xs (RA T C n W as)) (hs : xs.all nst = true) (hl : (xs.length == 2) = true) :
    PI X (.Tuple elts k tp) (.Call (.Name "zip" p) xs [] pos) (RI T C n W (.zip as)) := by
  obtain ⟨g1, g2, g3⟩ := G.glb hg
  have hm := G.gl.bi "zip" (by decide)
  match xs, hl, hs, ha with
  | [x, y], _, hs, ha =>
    have hs0 := hs
    rw [List.all_cons, Bool.and_eq_true, List.all_cons, Bool.and_eq_true] at hs
    refine ⟨fun pins s σ H R I ⟨e, F, R0, q⟩ => (RZ.pi_zipA g1 hm ha (star_cons hs.1) (star_any (by simp only [List.all_cons, hs.2.1, List.all_nil, Bool.and_self]))).run pins s σ H R I ⟨e, F, R0, PostI.firstA (by simpa only [evI] using q) fun rs e1 vs F1 H1 hx t1 r1 q => ?_⟩⟩
    obtain ⟨⟨ds, e2⟩, k1, q⟩ := q.opt
    obtain ⟨F2, t2, s2, rl⟩ := frzs_ok t1 r1 k1
    have two : ∀ {d1 d2 : D}, ds = [d1, d2] → ∃ v1 v2, vs = [v1, v2] ∧ Rep C F2 d1 v1 ∧ Rep C F2 d2 v2 := fun {d1 d2} e => by
      subst e
      simp only [RepL] at rl
      obtain ⟨v1, r, rfl, h1, v2, r2, rfl, h2, rfl⟩ := rl
      exact ⟨v1, v2, rfl, h1, h2⟩
    rw [G.K]
    dsimp only at q
    split at q
    · rename_i ys zs
      obtain ⟨v1, v2, rfl, h1, h2⟩ := two rfl
      rw [Rep] at h1 h2
      obtain ⟨a, us, rfl, p1, p2⟩ := h1
      obtain ⟨b, ws, rfl, p3, p4⟩ := h2
      refine ⟨a, b, us, ws, rfl, .inr ⟨t2.sr.sub.sqT p1, t2.sr.sub.sqT p3, q _ F2 H1 t2 (walkD_zip p2 p4 rfl ?_)⟩⟩
      refine ⟨fun i H hi q => ?_, fun H q => ⟨us, ws, q.sqT p1, q.sqT p3, by omega⟩, fun i H v H' hi q y => ?_⟩
      · have h1 : i < us.length := by omega
        have h2 : i < ws.length := by omega
        exact ⟨us, ws, us[i], ws[i], q.sqT p1, q.sqT p3, by simp [h1], by simp [h2]⟩
      · obtain ⟨T, x, z, h1, h2, h3, h4, h5⟩ := y
        exact ⟨T, x, z, h1, h2, h3, h4 us (q.sqT p1), h5 ws (q.sqT p3)⟩
    · rename_i d1 d2 _
      obtain ⟨v1, v2, rfl, h1, h2⟩ := two rfl
      obtain ⟨ys, k2, q⟩ := q.opt
      obtain ⟨zs, k3, q⟩ := q.opt
      obtain ⟨a, us, rfl, p1, p2⟩ := seqL_ok (H0 := H) t2.sr.sub k2 h1
      obtain ⟨b, ws, rfl, p3, p4⟩ := seqL_ok (H0 := H) t2.sr.sub k3 h2
      exact ⟨a, b, us, ws, rfl, .inl ⟨t2.sr.sub.sqL p1, t2.sr.sub.sqL p3, q _ F2 H1 t2 (walkD_zip p2 p4 rfl ((walk_zip rfl).mono (fun H s => ⟨s.sqL p1, s.sqL p3⟩) fun _ _ _ _ _ _ y => y))⟩⟩
    · exact q.elim
end
end PL
end

section
namespace PL
open PySem PySem.Spec L2

section
variable {C : G0} {e e0 e1 : EV} {F F0 F1 H H0 H1 : Hp} {σ σ0 σ1 : St}
theorem wipe_get : ∀ {own : List Nat} {σ : St} {j : Nat}, j < σ.length → (wipe σ own)[j]? = if j ∈ own then some none else σ[j]?
  | [], σ, j, h => by simp [wipe]
  | i :: own, σ, j, h => by
    rw [wipe]
    by_cases e : i = j
    · subst e
      have : i < (wipe σ own).length := by rw [wipe_length]; exact h
      simp [this]
    · rw [getE_set_ne e, wipe_get h]
      have : j ≠ i := Ne.symm e
      simp [this]
theorem wipeE_len : ∀ {own : List Nat} {e : EV}, (wipeE e own).length = e.length
  | [], e => rfl
  | i :: own, e => by rw [wipeE, List.length_set, wipeE_len]
theorem wipeE_get : ∀ {own : List Nat} {e : EV} {j : Nat}, j < e.length → (wipeE e own)[j]? = if j ∈ own then some .un else e[j]?
  | [], e, j, h => by simp [wipeE]
  | i :: own, e, j, h => by
    rw [wipeE]
    by_cases q : i = j
    · subst q
      have : i < (wipeE e own).length := by rw [wipeE_len]; exact h
      simp [this]
    · rw [getE_set_ne q, wipeE_get h]
      have : j ≠ i := Ne.symm q
      simp [this]
theorem wipe_congr {own : List Nat} {σ2 : St} (hl : σ2.length = σ.length) (h : ∀ j, j ∉ own → σ2[j]? = σ[j]?) : wipe σ2 own = wipe σ own := by
  apply List.ext_getElem?
  intro j
  by_cases hj : j < σ.length
  · rw [wipe_get hj, wipe_get (by rw [hl]; exact hj)]
    split
    · rfl
    · rename_i q; exact h j q
  · rw [List.getElem?_eq_none (by rw [wipe_length, hl]; omega), List.getElem?_eq_none (by rw [wipe_length]; omega)]
theorem wipe_wipe {own : List Nat} : wipe (wipe σ own) own = wipe σ own := wipe_congr (wipe_length _ _) fun j h => by
  by_cases hj : j < σ.length
  · rw [wipe_get hj, if_neg h]
  · rw [List.getElem?_eq_none (by rw [wipe_length]; omega), List.getElem?_eq_none (by omega)]
theorem SR.unset {i : Nat} (R : SR C e F σ H) : SR C (e.set i .un) F (σ.set i none) H := by
  have old : ∀ (j : Nat) (t : SV), (e.set i .un)[j]? = some t → t.mine = true → j ≠ i ∧ e[j]? = some t := fun j t q mt => by
    by_cases ej : i = j
    · subst ej
      rw [List.getElem?_set_self'] at q
      cases z : e[i]? with
      | none => rw [z] at q; cases q
      | some u => rw [z] at q; cases q; cases mt
    · rw [getE_set_ne ej] at q; exact ⟨Ne.symm ej, q⟩
  refine ⟨R.sub, fun j s q => ?_, fun j k s t a q1 q2 m1 m2 a1 a2 => ?_, by simp [R.len]⟩
  · by_cases ej : i = j
    · subst ej
      rw [List.getElem?_set_self'] at q
      cases z : e[i]? with
      | none => rw [z] at q; cases q
      | some u => rw [z] at q; cases q; trivial
    · rw [getE_set_ne ej] at q; rw [getE_set_ne ej]; exact R.slot j s q
  · obtain ⟨n1, o1⟩ := old j s q1 m1
    obtain ⟨n2, o2⟩ := old k t q2 m2
    rw [getE_set_ne (Ne.symm n1)] at a1
    rw [getE_set_ne (Ne.symm n2)] at a2
    exact R.dis j k s t a o1 o2 m1 m2 a1 a2
theorem SR.wipe (R : SR C e F σ H) : ∀ own : List Nat, SR C (wipeE e own) F (L2.wipe σ own) H
  | [] => R
  | i :: own => (SR.wipe R own).unset
theorem Tr.wipe (t : Tr C e0 F0 σ0 H0 e F σ H) : ∀ own : List Nat, (∀ i ∈ own, ∀ d, e0[i]? ≠ some (.bor d) ∧ e0[i]? ≠ some (.fro d)) → Tr C e0 F0 σ0 H0 (wipeE e own) F (L2.wipe σ own) H
  | [], _ => t
  | i :: own, h => by
    have ih := Tr.wipe t own fun j hj => h j (by simp [hj])
    by_cases hl : i < (wipeE e own).length
    · exact set0 ih hl (fun d => (h i (by simp) d).1) (fun d => (h i (by simp) d).2) (.inl rfl)
    · have h2 : ¬ i < (L2.wipe σ own).length := by rw [wipe_length]; rw [wipeE_len] at hl; rw [← t.sr.len]; exact hl
      rw [wipeE, L2.wipe, List.set_eq_of_length_le (by omega), List.set_eq_of_length_le (by omega)]
      exact ih
theorem Tr.pad {p : Addr} {o : HO} (t : Tr C e F σ H e1 F1 σ1 H1) (hp : H p = none) (hF : F1 p = none) (hn : ¬ OwnA e1 σ1 p) : Tr C e F σ H e1 F1 σ1 (upd H1 p o) := by
  have R := t.sr
  refine ⟨⟨fun b u q => ?_, fun j s q => ?_, R.dis, R.len⟩, t.fs, fun b u q n => ?_, fun b q => ?_, t.new, t.own, t.nob, t.bor, t.fro, t.len⟩
  · rw [upd_ne fun e => by subst e; rw [hF] at q; cases q]; exact R.sub b u q
  · have z := R.slot j s q
    cases s with
    | un => trivial
    | val d' => exact z
    | fro d' => exact z
    | own d' =>
      obtain ⟨b, q1, q2⟩ := z
      have hne : b ≠ p := fun e => hn ⟨j, _, q, rfl, by rw [← e]; exact q1⟩
      exact ⟨b, q1, q2.mono (Sub.refl _) q2.1 fun o ho => by rw [upd_ne hne]; exact ho⟩
    | bor d' =>
      obtain ⟨b, q1, q2⟩ := z
      have hne : b ≠ p := fun e => hn ⟨j, _, q, rfl, by rw [← e]; exact q1⟩
      exact ⟨b, q1, q2.mono (Sub.refl _) q2.1 fun o ho => by rw [upd_ne hne]; exact ho⟩
  · rw [upd_ne (ne_of_none q hp)]; exact t.keep b u q n
  · by_cases e : b = p
    · subst e; rw [upd_same]; simp
    · rw [upd_ne e]; exact t.there b q
/-- what a turn leaves alone, but for its own slots -/
def Dn (own : List Nat) (e e' : EV) : Prop := (∀ (i : Nat) (s : SV), i ∉ own → e[i]? = some s → s.dat.isSome = true → ∃ s', e'[i]? = some s' ∧ s'.dat.isSome = true) ∧
  ∀ (i : Nat) (s' : SV), i ∉ own → e'[i]? = some s' → s'.mine = true → ∃ s, e[i]? = some s ∧ s.mine = true
theorem Dn.refl (own : List Nat) (e : EV) : Dn own e e := ⟨fun i s _ h k => ⟨s, h, k⟩, fun i s _ h k => ⟨s, h, k⟩⟩
theorem Dn.trans {own : List Nat} {a b d : EV} (x : Dn own a b) (y : Dn own b d) : Dn own a d :=
  ⟨fun i s n h k => by obtain ⟨s1, h1, k1⟩ := x.1 i s n h k; exact y.1 i s1 n h1 k1, fun i s n h k => by obtain ⟨s1, h1, k1⟩ := y.2 i s n h k; exact x.2 i s1 n h1 k1⟩
theorem Dn.same {own : List Nat} {a b : EV} (h : ∀ j, j ∉ own → b[j]? = a[j]?) : Dn own a b :=
  ⟨fun i s n q k => ⟨s, by rw [h i n]; exact q, k⟩, fun i s n q k => ⟨s, by rw [← h i n]; exact q, k⟩⟩
theorem Dn.ofE {own : List Nat} {H' F' : Hp} {e' : EV} (t : TrE C e F σ H e' F' H') : Dn own e e' := ⟨fun i s _ => t.dat i s, fun i s _ => t.nom i s⟩
theorem Dn.wipe {own : List Nat} {a : EV} : Dn own a (wipeE a own) := Dn.same fun j h => by
  by_cases hj : j < a.length
  · rw [wipeE_get hj, if_neg h]
  · rw [List.getElem?_eq_none (by rw [wipeE_len]; omega), List.getElem?_eq_none (by omega)]
theorem unwipe_len : ∀ {own : List Nat} {a b : EV}, (unwipe a b own).length = b.length
  | [], a, b => rfl
  | i :: own, a, b => by
    rw [unwipe]
    split
    · rw [List.length_set, unwipe_len]
    · rw [unwipe_len]
theorem unwipe_get : ∀ {own : List Nat} {a b : EV} {j : Nat}, a.length = b.length → j < b.length → (unwipe a b own)[j]? = if j ∈ own then a[j]? else b[j]?
  | [], a, b, j, _, h => by simp [unwipe]
  | i :: own, a, b, j, hl, h => by
    rw [unwipe]
    split
    · rename_i s hs
      by_cases q : i = j
      · subst q
        have : i < (unwipe a b own).length := by rw [unwipe_len]; exact h
        simp [this, hs]
      · rw [getE_set_ne q, unwipe_get hl h]
        have : j ≠ i := Ne.symm q
        simp [this]
    · rename_i hs
      have : j ≠ i := fun q => by subst q; rw [List.getElem?_eq_getElem (by omega)] at hs; cases hs
      rw [unwipe_get hl h]
      simp [this]
/-- behind a block -/
theorem unwipe_ok {own : List Nat} {eL : EV} {FL HL : Hp} (R : SR C e1 F1 σ H1) (u : Tr C (wipeE e1 own) F1 (wipe σ own) H1 eL FL (wipe σ own) HL) (dn : Dn own (wipeE e1 own) eL) : TrE C e1 F1 σ H1 (unwipe e1 eL own) FL HL := by
  have hlL : eL.length = e1.length := by rw [u.len, wipeE_len]
  have lt : ∀ {j : Nat} {s : SV} {l : EV}, l.length = e1.length → l[j]? = some s → j < e1.length := fun {j s l} h q => by rw [← h]; exact (List.getElem?_eq_some_iff.mp q).1
  have gu : ∀ {j : Nat}, j < e1.length → (unwipe e1 eL own)[j]? = if j ∈ own then e1[j]? else eL[j]? := fun {j} h => unwipe_get hlL.symm (by rw [hlL]; exact h)
  have ge : ∀ {j : Nat}, j < e1.length → (wipeE e1 own)[j]? = if j ∈ own then some .un else e1[j]? := fun {j} h => wipeE_get h
  have gs : ∀ {j : Nat}, j < e1.length → (L2.wipe σ own)[j]? = if j ∈ own then some none else σ[j]? := fun {j} h => wipe_get (by rw [← R.len]; exact h)
  have lu : (unwipe e1 eL own).length = e1.length := by rw [unwipe_len, hlL]
  have ownW : ∀ {b : Addr}, OwnA (wipeE e1 own) (L2.wipe σ own) b → ∃ (j : Nat) (s : SV), j ∉ own ∧ e1[j]? = some s ∧ s.mine = true ∧ σ[j]? = some (some (.ref b)) := fun {b} ⟨j, s, h1, h2, h3⟩ => by
    have hj := lt (wipeE_len) h1
    rw [ge hj] at h1
    rw [gs hj] at h3
    by_cases ho : j ∈ own
    · rw [if_pos ho] at h1; cases h1; cases h2
    · rw [if_neg ho] at h1 h3; exact ⟨j, s, ho, h1, h2, h3⟩
  have ownE : ∀ {b : Addr}, OwnA (wipeE e1 own) (L2.wipe σ own) b → OwnA e1 σ b := fun h => by
    obtain ⟨j, s, _, h1, h2, h3⟩ := ownW h
    exact ⟨j, s, h1, h2, h3⟩
  -- a mine slot of the end: own slot as it was, or another one
  have nom : ∀ (i : Nat) (s' : SV), (unwipe e1 eL own)[i]? = some s' → s'.mine = true → ∃ s, e1[i]? = some s ∧ s.mine = true := fun i s' h m => by
    have hi := lt lu h
    rw [gu hi] at h
    by_cases ho : i ∈ own
    · rw [if_pos ho] at h; exact ⟨s', h, m⟩
    · rw [if_neg ho] at h
      obtain ⟨s, h1, h2⟩ := dn.2 i s' ho h m
      rw [ge hi, if_neg ho] at h1
      exact ⟨s, h1, h2⟩
  refine ⟨⟨⟨u.sr.sub, fun i s h => ?_, fun i k s s' a h1 h2 m1 m2 a1 a2 => ?_, by rw [lu]; exact R.len⟩, u.fs, fun b o h n => u.keep b o h fun q => n (ownE q), u.there, fun b o h => ?_, fun i d a h1 h2 => ?_, fun i d h => ?_, fun i d h => ⟨rfl, ?_⟩, fun i d h => ⟨rfl, ?_⟩, lu⟩, fun i s h k => ?_, nom⟩
  · have hi := lt lu h
    rw [gu hi] at h
    by_cases ho : i ∈ own
    · rw [if_pos ho] at h
      have z := R.slot i s h
      have stay : ∀ {d : D} {a : Addr}, s.mine = true → σ[i]? = some (some (.ref a)) → Mine C F1 H1 d a → Mine C FL HL d a := fun {d a} ms ea mm => by
        have no : ¬ OwnA (wipeE e1 own) (L2.wipe σ own) a := fun oa => by
          obtain ⟨j, s', w0, w1, w2, w3⟩ := ownW oa
          have := R.dis j i s' s a w1 h w2 ms w3 ea
          subst this
          exact w0 ho
        refine mm.mono u.fs ?_ fun o ho => u.keep a o ho no
        cases fa : FL a with
        | none => rfl
        | some o =>
          obtain ⟨o', ho'⟩ := mm.there
          rcases u.new a o fa with w | w | w
          · rw [mm.1] at w; cases w
          · rw [ho'] at w; cases w
          · exact absurd w no
      cases s with
      | un => trivial
      | val d => obtain ⟨v, z1, z2⟩ := z; exact ⟨v, z1, z2.mono u.fs⟩
      | fro d => obtain ⟨v, z1, z2⟩ := z; exact ⟨v, z1, z2.mono u.fs⟩
      | own d => obtain ⟨a, z1, z2⟩ := z; exact ⟨a, z1, stay rfl z1 z2⟩
      | bor d => obtain ⟨a, z1, z2⟩ := z; exact ⟨a, z1, stay rfl z1 z2⟩
    · rw [if_neg ho] at h
      have z := u.sr.slot i s h
      rw [gs hi, if_neg ho] at z
      exact z
  · obtain ⟨t1, w1, w2⟩ := nom i s h1 m1
    obtain ⟨t2, w3, w4⟩ := nom k s' h2 m2
    exact R.dis i k t1 t2 a w1 w3 w2 w4 a1 a2
  · rcases u.new b o h with w | w | w
    · exact .inl w
    · exact .inr (.inl w)
    · exact .inr (.inr (ownE w))
  · have hi := lt lu h1
    have h0 := h1
    rw [gu hi] at h1
    by_cases ho : i ∈ own
    · rw [if_pos ho] at h1; exact .inl ⟨i, d, h1, h2⟩
    · rw [if_neg ho] at h1
      rcases u.own i d a h1 (by rw [gs hi, if_neg ho]; exact h2) with ⟨j, d', k1, k2⟩ | k
      · have hj := lt wipeE_len k1
        rw [ge hj] at k1
        rw [gs hj] at k2
        by_cases hjo : j ∈ own
        · rw [if_pos hjo] at k1; cases k1
        · rw [if_neg hjo] at k1 k2; exact .inl ⟨j, d', k1, k2⟩
      · exact .inr k
  · have hi := lt lu h
    rw [gu hi] at h
    by_cases ho : i ∈ own
    · rw [if_pos ho] at h; exact ⟨d, h⟩
    · rw [if_neg ho] at h
      obtain ⟨d', k⟩ := u.nob i d h
      rw [ge hi, if_neg ho] at k
      exact ⟨d', k⟩
  · have hi := lt rfl h
    rw [gu hi]
    by_cases ho : i ∈ own
    · rw [if_pos ho]; exact ⟨d, .inl h⟩
    · rw [if_neg ho]
      exact (u.bor i d (by rw [ge hi, if_neg ho]; exact h)).2
  · have hi := lt rfl h
    rw [gu hi]
    by_cases ho : i ∈ own
    · rw [if_pos ho]; exact h
    · rw [if_neg ho]
      exact (u.fro i d (by rw [ge hi, if_neg ho]; exact h)).2
  · have hi := lt rfl h
    rw [gu hi]
    by_cases ho : i ∈ own
    · rw [if_pos ho]; exact ⟨s, h, k⟩
    · rw [if_neg ho]
      exact dn.1 i s ho (by rw [ge hi, if_neg ho]; exact h) k
end
end PL
end

section
namespace PL
open PySem PySem.Spec L2

section
variable {T : GT} {C : G0} {n : Nat} {W : WX} {c : CC} {X : Cx}
abbrev W0 : WX := fun _ _ _ _ => False
theorem takes0 : Takes X W0 := fun u s' ⟨a, B, sI, pins, σ, H, cls, d, e, I, nb, up, sky, na, os, ag, w⟩ => w.elim
theorem Good.blk (G : Good T C n W c X) (scope : Scope) (s : Shared) (H : Hp) (cl : List (Str × Addr)) (p : Addr) (fp : List Addr) : Good T C n W0 (blkCC c scope) (X.blk s H scope (compEnvC scope cl p X.env) fp) where
  K := G.K
  N := G.N
  nd := G.nd
  sc := by
    show relS scope X.env.scope = relS scope c.sc
    rw [G.sc]
  st := fun i x h => by
    unfold stB at h
    rw [Bool.and_eq_true, Bool.and_eq_true] at h
    obtain ⟨⟨h1, h2⟩, h3⟩ := h
    have e : (X.blk s H scope (compEnvC scope cl p X.env) fp).env.scope = relS scope c.sc := by
      show relS scope X.env.scope = relS scope c.sc
      rw [G.sc]
    rw [e]
    have h3 : locB scope x = true := h3
    refine ⟨?_, ?_⟩
    · have h2 : locB (relS scope c.sc) x = true := h2
      unfold locB at h2
      split at h2 <;> first | exact .inl (by assumption) | exact .inr (by assumption) | cases h2
    · unfold locB at h3
      split at h3
      · rename_i q
        exact .inr (lookup_relS_keep (by simp) q)
      · rename_i q
        exact .inl (by show (scope.names.lookup x == some .cell) = true; rw [q]; rfl)
      · cases h3
  cm := G.cm
  hu := G.hu
  room := G.room
  tk := takes0
  gl := ⟨G.gl.names, G.gl.fns, G.gl.cons, G.gl.bi, G.gl.gcd, G.gl.dcs⟩
def RC (T : GT) (C : G0) (n : Nat) (W : WX) (a : Option E) : TT := fun σ H Q => ∃ e F, SR C e F σ H ∧ PostB C W e F σ H (evC T (callF T n) a e) Q
theorem s_no : PTs X [] (RC T C n W none) := ⟨fun pins s σ H Q I ⟨e, F, R, q⟩ => by
  simp only [evC] at q
  exact pts_nil.run pins s σ H Q I (q F H (TrE.refl R))⟩
theorem s_one {a : E} {x : Expr} (h : PT X x (RT T C n W a)) : PTs X [x] (RC T C n W (some a)) := ⟨fun pins s σ H Q I ⟨e, F, R, q⟩ => by
  simp only [evC] at q
  exact (pts_one h).run pins s σ H Q I ⟨e, F, R, q⟩⟩
def isSetE : Expr → Bool
  | .Set .. => true
  | _ => false
theorem folded_no {x : Expr} (h : isSetE x = false) {env : Env} : ∀ v, foldedSetIterable x env v = pure v := fun v => by
  cases x <;> first | rfl | cases h
/-- the turns' function -/
def turnF (T : GT) (n : Nat) (tg : Tg) (cond : Option E) (elt : E) : D → EV → Out (Option D) := fun d e => opt (asg tg d e) fun e1 => (evC T (callF T n) cond e1).bd fun k e2 => if k then (evE T (callF T n) false elt e2).bd fun r e3 => opt (frz e3 r) fun (x, e4) => .ok (some x) e4 else .ok none e2
theorem s_lcTurns {own : List Nat} {tg : Tg} {cond : Option E} {elt : E} {e1 : EV} {F1 H1 : Hp} {σ : St} {Q : VK} {J : L2.It} {ds : List D} (hix : (tgIx tg).all own.contains = true)
    (R1 : SR C e1 F1 σ H1) (wk : WalkD C F1 J ds) {D0 : Addr} (hD : H1 D0 = none) (q : match compL (turnF T n tg cond elt) own ds (wipeE e1 own) [] with
      | .ok acc eL => ∀ FL HL accV, Tr C (wipeE e1 own) F1 (wipe σ own) H1 eL FL (wipe σ own) HL → Dn own (wipeE e1 own) eL → HL D0 = some (.lst accV) → RepL C FL acc accV → FL D0 = none → ¬ OwnA eL (wipe σ own) D0 → Q (.ref D0) HL
      | _ => False) :
    ∃ W : Nat → Nat → Hp → Prop, (∃ m, W 0 m (upd H1 D0 (.lst []))) ∧ ∀ i m H, W i m H →
      (J.stop i H ∧ Q (.ref D0) H) ∨ (J.go i H ∧ ∃ Nx : Hp → Prop, (∀ H', Nx H' → ∃ m', m' < m ∧ W (i + 1) m' H') ∧ ∀ x H', J.yld i H x H' → gTg C.K tg x (wipe σ own) H' fun σ2 H2 => wipe σ2 own = wipe σ own ∧ RC T C n W0 cond σ2 H2 fun b H3 =>
        if b = true then RE T C n W0 elt σ2 H3 fun y H4 => ∃ acc, H4 D0 = some (.lst acc) ∧ acc.length < sizeLine ∧ Nx (upd H4 D0 (.lst (acc ++ [y]))) else Nx H3) := by
  have Rw : SR C (wipeE e1 own) F1 (wipe σ own) H1 := R1.wipe own
  have hF1 : F1 D0 = none := by
    cases z : F1 D0 with
    | none => rfl
    | some u => rw [R1.sub _ _ z] at hD; cases hD
  have nown0 : ¬ OwnA (wipeE e1 own) (wipe σ own) D0 := fun oa => by
    obtain ⟨_, o, h⟩ := Rw.ownNone oa
    rw [hD] at h; cases h
  have nob : ∀ i ∈ own, ∀ d, (wipeE e1 own)[i]? ≠ some (.bor d) ∧ (wipeE e1 own)[i]? ≠ some (.fro d) := fun i hi d => by
    by_cases hl : i < e1.length
    · rw [wipeE_get hl, if_pos hi]; simp
    · rw [List.getElem?_eq_none (by rw [wipeE_len]; omega)]; simp
  refine lc_it (Qd := fun H => Q (.ref D0) H) wk (fun i H => ∃ e' F' acc accV, Tr C (wipeE e1 own) F1 (wipe σ own) H1 e' F' (wipe σ own) H ∧ Dn own (wipeE e1 own) e' ∧ H D0 = some (.lst accV) ∧ RepL C F' acc accV ∧ F' D0 = none ∧ ¬ OwnA e' (wipe σ own) D0 ∧
      (match compL (turnF T n tg cond elt) own (ds.drop i) e' acc with
      | .ok acc eL => ∀ FL HL accV, Tr C (wipeE e1 own) F1 (wipe σ own) H1 eL FL (wipe σ own) HL → Dn own (wipeE e1 own) eL → HL D0 = some (.lst accV) → RepL C FL acc accV → FL D0 = none → ¬ OwnA eL (wipe σ own) D0 → Q (.ref D0) HL
      | _ => False)) ?_ ?_ ?_ ?_
  · exact ⟨wipeE e1 own, F1, [], [], (Tr.refl Rw).pad hD hF1 nown0, Dn.refl _ _, upd_same, .nil, hF1, nown0, by simpa using q⟩
  · rintro i H hi ⟨e', F', acc, accV, t, _⟩
    exact t.fs.trans t.sr.sub
  · rintro i x H H' hi ⟨e', F', acc, accV, t, dn, hd, racc, fd, no, q⟩ ⟨d, hdi, hy⟩
    have hdrop : ds.drop i = d :: ds.drop (i + 1) := by
      rw [List.drop_eq_getElem_cons hi]
      rw [List.getElem?_eq_getElem hi] at hdi; cases hdi; rfl
    rw [hdrop, compL] at q
    -- the state behind the yield
    obtain ⟨F'', t2, s2, rx, hd', fd'⟩ : ∃ F'', Tr C (wipeE e1 own) F1 (wipe σ own) H1 e' F'' (wipe σ own) H' ∧ Sub F' F'' ∧ Rep C F'' d x ∧ H' D0 = some (.lst accV) ∧ F'' D0 = none := by
      rcases hy with ⟨rfl, r⟩ | ⟨p, d1, d2, x1, x2, rfl, hp, rfl, rfl, r1, r2⟩
      · exact ⟨F', t, Sub.refl _, r.mono t.fs, hd, fd⟩
      · have u := (TrE.refl t.sr).newT (o := .tup [x1, x2]) hp
        have hne : D0 ≠ p := fun e => by subst e; rw [hd] at hp; cases hp
        refine ⟨_, t.trans u.toTr, u.fs, ?_, by rw [upd_ne hne]; exact hd, by rw [upd_ne hne]; exact fd⟩
        rw [Rep]
        exact ⟨p, [x1, x2], rfl, .inl (.inl upd_same), (RepL.cons r1 (.cons r2 .nil)).mono (t.fs.trans u.fs)⟩
    have racc := racc.mono s2
    cases ka : asg tg d e' with
    | none => simp only [turnF, ka, opt_none] at q
    | some e2 =>
      simp only [turnF, ka, opt_some] at q
      refine asg_ok t2 rx ka fun σ2 t3 ar => ⟨?_, e2, F'', t3.sr, ?_⟩
      · have : L2.wipe σ2 own = L2.wipe (L2.wipe σ own) own := wipe_congr ar.len fun j hj => (ar.same j fun z => hj (List.contains_iff_mem.mp (List.all_eq_true.mp hix j z))).1
        rw [this, wipe_wipe]
      have hw : L2.wipe σ2 own = L2.wipe σ own := by
        have : L2.wipe σ2 own = L2.wipe (L2.wipe σ own) own := wipe_congr ar.len fun j hj => (ar.same j fun z => hj (List.contains_iff_mem.mp (List.all_eq_true.mp hix j z))).1
        rw [this, wipe_wipe]
      have dn2 : Dn own (wipeE e1 own) e2 := dn.trans (Dn.same fun j hj => (ar.same j fun z => hj (List.contains_iff_mem.mp (List.all_eq_true.mp hix j z))).2)
      have no2 : ¬ OwnA e2 σ2 D0 := fun ⟨j, s, h1, h2, h3⟩ => by
        obtain ⟨k1, k2⟩ := ar.mine j s h1 h2
        exact no ⟨j, s, k1, h2, by rw [← k2]; exact h3⟩
      -- what an evaluation leaves of the new list
      have after : ∀ {e4 : EV} {F4 H4 : Hp}, TrE C e2 F'' σ2 H' e4 F4 H4 → H4 D0 = some (.lst accV) ∧ F4 D0 = none ∧ ¬ OwnA e4 σ2 D0 := fun {e4 F4 H4} u => by
        refine ⟨u.keep _ _ hd' no2, ?_, fun z => no2 (u.ownA' z)⟩
        cases z : F4 D0 with
        | none => rfl
        | some o =>
          rcases u.new _ _ z with w | w | w
          · rw [fd'] at w; cases w
          · rw [hd'] at w; cases w
          · exact absurd w no2
      have nown3 : ∀ {e4 : EV}, ¬ OwnA e4 σ2 D0 → ¬ OwnA (wipeE e4 own) (L2.wipe σ own) D0 := fun {e4} h ⟨j, s, h1, h2, h3⟩ => by
        have hj : j < (wipeE e4 own).length := (List.getElem?_eq_some_iff.mp h1).1
        rw [wipeE_len] at hj
        have hjs : j < (L2.wipe σ own).length := (List.getElem?_eq_some_iff.mp h3).1
        rw [← hw, wipe_length] at hjs
        rw [wipeE_get hj] at h1
        rw [← hw, wipe_get hjs] at h3
        by_cases ho : j ∈ own
        · rw [if_pos ho] at h1; cases h1; cases h2
        · rw [if_neg ho] at h1 h3; exact h ⟨j, s, h1, h2, h3⟩
      revert q
      generalize evC T (callF T n) cond e2 = o
      intro q
      cases o with
      | exc z p e' => exact q.elim
      | stuck => exact q.elim
      | ok b e3 =>
        intro F3 H3 t4
        simp only [bd_ok] at q
        cases b with
        | false =>
          simp only [Bool.false_eq_true, if_false] at q ⊢
          obtain ⟨a1, a2, a3⟩ := after t4
          refine ⟨wipeE e3 own, F3, acc, accV, ?_, dn2.trans ((Dn.ofE t4).trans Dn.wipe), a1, racc.mono t4.fs, a2, nown3 a3, q⟩
          have := (t3.trans t4.toTr).wipe own nob
          rw [hw] at this
          exact this
        | true =>
          simp only [if_true] at q ⊢
          refine ⟨e3, F3, t4.sr, ?_⟩
          revert q
          generalize evE T (callF T n) false elt e3 = o
          intro q
          cases o with
          | exc z p e' => exact q.elim
          | stuck => exact q.elim
          | ok r e4 =>
            intro v F4 H4 t5 r5
            simp only [bd_ok] at q
            cases kf : frz e4 r with
            | none => rw [kf] at q; exact q.elim
            | some z =>
              obtain ⟨xd, e5⟩ := z
              rw [kf] at q
              simp only [opt_some] at q
              obtain ⟨F5, t6, rp, s6⟩ := frz_ok t5 r5 kf
              obtain ⟨a1, a2, a3⟩ := after (t4.trans t6)
              by_cases hz : acc.length < sizeL
              · rw [if_pos hz] at q
                have racc := racc.mono (t4.trans t6).fs
                refine ⟨accV, a1, by rw [← sizeL_eq, ← racc.len]; exact hz, wipeE e5 own, F5, acc ++ [xd], accV ++ [v], ?_, dn2.trans (((Dn.ofE t4).trans (Dn.ofE t6)).trans Dn.wipe), upd_same, racc.append (.cons rp .nil), a2, nown3 a3, q⟩
                have := (t3.trans (t4.trans t6).toTr).wipe own nob
                rw [hw] at this
                exact this.pad hD a2 (nown3 a3)
              · rw [if_neg hz] at q; exact q.elim
  · rintro H ⟨e', F', acc, accV, t, dn, hd, racc, fd, no, q⟩
    rw [List.drop_length, compL] at q
    exact q F' H accV t dn hd racc fd no
/-- the iterable is walked; what the block gives -/
theorem rd_comp {own : List Nat} {it : It} {tg : Tg} {cond : Option E} {elt : E} {σ : St} {H : Hp} {Q : VK} (hix : (tgIx tg).all own.contains = true) (h : RE T C n W (.comp own it tg cond elt) σ H Q) :
    tLc (RI T C n W it) (gTg C.K tg) (RC T C n W0 cond) (RE T C n W0 elt) own σ H Q := by
  obtain ⟨e, F, R, q⟩ := h
  refine ⟨e, F, R, ?_⟩
  have q : PostE C W e F σ H ((evI T (callF T n) it e).bd fun ds e1 => (compL (turnF T n tg cond elt) own ds (wipeE e1 own) []).bd fun acc e2 => .ok (.t (.lst acc)) (unwipe e1 e2 own)) Q := q
  revert q
  generalize evI T (callF T n) it e = o
  intro q
  cases o with
  | exc z p e' => exact q
  | stuck => exact q
  | ok ds e1 =>
    intro J F1 H1 t1 wk D0 hD
    refine s_lcTurns (T := T) (n := n) hix t1.sr wk hD ?_
    simp only [bd_ok] at q
    revert q
    generalize ho : compL (turnF T n tg cond elt) own ds (wipeE e1 own) [] = o
    intro q
    cases o with
    | exc z p e' =>
      have : ∀ (ds : List D) (e : EV) (acc : List D), compL (turnF T n tg cond elt) own ds e acc ≠ .exc z p e' := fun ds => by
        induction ds with
        | nil => intro e acc; rw [compL]; simp
        | cons d ds ih =>
          intro e acc
          rw [compL]
          split
          · split
            · exact ih _ _
            · simp
          · exact ih _ _
          · simp
      exact absurd ho (this _ _ _)
    | stuck => exact q
    | ok acc eL =>
      intro FL HL accV t dn hd racc fd no
      have tt := t1.trans (unwipe_ok t1.sr t dn)
      refine q _ FL HL tt ⟨D0, rfl, ⟨fd, accV, hd, racc⟩, ?_, fun z => ?_⟩
      · by_cases z : H D0 = none
        · exact z
        · exact absurd hD (t1.there _ z)
      · obtain ⟨_, o, ho⟩ := t1.sr.ownNone ((unwipe_ok t1.sr t dn).ownA' z)
        rw [hD] at ho; cases ho
/-! ### two clauses -/
theorem Dn.weak {own own1 : List Nat} {a b : EV} (h : ∀ i ∈ own1, i ∈ own) (d : Dn own1 a b) : Dn own a b := ⟨fun i s n => d.1 i s fun m => n (h i m), fun i s n => d.2 i s fun m => n (h i m)⟩
theorem wipe_in {own own1 : List Nat} {σ : St} (h : ∀ i ∈ own1, i ∈ own) : wipe (wipe σ own1) own = wipe σ own := wipe_congr (wipe_length _ _) fun j hj => by
  by_cases hl : j < σ.length
  · rw [wipe_get hl, if_neg fun m => hj (h j m)]
  · rw [List.getElem?_eq_none (by rw [wipe_length]; omega), List.getElem?_eq_none (by omega)]
theorem nown_wipe {own : List Nat} {e4 : EV} {σ σ2 : St} {D0 : Addr} (hw : L2.wipe σ2 own = L2.wipe σ own) (h : ¬ OwnA e4 σ2 D0) : ¬ OwnA (wipeE e4 own) (L2.wipe σ own) D0 := fun ⟨j, s, h1, h2, h3⟩ => by
  have hj : j < (wipeE e4 own).length := (List.getElem?_eq_some_iff.mp h1).1
  rw [wipeE_len] at hj
  have hjs : j < (L2.wipe σ own).length := (List.getElem?_eq_some_iff.mp h3).1
  rw [← hw, wipe_length] at hjs
  rw [wipeE_get hj] at h1
  rw [← hw, wipe_get hjs] at h3
  by_cases ho : j ∈ own
  · rw [if_pos ho] at h1; cases h1; cases h2
  · rw [if_neg ho] at h1 h3; exact h ⟨j, s, h1, h2, h3⟩
/-- turns of any kind -/
theorem itG {J : L2.It} {m : Nat} {Gd : Hp → Prop} {Y : Nat → Hp → V → Hp → Prop} (w : Walk J m Gd Y) {H1 : Hp} {Qd : Hp → Prop} (Bo : V → Hp → (Hp → Prop) → Prop) (P : Nat → Hp → Prop) (h0 : P 0 H1) (hG : ∀ i H, i ≤ m → P i H → Gd H)
    (hs : ∀ i x H H', i < m → P i H → Y i H x H' → Bo x H' (P (i + 1))) (hd : ∀ H, P m H → Qd H) :
    ∃ W : Nat → Nat → Hp → Prop, (∃ k, W 0 k H1) ∧ ∀ i k H, W i k H → (J.stop i H ∧ Qd H) ∨ (J.go i H ∧ ∃ Nx : Hp → Prop, (∀ H', Nx H' → ∃ k', k' < k ∧ W (i + 1) k' H') ∧ ∀ x H', J.yld i H x H' → Bo x H' Nx) := by
  refine ⟨fun i k H => k + i = m ∧ P i H, ⟨m, rfl, h0⟩, fun i k H z => ?_⟩
  obtain ⟨rfl, p⟩ := z
  have gd := hG i H (by omega) p
  cases k with
  | zero =>
    rw [Nat.zero_add] at *
    exact .inl ⟨w.stops H gd, hd H p⟩
  | succ k =>
    have lt : i < k + 1 + i := by omega
    exact .inr ⟨w.goes i H lt gd, P (i + 1), fun H' p' => ⟨k, by omega, by omega, p'⟩, fun x H' y => hs i x H H' lt p (w.yields i H x H' lt gd y)⟩
/-- behind a yield -/
theorem yld_ok {eB : EV} {FB HB F1 F' H H' : Hp} {σB σ' : St} {e' : EV} {D0 : Addr} {d : D} {x : V} {acc : List D} {accV : List V} (t : Tr C eB FB σB HB e' F' σ' H) (s0 : Sub F1 F') (hd : H D0 = some (.lst accV)) (fd : F' D0 = none)
    (hy : (H' = H ∧ Rep C F1 d x) ∨ ∃ p d1 d2 x1 x2, x = .ref p ∧ H p = none ∧ H' = upd H p (.tup [x1, x2]) ∧ d = .tup [d1, d2] ∧ Rep C F1 d1 x1 ∧ Rep C F1 d2 x2) :
    ∃ F'', Tr C eB FB σB HB e' F'' σ' H' ∧ Sub F' F'' ∧ Rep C F'' d x ∧ H' D0 = some (.lst accV) ∧ F'' D0 = none := by
  rcases hy with ⟨rfl, r⟩ | ⟨p, d1, d2, x1, x2, rfl, hp, rfl, rfl, r1, r2⟩
  · exact ⟨F', t, Sub.refl _, r.mono s0, hd, fd⟩
  · have u := (TrE.refl t.sr).newT (o := .tup [x1, x2]) hp
    have hne : D0 ≠ p := fun e => by subst e; rw [hd] at hp; cases hp
    refine ⟨_, t.trans u.toTr, u.fs, ?_, by rw [upd_ne hne]; exact hd, by rw [upd_ne hne]; exact fd⟩
    rw [Rep]
    exact ⟨p, [x1, x2], rfl, .inl (.inl upd_same), (RepL.cons r1 (.cons r2 .nil)).mono (s0.trans u.fs)⟩
theorem s_lcIn {own : List Nat} {tg : Tg} {cond : Option E} {elt : E} {eB : EV} {FB HB : Hp} {σB : St} {e1 : EV} {F1 H1 : Hp} {σ : St} {Qd : Hp → Prop} {J : L2.It} {ds : List D} (hix : (tgIx tg).all own.contains = true)
    (nob : ∀ i ∈ own, ∀ d, eB[i]? ≠ some (.bor d) ∧ eB[i]? ≠ some (.fro d)) (t1 : Tr C eB FB σB HB e1 F1 σ H1) (wk : WalkD C F1 J ds) {D0 : Addr} (hB : HB D0 = none) {acc0 : List D} {accV0 : List V} (hd0 : H1 D0 = some (.lst accV0)) (r0 : RepL C F1 acc0 accV0) (f0 : F1 D0 = none) (n0 : ¬ OwnA e1 σ D0)
    (q : match compL (turnF T n tg cond elt) own ds (wipeE e1 own) acc0 with
      | .ok acc eL => ∀ FL HL accV, Tr C eB FB σB HB eL FL (wipe σ own) HL → Dn own (wipeE e1 own) eL → HL D0 = some (.lst accV) → RepL C FL acc accV → FL D0 = none → ¬ OwnA eL (wipe σ own) D0 → Qd HL
      | _ => False) :
    ∃ W : Nat → Nat → Hp → Prop, (∃ m, W 0 m H1) ∧ ∀ i m H, W i m H →
      (J.stop i H ∧ Qd H) ∨ (J.go i H ∧ ∃ Nx : Hp → Prop, (∀ H', Nx H' → ∃ m', m' < m ∧ W (i + 1) m' H') ∧ ∀ x H', J.yld i H x H' → gTg C.K tg x (wipe σ own) H' fun σ2 H2 => wipe σ2 own = wipe σ own ∧ RC T C n W0 cond σ2 H2 fun b H3 =>
        if b = true then RE T C n W0 elt σ2 H3 fun y H4 => ∃ acc, H4 D0 = some (.lst acc) ∧ acc.length < sizeLine ∧ Nx (upd H4 D0 (.lst (acc ++ [y]))) else Nx H3) := by
  refine itG wk (Qd := Qd) (fun x H' Nx => gTg C.K tg x (wipe σ own) H' fun σ2 H2 => wipe σ2 own = wipe σ own ∧ RC T C n W0 cond σ2 H2 fun b H3 =>
        if b = true then RE T C n W0 elt σ2 H3 fun y H4 => ∃ acc, H4 D0 = some (.lst acc) ∧ acc.length < sizeLine ∧ Nx (upd H4 D0 (.lst (acc ++ [y]))) else Nx H3) (fun i H => ∃ e' F' acc accV, Tr C eB FB σB HB e' F' (wipe σ own) H ∧ Sub F1 F' ∧ Dn own (wipeE e1 own) e' ∧ H D0 = some (.lst accV) ∧ RepL C F' acc accV ∧ F' D0 = none ∧ ¬ OwnA e' (wipe σ own) D0 ∧
      (match compL (turnF T n tg cond elt) own (ds.drop i) e' acc with
      | .ok acc eL => ∀ FL HL accV, Tr C eB FB σB HB eL FL (wipe σ own) HL → Dn own (wipeE e1 own) eL → HL D0 = some (.lst accV) → RepL C FL acc accV → FL D0 = none → ¬ OwnA eL (wipe σ own) D0 → Qd HL
      | _ => False)) ?_ ?_ ?_ ?_
  · exact ⟨wipeE e1 own, F1, acc0, accV0, t1.wipe own nob, Sub.refl _, Dn.refl _ _, hd0, r0, f0, nown_wipe rfl n0, by simpa using q⟩
  · rintro i H hi ⟨e', F', acc, accV, t, s0, _⟩
    exact s0.trans t.sr.sub
  · rintro i x H H' hi ⟨e', F', acc, accV, t, s0, dn, hd, racc, fd, no, q⟩ ⟨d, hdi, hy⟩
    have hdrop : ds.drop i = d :: ds.drop (i + 1) := by
      rw [List.drop_eq_getElem_cons hi]
      rw [List.getElem?_eq_getElem hi] at hdi; cases hdi; rfl
    rw [hdrop, compL] at q
    obtain ⟨F'', t2, s2, rx, hd', fd'⟩ := yld_ok (acc := acc) t s0 hd fd hy
    have racc := racc.mono s2
    cases ka : asg tg d e' with
    | none => simp only [turnF, ka, opt_none] at q
    | some e2 =>
      simp only [turnF, ka, opt_some] at q
      refine asg_ok t2 rx ka fun σ2 t3 ar => ⟨?_, e2, F'', t3.sr, ?_⟩
      · have : L2.wipe σ2 own = L2.wipe (L2.wipe σ own) own := wipe_congr ar.len fun j hj => (ar.same j fun z => hj (List.contains_iff_mem.mp (List.all_eq_true.mp hix j z))).1
        rw [this, wipe_wipe]
      have hw : L2.wipe σ2 own = L2.wipe σ own := by
        have : L2.wipe σ2 own = L2.wipe (L2.wipe σ own) own := wipe_congr ar.len fun j hj => (ar.same j fun z => hj (List.contains_iff_mem.mp (List.all_eq_true.mp hix j z))).1
        rw [this, wipe_wipe]
      have dn2 : Dn own (wipeE e1 own) e2 := dn.trans (Dn.same fun j hj => (ar.same j fun z => hj (List.contains_iff_mem.mp (List.all_eq_true.mp hix j z))).2)
      have no2 : ¬ OwnA e2 σ2 D0 := fun ⟨j, s, h1, h2, h3⟩ => by
        obtain ⟨k1, k2⟩ := ar.mine j s h1 h2
        exact no ⟨j, s, k1, h2, by rw [← k2]; exact h3⟩
      have after : ∀ {e4 : EV} {F4 H4 : Hp}, TrE C e2 F'' σ2 H' e4 F4 H4 → H4 D0 = some (.lst accV) ∧ F4 D0 = none ∧ ¬ OwnA e4 σ2 D0 := fun {e4 F4 H4} u => by
        refine ⟨u.keep _ _ hd' no2, ?_, fun z => no2 (u.ownA' z)⟩
        cases z : F4 D0 with
        | none => rfl
        | some o =>
          rcases u.new _ _ z with w | w | w
          · rw [fd'] at w; cases w
          · rw [hd'] at w; cases w
          · exact absurd w no2
      revert q
      generalize evC T (callF T n) cond e2 = o
      intro q
      cases o with
      | exc z p e' => exact q.elim
      | stuck => exact q.elim
      | ok b e3 =>
        intro F3 H3 t4
        simp only [bd_ok] at q
        cases b with
        | false =>
          simp only [Bool.false_eq_true, if_false] at q ⊢
          obtain ⟨a1, a2, a3⟩ := after t4
          refine ⟨wipeE e3 own, F3, acc, accV, ?_, (s0.trans s2).trans t4.fs, dn2.trans ((Dn.ofE t4).trans Dn.wipe), a1, racc.mono t4.fs, a2, nown_wipe hw a3, q⟩
          have := (t3.trans t4.toTr).wipe own nob
          rw [hw] at this
          exact this
        | true =>
          simp only [if_true] at q ⊢
          refine ⟨e3, F3, t4.sr, ?_⟩
          revert q
          generalize evE T (callF T n) false elt e3 = o
          intro q
          cases o with
          | exc z p e' => exact q.elim
          | stuck => exact q.elim
          | ok r e4 =>
            intro v F4 H4 t5 r5
            simp only [bd_ok] at q
            cases kf : frz e4 r with
            | none => rw [kf] at q; exact q.elim
            | some z =>
              obtain ⟨xd, e5⟩ := z
              rw [kf] at q
              simp only [opt_some] at q
              obtain ⟨F5, t6, rp, s6⟩ := frz_ok t5 r5 kf
              obtain ⟨a1, a2, a3⟩ := after (t4.trans t6)
              by_cases hz : acc.length < sizeL
              · rw [if_pos hz] at q
                have racc := racc.mono (t4.trans t6).fs
                refine ⟨accV, a1, by rw [← sizeL_eq, ← racc.len]; exact hz, wipeE e5 own, F5, acc ++ [xd], accV ++ [v], ?_, (s0.trans s2).trans (t4.trans t6).fs, dn2.trans (((Dn.ofE t4).trans (Dn.ofE t6)).trans Dn.wipe), upd_same, racc.append (.cons rp .nil), a2, nown_wipe hw a3, q⟩
                have := (t3.trans (t4.trans t6).toTr).wipe own nob
                rw [hw] at this
                exact this.pad hB a2 (nown_wipe hw a3)
              · rw [if_neg hz] at q; exact q.elim
  · rintro H ⟨e', F', acc, accV, t, s0, dn, hd, racc, fd, no, q⟩
    rw [List.drop_length, compL] at q
    exact q F' H accV t dn hd racc fd no
/-- the first clause's turn -/
def turnA (T : GT) (n : Nat) (tg : Tg) (cond : Option E) (it1 : It) : D → EV → Out (Option (List D)) := fun d e => opt (asg tg d e) fun e1 => (evC T (callF T n) cond e1).bd fun k e2 => if k then (evI T (callF T n) it1 e2).bd fun xs e3 => .ok (some xs) e3 else .ok none e2
theorem s_lc2Turns {own own1 : List Nat} {tg tg1 : Tg} {cond cond1 : Option E} {it1 : It} {elt : E} {e1 : EV} {F1 H1 : Hp} {σ : St} {Q : VK} {J : L2.It} {ds : List D} (hix : (tgIx tg).all own.contains = true) (hix1 : (tgIx tg1).all own1.contains = true) (hoo : ∀ i ∈ own1, i ∈ own)
    (R1 : SR C e1 F1 σ H1) (wk : WalkD C F1 J ds) {D0 : Addr} (hD : H1 D0 = none) (q : match comp2L (turnA T n tg cond it1) (turnF T n tg1 cond1 elt) own own1 ds (wipeE e1 own) [] with
      | .ok acc eL => ∀ FL HL accV, Tr C (wipeE e1 own) F1 (wipe σ own) H1 eL FL (wipe σ own) HL → Dn own (wipeE e1 own) eL → HL D0 = some (.lst accV) → RepL C FL acc accV → FL D0 = none → ¬ OwnA eL (wipe σ own) D0 → Q (.ref D0) HL
      | _ => False) :
    ∃ W : Nat → Nat → Hp → Prop, (∃ m, W 0 m (upd H1 D0 (.lst []))) ∧ ∀ i m H, W i m H →
      (J.stop i H ∧ Q (.ref D0) H) ∨ (J.go i H ∧ ∃ Nx : Hp → Prop, (∀ H', Nx H' → ∃ m', m' < m ∧ W (i + 1) m' H') ∧ ∀ x H', J.yld i H x H' → gTg C.K tg x (wipe σ own) H' fun σ2 H2 => wipe σ2 own = wipe σ own ∧ RC T C n W0 cond σ2 H2 fun b H3 =>
        if b = true then RI T C n W0 it1 σ2 H3 fun J1 H4 => ∃ W1 : Nat → Nat → Hp → Prop, (∃ m, W1 0 m H4) ∧ ∀ j k H, W1 j k H →
          (J1.stop j H ∧ Nx H) ∨ (J1.go j H ∧ ∃ Nx1 : Hp → Prop, (∀ H', Nx1 H' → ∃ k', k' < k ∧ W1 (j + 1) k' H') ∧ ∀ x H', J1.yld j H x H' → gTg C.K tg1 x (wipe σ2 own1) H' fun σ3 H5 => wipe σ3 own1 = wipe σ2 own1 ∧ RC T C n W0 cond1 σ3 H5 fun b H6 =>
            if b = true then RE T C n W0 elt σ3 H6 fun y H7 => ∃ acc, H7 D0 = some (.lst acc) ∧ acc.length < sizeLine ∧ Nx1 (upd H7 D0 (.lst (acc ++ [y]))) else Nx1 H6)
        else Nx H3) := by
  have Rw : SR C (wipeE e1 own) F1 (wipe σ own) H1 := R1.wipe own
  have hF1 : F1 D0 = none := by
    cases z : F1 D0 with
    | none => rfl
    | some u => rw [R1.sub _ _ z] at hD; cases hD
  have nown0 : ¬ OwnA (wipeE e1 own) (wipe σ own) D0 := fun oa => by
    obtain ⟨_, o, h⟩ := Rw.ownNone oa
    rw [hD] at h; cases h
  have nob : ∀ i ∈ own, ∀ d, (wipeE e1 own)[i]? ≠ some (.bor d) ∧ (wipeE e1 own)[i]? ≠ some (.fro d) := fun i hi d => by
    by_cases hl : i < e1.length
    · rw [wipeE_get hl, if_pos hi]; simp
    · rw [List.getElem?_eq_none (by rw [wipeE_len]; omega)]; simp
  refine itG wk (Qd := fun H => Q (.ref D0) H) (fun x H' Nx => gTg C.K tg x (wipe σ own) H' fun σ2 H2 => wipe σ2 own = wipe σ own ∧ RC T C n W0 cond σ2 H2 fun b H3 =>
        if b = true then RI T C n W0 it1 σ2 H3 fun J1 H4 => ∃ W1 : Nat → Nat → Hp → Prop, (∃ m, W1 0 m H4) ∧ ∀ j k H, W1 j k H →
          (J1.stop j H ∧ Nx H) ∨ (J1.go j H ∧ ∃ Nx1 : Hp → Prop, (∀ H', Nx1 H' → ∃ k', k' < k ∧ W1 (j + 1) k' H') ∧ ∀ x H', J1.yld j H x H' → gTg C.K tg1 x (wipe σ2 own1) H' fun σ3 H5 => wipe σ3 own1 = wipe σ2 own1 ∧ RC T C n W0 cond1 σ3 H5 fun b H6 =>
            if b = true then RE T C n W0 elt σ3 H6 fun y H7 => ∃ acc, H7 D0 = some (.lst acc) ∧ acc.length < sizeLine ∧ Nx1 (upd H7 D0 (.lst (acc ++ [y]))) else Nx1 H6)
        else Nx H3) (fun i H => ∃ e' F' acc accV, Tr C (wipeE e1 own) F1 (wipe σ own) H1 e' F' (wipe σ own) H ∧ Dn own (wipeE e1 own) e' ∧ H D0 = some (.lst accV) ∧ RepL C F' acc accV ∧ F' D0 = none ∧ ¬ OwnA e' (wipe σ own) D0 ∧
      (match comp2L (turnA T n tg cond it1) (turnF T n tg1 cond1 elt) own own1 (ds.drop i) e' acc with
      | .ok acc eL => ∀ FL HL accV, Tr C (wipeE e1 own) F1 (wipe σ own) H1 eL FL (wipe σ own) HL → Dn own (wipeE e1 own) eL → HL D0 = some (.lst accV) → RepL C FL acc accV → FL D0 = none → ¬ OwnA eL (wipe σ own) D0 → Q (.ref D0) HL
      | _ => False)) ?_ ?_ ?_ ?_
  · exact ⟨wipeE e1 own, F1, [], [], (Tr.refl Rw).pad hD hF1 nown0, Dn.refl _ _, upd_same, .nil, hF1, nown0, by simpa using q⟩
  · rintro i H hi ⟨e', F', acc, accV, t, _⟩
    exact t.fs.trans t.sr.sub
  · rintro i x H H' hi ⟨e', F', acc, accV, t, dn, hd, racc, fd, no, q⟩ ⟨d, hdi, hy⟩
    have hdrop : ds.drop i = d :: ds.drop (i + 1) := by
      rw [List.drop_eq_getElem_cons hi]
      rw [List.getElem?_eq_getElem hi] at hdi; cases hdi; rfl
    rw [hdrop, comp2L] at q
    obtain ⟨F'', t2, s2, rx, hd', fd'⟩ := yld_ok (acc := acc) t t.fs hd fd hy
    have racc := racc.mono s2
    cases ka : asg tg d e' with
    | none => simp only [turnA, ka, opt_none] at q
    | some e2 =>
      simp only [turnA, ka, opt_some] at q
      refine asg_ok t2 rx ka fun σ2 t3 ar => ⟨?_, e2, F'', t3.sr, ?_⟩
      · have : L2.wipe σ2 own = L2.wipe (L2.wipe σ own) own := wipe_congr ar.len fun j hj => (ar.same j fun z => hj (List.contains_iff_mem.mp (List.all_eq_true.mp hix j z))).1
        rw [this, wipe_wipe]
      have hw : L2.wipe σ2 own = L2.wipe σ own := by
        have : L2.wipe σ2 own = L2.wipe (L2.wipe σ own) own := wipe_congr ar.len fun j hj => (ar.same j fun z => hj (List.contains_iff_mem.mp (List.all_eq_true.mp hix j z))).1
        rw [this, wipe_wipe]
      have dn2 : Dn own (wipeE e1 own) e2 := dn.trans (Dn.same fun j hj => (ar.same j fun z => hj (List.contains_iff_mem.mp (List.all_eq_true.mp hix j z))).2)
      have no2 : ¬ OwnA e2 σ2 D0 := fun ⟨j, s, h1, h2, h3⟩ => by
        obtain ⟨k1, k2⟩ := ar.mine j s h1 h2
        exact no ⟨j, s, k1, h2, by rw [← k2]; exact h3⟩
      have after : ∀ {e4 : EV} {F4 H4 : Hp}, TrE C e2 F'' σ2 H' e4 F4 H4 → H4 D0 = some (.lst accV) ∧ F4 D0 = none ∧ ¬ OwnA e4 σ2 D0 := fun {e4 F4 H4} u => by
        refine ⟨u.keep _ _ hd' no2, ?_, fun z => no2 (u.ownA' z)⟩
        cases z : F4 D0 with
        | none => rfl
        | some o =>
          rcases u.new _ _ z with w | w | w
          · rw [fd'] at w; cases w
          · rw [hd'] at w; cases w
          · exact absurd w no2
      revert q
      generalize evC T (callF T n) cond e2 = o
      intro q
      cases o with
      | exc z p e' => exact q.elim
      | stuck => exact q.elim
      | ok b e3 =>
        intro F3 H3 t4
        simp only [bd_ok] at q
        cases b with
        | false =>
          simp only [Bool.false_eq_true, if_false] at q ⊢
          obtain ⟨a1, a2, a3⟩ := after t4
          refine ⟨wipeE e3 own, F3, acc, accV, ?_, dn2.trans ((Dn.ofE t4).trans Dn.wipe), a1, racc.mono t4.fs, a2, nown_wipe hw a3, q⟩
          have := (t3.trans t4.toTr).wipe own nob
          rw [hw] at this
          exact this
        | true =>
          simp only [if_true] at q ⊢
          refine ⟨e3, F3, t4.sr, ?_⟩
          revert q
          generalize evI T (callF T n) it1 e3 = o
          intro q
          cases o with
          | exc z p e' => exact q.elim
          | stuck => exact q.elim
          | ok xs e4 =>
            intro J1 F4 H4 t5 wk1
            simp only [bd_ok] at q
            obtain ⟨a1, a2, a3⟩ := after (t4.trans t5)
            refine s_lcIn (T := T) (n := n) hix1 (fun i hi => nob i (hoo i hi)) (t3.trans (t4.trans t5).toTr) wk1 hD a1 (racc.mono (t4.trans t5).fs) a2 a3 ?_
            revert q
            generalize compL (turnF T n tg1 cond1 elt) own1 xs (wipeE e4 own1) acc = o
            intro q
            cases o with
            | exc z p e' => exact q.elim
            | stuck => exact q.elim
            | ok acc1 eL =>
              intro FL HL accV1 tL dnL hdL rL fL nL
              have ww : L2.wipe (L2.wipe σ2 own1) own = L2.wipe σ own := (wipe_in hoo).trans hw
              refine ⟨wipeE eL own, FL, acc1, accV1, ?_, dn2.trans (((Dn.ofE t4).trans (Dn.ofE t5)).trans (((Dn.wipe (own := own1)).trans dnL).weak hoo |>.trans Dn.wipe)), hdL, rL, fL, nown_wipe ww nL, q⟩
              have := tL.wipe own nob
              rw [ww] at this
              exact this
  · rintro H ⟨e', F', acc, accV, t, dn, hd, racc, fd, no, q⟩
    rw [List.drop_length, comp2L] at q
    exact q F' H accV t dn hd racc fd no
theorem comp2L_noexc {f : D → EV → Out (Option (List D))} {g : D → EV → Out (Option D)} {own own1 : List Nat} {z : Nat} {p : List D} {e' : EV} : ∀ (ds : List D) (e : EV) (acc : List D), comp2L f g own own1 ds e acc ≠ .exc z p e'
  | [], e, acc => by rw [comp2L]; simp
  | d :: ds, e, acc => by
    rw [comp2L]
    split
    · split
      · exact comp2L_noexc ds _ _
      · simp
    · exact comp2L_noexc ds _ _
    · simp
theorem rd_comp2 {own own1 : List Nat} {it it1 : It} {tg tg1 : Tg} {cond cond1 : Option E} {elt : E} {σ : St} {H : Hp} {Q : VK} (hix : (tgIx tg).all own.contains = true) (hix1 : (tgIx tg1).all own1.contains = true) (hoo : ∀ i ∈ own1, i ∈ own) (h : RE T C n W (.comp2 own it tg cond own1 it1 tg1 cond1 elt) σ H Q) :
    tLc2 (RI T C n W it) (gTg C.K tg) (RC T C n W0 cond) (RI T C n W0 it1) (gTg C.K tg1) (RC T C n W0 cond1) (RE T C n W0 elt) own own1 σ H Q := by
  obtain ⟨e, F, R, q⟩ := h
  refine ⟨e, F, R, ?_⟩
  have q : PostE C W e F σ H ((evI T (callF T n) it e).bd fun ds e1 => (comp2L (turnA T n tg cond it1) (turnF T n tg1 cond1 elt) own own1 ds (wipeE e1 own) []).bd fun acc e2 => .ok (.t (.lst acc)) (unwipe e1 e2 own)) Q := q
  revert q
  generalize evI T (callF T n) it e = o
  intro q
  cases o with
  | exc z p e' => exact q
  | stuck => exact q
  | ok ds e1 =>
    intro J F1 H1 t1 wk D0 hD
    refine s_lc2Turns (T := T) (n := n) hix hix1 hoo t1.sr wk hD ?_
    simp only [bd_ok] at q
    revert q
    generalize ho : comp2L (turnA T n tg cond it1) (turnF T n tg1 cond1 elt) own own1 ds (wipeE e1 own) [] = o
    intro q
    cases o with
    | exc z p e' => exact absurd ho (comp2L_noexc _ _ _)
    | stuck => exact q
    | ok acc eL =>
      intro FL HL accV t dn hd racc fd no
      have tt := t1.trans (unwipe_ok t1.sr t dn)
      refine q _ FL HL tt ⟨D0, rfl, ⟨fd, accV, hd, racc⟩, ?_, fun z => ?_⟩
      · by_cases z : H D0 = none
        · exact z
        · exact absurd hD (t1.there _ z)
      · obtain ⟨_, o, ho⟩ := t1.sr.ownNone ((unwipe_ok t1.sr t dn).ownA' z)
        rw [hD] at ho; cases ho
/-! ### a written dict, looked up -/
theorem repL_toV {F : Hp} : ∀ {ds : List D} {vs : List Expr}, valLs ds vs = true → RepL C F ds (ds.map toV)
  | [], _, _ => .nil
  | d :: ds, v :: vs, h => by
    cases d <;> cases v <;> first | (simp [valLs] at h; done) | skip
    all_goals (rename_i c0 _ _ ; cases c0 <;> first | (simp [valLs] at h; done) | skip)
    all_goals (simp only [valLs, Bool.and_eq_true] at h)
    · exact .cons (show Rep C F .non .non from rep_non) (repL_toV h)
    · exact .cons (show Rep C F (.bl _) (.bl _) from rep_bl) (repL_toV h.2)
    · exact .cons (show Rep C F (.int _) (.int _) from rep_int) (repL_toV h.2)
    · exact .cons (show Rep C F (.str _) (.str _) from rep_str) (repL_toV h.2)
  | d :: ds, [], h => by cases d <;> simp [valLs] at h
def litT (ks : List Key) (vs : List D) : List (TE × TE) := (ks.zip vs).map fun p => (tC (kV p.1), tC (toV p.2))
theorem pe_key {k : Key} {x : Expr} {ks : List Key} {r : List (Option Expr)} (h : keyLs (k :: ks) (some x :: r) = true) : PE X x (tC (kV k)) ∧ keyLs ks r = true := by
  cases k <;> cases x <;> first | (simp [keyLs] at h; done) | skip
  all_goals (rename_i c0 _ _ ; cases c0 <;> first | (simp [keyLs] at h; done) | skip)
  all_goals (simp only [keyLs, Bool.and_eq_true, decide_eq_true_eq] at h; obtain ⟨rfl, h⟩ := h)
  · exact ⟨pe_int, h⟩
  · exact ⟨pe_str, h⟩
theorem pe_lval {d : D} {x : Expr} {ds : List D} {r : List Expr} (h : valLs (d :: ds) (x :: r) = true) : PE X x (tC (toV d)) ∧ valLs ds r = true := by
  cases d <;> cases x <;> first | (simp [valLs] at h; done) | skip
  all_goals (rename_i c0 _ _ ; cases c0 <;> first | (simp [valLs] at h; done) | skip)
  · simp only [valLs] at h; exact ⟨pe_non, h⟩
  all_goals (simp only [valLs, Bool.and_eq_true, decide_eq_true_eq] at h; obtain ⟨rfl, h⟩ := h)
  · exact ⟨pe_bl, h⟩
  · exact ⟨pe_int, h⟩
  · exact ⟨pe_str, h⟩
theorem lit_pps {pos : Pos} : ∀ {ks : List Key} {vs : List D} {keys : List (Option Expr)} {values : List Expr}, keyLs ks keys = true → valLs vs values = true → ks.length = vs.length → PPs X pos keys values (litT ks vs) ∧ keys.all (·.isSome) = true ∧ keys.length = ks.length ∧ values.length = vs.length
  | [], [], [], [], _, _, _ => ⟨pps_nil, rfl, rfl, rfl⟩
  | k :: ks, d :: vs, some x :: keys, y :: values, h1, h2, hl => by
    obtain ⟨a1, a2⟩ := pe_key (X := X) h1
    obtain ⟨b1, b2⟩ := pe_lval (X := X) h2
    obtain ⟨p1, p2, p3, p4⟩ := lit_pps (pos := pos) a2 b2 (by simpa using hl)
    exact ⟨pps_cons a1 b1 p1, by rw [List.all_cons, p2]; rfl, by simp [p3], by simp [p4]⟩
  | k :: ks, d :: vs, none :: keys, _, h1, _, _ => by cases k <;> simp [keyLs] at h1
  | k :: ks, d :: vs, [], _, h1, _, _ => by cases k <;> simp [keyLs] at h1
  | [], [], _ :: _, _, h1, _, _ => by simp [keyLs] at h1
  | [], [], [], _ :: _, _, h2, _ => by simp [valLs] at h2
  | k :: ks, d :: vs, some x :: keys, [], _, h2, _ => by cases d <;> simp [valLs] at h2
  | [], _ :: _, _, _, _, _, hl => by cases hl
  | _ :: _, [], _, _, _, _, hl => by cases hl
theorem lit_pairs {σ : St} {H : Hp} : ∀ (l : List (Key × D)) (Q : List (V × V) → Hp → Prop), Q (l.map fun p => (kV p.1, toV p.2)) H → tPairs (l.map fun p => (tC (kV p.1), tC (toV p.2))) σ H Q
  | [], _, h => h
  | p :: l, Q, h => lit_pairs l (fun ps H3 => Q ((kV p.1, toV p.2) :: ps) H3) h
theorem merge_nodup : ∀ {l acc : List (Key × V)}, (acc.map (·.1) ++ l.map (·.1)).Nodup → mergeK acc l = acc ++ l
  | [], acc, _ => by simp [mergeK]
  | p :: l, acc, h => by
    have hn : valV acc p.1 = none := by
      unfold valV
      have : acc.find? (fun kv => decide (kv.1 = p.1)) = none := by
        rw [List.find?_eq_none]
        intro q hq e
        have e := of_decide_eq_true e
        have := (List.nodup_append.mp h).2.2 q.1 (List.mem_map.mpr ⟨q, hq, rfl⟩) p.1 (by simp)
        exact this e
      rw [this]; rfl
    show mergeK (putK acc p.1 p.2) l = _
    rw [putK_new p.2 hn, merge_nodup]
    · simp
    · simpa using h
theorem TrE.pad {e e1 : EV} {F F1 H H1 : Hp} {σ : St} {p : Addr} {o : HO} (t : TrE C e F σ H e1 F1 H1) (hp : H p = none) (hF : F1 p = none) (hn : ¬ OwnA e1 σ p) : TrE C e F σ H e1 F1 (upd H1 p o) := ⟨t.toTr.pad hp hF hn, t.dat, t.nom⟩
/-- the display is laid, then looked up -/
theorem rd_lit {ks : List Key} {vs : List D} {values : List Expr} {e : EV} {F H : Hp} {σ : St} (R : SR C e F σ H) (hv : valLs vs values = true) (hl : ks.length = vs.length) (hn : ks.Nodup) (h15 : ks.length ≤ 15) {Q : VK}
    (k : ∀ p, H p = none → ∀ H1, TrE C e F σ H e F H1 → H1 p = some (.dK (ks.zip (vs.map toV))) → Q (.ref p) H1) : tDisp (litT ks vs) σ H Q := fun p hp => by
  refine lit_pairs _ _ ⟨upd_same, ks.zip (vs.map toV), ?_, ?_, ?_⟩
  · rw [List.zip_map_right, List.map_map]
    rfl
  · rw [List.length_zip]; omega
  · have hm : mergeK [] (ks.zip (vs.map toV)) = ks.zip (vs.map toV) := by
      rw [merge_nodup]
      · rfl
      · simp only [List.map_nil, List.nil_append]
        rw [List.map_fst_zip (by simp [hl])]
        exact hn
    rw [hm, upd_upd]
    exact k p hp _ ((TrE.refl R).newL hp) upd_same
theorem own_lit {e : EV} {F H : Hp} {σ : St} (R : SR C e F σ H) {p : Addr} (hp : H p = none) : ¬ OwnA e σ p := fun q => by
  obtain ⟨_, o, ho⟩ := R.ownNone q
  rw [hp] at ho; cases ho
theorem dlook_none {H : Hp} {ks : List Key} {vs : List D} {ws : List V} {k : Key} (hl : ks.length = vs.length) (r : RepL C H vs ws) (h : dlook ks vs k = none) : valV (ks.zip ws) k = none := by
  obtain ⟨h1, _⟩ := dlook_val (k := k) hl r
  rw [h] at h1
  cases z : valV (ks.zip ws) k with
  | none => rfl
  | some v => rw [z] at h1; cases h1
theorem s_dd1 (G : Good T C n W c X) {a b : E} {y z : Expr} {pos : Pos} (ha : PE X y (RE T C n W a)) (hb : PE X z (RE T C n W b)) : PE X (.Dict [some y] [z] pos) (RE T C n W (.dd1 a b)) := by
  refine (pe_disp (pps_cons ha hb pps_nil) rfl rfl (fun e => by cases e) (Nat.le_of_ble_eq_true rfl)).to fun σ H Q => ?_
  rintro ⟨e, F, R, q⟩ p hp
  have q : PostE C W e F σ H ((evE T (callF T n) false a e).bd fun rk e1 => (evE T (callF T n) false b e1).bd fun rv e2 => opt ((cont e2 rk).bind keyOf) fun x => opt (frz e2 rv) fun (d, e3) => .ok (.t (.dk [x] [d])) e3) Q := q
  have t0 := (TrE.refl R).newL (o := .dK []) hp
  have no0 : ¬ OwnA e σ p := own_lit R hp
  have hF : F p = none := by
    cases z : F p with
    | none => rfl
    | some u => rw [R.sub p u z] at hp; cases hp
  refine ⟨e, F, t0.sr, ?_⟩
  cases hx : evE T (callF T n) false a e with
  | exc c' p' e1 =>
    rw [hx] at q
    exact PostE.shift (o := .exc c' p' e1) t0 q
  | stuck => rw [hx] at q; exact q.elim
  | ok rk e1 =>
    rw [hx] at q
    simp only [bd_ok] at q
    intro v1 F1 H1 t1 r1
    have T1 := t0.trans t1
    refine ⟨e1, F1, t1.sr, ?_⟩
    cases hy : evE T (callF T n) false b e1 with
    | exc c' p' e2 =>
      rw [hy] at q
      exact PostE.shift (o := .exc c' p' e2) T1 q
    | stuck => rw [hy] at q; exact q.elim
    | ok rv e2 =>
      rw [hy] at q
      simp only [bd_ok] at q
      intro v2 F2 H2 t2 r2
      obtain ⟨x, k1, q⟩ := q.opt
      obtain ⟨⟨d, e3⟩, k2, q⟩ := q.opt
      obtain ⟨F3, t3, rp, s3⟩ := frz_ok t2 r2 k2
      obtain ⟨dk, k3, k4⟩ := Option.bind_eq_some_iff.mp k1
      have hk : v1 = kV x := keyOf_V (cont_rep t2.sr (r1.mono t2) k3) k4
      have g1 : H1 p = some (.dK []) := t1.keep _ _ upd_same no0
      have no1 : ¬ OwnA e1 σ p := fun z => no0 (t1.ownA' z)
      have g2 : H2 p = some (.dK []) := t2.keep _ _ g1 no1
      have t13 := t1.trans t3
      have no3 : ¬ OwnA e3 σ p := fun z => no0 (t13.ownA' z)
      have hF3 : F3 p = none := by
        cases z : F3 p with
        | none => rfl
        | some u =>
          rcases t13.new p u z with w | w | w
          · rw [hF] at w; cases w
          · rw [upd_same] at w; cases w
          · exact (no0 w).elim
      refine ⟨g2, [(x, v2)], by rw [hk]; rfl, Nat.le_of_ble_eq_true rfl, ?_⟩
      have T3 := (t0.trans t13).pad (o := .dK [(x, v2)]) hp hF3 no3
      have hm : mergeK [] [(x, v2)] = [(x, v2)] := rfl
      rw [hm]
      exact q _ _ _ T3 ⟨p, rfl, ⟨hF3, [v2], upd_same, rfl, .cons rp .nil⟩, hp, no3⟩
theorem s_dlit1 (G : Good T C n W c X) {ks : List Key} {vs : List D} {a : E} {keys : List (Option Expr)} {values : List Expr} {y : Expr} {dp ap pos : Pos} (hm : mthB ap pos = true) (h1 : keyLs ks keys = true) (h2 : valLs vs values = true) (hn : ks.Nodup) (hl : ks.length = vs.length) (h15 : ks.length ≤ 15) (h0 : ks ≠ [])
    (ha : PE X y (RE T C n W a)) (hy : nst y = true) : PE X (.Call (.Attribute (.Dict keys values dp) "get" ap) [y] [] pos) (RE T C n W (.dlit ks vs a none)) := by
  obtain ⟨p1, p2, p3, p4⟩ := lit_pps (X := X) (pos := dp) h1 h2 hl
  have m : M1 X (.Dict keys values dp) "get" ap y pos := ⟨rfl, few_one hy, hm, by rw [star_cons hy]; rfl⟩
  refine (pe_dget1 (by have := G.hu; omega) (pe_disp p1 p2 (by rw [p3, p4, hl]) (fun e => h0 (by cases ks; rfl; subst e; simp at p3)) (by rw [p3]; exact h15)) ha m).to fun σ H Q => ?_
  rintro ⟨e, F, R, q⟩
  refine rd_lit R h2 hl hn h15 fun p hp H1 t1 g1 => ⟨p, rfl, .inl ⟨_, .inl g1⟩, e, F, t1.sr, ?_⟩
  simp only [evE, tst_false] at q
  refine PostE.first0 (f := fun rx e1 => (evM T (callF T n) none e1).bd fun rd e2 => opt ((cont e2 rx).bind keyOf) fun k => match dlook ks vs k with
        | some y => .ok (.v y) e2
        | none => opt (frz e2 rd) fun (y, e3) => .ok (.v y) e3) (PostE.shift t1 q) fun rx e2 v2 F2 H2 t2 r2 q => ?_
  simp only [evM, bd_ok] at q
  obtain ⟨k, k1, q⟩ := q.opt
  obtain ⟨d, k1, k2⟩ := Option.bind_eq_some_iff.mp k1
  have hk := keyOf_V (cont_rep t2.sr r2 k1) k2
  have g2 := t2.keep _ _ g1 (fun q => own_lit R hp q)
  refine ⟨valV (ks.zip (vs.map toV)) k, by rw [hk]; exact DGet.k g2, ?_⟩
  have rl : RepL C F2 vs (vs.map toV) := repL_toV h2
  cases hd : dlook ks vs k with
  | some y =>
    rw [hd] at q
    obtain ⟨v, z1, z2⟩ := (dlook_val (k := k) hl rl).2 y hd
    rw [z1]
    exact q v F2 H2 t2 z2
  | none =>
    rw [hd] at q
    rw [dlook_none hl rl hd]
    exact q .non F2 H2 t2 (show Rep C F2 .non .non from rep_non)
theorem s_dlit2 (G : Good T C n W c X) {ks : List Key} {vs : List D} {a b : E} {keys : List (Option Expr)} {values : List Expr} {y z : Expr} {dp ap pos : Pos} (hm : mthB ap pos = true) (h1 : keyLs ks keys = true) (h2 : valLs vs values = true) (hn : ks.Nodup) (hl : ks.length = vs.length) (h15 : ks.length ≤ 15) (h0 : ks ≠ [])
    (ha : PE X y (RE T C n W a)) (hy : nst y = true) (hb : PE X z (RE T C n W b)) (hz : nst z = true) : PE X (.Call (.Attribute (.Dict keys values dp) "get" ap) [y, z] [] pos) (RE T C n W (.dlit ks vs a (some b))) := by
  obtain ⟨p1, p2, p3, p4⟩ := lit_pps (X := X) (pos := dp) h1 h2 hl
  have m : M2 X (.Dict keys values dp) "get" ap y z pos := ⟨rfl, by rw [star_cons hy, star_cons hz]; rfl, hm, by rw [star_cons hy, star_cons hz]; rfl⟩
  refine (pe_dget2 (by have := G.hu; omega) (pe_disp p1 p2 (by rw [p3, p4, hl]) (fun e => h0 (by cases ks; rfl; subst e; simp at p3)) (by rw [p3]; exact h15)) ha hb m).to fun σ H Q => ?_
  rintro ⟨e, F, R, q⟩
  refine rd_lit R h2 hl hn h15 fun p hp H1 t1 g1 => ⟨p, rfl, .inl ⟨_, .inl g1⟩, e, F, t1.sr, ?_⟩
  simp only [evE, tst_false] at q
  have q := PostE.shift t1 q
  revert q
  generalize evE T (callF T n) false a e = o
  intro q
  cases o with
  | exc c p e' => exact q
  | stuck => exact q
  | ok rx e2 =>
    intro v2 F2 H2 t2 r2
    refine ⟨e2, F2, t2.sr, ?_⟩
    simp only [evM, bd_ok] at q
    revert q
    generalize evE T (callF T n) false b e2 = o
    intro q
    cases o with
    | exc c p e' => exact fun F' H' t => q F' H' (t2.trans t)
    | stuck => exact q
    | ok rd e3 =>
      intro v3 F3 H3 t3 r3
      simp only [bd_ok] at q
      obtain ⟨k, k1, q⟩ := q.opt
      obtain ⟨d, k1, k2⟩ := Option.bind_eq_some_iff.mp k1
      have t23 := t2.trans t3
      have hk := keyOf_V (cont_rep t3.sr (r2.mono t3) k1) k2
      have g2 := t23.keep _ _ g1 (fun q => own_lit R hp q)
      refine ⟨valV (ks.zip (vs.map toV)) k, by rw [hk]; exact DGet.k g2, ?_⟩
      have rl : RepL C F3 vs (vs.map toV) := repL_toV h2
      cases hd : dlook ks vs k with
      | some y =>
        rw [hd] at q
        obtain ⟨v, z1, z2⟩ := (dlook_val (k := k) hl rl).2 y hd
        rw [z1]
        exact q v F3 H3 t23 z2
      | none =>
        rw [hd] at q
        rw [dlook_none hl rl hd]
        obtain ⟨⟨y, e4⟩, kf, q⟩ := PostE.opt (show PostE C W e F σ H1 (opt _ _) Q from q)
        obtain ⟨F4, t4, rp, _⟩ := frz_ok t23 (r3.back t2.there) kf
        exact q v3 F4 H3 t4 rp
end
end PL
end

section
namespace PL
open PySem PySem.Spec L2

/-! ## what the checker has seen -/
section
variable {c : CC} {x : Expr}
theorem inv_var {i : Nat} (h : trE c (.var i) x = true) : ∃ y p, x = .Name y p ∧ nmB c i y = true := by
  cases x <;> first | (simp only [trE] at h; cases h; done) | skip
  simp only [trE] at h
  exact ⟨_, _, rfl, h⟩
theorem inv_int {k : Int} (h : trE c (.int k) x = true) : ∃ z p, x = .Constant (.int k) z p := by
  cases x <;> first | (simp only [trE] at h; cases h; done) | skip
  rename_i v z p
  cases v <;> first | (simp only [trE] at h; cases h; done) | skip
  simp only [trE] at h
  exact ⟨_, _, by rw [of_decide_eq_true h]⟩
theorem inv_bl {k : Bool} (h : trE c (.bl k) x = true) : ∃ z p, x = .Constant (.bool k) z p := by
  cases x <;> first | (simp only [trE] at h; cases h; done) | skip
  rename_i v z p
  cases v <;> first | (simp only [trE] at h; cases h; done) | skip
  simp only [trE] at h
  exact ⟨_, _, by rw [of_decide_eq_true h]⟩
theorem inv_non (h : trE c .non x = true) : ∃ z p, x = .Constant .none z p := by
  cases x <;> first | (simp only [trE] at h; cases h; done) | skip
  rename_i v z p
  cases v <;> first | (simp only [trE] at h; cases h; done) | skip
  exact ⟨_, _, rfl⟩
theorem inv_str {k : Str} (h : trE c (.str k) x = true) : ∃ z p, x = .Constant (.str k) z p := by
  cases x <;> first | (simp only [trE] at h; cases h; done) | skip
  rename_i v z p
  cases v <;> first | (simp only [trE] at h; cases h; done) | skip
  simp only [trE] at h
  exact ⟨_, _, by rw [of_decide_eq_true h]⟩
theorem inv_con {k : Nat} (h : trE c (.con k) x = true) : ∃ y p, x = .Name y p ∧ c.cn[k]? = some y ∧ glB c.sc y = true := by
  cases x <;> first | (simp only [trE] at h; cases h; done) | skip
  simp only [trE, Bool.and_eq_true] at h
  exact ⟨_, _, rfl, of_decide_eq_true h.1, h.2⟩
theorem inv_dd1 {a b : E} (h : trE c (.dd1 a b) x = true) : ∃ y z p, x = .Dict [some y] [z] p ∧ trE c a y = true ∧ trE c b z = true := by
  cases x <;> first | (simp only [trE] at h; cases h; done) | skip
  rename_i ks vs p
  match ks, vs, h with
  | [some y], [z], h =>
    simp only [trE, Bool.and_eq_true] at h
    exact ⟨_, _, _, rfl, h.1, h.2⟩
theorem inv_lrg {t : Bool} {a : E} (h : trE c (.lrg t a) x = true) : ∃ y q w q2 z p2 p, x = .Call (.Name y q) [.Call (.Name w q2) [z] [] p2] [] p ∧ y = Str.ofString (if t then "tuple" else "list") ∧ w = "range" ∧ glB c.sc y = true ∧ glB c.sc w = true ∧ c.calm = true ∧ trE c a z = true := by
  cases x <;> first | (simp only [trE] at h; cases h; done) | skip
  rename_i f xs ks p
  cases f <;> first | (simp only [trE] at h; cases h; done) | skip
  match xs, ks, h with
  | [.Call (.Name w q2) [z] [] p2], [], h =>
    simp only [trE, Bool.and_eq_true] at h
    exact ⟨_, _, _, _, _, _, _, rfl, of_decide_eq_true h.1.1.1.1.1, of_decide_eq_true h.1.1.1.1.2, h.1.1.1.2, h.1.1.2, h.1.2, h.2⟩
theorem inv_lset {a : E} (h : trE c (.lset a) x = true) : ∃ q q2 z p2 p, x = .Call (.Name "len" q) [.Call (.Name "set" q2) [z] [] p2] [] p ∧ glB c.sc "len" = true ∧ glB c.sc "set" = true ∧ c.calm = true ∧ trE c a z = true := by
  cases x <;> first | (simp only [trE] at h; cases h; done) | skip
  rename_i f xs ks p
  cases f <;> first | (simp only [trE] at h; cases h; done) | skip
  match xs, ks, h with
  | [.Call (.Name w q2) [z] [] p2], [], h =>
    simp only [trE, Bool.and_eq_true] at h
    have e1 := of_decide_eq_true h.1.1.1.1.1
    have e2 := of_decide_eq_true h.1.1.1.1.2
    subst e1
    subst e2
    exact ⟨_, _, _, _, _, rfl, h.1.1.1.2, h.1.1.2, h.1.2, h.2⟩
theorem inv_sset {a : E} (h : trE c (.sset a) x = true) : ∃ q q2 z p2 p, x = .Call (.Name "sorted" q) [.Call (.Name "set" q2) [z] [] p2] [] p ∧ glB c.sc "sorted" = true ∧ glB c.sc "set" = true ∧ c.calm = true ∧ trE c a z = true := by
  cases x <;> first | (simp only [trE] at h; cases h; done) | skip
  rename_i f xs ks p
  cases f <;> first | (simp only [trE] at h; cases h; done) | skip
  match xs, ks, h with
  | [.Call (.Name w q2) [z] [] p2], [], h =>
    simp only [trE, Bool.and_eq_true] at h
    have e1 := of_decide_eq_true h.1.1.1.1.1
    have e2 := of_decide_eq_true h.1.1.1.1.2
    subst e1
    subst e2
    exact ⟨_, _, _, _, _, rfl, h.1.1.1.2, h.1.1.2, h.1.2, h.2⟩
theorem inv_dix {k : Nat} {a : E} (h : trE c (.dix k a) x = true) : ∃ y p z q, x = .Subscript (.Name y p) z q ∧ c.dn[k]? = some y ∧ glB c.sc y = true ∧ trE c a z = true := by
  cases x <;> first | (simp only [trE] at h; cases h; done) | skip
  rename_i v z p
  cases v <;> first | (simp only [trE] at h; cases h; done) | skip
  simp only [trE, Bool.and_eq_true] at h
  exact ⟨_, _, _, _, rfl, of_decide_eq_true h.1.1, h.1.2, h.2⟩
theorem inv_fnv {k : Nat} (h : trE c (.fnv k) x = true) : ∃ y p, x = .Name y p ∧ c.fn[k]? = some y ∧ glB c.sc y = true := by
  cases x <;> first | (simp only [trE] at h; cases h; done) | skip
  simp only [trE, Bool.and_eq_true] at h
  exact ⟨_, _, rfl, of_decide_eq_true h.1, h.2⟩
theorem inv_bin {o : Bop} {a b : E} (h : trE c (.bin o a b) x = true) : ∃ y z p, x = .BinOp y (opOf o) z p ∧ trE c a y = true ∧ trE c b z = true := by
  cases x <;> first | (simp only [trE] at h; cases h; done) | skip
  simp only [trE, Bool.and_eq_true] at h
  exact ⟨_, _, _, by rw [of_decide_eq_true h.1.1], h.1.2, h.2⟩
theorem inv_neg {a : E} (h : trE c (.neg a) x = true) : ∃ y p, x = .UnaryOp .USub y p ∧ trE c a y = true := by
  cases x <;> first | (simp only [trE] at h; cases h; done) | skip
  rename_i o y p
  cases o <;> first | (simp only [trE] at h; cases h; done) | skip
  simp only [trE] at h
  exact ⟨_, _, rfl, h⟩
theorem inv_not {a : E} (h : trE c (.not_ a) x = true) : ∃ y p, x = .UnaryOp .Not y p ∧ trE c a y = true := by
  cases x <;> first | (simp only [trE] at h; cases h; done) | skip
  rename_i o y p
  cases o <;> first | (simp only [trE] at h; cases h; done) | skip
  simp only [trE] at h
  exact ⟨_, _, rfl, h⟩
theorem inv_cmp {o : CmpOp} {a b : E} (h : trE c (.cmp o a b) x = true) : ∃ y z p, x = .Compare y [o] [z] p ∧ trE c a y = true ∧ trE c b z = true := by
  cases x <;> first | (simp only [trE] at h; cases h; done) | skip
  rename_i y os zs p
  match os, zs, h with
  | [o'], [z], h =>
    simp only [trE, Bool.and_eq_true] at h
    exact ⟨_, _, _, by rw [of_decide_eq_true h.1.1], h.1.2, h.2⟩
  | [], _, h => simp only [trE] at h; cases h
  | [_], [], h => simp only [trE] at h; cases h
  | [_], _ :: _ :: _, h => simp only [trE] at h; cases h
  | _ :: _ :: _, _, h => simp only [trE] at h; cases h
theorem inv_chain {o o2 : CmpOp} {a b d : E} (h : trE c (.chain o o2 a b d) x = true) : ∃ y z w p, x = .Compare y [o, o2] [z, w] p ∧ trE c a y = true ∧ trE c b z = true ∧ trE c d w = true := by
  cases x <;> first | (simp only [trE] at h; cases h; done) | skip
  rename_i y os zs p
  match os, zs, h with
  | [o', o2'], [z, w], h =>
    simp only [trE, Bool.and_eq_true] at h
    exact ⟨_, _, _, _, by rw [of_decide_eq_true h.1.1.1.1, of_decide_eq_true h.1.1.1.2], h.1.1.2, h.1.2, h.2⟩
  | [], _, h => simp only [trE] at h; cases h
  | [_], _, h => simp only [trE] at h; cases h
  | [_, _], [], h => simp only [trE] at h; cases h
  | [_, _], [_], h => simp only [trE] at h; cases h
  | [_, _], _ :: _ :: _ :: _, h => simp only [trE] at h; cases h
  | _ :: _ :: _ :: _, _, h => simp only [trE] at h; cases h
theorem inv_andor {k : Bool} {es : List E} (h : trE c (.andor k es) x = true) : ∃ xs p, x = .BoolOp (bopOf k) xs p ∧ trA c es xs = true := by
  cases x <;> first | (simp only [trE] at h; cases h; done) | skip
  simp only [trE, Bool.and_eq_true] at h
  exact ⟨_, _, by rw [← of_decide_eq_true h.1]; rfl, h.2⟩
theorem inv_ite {d a b : E} (h : trE c (.ite d a b) x = true) : ∃ y z w p, x = .IfExp y z w p ∧ trE c d y = true ∧ trE c a z = true ∧ trE c b w = true := by
  cases x <;> first | (simp only [trE] at h; cases h; done) | skip
  simp only [trE, Bool.and_eq_true] at h
  exact ⟨_, _, _, _, rfl, h.1.1, h.1.2, h.2⟩
theorem inv_tup {es : List E} (h : trE c (.tup es) x = true) : ∃ xs k p, x = .Tuple xs k p ∧ trA c es xs = true := by
  cases x <;> first | (simp only [trE] at h; cases h; done) | skip
  simp only [trE] at h
  exact ⟨_, _, _, rfl, h⟩
theorem inv_lst {es : List E} (h : trE c (.lst es) x = true) : ∃ xs p, x = .List xs p ∧ trA c es xs = true := by
  cases x <;> first | (simp only [trE] at h; cases h; done) | skip
  simp only [trE] at h
  exact ⟨_, _, rfl, h⟩
theorem inv_ix {a i : E} (h : trE c (.ix a i) x = true) : ∃ y z p, x = .Subscript y z p ∧ trE c a y = true ∧ trE c i z = true := by
  cases x <;> first | (simp only [trE] at h; cases h; done) | skip
  simp only [trE, Bool.and_eq_true] at h
  exact ⟨_, _, _, rfl, h.1, h.2⟩
theorem inv_sl {a : E} {lo hi : Option E} (h : trE c (.sl a lo hi) x = true) : ∃ y l u p2 p, x = .Subscript y (.Slice l u none p2) p ∧ trE c a y = true ∧ trO c lo l = true ∧ trO c hi u = true := by
  cases x <;> first | (simp only [trE] at h; cases h; done) | skip
  rename_i y z p
  cases z <;> first | (simp only [trE] at h; cases h; done) | skip
  rename_i l u st p2
  cases st <;> first | (simp only [trE] at h; cases h; done) | skip
  simp only [trE, Bool.and_eq_true] at h
  exact ⟨_, _, _, _, _, rfl, h.1.1, h.1.2, h.2⟩
theorem inv_rev {a : E} (h : trE c (.rev a) x = true) : ∃ y k p1 p2 p3 p, x = .Subscript y (.Slice none none (some (.UnaryOp .USub (.Constant (.int 1) k p1) p2)) p3) p ∧ trE c a y = true := by
  cases x <;> first | (simp only [trE] at h; cases h; done) | skip
  rename_i y z p
  cases z <;> first | (simp only [trE] at h; cases h; done) | skip
  rename_i l u st p3
  cases l <;> first | (simp only [trE] at h; cases h; done) | skip
  cases u <;> first | (simp only [trE] at h; cases h; done) | skip
  cases st <;> first | (simp only [trE] at h; cases h; done) | skip
  rename_i w
  cases w <;> first | (simp only [trE] at h; cases h; done) | skip
  rename_i o w p2
  cases o <;> first | (simp only [trE] at h; cases h; done) | skip
  cases w <;> first | (simp only [trE] at h; cases h; done) | skip
  rename_i v k p1
  cases v <;> first | (simp only [trE] at h; cases h; done) | skip
  simp only [trE, Bool.and_eq_true] at h
  exact ⟨_, _, _, _, _, _, by rw [of_decide_eq_true h.2], h.1⟩
theorem inv_call {g : Nat} {es : List E} (h : trE c (.call g es) x = true) : ∃ y q xs p, x = .Call (.Name y q) xs [] p ∧ c.fn[g]? = some y ∧ glB c.sc y = true ∧ c.calm = true ∧ trA c es xs = true := by
  cases x <;> first | (simp only [trE] at h; cases h; done) | skip
  rename_i f xs kws p
  cases f <;> first | (simp only [trE] at h; cases h; done) | skip
  cases kws <;> first | (simp only [trE] at h; cases h; done) | skip
  simp only [trE, Bool.and_eq_true] at h
  exact ⟨_, _, _, _, rfl, of_decide_eq_true h.1.1.1, h.1.1.2, h.1.2, h.2⟩
theorem inv_callt {g : Nat} {es : List E} (h : trE c (.callt g es) x = true) : ∃ y q xs p, x = .Call (.Name y q) xs [] p ∧ c.fn[g]? = some y ∧ glB c.sc y = true ∧ c.calm = true ∧ trA c es xs = true := by
  cases x <;> first | (simp only [trE] at h; cases h; done) | skip
  rename_i f xs kws p
  cases f <;> first | (simp only [trE] at h; cases h; done) | skip
  cases kws <;> first | (simp only [trE] at h; cases h; done) | skip
  simp only [trE, Bool.and_eq_true] at h
  exact ⟨_, _, _, _, rfl, of_decide_eq_true h.1.1.1, h.1.1.2, h.1.2, h.2⟩
theorem inv_callk {g : Nat} {es ws : List E} {ks : List Str} (h : trE c (.callk g es ks ws) x = true) : ∃ y q xs kws p, x = .Call (.Name y q) xs kws p ∧ c.fn[g]? = some y ∧ glB c.sc y = true ∧ c.calm = true ∧ trA c es xs = true ∧ trK c ks ws kws = true ∧ c.kw.contains (g, ks, es.length) = true := by
  cases x <;> first | (simp only [trE] at h; cases h; done) | skip
  rename_i f xs kws p
  cases f <;> first | (simp only [trE] at h; cases h; done) | skip
  simp only [trE, Bool.and_eq_true] at h
  exact ⟨_, _, _, _, _, rfl, of_decide_eq_true h.1.1.1.1.1, h.1.1.1.1.2, h.1.1.1.2, h.1.1.2, h.1.2, h.2⟩
theorem inv_calld {i : Nat} {es : List E} (h : trE c (.calld i es) x = true) : ∃ y q xs p, x = .Call (.Name y q) xs [] p ∧ nmB c i y = true ∧ c.calm = true ∧ trA c es xs = true := by
  cases x <;> first | (simp only [trE] at h; cases h; done) | skip
  rename_i f xs kws p
  cases f <;> first | (simp only [trE] at h; cases h; done) | skip
  cases kws <;> first | (simp only [trE] at h; cases h; done) | skip
  simp only [trE, Bool.and_eq_true] at h
  exact ⟨_, _, _, _, rfl, h.1.1.1, h.1.1.2, h.2⟩
theorem inv_bi {b : Bi} {es : List E} (h : trE c (.bi b es) x = true) : ∃ y q xs p, x = .Call (.Name y q) xs [] p ∧ y = Str.ofString (biNm b) ∧ glB c.sc y = true ∧ c.calm = true ∧ es.isEmpty = false ∧ (c.gcd || b != .gcd) = true ∧ trA c es xs = true := by
  cases x <;> first | (simp only [trE] at h; cases h; done) | skip
  rename_i f xs kws p
  cases f <;> first | (simp only [trE] at h; cases h; done) | skip
  cases kws <;> first | (simp only [trE] at h; cases h; done) | skip
  simp only [trE, Bool.and_eq_true] at h
  exact ⟨_, _, _, _, rfl, of_decide_eq_true h.1.1.1.1.1, h.1.1.1.1.2, h.1.1.1.2, by simpa using h.1.1.2, h.1.2, h.2⟩
end
end PL
end

section
namespace PL
open PySem PySem.Spec L2

section
variable {c : CC} {x : Expr}
theorem inv_isi {a : E} {cs : List String} (h : trE c (.isi a cs) x = true) : (∃ s q y z zp p, cs = [s] ∧ x = .Call (.Name "isinstance" q) [y, .Name z zp] [] p ∧ glB c.sc "isinstance" = true ∧ trE c a y = true ∧ glB c.sc z = true ∧ z = Str.ofString s ∧ tyOk.contains s = true) ∨
    ∃ q y zs k zp p, x = .Call (.Name "isinstance" q) [y, .Tuple zs k zp] [] p ∧ glB c.sc "isinstance" = true ∧ trE c a y = true ∧ gNames c zs = true ∧ tyNames cs zs = true ∧ cs.all tyOk.contains = true ∧ cs.length ≤ 100 := by
  cases x <;> first | (simp only [trE] at h; cases h; done) | skip
  rename_i f xs kws p
  cases f <;> first | (simp only [trE] at h; cases h; done) | skip
  rename_i fn fp
  match xs, kws, h with
  | [y, z], [], h =>
    match cs, h with
    | [s], h =>
      simp only [trE, Bool.and_eq_true] at h
      obtain ⟨⟨⟨⟨⟨h1, h2⟩, h3⟩, h4⟩, h5⟩, h6⟩ := h
      cases z <;> first | (simp only [tyName] at h5; cases h5; done) | skip
      simp only [gNames, Bool.and_eq_true] at h4
      have e := of_decide_eq_true h1
      subst e
      exact .inl ⟨s, _, _, _, _, _, rfl, rfl, h2, h3, h4.1, of_decide_eq_true h5, h6⟩
    | [], h =>
      cases z <;> first | (simp only [trE] at h; cases h; done) | skip
      simp only [trE, Bool.and_eq_true] at h
      obtain ⟨⟨⟨⟨⟨⟨h1, h2⟩, h3⟩, h4⟩, h5⟩, h6⟩, h7⟩ := h
      have e := of_decide_eq_true h1
      subst e
      exact .inr ⟨_, _, _, _, _, _, rfl, h2, h3, h4, h5, h6, of_decide_eq_true h7⟩
    | s :: s' :: cs, h =>
      cases z <;> first | (simp only [trE] at h; cases h; done) | skip
      simp only [trE, Bool.and_eq_true] at h
      obtain ⟨⟨⟨⟨⟨⟨h1, h2⟩, h3⟩, h4⟩, h5⟩, h6⟩, h7⟩ := h
      have e := of_decide_eq_true h1
      subst e
      exact .inr ⟨_, _, _, _, _, _, rfl, h2, h3, h4, h5, h6, of_decide_eq_true h7⟩
  | [], _, h => simp only [trE] at h; cases h
  | [_], _, h => simp only [trE] at h; cases h
  | _ :: _ :: _ :: _, _, h => simp only [trE] at h; cases h
  | [_, _], _ :: _, h => simp only [trE] at h; cases h
theorem inv_dnew {t : Bool} (h : trE c (.dnew t) x = true) : ∃ p, x = .Dict [] [] p := by
  cases x <;> first | (simp only [trE] at h; cases h; done) | skip
  rename_i ks vs p
  match ks, vs, h with
  | [], [], h => exact ⟨_, rfl⟩
  | _ :: _, _, h => simp only [trE] at h; cases h
  | [], _ :: _, h => simp only [trE] at h; cases h
theorem inv_app {i : Nat} {a : E} (h : trE c (.app i a) x = true) : ∃ z xp ap y p, x = .Call (.Attribute (.Name z xp) "append" ap) [y] [] p ∧ nmB c i z = true ∧ mthB ap p = true ∧ trE c a y = true := by
  cases x <;> first | (simp only [trE] at h; cases h; done) | skip
  rename_i f xs kws p
  cases f <;> first | (simp only [trE] at h; cases h; done) | skip
  rename_i o m ap
  cases o <;> first | (simp only [trE] at h; cases h; done) | skip
  match xs, kws, h with
  | [y], [], h =>
    simp only [trE, Bool.and_eq_true] at h
    have e := of_decide_eq_true h.1.1.2
    subst e
    exact ⟨_, _, _, _, _, rfl, h.1.1.1, h.1.2, h.2⟩
  | [], _, h => simp only [trE] at h; cases h
  | _ :: _ :: _, _, h => simp only [trE] at h; cases h
  | [_], _ :: _, h => simp only [trE] at h; cases h
theorem inv_ext {i : Nat} {a : E} (h : trE c (.ext i a) x = true) : ∃ z xp ap y p, x = .Call (.Attribute (.Name z xp) "extend" ap) [y] [] p ∧ nmB c i z = true ∧ mthB ap p = true ∧ trE c a y = true := by
  cases x <;> first | (simp only [trE] at h; cases h; done) | skip
  rename_i f xs kws p
  cases f <;> first | (simp only [trE] at h; cases h; done) | skip
  rename_i o m ap
  cases o <;> first | (simp only [trE] at h; cases h; done) | skip
  match xs, kws, h with
  | [y], [], h =>
    simp only [trE, Bool.and_eq_true] at h
    have e := of_decide_eq_true h.1.1.2
    subst e
    exact ⟨_, _, _, _, _, rfl, h.1.1.1, h.1.2, h.2⟩
  | [], _, h => simp only [trE] at h; cases h
  | _ :: _ :: _, _, h => simp only [trE] at h; cases h
  | [_], _ :: _, h => simp only [trE] at h; cases h
theorem inv_popat {i : Nat} {a : E} (h : trE c (.popat i a) x = true) : ∃ z xp ap y p, x = .Call (.Attribute (.Name z xp) "pop" ap) [y] [] p ∧ nmB c i z = true ∧ mthB ap p = true ∧ trE c a y = true := by
  cases x <;> first | (simp only [trE] at h; cases h; done) | skip
  rename_i f xs kws p
  cases f <;> first | (simp only [trE] at h; cases h; done) | skip
  rename_i o m ap
  cases o <;> first | (simp only [trE] at h; cases h; done) | skip
  match xs, kws, h with
  | [y], [], h =>
    simp only [trE, Bool.and_eq_true] at h
    have e := of_decide_eq_true h.1.1.2
    subst e
    exact ⟨_, _, _, _, _, rfl, h.1.1.1, h.1.2, h.2⟩
  | [], _, h => simp only [trE] at h; cases h
  | _ :: _ :: _, _, h => simp only [trE] at h; cases h
  | [_], _ :: _, h => simp only [trE] at h; cases h
theorem inv_pop {i : Nat} (h : trE c (.pop i) x = true) : ∃ z xp ap p, x = .Call (.Attribute (.Name z xp) "pop" ap) [] [] p ∧ nmB c i z = true ∧ mthB ap p = true := by
  cases x <;> first | (simp only [trE] at h; cases h; done) | skip
  rename_i f xs kws p
  cases f <;> first | (simp only [trE] at h; cases h; done) | skip
  rename_i o m ap
  cases o <;> first | (simp only [trE] at h; cases h; done) | skip
  match xs, kws, h with
  | [], [], h =>
    simp only [trE, Bool.and_eq_true] at h
    have e := of_decide_eq_true h.1.2
    subst e
    exact ⟨_, _, _, _, rfl, h.1.1, h.2⟩
  | _ :: _, _, h => simp only [trE] at h; cases h
  | [], _ :: _, h => simp only [trE] at h; cases h
theorem inv_comp {own : List Nat} {it : It} {tg : Tg} {cond : Option E} {elt : E} (h : trE c (.comp own it tg cond elt) x = true) : ∃ y t i ifs scope p, x = .ListComp y [⟨t, i, ifs, 0⟩] scope p ∧ c.calm = true ∧ blkC c.N c.sc scope (ownP c own) = true ∧ trI c it i = true ∧ (tgIx tg).all own.contains = true ∧
    trTg (blkCC c scope) tg t = true ∧ itTup it tg = true ∧ trC (blkCC c scope) cond ifs = true ∧ trE (blkCC c scope) elt y = true := by
  cases x <;> first | (simp only [trE] at h; cases h; done) | skip
  rename_i y gs scope p
  match gs, h with
  | [⟨t, i, ifs, z⟩], h =>
    by_cases hz : z = 0
    · subst hz
      simp only [trE, Bool.and_eq_true] at h
      obtain ⟨⟨⟨⟨⟨⟨⟨h1, h2⟩, h3⟩, h4⟩, h5⟩, h6⟩, h7⟩, h8⟩ := h
      exact ⟨_, _, _, _, _, _, rfl, h1, h2, h3, h4, h5, h6, h7, h8⟩
    · exfalso
      unfold trE at h
      split at h
      all_goals first | (cases h; done) | (rename_i q; cases q; exact hz rfl) | (rename_i q _ ; cases q; exact hz rfl) | simp_all
  | [], h => simp only [trE] at h; cases h
  | _ :: _ :: _, h => simp only [trE] at h; cases h
theorem inv_comp2 {own : List Nat} {it : It} {tg : Tg} {cond : Option E} {own1 : List Nat} {it1 : It} {tg1 : Tg} {cond1 : Option E} {elt : E} (h : trE c (.comp2 own it tg cond own1 it1 tg1 cond1 elt) x = true) :
    ∃ y t i ifs t1 i1 ifs1 scope p, x = .ListComp y [⟨t, i, ifs, 0⟩, ⟨t1, i1, ifs1, 0⟩] scope p ∧ c.calm = true ∧ blkC c.N c.sc scope (ownP c own) = true ∧ trI c it i = true ∧ (tgIx tg).all own.contains = true ∧
    trTg (blkCC c scope) tg t = true ∧ itTup it tg = true ∧ trC (blkCC c scope) cond ifs = true ∧ own1.all own.contains = true ∧ trI (blkCC c scope) it1 i1 = true ∧ (tgIx tg1).all own1.contains = true ∧
    trTg (blkCC c scope) tg1 t1 = true ∧ itTup it1 tg1 = true ∧ trC (blkCC c scope) cond1 ifs1 = true ∧ trE (blkCC c scope) elt y = true := by
  cases x <;> first | (simp only [trE] at h; cases h; done) | skip
  rename_i y gs scope p
  match gs, h with
  | [⟨t, i, ifs, z⟩, ⟨t1, i1, ifs1, z1⟩], h =>
    by_cases hz : z = 0 ∧ z1 = 0
    · obtain ⟨rfl, rfl⟩ := hz
      simp only [trE, Bool.and_eq_true] at h
      obtain ⟨⟨⟨⟨⟨⟨⟨⟨⟨⟨⟨⟨⟨h1, h2⟩, h3⟩, h4⟩, h5⟩, h6⟩, h7⟩, h8⟩, h9⟩, h10⟩, h11⟩, h12⟩, h13⟩, h14⟩ := h
      exact ⟨_, _, _, _, _, _, _, _, _, rfl, h1, h2, h3, h4, h5, h6, h7, h8, h9, h10, h11, h12, h13, h14⟩
    · exfalso
      unfold trE at h
      split at h
      all_goals first | (cases h; done) | (rename_i q; cases q; exact hz ⟨rfl, rfl⟩) | (rename_i q _ ; cases q; exact hz ⟨rfl, rfl⟩) | simp_all
  | [], h => simp only [trE] at h; cases h
  | [_], h => simp only [trE] at h; cases h
  | _ :: _ :: _ :: _, h => simp only [trE] at h; cases h
theorem inv_isx {i k : Nat} {o : Bool} (h : trE c (.isx i k o) x = true) : False := by
  cases x <;> (simp only [trE] at h; cases h)
theorem inv_dlit {ks : List Key} {vs : List D} {a : E} {d : Option E} (h : trE c (.dlit ks vs a d) x = true) : ∃ keys values dp ap y r p, x = .Call (.Attribute (.Dict keys values dp) "get" ap) (y :: r) [] p ∧ mthB ap p = true ∧ keyLs ks keys = true ∧ valLs vs values = true ∧ ks.Nodup ∧ ks.length = vs.length ∧ ks.length ≤ 15 ∧ ks ≠ [] ∧ trE c a y = true ∧ trC c d r = true := by
  cases x <;> first | (simp only [trE] at h; cases h; done) | skip
  rename_i f xs kws p
  cases f <;> first | (simp only [trE] at h; cases h; done) | skip
  rename_i o m ap
  cases o <;> first | (simp only [trE] at h; cases h; done) | skip
  match xs, kws, h with
  | y :: r, [], h =>
    simp only [trE, Bool.and_eq_true, decide_eq_true_eq] at h
    obtain ⟨⟨⟨⟨⟨⟨⟨⟨⟨h1, h2⟩, h3⟩, h4⟩, h5⟩, h6⟩, h7⟩, h8⟩, h9⟩, h10⟩ := h
    subst h1
    exact ⟨_, _, _, _, _, _, _, rfl, h2, h3, h4, h5, h6, h7, (by intro e; subst e; simp at h8), h9, h10⟩
  | [], _, h => simp only [trE] at h; cases h
  | _ :: _, _ :: _, h => simp only [trE] at h; cases h
/-! iterables -/
theorem inv_rng {es : List E} (h : trI c (.rng es) x = true) : ∃ q xs p, x = .Call (.Name "range" q) xs [] p ∧ glB c.sc "range" = true ∧ trA c es xs = true ∧ (xs.length == 1 || xs.length == 2 || xs.length == 3) = true := by
  cases x <;> first | (simp only [trI] at h; cases h; done) | skip
  rename_i f xs kws p
  cases f <;> first | (simp only [trI] at h; cases h; done) | skip
  cases kws <;> first | (simp only [trI] at h; cases h; done) | skip
  simp only [trI, Bool.and_eq_true] at h
  have e := of_decide_eq_true h.1.1.1
  subst e
  exact ⟨_, _, _, rfl, h.1.1.2, h.1.2, h.2⟩
theorem inv_zip {es : List E} (h : trI c (.zip es) x = true) : ∃ q xs p, x = .Call (.Name "zip" q) xs [] p ∧ glB c.sc "zip" = true ∧ trA c es xs = true ∧ (xs.length == 2) = true := by
  cases x <;> first | (simp only [trI] at h; cases h; done) | skip
  rename_i f xs kws p
  cases f <;> first | (simp only [trI] at h; cases h; done) | skip
  cases kws <;> first | (simp only [trI] at h; cases h; done) | skip
  simp only [trI, Bool.and_eq_true] at h
  have e := of_decide_eq_true h.1.1.1
  subst e
  exact ⟨_, _, _, rfl, h.1.1.2, h.1.2, h.2⟩
theorem inv_enum {a : E} (h : trI c (.enum a) x = true) : ∃ q y p, x = .Call (.Name "enumerate" q) [y] [] p ∧ glB c.sc "enumerate" = true ∧ trE c a y = true := by
  cases x <;> first | (simp only [trI] at h; cases h; done) | skip
  rename_i f xs kws p
  cases f <;> first | (simp only [trI] at h; cases h; done) | skip
  match xs, kws, h with
  | [y], [], h =>
    simp only [trI, Bool.and_eq_true] at h
    have e := of_decide_eq_true h.1.1
    subst e
    exact ⟨_, _, _, rfl, h.1.2, h.2⟩
  | [], _, h => simp only [trI] at h; cases h
  | _ :: _ :: _, _, h => simp only [trI] at h; cases h
  | [_], _ :: _, h => simp only [trI] at h; cases h
end
end PL
end

section
namespace PL
open PySem PySem.Spec L2

section
variable {c : CC} {x : Expr}
theorem tr_nst {a : E} (h : trE c a x = true) : nst x = true := by
  cases x <;> first | rfl | (exfalso; cases a <;> (simp only [trE] at h; cases h))
theorem tr_set {a : E} (h : trE c a x = true) : isSetE x = false := by
  cases x <;> first | rfl | (exfalso; cases a <;> (simp only [trE] at h; cases h))
theorem set_no {it : It} (h : trI c it x = true) : isSetE x = false := by
  cases it with
  | e a => simp only [trI] at h; exact tr_set h
  | rng es => obtain ⟨q, xs, p, rfl, _⟩ := inv_rng h; rfl
  | enum a => obtain ⟨q, xs, p, rfl, _⟩ := inv_enum h; rfl
  | zip es => obtain ⟨q, xs, p, rfl, _⟩ := inv_zip h; rfl
def isSl : Expr → Bool
  | .Slice .. => true
  | _ => false
theorem tr_slice {a : E} (h : trE c a x = true) : isSl x = false := by
  cases x <;> first | rfl | (exfalso; cases a <;> (simp only [trE] at h; cases h))
theorem marks_no {o : CmpOp} (h : isSetE x = false) : behindInMarks o x = false := by
  cases x <;> first | rfl | cases h
theorem plain_ix (h : isSl x = false) : PlainIx x := fun o i => by
  cases x <;> first | rfl | cases h
theorem tr_len : ∀ {as : List E} {xs : List Expr}, trA c as xs = true → as.length = xs.length ∧ xs.all nst = true
  | [], [], _ => ⟨rfl, rfl⟩
  | a :: as, x :: xs, h => by
    simp only [trA, Bool.and_eq_true] at h
    obtain ⟨h1, h2⟩ := tr_len h.2
    exact ⟨by simp [h1], by rw [List.all_cons, tr_nst h.1, h2]; rfl⟩
  | [], _ :: _, h => by simp only [trA] at h; cases h
  | _ :: _, [], h => by simp only [trA] at h; cases h
theorem trK_names : ∀ {ks : List Str} {as : List E} {kws : List Keyword}, trK c ks as kws = true → kwNames kws ks = true ∧ as.length = ks.length
  | [], [], [], _ => ⟨rfl, rfl⟩
  | k :: ks, a :: as, ⟨some n, x, p⟩ :: kws, h => by
    simp only [trK, Bool.and_eq_true] at h
    obtain ⟨h1, h2⟩ := trK_names h.2
    refine ⟨?_, by simp [h2]⟩
    simp only [kwNames, Bool.and_eq_true]
    exact ⟨h.1.1, h1⟩
  | [], [], _ :: _, h => by simp only [trK] at h; cases h
  | [], _ :: _, _, h => by simp only [trK] at h; cases h
  | _ :: _, [], _, h => by simp only [trK] at h; cases h
  | _ :: _, _ :: _, [], h => by simp only [trK] at h; cases h
  | _ :: _, _ :: _, ⟨none, _, _⟩ :: _, h => by simp only [trK] at h; cases h
theorem inv_tp {is : List Nat} (h : trTg c (.tp is) x = true) : ∃ xs k p, x = .Tuple xs k p := by
  cases x <;> first | (simp only [trTg] at h; cases h; done) | exact ⟨_, _, _, rfl⟩
end
variable {T : GT} {C : G0} {n : Nat}
mutual
theorem s_E : ∀ (a : E) {c : CC} {W : WX} {X : Cx} (G : Good T C n W c X) {x : Expr} (h : trE c a x = true), PE X x (RE T C n W a) ∧ PT X x (RT T C n W a)
  | .var i, c, W, X, G, x, h => by
    obtain ⟨y, p, rfl, h⟩ := inv_var h
    exact ⟨s_var G h, s_plain G (s_var G h) (fun _ => rfl) fun _ => rfl⟩
  | .int k, c, W, X, G, x, h => by
    obtain ⟨z, p, rfl⟩ := inv_int h
    exact ⟨s_int, s_plain G s_int (fun _ => rfl) fun _ => rfl⟩
  | .bl k, c, W, X, G, x, h => by
    obtain ⟨z, p, rfl⟩ := inv_bl h
    exact ⟨s_bl, s_plain G s_bl (fun _ => rfl) fun _ => rfl⟩
  | .non, c, W, X, G, x, h => by
    obtain ⟨z, p, rfl⟩ := inv_non h
    exact ⟨s_non, s_plain G s_non (fun _ => rfl) fun _ => rfl⟩
  | .str k, c, W, X, G, x, h => by
    obtain ⟨z, p, rfl⟩ := inv_str h
    exact ⟨s_str, s_plain G s_str (fun _ => rfl) fun _ => rfl⟩
  | .con k, c, W, X, G, x, h => by
    obtain ⟨y, p, rfl, h1, h2⟩ := inv_con h
    exact ⟨s_con G h1 h2, s_plain G (s_con G h1 h2) (fun _ => rfl) fun _ => rfl⟩
  | .fnv k, c, W, X, G, x, h => by
    obtain ⟨y, p, rfl, h1, h2⟩ := inv_fnv h
    exact ⟨s_fnv G h1 h2, s_plain G (s_fnv G h1 h2) (fun _ => rfl) fun _ => rfl⟩
  | .bin o a b, c, W, X, G, x, h => by
    obtain ⟨y, z, p, rfl, h1, h2⟩ := inv_bin h
    have k := s_bin (pos := p) G (o := o) (s_E a G h1).1 (s_E b G h2).1
    exact ⟨k, s_plain G k (fun _ => rfl) fun _ => rfl⟩
  | .neg a, c, W, X, G, x, h => by
    obtain ⟨y, p, rfl, h1⟩ := inv_neg h
    have k := s_neg (pos := p) (s_E a G h1).1
    exact ⟨k, s_plain G k (fun _ => rfl) fun _ => rfl⟩
  | .cmp o a b, c, W, X, G, x, h => by
    obtain ⟨y, z, p, rfl, h1, h2⟩ := inv_cmp h
    exact s_cmp G (s_E a G h1).1 (s_E b G h2).1 (marks_no (tr_set h2))
  | .chain o o2 a b d, c, W, X, G, x, h => by
    obtain ⟨y, z, w, p, rfl, h1, h2, h3⟩ := inv_chain h
    exact s_chain G (s_E a G h1).1 (s_E b G h2).1 (s_E d G h3).1 (marks_no (tr_set h3))
  | .andor k es, c, W, X, G, x, h => by
    obtain ⟨xs, p, rfl, h1⟩ := inv_andor h
    by_cases he : es = []
    · subst he
      have e0 : ∀ m e, evE T (callF T n) m (.andor k []) e = .stuck := fun m e => rfl
      refine ⟨?_, t_no (e0 true)⟩
      exact PE.to (t := fun _ _ _ => False) ⟨fun _ _ _ _ _ _ q => q.elim⟩ fun σ H Q ⟨e, F, R, q⟩ => by rw [e0] at q; exact q
    · obtain ⟨k1, k2⟩ := s_V es k p G h1 he
      exact ⟨k1, k2.pt⟩
  | .not_ a, c, W, X, G, x, h => by
    obtain ⟨y, p, rfl, h1⟩ := inv_not h
    obtain ⟨k1, k2⟩ := s_E a G h1
    exact ⟨s_not G k1, t_not k2⟩
  | .ite d a b, c, W, X, G, x, h => by
    obtain ⟨y, z, w, p, rfl, h1, h2, h3⟩ := inv_ite h
    exact ⟨s_ite (s_E d G h1).2 (s_E a G h2).1 (s_E b G h3).1, t_no fun _ => rfl⟩
  | .tup es, c, W, X, G, x, h => by
    obtain ⟨xs, k, p, rfl, h1⟩ := inv_tup h
    have k := s_tup (x1 := k) (pos := p) (s_A es G h1)
    exact ⟨k, s_plain G k (fun _ => rfl) fun _ => rfl⟩
  | .lst es, c, W, X, G, x, h => by
    obtain ⟨xs, p, rfl, h1⟩ := inv_lst h
    have k := s_lst (pos := p) (s_A es G h1)
    exact ⟨k, s_plain G k (fun _ => rfl) fun _ => rfl⟩
  | .ix a i, c, W, X, G, x, h => by
    obtain ⟨y, z, p, rfl, h1, h2⟩ := inv_ix h
    have k := s_ix (pos := p) G (s_E a G h1).1 (s_E i G h2).1 (plain_ix (tr_slice h2))
    exact ⟨k, s_plain G k (fun _ => rfl) fun _ => rfl⟩
  | .dd1 a b, c, W, X, G, x, h => by
    obtain ⟨y, z, p, rfl, h1, h2⟩ := inv_dd1 h
    have k := s_dd1 (pos := p) G (s_E a G h1).1 (s_E b G h2).1
    exact ⟨k, s_plain G k (fun _ => rfl) fun _ => rfl⟩
  | .lset a, c, W, X, G, x, h => by
    obtain ⟨q, q2, z, p2, p, rfl, h1, h2, h3, h4⟩ := inv_lset h
    have k := s_lset (q := q) (q2 := q2) (p2 := p2) (pos := p) G h1 h2 h3 (tr_nst h4) (s_E a G h4).1
    exact ⟨k, s_plain G k (fun _ => rfl) fun _ => rfl⟩
  | .sset a, c, W, X, G, x, h => by
    obtain ⟨q, q2, z, p2, p, rfl, h1, h2, h3, h4⟩ := inv_sset h
    have k := s_sset (q := q) (q2 := q2) (p2 := p2) (pos := p) G h1 h2 h3 (tr_nst h4) (s_E a G h4).1
    exact ⟨k, s_plain G k (fun _ => rfl) fun _ => rfl⟩
  | .lrg t a, c, W, X, G, x, h => by
    obtain ⟨y, q, w, q2, z, p2, p, rfl, h1, h2, h3, h4, h5, h6⟩ := inv_lrg h
    have k := s_lrg (q := q) (q2 := q2) (p2 := p2) (pos := p) G h1 h2 h3 h4 h5 (tr_nst h6) (s_E a G h6).1
    exact ⟨k, s_plain G k (fun _ => rfl) fun _ => rfl⟩
  | .dix k i, c, W, X, G, x, h => by
    obtain ⟨y, p1, z, p, rfl, h1, h2, h3⟩ := inv_dix h
    have k := s_dix (p := p1) (pos := p) G h1 h2 (s_E i G h3).1 (plain_ix (tr_slice h3))
    exact ⟨k, s_plain G k (fun _ => rfl) fun _ => rfl⟩
  | .sl a lo hi, c, W, X, G, x, h => by
    obtain ⟨y, l, u, p2, p, rfl, h1, h2, h3⟩ := inv_sl h
    have k := s_sl (p2 := p2) (pos := p) G (s_E a G h1).1 (s_O lo G h2) (s_O hi G h3)
    exact ⟨k, s_plain G k (fun _ => rfl) fun _ => rfl⟩
  | .rev a, c, W, X, G, x, h => by
    obtain ⟨y, k, p1, p2, p3, p, rfl, h1⟩ := inv_rev h
    have k := s_rev (k := k) (p1 := p1) (p2 := p2) (p3 := p3) (pos := p) G (s_E a G h1).1
    exact ⟨k, s_plain G k (fun _ => rfl) fun _ => rfl⟩
  | .call g es, c, W, X, G, x, h => by
    obtain ⟨y, q, xs, p, rfl, h1, h2, h3, h4⟩ := inv_call h
    obtain ⟨l1, l2⟩ := tr_len h4
    have k := s_call (p := q) (pos := p) G h3 h1 h2 (s_A es G h4) l2 l1
    exact ⟨k, s_plain G k (fun _ => rfl) fun _ => rfl⟩
  | .callt g es, c, W, X, G, x, h => by
    obtain ⟨y, q, xs, p, rfl, h1, h2, h3, h4⟩ := inv_callt h
    obtain ⟨l1, l2⟩ := tr_len h4
    have k := s_callt (p := q) (pos := p) G h3 h1 h2 (s_A es G h4) l2 l1
    exact ⟨k, s_plain G k (fun _ => rfl) fun _ => rfl⟩
  | .callk g es ks ws, c, W, X, G, x, h => by
    obtain ⟨y, q, xs, kws, p, rfl, h1, h2, h3, h4, h5, h6⟩ := inv_callk h
    obtain ⟨l1, l2⟩ := tr_len h4
    obtain ⟨l3, l4⟩ := trK_names h5
    have k := s_callk (p := q) (pos := p) G h3 h1 h2 (s_A es G h4) l2 l1 (s_K ws G h5) l3 l4 (List.contains_iff_mem.mp h6)
    exact ⟨k, s_plain G k (fun _ => rfl) fun _ => rfl⟩
  | .calld i es, c, W, X, G, x, h => by
    obtain ⟨y, q, xs, p, rfl, h1, h2, h3⟩ := inv_calld h
    obtain ⟨l1, l2⟩ := tr_len h3
    have k := s_calld (p := q) (pos := p) G h2 h1 (s_A es G h3) l2 l1
    exact ⟨k, s_plain G k (fun _ => rfl) fun _ => rfl⟩
  | .bi b es, c, W, X, G, x, h => by
    obtain ⟨y, q, xs, p, rfl, h1, h2, h3, h4, h5, h6⟩ := inv_bi h
    obtain ⟨l1, l2⟩ := tr_len h6
    cases xs with
    | nil => cases es <;> simp at h4 l1
    | cons z zs =>
      have l3 := l2
      rw [List.all_cons, Bool.and_eq_true] at l3
      have k := s_bi (a := .non) (p := q) (pos := p) G h1 h2 h3 (fun e => by subst e; simpa using h5) (s_A es G h6) (star_cons l3.1) (star_any l3.2)
      exact ⟨k, s_plain G k (fun _ => rfl) fun _ => rfl⟩
  | .isi a cs, c, W, X, G, x, h => by
    rcases inv_isi h with ⟨s, q, y, z, zp, p, rfl, rfl, h1, h2, h3, h4, h5⟩ | ⟨q, y, zs, k, zp, p, rfl, h1, h2, h3, h4, h5, h6⟩
    · have k := s_isi1 (zp := zp) (p := q) (pos := p) G (s_E a G h2).1 (tr_nst h2) h1 h5 h4 h3
      exact ⟨k, s_plain G k (fun _ => rfl) fun _ => rfl⟩
    · have k := s_isiT (k := k) (zp := zp) (p := q) (pos := p) G (s_E a G h2).1 (tr_nst h2) h1 h4 h3 h6 h5
      exact ⟨k, s_plain G k (fun _ => rfl) fun _ => rfl⟩
  | .isx i k o, c, W, X, G, x, h => (inv_isx h).elim
  | .dnew t, c, W, X, G, x, h => by
    obtain ⟨p, rfl⟩ := inv_dnew h
    have k : PE X (.Dict [] [] p) (RE T C n W (.dnew t)) := s_dnew
    exact ⟨k, s_plain G k (fun _ => rfl) fun _ => rfl⟩
  | .dlit ks vs a none, c, W, X, G, x, h => by
    obtain ⟨keys, values, dp, ap, y, r, p, rfl, h1, h2, h3, h4, h5, h6, h7, h8, h9⟩ := inv_dlit h
    cases r with
    | cons _ _ => simp only [trC] at h9; cases h9
    | nil =>
      have k := s_dlit1 (dp := dp) G h1 h2 h3 h4 h5 h6 h7 (s_E a G h8).1 (tr_nst h8)
      exact ⟨k, s_plain G k (fun _ => rfl) fun _ => rfl⟩
  | .dlit ks vs a (some b), c, W, X, G, x, h => by
    obtain ⟨keys, values, dp, ap, y, r, p, rfl, h1, h2, h3, h4, h5, h6, h7, h8, h9⟩ := inv_dlit h
    match r, h9 with
    | [z], h9 =>
      simp only [trC] at h9
      have k := s_dlit2 (dp := dp) G h1 h2 h3 h4 h5 h6 h7 (s_E a G h8).1 (tr_nst h8) (s_E b G h9).1 (tr_nst h9)
      exact ⟨k, s_plain G k (fun _ => rfl) fun _ => rfl⟩
    | [], h9 => simp only [trC] at h9; cases h9
    | _ :: _ :: _, h9 => simp only [trC] at h9; cases h9
  | .app i a, c, W, X, G, x, h => by
    obtain ⟨z, xp, ap, y, p, rfl, h1, h2, h3⟩ := inv_app h
    have k := s_app (xp := xp) G h1 h2 (s_E a G h3).1 (tr_nst h3)
    exact ⟨k, s_plain G k (fun _ => rfl) fun _ => rfl⟩
  | .ext i a, c, W, X, G, x, h => by
    obtain ⟨z, xp, ap, y, p, rfl, h1, h2, h3⟩ := inv_ext h
    have k := s_ext (xp := xp) G h1 h2 (s_E a G h3).1 (tr_nst h3)
    exact ⟨k, s_plain G k (fun _ => rfl) fun _ => rfl⟩
  | .pop i, c, W, X, G, x, h => by
    obtain ⟨z, xp, ap, p, rfl, h1, h2⟩ := inv_pop h
    have k : PE X _ (RE T C n W (.pop i)) := s_pop (xp := xp) G h1 h2
    exact ⟨k, s_plain G k (fun _ => rfl) fun _ => rfl⟩
  | .popat i a, c, W, X, G, x, h => by
    obtain ⟨z, xp, ap, y, p, rfl, h1, h2, h3⟩ := inv_popat h
    have k := s_popat (xp := xp) G h1 h2 (s_E a G h3).1 (tr_nst h3)
    exact ⟨k, s_plain G k (fun _ => rfl) fun _ => rfl⟩
  | .comp own it tg cond elt, c, W, X, G, x, h => by
    obtain ⟨y, t, i, ifs, scope, p, rfl, h1, h2, h3, h4, h5, h6, h7, h8⟩ := inv_comp h
    obtain ⟨k1, k2⟩ := s_I it (tg := tg) (t := t) G h3 ⟨_, h5⟩ h6
    have hown : (ownP c own).map (·.2) = own := by
      unfold ownP
      rw [List.map_map]
      exact (List.map_congr_left (g := id) fun _ _ => rfl).trans (List.map_id _)
    have k : PE X (.ListComp y [⟨t, i, ifs, 0⟩] scope p) (RE T C n W (.comp own it tg cond elt)) := by
      refine (pe_lc (own := ownP c own) (G.cm h1) (by rw [G.N]; exact G.nd) k1 (blkOk_by (by rw [G.N, G.sc]; exact h2)) (fun s H C' cl fp => s_tg (G.blk scope s H cl C' fp) h1 h5)
        (fun s H C' cl fp => s_C cond (G.blk scope s H cl C' fp) h7) (fun s H C' cl fp => (s_E elt (G.blk scope s H cl C' fp) h8).1) (folded_no k2)).to fun σ H Q q => ?_
      rw [hown]
      exact rd_comp h4 q
    exact ⟨k, s_plain G k (fun _ => rfl) fun _ => rfl⟩
  | .comp2 own it tg cond own1 it1 tg1 cond1 elt, c, W, X, G, x, h => by
    obtain ⟨y, t, i, ifs, t1, i1, ifs1, scope, p, rfl, h1, h2, h3, h4, h5, h6, h7, h8, h9, h10, h11, h12, h13, h14⟩ := inv_comp2 h
    obtain ⟨k1, k2⟩ := s_I it (tg := tg) (t := t) G h3 ⟨_, h5⟩ h6
    have kk : ∀ (s : Shared) (H : Hp) (C' : Addr) (cl : List (Str × Addr)) (fp : List Addr), PI (X.blk s H scope (compEnvC scope cl C' X.env) fp) t1 i1 (RI T C n W0 it1) ∧ isSetE i1 = false := fun s H C' cl fp => s_I it1 (tg := tg1) (t := t1) (G.blk scope s H cl C' fp) h9 ⟨_, h11⟩ h12
    have hoo : ∀ i ∈ own1, i ∈ own := fun i hi => List.contains_iff_mem.mp (List.all_eq_true.mp h8 i hi)
    have hown : (ownP c own).map (·.2) = own := by
      unfold ownP
      rw [List.map_map]
      exact (List.map_congr_left (g := id) fun _ _ => rfl).trans (List.map_id _)
    have k : PE X (.ListComp y [⟨t, i, ifs, 0⟩, ⟨t1, i1, ifs1, 0⟩] scope p) (RE T C n W (.comp2 own it tg cond own1 it1 tg1 cond1 elt)) := by
      refine (pe_lc2 (own := ownP c own) (vs1 := own1) (G.cm h1) (by rw [G.N]; exact G.nd) k1 (blkOk_by (by rw [G.N, G.sc]; exact h2)) (by rw [hown]; exact hoo) (fun s H C' cl fp => s_tg (G.blk scope s H cl C' fp) h1 h5)
        (fun s H C' cl fp => s_C cond (G.blk scope s H cl C' fp) h7) (fun s H C' cl fp => (kk s H C' cl fp).1) (fun s H C' cl fp => s_tg (G.blk scope s H cl C' fp) h1 h11) (fun s H C' cl fp => s_C cond1 (G.blk scope s H cl C' fp) h13)
        (fun s H C' cl fp => (s_E elt (G.blk scope s H cl C' fp) h14).1) (folded_no k2) (fun env => folded_no (set_no h9))).to fun σ H Q q => ?_
      rw [hown]
      exact rd_comp2 h4 h10 hoo q
    exact ⟨k, s_plain G k (fun _ => rfl) fun _ => rfl⟩
theorem s_A : ∀ (as : List E) {c : CC} {W : WX} {X : Cx} (G : Good T C n W c X) {xs : List Expr} (h : trA c as xs = true), PA X xs (RA T C n W as)
  | [], c, W, X, G, [], h => s_nil
  | a :: as, c, W, X, G, x :: xs, h => by
    simp only [trA, Bool.and_eq_true] at h
    exact s_cons (s_E a G h.1).1 (s_A as G h.2) (star_cons (tr_nst h.1))
  | [], _, _, _, _, _ :: _, h => by simp only [trA] at h; cases h
  | _ :: _, _, _, _, _, [], h => by simp only [trA] at h; cases h
theorem s_K : ∀ (as : List E) {c : CC} {W : WX} {X : Cx} (G : Good T C n W c X) {ks : List Str} {kws : List Keyword} (h : trK c ks as kws = true), PK X kws (RA T C n W as)
  | [], c, W, X, G, [], [], h => s_knil
  | a :: as, c, W, X, G, k :: ks, ⟨some m, x, p⟩ :: kws, h => by
    simp only [trK, Bool.and_eq_true] at h
    exact s_kcons (s_E a G h.1.2).1 (s_K as G h.2)
  | [], _, _, _, _, [], _ :: _, h => by simp only [trK] at h; cases h
  | [], _, _, _, _, _ :: _, _, h => by simp only [trK] at h; cases h
  | _ :: _, _, _, _, _, [], _, h => by simp only [trK] at h; cases h
  | _ :: _, _, _, _, _, _ :: _, [], h => by simp only [trK] at h; cases h
  | _ :: _, _, _, _, _, _ :: _, ⟨none, _, _⟩ :: _, h => by simp only [trK] at h; cases h
theorem s_V : ∀ (as : List E) (k : Bool) (p : Pos) {c : CC} {W : WX} {X : Cx} (G : Good T C n W c X) {xs : List Expr} (h : trA c as xs = true) (he : as ≠ []), PE X (.BoolOp (bopOf k) xs p) (RE T C n W (.andor k as)) ∧ PW X (.BoolOp (bopOf k) xs p) (RT T C n W (.andor k as))
  | [], _, _, _, _, _, _, _, _, he => absurd rfl he
  | a :: as, k, p, c, W, X, G, x :: xs, h, he => by
    simp only [trA, Bool.and_eq_true] at h
    obtain ⟨k1, k2⟩ := s_E a G h.1
    cases as with
    | nil =>
      cases xs with
      | nil => exact ⟨s_andor1 k1, t_andor1 k2⟩
      | cons _ _ => simp only [trA] at h; cases h.2
    | cons b bs =>
      cases xs with
      | nil => simp only [trA] at h; cases h.2
      | cons y ys =>
        obtain ⟨m1, m2⟩ := s_V (b :: bs) k p G h.2 (by simp)
        exact ⟨s_andor G k1 m1, t_andor k2 m2⟩
  | _ :: _, _, _, _, _, _, _, [], h, _ => by simp only [trA] at h; cases h
theorem s_O : ∀ (a : Option E) {c : CC} {W : WX} {X : Cx} (G : Good T C n W c X) {x : Option Expr} (h : trO c a x = true), PO X x (RO T C n W a)
  | none, c, W, X, G, none, h => s_po0
  | some a, c, W, X, G, some x, h => by
    simp only [trO] at h
    exact s_po1 (s_E a G h).1
  | none, _, _, _, _, some _, h => by simp only [trO] at h; cases h
  | some _, _, _, _, _, none, h => by simp only [trO] at h; cases h
theorem s_C : ∀ (a : Option E) {c : CC} {W : WX} {X : Cx} (G : Good T C n W c X) {xs : List Expr} (h : trC c a xs = true), PTs X xs (RC T C n W a)
  | none, c, W, X, G, [], h => s_no
  | some a, c, W, X, G, [x], h => by
    simp only [trC] at h
    exact s_one (s_E a G h).2
  | none, _, _, _, _, _ :: _, h => by simp only [trC] at h; cases h
  | some _, _, _, _, _, [], h => by simp only [trC] at h; cases h
  | some _, _, _, _, _, _ :: _ :: _, h => by simp only [trC] at h; cases h
theorem s_I : ∀ (it : It) {c : CC} {W : WX} {X : Cx} {tg : Tg} {t : Expr} (G : Good T C n W c X) {x : Expr} (h : trI c it x = true) (ht : ∃ c', trTg c' tg t = true) (hp : itTup it tg = true), PI X t x (RI T C n W it) ∧ isSetE x = false
  | .e a, c, W, X, tg, t, G, x, h, ht, hp => by
    simp only [trI] at h
    exact ⟨s_itE G (s_E a G h).1, tr_set h⟩
  | .rng es, c, W, X, tg, t, G, x, h, ht, hp => by
    obtain ⟨q, xs, p, rfl, h1, h2, h3⟩ := inv_rng h
    obtain ⟨l1, l2⟩ := tr_len h2
    exact ⟨s_itR G h1 (s_A es G h2) l2 h3 l1, rfl⟩
  | .enum a, c, W, X, tg, t, G, x, h, ht, hp => by
    obtain ⟨q, y, p, rfl, h1, h2⟩ := inv_enum h
    cases tg with
    | nm i => simp only [itTup] at hp; cases hp
    | tp is =>
      obtain ⟨c', ht⟩ := ht
      obtain ⟨ts, k, tp, rfl⟩ := inv_tp ht
      exact ⟨s_itN G h1 (s_E a G h2).1 (tr_nst h2), rfl⟩
  | .zip es, c, W, X, tg, t, G, x, h, ht, hp => by
    obtain ⟨q, xs, p, rfl, h1, h2, h3⟩ := inv_zip h
    obtain ⟨l1, l2⟩ := tr_len h2
    cases tg with
    | nm i => simp only [itTup] at hp; cases hp
    | tp is =>
      obtain ⟨c', ht⟩ := ht
      obtain ⟨ts, k, tp, rfl⟩ := inv_tp ht
      exact ⟨s_itZ G h1 (s_A es G h2) l2 h3, rfl⟩
end
end PL
end

section
namespace PL
open PySem PySem.Spec L2

/-! ## statements: what is wanted -/
section
variable {C : G0} {e e1 : EV} {F F1 H H1 : Hp} {σ σ1 : St} {W : WX}
def RetOk (C : G0) (e : EV) (σ : St) (H F' : Hp) (σ' : St) (H' : Hp) (e' : EV) (r : RV) (v : V) : Prop := match r with
  | .v d => Rep C F' d v
  | .t d => ∃ a, v = .ref a ∧ Mine C F' H' d a ∧ ¬ OwnA e' σ' a ∧ ((∃ (j : Nat) (d' : D), e[j]? = some (.own d') ∧ σ[j]? = some (some (.ref a))) ∨ H a = none)
  | .h _ => False
def PostS (C : G0) (W : WX) (e : EV) (F : Hp) (σ : St) (H : Hp) (o : Out Fl) (E : Ends) : Prop := match o with
  | .ok .next e' => ∀ F' σ' H', Tr C e F σ H e' F' σ' H' → E.nx σ' H'
  | .ok .brk e' => ∀ F' σ' H', Tr C e F σ H e' F' σ' H' → E.bk σ' H'
  | .ok .cnt e' => ∀ F' σ' H', Tr C e F σ H e' F' σ' H' → E.ct σ' H'
  | .ok (.ret r) e' => ∀ F' σ' H' v, Tr C e F σ H e' F' σ' H' → RetOk C e σ H F' σ' H' e' r v → E.rt v H'
  | .exc c p e' => ∀ F' σ' H', Tr C e F σ H e' F' σ' H' → ExW C W c p σ' H'
  | .stuck => False
theorem PostS.shift {o : Out Fl} {E : Ends} (t : Tr C e F σ H e1 F1 σ1 H1) (h : PostS C W e F σ H o E) : PostS C W e1 F1 σ1 H1 o E := by
  cases o with
  | ok f e' =>
    cases f with
    | next => exact fun F' σ' H' u => h F' σ' H' (t.trans u)
    | brk => exact fun F' σ' H' u => h F' σ' H' (t.trans u)
    | cnt => exact fun F' σ' H' u => h F' σ' H' (t.trans u)
    | ret r =>
      refine fun F' σ' H' v u k => h F' σ' H' v (t.trans u) ?_
      cases r with
      | v d => exact k
      | h i => exact k
      | t d =>
        obtain ⟨a, q1, q2, q3, q4⟩ := k
        refine ⟨a, q1, q2, q3, ?_⟩
        rcases q4 with ⟨j, d', k1, k2⟩ | k
        · exact t.own j d' a k1 k2
        · by_cases z : H a = none
          · exact .inr z
          · exact absurd k (t.there a z)
  | exc c p e' => exact fun F' σ' H' u => h F' σ' H' (t.trans u)
  | stuck => exact h
theorem PostS.opt {α : Type} {o : Option α} {f : α → Out Fl} {E : Ends} (h : PostS C W e F σ H (PL.opt o f) E) : ∃ a, o = some a ∧ PostS C W e F σ H (f a) E := by
  cases o with
  | none => exact h.elim
  | some a => exact ⟨a, rfl, h⟩
theorem PostS.first {x : Out RV} {f : RV → EV → Out Fl} {E : Ends} {Q1 : VK} (h : PostS C W e F σ H (x.bd f) E)
    (k : ∀ r e1 v F1 H1, TrE C e F σ H e1 F1 H1 → RVok C H F1 σ H1 e1 r v → PostS C W e F σ H (f r e1) E → Q1 v H1) : PostE C W e F σ H x Q1 := by
  cases x with
  | ok r e1 => exact fun v F1 H1 t r1 => k r e1 v F1 H1 t r1 h
  | exc c p e1 => exact fun F' H' t => h F' σ H' t.toTr
  | stuck => exact h
theorem PostS.firstB {x : Out Bool} {f : Bool → EV → Out Fl} {E : Ends} {Q1 : Bool → Hp → Prop} (h : PostS C W e F σ H (x.bd f) E)
    (k : ∀ r e1 F1 H1, TrE C e F σ H e1 F1 H1 → PostS C W e1 F1 σ H1 (f r e1) E → Q1 r H1) : PostB C W e F σ H x Q1 := by
  cases x with
  | ok r e1 => exact fun F1 H1 t => k r e1 F1 H1 t (PostS.shift t.toTr h)
  | exc c p e1 => exact fun F' H' t => h F' σ H' t.toTr
  | stuck => exact h
theorem PostS.firstI {x : Out (List D)} {f : List D → EV → Out Fl} {E : Ends} {R : L2.It → Hp → Prop} (h : PostS C W e F σ H (x.bd f) E)
    (k : ∀ ds e1 J F1 H1, TrE C e F σ H e1 F1 H1 → WalkD C F1 J ds → PostS C W e1 F1 σ H1 (f ds e1) E → R J H1) : PostI C W e F σ H x R := by
  cases x with
  | ok ds e1 => exact fun J F1 H1 t w => k ds e1 J F1 H1 t w (PostS.shift t.toTr h)
  | exc c p e1 => exact fun F' H' t => h F' σ H' t.toTr
  | stuck => exact h
/-- a result goes into a slot -/
theorem put_ok {r : RV} {v : V} {i : Nat} {r' : RV} {e2 e3 : EV} (t : TrE C e F σ H e1 F1 H1) (h : RVok C H F1 σ H1 e1 r v) (k1 : fzR e1 r = some (r', e2)) (k2 : setR i r' e2 = some e3) :
    ∃ F2, Tr C e F σ H e3 F2 (σ.set i (some v)) H1 := by
  cases r with
  | v d =>
    cases k1
    unfold setR at k2
    split at k2 <;> cases k2
    rename_i ok
    exact ⟨F1, set1 t.toTr ok (.inr (.inl ⟨d, v, rfl, rfl, h⟩))⟩
  | t d =>
    cases k1
    obtain ⟨a, rfl, m, h0, n⟩ := h
    unfold setR at k2
    split at k2 <;> cases k2
    rename_i ok
    exact ⟨F1, set1 t.toTr ok (.inr (.inr ⟨d, a, rfl, rfl, m, n, .inr h0⟩))⟩
  | h j =>
    simp only [fzR] at k1
    cases k3 : frz e1 (.h j) with
    | none => rw [k3] at k1; cases k1
    | some z =>
      obtain ⟨d, e4⟩ := z
      rw [k3] at k1
      cases k1
      obtain ⟨F2, t2, rp, s2⟩ := frz_ok t h k3
      unfold setR at k2
      split at k2 <;> cases k2
      rename_i ok
      exact ⟨F2, set1 t2.toTr ok (.inr (.inl ⟨d, v, rfl, rfl, rp⟩))⟩
end
section
variable (T : GT) (C : G0) (n : Nat) (W : WX)
def RS (s : S) : TS := fun E σ H => ∃ e F, SR C e F σ H ∧ PostS C W e F σ H (exS T (callF T n) s e) E
def RB (ss : List S) : TS := fun E σ H => ∃ e F, SR C e F σ H ∧ PostS C W e F σ H (exB T (callF T n) ss e) E
end
theorem _root_.L2.PS.to {X : Cx} {x : Stmt} {t t' : TS} (h : PS X x t) (k : ∀ E σ H, t' E σ H → t E σ H) : PS X x t' := ⟨fun pins s σ H E I q => h.run pins s σ H E I (k E σ H q)⟩
theorem _root_.L2.PSs.to {X : Cx} {x : List Stmt} {t t' : TS} (h : PSs X x t) (k : ∀ E σ H, t' E σ H → t E σ H) : PSs X x t' := ⟨fun pins s σ H E I q => h.run pins s σ H E I (k E σ H q)⟩
/-- in a def's body -/
structure GoodS (T : GT) (C : G0) (n : Nat) (W : WX) (c : CC) (X : Cx) : Prop extends Good T C n W c X where
  kind : X.env.scope.kind = .function
  po : PassesOwn (model X.prog X.w) X.A X.env X.xe
  stk : X.stack = X.env :: X.outer
  fr : X.env.frame = some X.env.locals
  cl : X.calm = true
  bs : c.bs = none
  fnx : ∀ x, X.fn x = true
section
variable {T : GT} {C : G0} {n : Nat} {W : WX} {c : CC} {X : Cx}
theorem GoodS.blk (G : GoodS T C n W c X) : X.env.blockKind = .function := by
  unfold Env.blockKind
  rw [G.kind]
  rfl
/-! ### simple statements -/
theorem s_ex (G : GoodS T C n W c X) {a : E} {x : Expr} {pos : Pos} (ha : PE X x (RE T C n W a)) (hd : ∀ l : Nat, swapsWith x none l X.env = pure false) : PS X (.Expr x pos) (RS T C n W (.ex a)) := by
  refine (ps_expr ha (hd _)).to fun E σ H => ?_
  rintro ⟨e, F, R, q⟩
  exact ⟨e, F, R, PostS.first (f := fun _ e1 => .ok .next e1) (by simpa only [exS] using q) fun r e1 v F1 H1 t1 r1 q => q F1 σ H1 t1.toTr⟩
theorem rd_set {i : Nat} {a : E} {E : Ends} {σ : St} {H : Hp} (h : RS T C n W (.set i a) E σ H) : RE T C n W a σ H fun v H1 => gName i v σ H1 E.nx := by
  obtain ⟨e, F, R, q⟩ := h
  refine ⟨e, F, R, PostS.first (by simpa only [exS] using q) fun r e1 v F1 H1 t1 r1 q => ?_⟩
  obtain ⟨⟨r', e2⟩, k1, q⟩ := q.opt
  obtain ⟨e3, k2, q⟩ := q.opt
  obtain ⟨F2, t2⟩ := put_ok t1 r1 k1 k2
  exact q F2 _ H1 t2
theorem stB_ix {i : Nat} {x : Str} (h : stB c i x = true) : c.N[i]? = some x := by
  unfold stB at h
  rw [Bool.and_eq_true, Bool.and_eq_true] at h
  exact of_decide_eq_true h.1.1
theorem swaps_no {x : Expr} (h : isLC x = false) {t : Expr} {l : Nat} {env : Env} (hc : ∀ a b c d, x ≠ .SetComp a b c d) (hd : ∀ a b c d e, x ≠ .DictComp a b c d e) : swapsWith x (some t) l env = pure false := by
  cases x <;> first | rfl | exact absurd rfl (hc _ _ _ _) | exact absurd rfl (hd _ _ _ _ _) | (cases h; done)
theorem swaps_no0 {x : Expr} (h : isLC x = false) {l : Nat} {env : Env} (hc : ∀ a b c d, x ≠ .SetComp a b c d) (hd : ∀ a b c d e, x ≠ .DictComp a b c d e) : swapsWith x none l env = pure false := by
  cases x <;> first | rfl | exact absurd rfl (hc _ _ _ _) | exact absurd rfl (hd _ _ _ _ _) | (cases h; done)
theorem tr_nosc {a : E} {x : Expr} (h : trE c a x = true) : (∀ a b c d, x ≠ .SetComp a b c d) ∧ ∀ a b c d e, x ≠ .DictComp a b c d e := by
  refine ⟨fun a1 b1 c1 d1 e => ?_, fun a1 b1 c1 d1 e1 e => ?_⟩
  · subst e; cases a <;> (simp only [trE] at h; cases h)
  · subst e; cases a <;> (simp only [trE] at h; cases h)
theorem s_set (G : GoodS T C n W c X) {i : Nat} {a : E} {x : Str} {y : Expr} {px p : Pos} (hx : stB c i x = true) (h : trE c a y = true) : PS X (.Assign [.Name x px] y p) (RS T C n W (.set i a)) := by
  obtain ⟨l1, l2⟩ := G.st i x hx
  have hi : X.N[i]? = some x := by rw [G.N]; exact stB_ix hx
  have hN : X.N.Nodup := by rw [G.N]; exact G.nd
  by_cases hlc : isLC y = true
  · cases y <;> first | cases hlc | skip
    rename_i elt gs scope lp
    by_cases hsw : (X.env.scope.names.lookup x == some .local && px.line == lp.line && !(scope.names.any fun (n, k) => n == x && (k == .local || k == .cell))) = true
    · -- swapped
      cases a <;> first | (simp only [trE] at h; cases h; done) | skip
      case comp own it tg cond el =>
        obtain ⟨y, t, i', ifs, scope', p', e0, h1, h2, h3, h4, h5, h6, h7, h8⟩ := inv_comp h
        cases e0
        obtain ⟨k1, k2⟩ := s_I it (tg := tg) (t := t) G.toGood h3 ⟨_, h5⟩ h6
        have hown : (ownP c own).map (·.2) = own := by
          unfold ownP
          rw [List.map_map]
          exact (List.map_congr_left (g := id) fun _ _ => rfl).trans (List.map_id _)
        rw [Bool.and_eq_true, Bool.and_eq_true] at hsw
        have hl : X.env.scope.names.lookup x = some .local := by simpa using hsw.1.1
        refine (ps_setLc (own := ownP c own) G.cl hN hi hl ?_ k1 (blkOk_by (by rw [G.N, G.sc]; exact h2)) (fun s H C' cl fp => s_tg (G.toGood.blk scope s H cl C' fp) h1 h5)
          (fun s H C' cl fp => s_C cond (G.toGood.blk scope s H cl C' fp) h7) (fun s H C' cl fp => (s_E el (G.toGood.blk scope s H cl C' fp) h8).1) (folded_no k2)).to fun E σ H q => ?_
        · show (pure (X.env.blockKind == .function && X.env.kindOf x == some .local && px.line == lp.line && !(scope.names.any fun (n, k) => n == x && (k == .local || k == .cell))) : Sem Bool) = pure true
          have e1 : X.env.kindOf x = some .local := hl
          rw [G.blk, e1, hsw.1.2, hsw.2]
          rfl
        · have := rd_set q
          rw [hown]
          exact rd_comp h4 this
      case comp2 own it tg cond own1 it1 tg1 cond1 el =>
        obtain ⟨y, t, i', ifs, t1, i1, ifs1, scope', p', e0, h1, h2, h3, h4, h5, h6, h7, h8, h9, h10, h11, h12, h13, h14⟩ := inv_comp2 h
        cases e0
        obtain ⟨k1, k2⟩ := s_I it (tg := tg) (t := t) G.toGood h3 ⟨_, h5⟩ h6
        have hown : (ownP c own).map (·.2) = own := by
          unfold ownP
          rw [List.map_map]
          exact (List.map_congr_left (g := id) fun _ _ => rfl).trans (List.map_id _)
        rw [Bool.and_eq_true, Bool.and_eq_true] at hsw
        have hl : X.env.scope.names.lookup x = some .local := by simpa using hsw.1.1
        have kk : ∀ (s : Shared) (H : Hp) (C' : Addr) (cl : List (Str × Addr)) (fp : List Addr), PI (X.blk s H scope (compEnvC scope cl C' X.env) fp) t1 i1 (RI T C n W0 it1) ∧ isSetE i1 = false := fun s H C' cl fp => s_I it1 (tg := tg1) (t := t1) (G.toGood.blk scope s H cl C' fp) h9 ⟨_, h11⟩ h12
        have hoo : ∀ i ∈ own1, i ∈ own := fun i hi => List.contains_iff_mem.mp (List.all_eq_true.mp h8 i hi)
        refine (ps_setLc2 (own := ownP c own) (vs1 := own1) G.cl hN hi hl ?_ k1 (blkOk_by (by rw [G.N, G.sc]; exact h2)) (by rw [hown]; exact hoo) (fun s H C' cl fp => s_tg (G.toGood.blk scope s H cl C' fp) h1 h5)
          (fun s H C' cl fp => s_C cond (G.toGood.blk scope s H cl C' fp) h7) (fun s H C' cl fp => (kk s H C' cl fp).1) (fun s H C' cl fp => s_tg (G.toGood.blk scope s H cl C' fp) h1 h11) (fun s H C' cl fp => s_C cond1 (G.toGood.blk scope s H cl C' fp) h13)
          (fun s H C' cl fp => (s_E el (G.toGood.blk scope s H cl C' fp) h14).1) (folded_no k2) (fun env => folded_no (set_no h9))).to fun E σ H q => ?_
        · show (pure (X.env.blockKind == .function && X.env.kindOf x == some .local && px.line == lp.line && !(scope.names.any fun (n, k) => n == x && (k == .local || k == .cell))) : Sem Bool) = pure true
          have e1 : X.env.kindOf x = some .local := hl
          rw [G.blk, e1, hsw.1.2, hsw.2]
          rfl
        · have := rd_set q
          rw [hown]
          exact rd_comp2 h4 h10 hoo this
    · refine (ps_set hN hi l1 (s_E a G.toGood h).1 ?_ l2).to fun E σ H q => rd_set q
      show (pure (X.env.blockKind == .function && X.env.kindOf x == some .local && px.line == lp.line && !(scope.names.any fun (n, k) => n == x && (k == .local || k == .cell))) : Sem Bool) = pure false
      rw [G.blk]
      have : (X.env.kindOf x == some .local && px.line == lp.line && !(scope.names.any fun (n, k) => n == x && (k == .local || k == .cell))) = false := Bool.eq_false_iff.mpr hsw
      rw [show (ScopeKind.function == ScopeKind.function) = true from rfl, Bool.true_and, this]
  · have hlc : isLC y = false := by simpa using hlc
    obtain ⟨n1, n2⟩ := tr_nosc h
    exact (ps_set hN hi l1 (s_E a G.toGood h).1 (swaps_no hlc n1 n2) l2).to fun E σ H q => rd_set q
end
end PL
end

section
namespace PL
open PySem PySem.Spec L2
section
variable {T : GT} {C : G0} {n : Nat} {W : WX} {c : CC} {X : Cx}
theorem ids_len : ∀ {is : List Nat} {ts : List Expr}, trTg.trNs c is ts = true → is.length = ts.length ∧ (idsOf ts).length = ts.length
  | [], [], _ => ⟨rfl, rfl⟩
  | i :: is, t :: ts, h => by
    cases t <;> first | (simp only [trTg.trNs] at h; cases h; done) | skip
    rename_i x p
    simp only [trTg.trNs, Bool.and_eq_true] at h
    obtain ⟨h1, h2⟩ := ids_len h.2
    exact ⟨by simp [h1], by show (idsOf ts).length + 1 = _; rw [h2]; rfl⟩
  | [], _ :: _, h => by simp [trTg.trNs] at h
  | _ :: _, [], h => by simp [trTg.trNs] at h
def nmF (env : Env) (line : Nat) : Expr → Option Str
  | .Name id pos => if env.kindOf id == some .local && pos.line == line then some id else none
  | _ => none
theorem names_all {env : Env} {line : Nat} (hs : env.scope = c.sc) : ∀ {is : List Nat} {ts : List Expr}, trTg.trNs c is ts = true → (ts.all fun t => t.pos.line == line) = true → (locAll c ts = true → ts.filterMap (nmF env line) = idsOf ts) ∧ (locAll c ts = false → (ts.filterMap (nmF env line)).length < ts.length) ∧ (ts.filterMap (nmF env line)).length ≤ ts.length
  | [], [], _, _ => ⟨fun _ => rfl, fun h => by simp [locAll] at h, Nat.le_refl _⟩
  | i :: is, t :: ts, h, hl => by
    cases t <;> first | (simp only [trTg.trNs] at h; cases h; done) | skip
    rename_i x p
    simp only [trTg.trNs, Bool.and_eq_true] at h
    rw [List.all_cons, Bool.and_eq_true] at hl
    obtain ⟨h1, h2, h3⟩ := names_all hs h.2 hl.2
    have hp : (p.line == line) = true := hl.1
    have hk : env.kindOf x = c.sc.names.lookup x := by show env.scope.names.lookup x = _; rw [hs]
    have hla : locAll c (.Name x p :: ts) = ((c.sc.names.lookup x == some .local) && locAll c ts) := rfl
    have hid : idsOf (.Name x p :: ts) = x :: idsOf ts := rfl
    by_cases hx : (c.sc.names.lookup x == some .local) = true
    · have hf : nmF env line (.Name x p) = some x := by simp only [nmF, hk, hx, hp]; rfl
      rw [List.filterMap_cons_some hf, hla, hx, Bool.true_and, hid]
      exact ⟨fun q => by rw [h1 q], fun q => Nat.succ_lt_succ (h2 q), Nat.succ_le_succ h3⟩
    · have hx : (c.sc.names.lookup x == some .local) = false := by simpa using hx
      have hf : nmF env line (.Name x p) = none := by simp only [nmF, hk, hx]; rfl
      rw [List.filterMap_cons_none hf, hla, hx, Bool.false_and]
      exact ⟨fun q => by simp at q, fun _ => Nat.lt_succ_of_le h3, Nat.le_succ_of_le h3⟩
  | [], _ :: _, h, _ => by simp [trTg.trNs] at h
  | _ :: _, [], h, _ => by simp [trTg.trNs] at h
theorem any_star : ∀ {vs : List Expr}, vs.all nst = true → (vs.any fun | .Starred .. => true | _ => false) = false
  | [], _ => rfl
  | v :: vs, h => by
    rw [List.all_cons, Bool.and_eq_true] at h
    rw [List.any_cons, any_star h.2, Bool.or_false]
    cases v <;> first | rfl | cases h.1
theorem swapped_eq (G : GoodS T C n W c X) {is : List Nat} {ts vs : List Expr} {k k2 : Nat} {p p2 : Pos} (ht : trTg.trNs c is ts = true) (hv : vs.all nst = true) (hl : vs.length = ts.length) (hp : parB c ts vs = true) :
    swappedStores [.Tuple ts k p] (.Tuple vs k2 p2) X.env = pure (if swN c ts vs then some (idsOf ts) else none) := by
  unfold parB at hp
  rw [Bool.and_eq_true, Bool.and_eq_true] at hp
  obtain ⟨⟨p1, p2'⟩, p3⟩ := hp
  obtain ⟨l1, l2⟩ := ids_len ht
  obtain ⟨n1, n2, n3⟩ := names_all (env := X.env) (line := (ts.head?.map fun (t : Expr) => t.pos.line).getD 0) G.sc ht p1
  unfold swappedStores
  simp only [G.blk, hl]
  show (if (!(ts.length == 2 || ts.length == 3) || ts.length != ts.length || (ScopeKind.function != ScopeKind.function)) = true then _ else _) = _
  have hb : (ScopeKind.function != ScopeKind.function) = false := rfl
  rw [hb]
  simp only [bne_self_eq_false, Bool.or_false]
  by_cases hlen : (ts.length == 2 || ts.length == 3) = true
  · rw [hlen]
    simp only [Bool.not_true, Bool.false_eq_true, if_false]
    split
    · rename_i h; exact absurd h (Bool.eq_false_iff.mp (any_star hv))
    show (if ((ts.filterMap (nmF X.env ((ts.head?.map (·.pos.line)).getD 0))).length != ts.length || (ts.filterMap (nmF X.env ((ts.head?.map (·.pos.line)).getD 0))).eraseDups.length != (ts.filterMap (nmF X.env ((ts.head?.map (·.pos.line)).getD 0))).length) = true then pure none else _) = _
    cases hla : locAll c ts with
    | false =>
      have := n2 hla
      have hne : ((ts.filterMap (nmF X.env ((ts.head?.map (·.pos.line)).getD 0))).length != ts.length) = true := bne_iff_ne.mpr (Nat.ne_of_lt this)
      rw [hne, Bool.true_or, if_pos rfl]
      simp [swN, hla]
    | true =>
      rw [n1 hla, l2]
      have e2 : (idsOf ts).eraseDups.length = ts.length := by simpa using p2'
      rw [e2]
      simp only [bne_self_eq_false, Bool.or_false, Bool.false_eq_true, if_false]
      cases hf : vs.all (foldedForSure 8) with
      | true => simp [swN, hla, hlen, hf]
      | false =>
        have hsn : swN c ts vs = true := by simp only [swN, hla, hlen, hf]; rfl
        rw [hsn] at p3
        have hc : vs.all (constantsAlone 8) = false := by simpa using p3
        simp only [hc]
        show (pure (some (ts.filterMap (nmF X.env ((ts.head?.map fun (t : Expr) => t.pos.line).getD 0)))) : Sem (Option (List Str))) = _
        rw [n1 hla, hsn]
        rfl
  · have hlen : (ts.length == 2 || ts.length == 3) = false := by simpa using hlen
    rw [hlen]
    simp only [Bool.not_false, if_true]
    simp only [swN, hlen, Bool.and_false, Bool.false_and]
    rfl

/-! ### several stores -/
theorem len_two {α : Type} {l : List α} (h : l.length = 2) : ∃ a b, l = [a, b] := by
  match l, h with
  | [a, b], _ => exact ⟨a, b, rfl⟩
theorem len_three {α : Type} {l : List α} (h : l.length = 3) : ∃ a b c, l = [a, b, c] := by
  match l, h with
  | [a, b, c], _ => exact ⟨a, b, c, rfl⟩
def DisT (rs : List RV) (vs : List V) : Prop := ∀ (i j : Nat) (d d' : D), rs[i]? = some (.t d) → rs[j]? = some (.t d') → i ≠ j → vs[i]? ≠ vs[j]?
def PostA2 (C : G0) (W : WX) (e : EV) (F : Hp) (σ : St) (H : Hp) (o : Out (List RV)) (Q : List V → Hp → Prop) : Prop := match o with
  | .ok rs e' => ∀ vs F' H', TrE C e F σ H e' F' H' → RVs C H F' σ H' e' rs vs → DisT rs vs → Q vs H'
  | .exc c p e' => ∀ F' H', TrE C e F σ H e' F' H' → ExW C W c p σ H'
  | .stuck => False
def RA2 (T : GT) (C : G0) (n : Nat) (W : WX) (as : List E) : TA := fun σ H Q => ∃ e F, SR C e F σ H ∧ PostA2 C W e F σ H (evA T (callF T n) as e) Q
theorem s_nil2 : PA X [] (RA2 T C n W []) := pa_nil.to fun σ H Q ⟨e, F, R, q⟩ => by
  simp only [evA] at q
  exact q [] F H (TrE.refl R) rfl fun i j d d' h => by simp at h
theorem RVs.tnew {H0 F H : Hp} {σ : St} {e : EV} {rs : List RV} {vs : List V} {j : Nat} {d : D} (h : RVs C H0 F σ H e rs vs) (k : rs[j]? = some (.t d)) : ∃ a, vs[j]? = some (.ref a) ∧ H0 a = none := by
  obtain ⟨v, k1, a, rfl, _, h0, _⟩ := h.get k
  exact ⟨a, k1, h0⟩
theorem s_cons2 {a : E} {as : List E} {x : Expr} {xs : List Expr} (ha : PE X x (RE T C n W a)) (hr : PA X xs (RA2 T C n W as)) (hs : starEach (x :: xs) X.env = (false, eval x X.env) :: starEach xs X.env) : PA X (x :: xs) (RA2 T C n W (a :: as)) := by
  refine (pa_cons ha hr hs).to fun σ H Q => ?_
  rintro ⟨e, F, R, q⟩
  simp only [evA] at q
  refine ⟨e, F, R, ?_⟩
  revert q
  generalize evE T (callF T n) false a e = o
  intro q
  cases o with
  | exc c p e' => exact q
  | stuck => exact q
  | ok r e1 =>
    intro v F1 H1 t r1
    refine ⟨e1, F1, t.sr, ?_⟩
    simp only [bd_ok] at q
    revert q
    generalize evA T (callF T n) as e1 = o
    intro q
    cases o with
    | exc c p e' => exact fun F' H' t' => q F' H' (t.trans t')
    | stuck => exact q
    | ok rs e2 =>
      intro vs F2 H2 t2 r2 ds
      refine q (v :: vs) F2 H2 (t.trans t2) ⟨v, vs, rfl, r1.mono t2, r2.back t.there⟩ ?_
      have key : ∀ (j : Nat) (d d' : D), r = .t d → rs[j]? = some (.t d') → some v ≠ vs[j]? := fun j d d' hr hj z => by
        subst hr
        obtain ⟨b, rfl, m, _⟩ := r1
        obtain ⟨o, ho⟩ := m.there
        obtain ⟨b', k1, k2⟩ := r2.tnew hj
        rw [k1] at z; cases z
        rw [ho] at k2; cases k2
      intro i j d d' hi hj hne
      cases i with
      | zero =>
        cases j with
        | zero => exact absurd rfl hne
        | succ j => simp at hi hj; simpa using key j d d' hi hj
      | succ i =>
        cases j with
        | zero => simp at hi hj; simpa using (key i d' d hj hi).symm
        | succ j => simp at hi hj; simpa using ds i j d d' hi hj (by omega)
theorem s_A2 (G : Good T C n W c X) : ∀ {as : List E} {xs : List Expr} (h : trA c as xs = true), PA X xs (RA2 T C n W as)
  | [], [], h => s_nil2
  | a :: as, x :: xs, h => by
    simp only [trA, Bool.and_eq_true] at h
    exact s_cons2 (s_E a G h.1).1 (s_A2 G h.2) (star_cons (tr_nst h.1))
  | [], _ :: _, h => by simp only [trA] at h; cases h
  | _ :: _, [], h => by simp only [trA] at h; cases h
theorem fzRs_ok {e : EV} {F H H1 : Hp} {σ : St} : ∀ {rs : List RV} {vs : List V} {rs' : List RV} {ek e2 : EV} {Fk : Hp}, TrE C e F σ H ek Fk H1 → RVs C H Fk σ H1 ek rs vs → fzRs ek rs = some (rs', e2) →
    ∃ F2, TrE C e F σ H e2 F2 H1 ∧ TrE C ek Fk σ H1 e2 F2 H1 ∧ RVs C H F2 σ H1 e2 rs' vs ∧ ∀ (j : Nat) (d : D), rs'[j]? = some (.t d) → rs[j]? = some (.t d)
  | [], vs, rs', ek, e2, Fk, t, r, k => by
    cases k
    exact ⟨Fk, t, TrE.refl t.sr, r, fun _ _ h => h⟩
  | r :: rs, vs, rs', ek, e2, Fk, t, ⟨v, ws, ev, r1, r2⟩, k => by
    subst ev
    simp only [fzRs] at k
    obtain ⟨⟨r', e3⟩, k1, k⟩ := Option.bind_eq_some_iff.mp k
    cases k2 : fzRs e3 rs with
    | none => rw [k2] at k; cases k
    | some z =>
      obtain ⟨l, e4⟩ := z
      rw [k2] at k
      cases k
      have step : ∃ F3, TrE C ek Fk σ H1 e3 F3 H1 ∧ RVok C H F3 σ H1 e3 r' v ∧ ∀ d, r' = .t d → r = .t d := by
        cases r with
        | v d => cases k1; exact ⟨Fk, TrE.refl t.sr, r1, fun d z => by cases z⟩
        | t d => cases k1; exact ⟨Fk, TrE.refl t.sr, r1, fun d z => z⟩
        | h i =>
          simp only [fzR] at k1
          cases k3 : frz ek (.h i) with
          | none => rw [k3] at k1; cases k1
          | some z =>
            obtain ⟨d, e5⟩ := z
            rw [k3] at k1
            cases k1
            obtain ⟨F', q1, q2, _⟩ := frz_ok (TrE.refl t.sr) (show RVok C H1 Fk σ H1 ek (.h i) v from r1) k3
            exact ⟨F', q1, q2, fun d z => by cases z⟩
      obtain ⟨F3, t3, q3, q4⟩ := step
      obtain ⟨F4, t4, t4', r4, s4⟩ := fzRs_ok (t.trans t3) (r2.mono t3) k2
      refine ⟨F4, t4, t3.trans t4', ⟨v, ws, rfl, q3.mono t4', r4⟩, fun j d h => ?_⟩
      cases j with
      | zero => simp at h; simp [q4 d h]
      | succ j => simp at h; simpa using s4 j d h
def sets : List Nat → List V → St → St
  | i :: is, v :: vs, σ => sets is vs (σ.set i (some v))
  | _, _, σ => σ
theorem setRs_ok {e : EV} {F H H1 Fk : Hp} {σ : St} : ∀ {is : List Nat} {rs : List RV} {vs : List V} {ek e3 : EV} {σk : St}, Tr C e F σ H ek Fk σk H1 →
    (∀ (j : Nat) (r : RV) (v : V), rs[j]? = some r → vs[j]? = some v → (∃ d, r = .v d ∧ Rep C Fk d v) ∨ (∃ d a, r = .t d ∧ v = .ref a ∧ Mine C Fk H1 d a ∧ H a = none ∧ ¬ OwnA ek σk a) ∨ ∃ i, r = .h i) →
    rs.length = vs.length → DisT rs vs → setRs is rs ek = some e3 → is.length = vs.length ∧ Tr C e F σ H e3 Fk (sets is vs σk) H1
  | [], [], vs, ek, e3, σk, t, _, hl, _, k => by
    cases k
    cases vs with
    | nil => exact ⟨rfl, t⟩
    | cons _ _ => cases hl
  | i :: is, r :: rs, vs, ek, e3, σk, t, p, hl, ds, k => by
    cases vs with
    | nil => cases hl
    | cons v vs =>
      simp only [setRs] at k
      obtain ⟨e4, k1, k2⟩ := Option.bind_eq_some_iff.mp k
      have hl' : rs.length = vs.length := by simpa using hl
      have ds' : DisT rs vs := fun a b d d' h1 h2 hne => by
        have := ds (a + 1) (b + 1) d d' (by simpa using h1) (by simpa using h2) (by omega)
        simpa using this
      unfold setR at k1
      split at k1
      · rename_i ok
        rcases p 0 r v rfl rfl with ⟨d, rfl, rp⟩ | ⟨d, a, rfl, rfl, m, h0, no⟩ | ⟨i', rfl⟩
        · cases k1
          have t1 := set1 t ok (.inr (.inl ⟨d, v, rfl, rfl, rp⟩))
          obtain ⟨z1, z2⟩ := setRs_ok t1 (fun j r' v' h1 h2 => by
            rcases p (j + 1) r' v' (by simpa using h1) (by simpa using h2) with h | ⟨d', a', e1, e2, m', h0', no'⟩ | h
            · exact .inl h
            · refine .inr (.inl ⟨d', a', e1, e2, m', h0', fun ⟨q, s, w1, w2, w3⟩ => ?_⟩)
              by_cases z : i = q
              · subst z
                have hlt := (setOk_not ok).1
                rw [List.getElem?_set_self hlt] at w1; cases w1; cases w2
              · rw [getE_set_ne z] at w1 w3; exact no' ⟨q, s, w1, w2, w3⟩
            · exact .inr (.inr h)) hl' ds' k2
          exact ⟨by simp [z1], z2⟩
        · cases k1
          have t1 := set1 t ok (.inr (.inr ⟨d, a, rfl, rfl, m, no, .inr h0⟩))
          obtain ⟨z1, z2⟩ := setRs_ok t1 (fun j r' v' h1 h2 => by
            rcases p (j + 1) r' v' (by simpa using h1) (by simpa using h2) with h | ⟨d', a', e1, e2, m', h0', no'⟩ | h
            · exact .inl h
            · refine .inr (.inl ⟨d', a', e1, e2, m', h0', fun ⟨q, s, w1, w2, w3⟩ => ?_⟩)
              by_cases z : i = q
              · subst z
                have hlt := (setOk_not ok).1
                have hlt2 : i < σk.length := by rw [← t.sr.len]; exact hlt
                rw [List.getElem?_set_self hlt2] at w3
                cases w3
                subst e1 e2
                have := ds 0 (j + 1) d d' rfl (by simpa using h1) (by omega)
                apply this
                simp [h2]
              · rw [getE_set_ne z] at w1 w3; exact no' ⟨q, s, w1, w2, w3⟩
            · exact .inr (.inr h)) hl' ds' k2
          exact ⟨by simp [z1], z2⟩
        · cases k1
      · cases k1
  | [], _ :: _, _, _, _, _, _, _, _, _, k => by simp [setRs] at k
  | _ :: _, [], _, _, _, _, _, _, _, _, k => by simp [setRs] at k
theorem rd_par {is : List Nat} {as : List E} {E : Ends} {σ : St} {H : Hp} (h : RS T C n W (.par is as) E σ H) :
    RA2 T C n W as σ H fun vs H1 => is.length = vs.length ∧ E.nx (sets is vs σ) H1 ∧ ∀ p o, H1 p = none → E.nx (sets is vs σ) (upd H1 p o) := by
  obtain ⟨e, F, R, q⟩ := h
  refine ⟨e, F, R, ?_⟩
  simp only [exS] at q
  revert q
  generalize evA T (callF T n) as e = o
  intro q
  cases o with
  | exc c p e' => exact fun F' H' t => q F' σ H' t.toTr
  | stuck => exact q
  | ok rs e1 =>
    intro vs F1 H1 t1 r1 ds
    simp only [bd_ok] at q
    obtain ⟨⟨rs', e2⟩, k1, q⟩ := q.opt
    obtain ⟨e3, k2, q⟩ := q.opt
    obtain ⟨F2, t2, t2', r2, sh⟩ := fzRs_ok t1 r1 k1
    obtain ⟨hl, t3⟩ := setRs_ok t2.toTr (fun j r v h1 h2 => by
      obtain ⟨v', k3, k4⟩ := r2.get h1
      rw [h2] at k3; cases k3
      cases r with
      | v d => exact .inl ⟨d, rfl, k4⟩
      | t d => obtain ⟨a, e1, m, h0, no⟩ := k4; exact .inr (.inl ⟨d, a, rfl, e1, m, h0, no⟩)
      | h i => exact .inr (.inr ⟨i, rfl⟩)) r2.len (fun i j d d' h1 h2 => ds i j d d' (sh i d h1) (sh j d' h2)) k2
    refine ⟨hl, q _ _ _ t3, fun p o hp => q _ _ _ (t3.pad ?_ ?_ (own_there t3.sr hp))⟩
    · by_cases z : H p = none
      · exact z
      · exact absurd hp (t3.there p z)
    · cases z : F2 p with
      | none => rfl
      | some u => rw [t3.sr.sub p u z] at hp; cases hp
theorem gNms_sets {E : St → Hp → Prop} {H : Hp} : ∀ {is : List Nat} {vs : List V} {σ : St}, is.length = vs.length → E (sets is vs σ) H → gNms is vs σ H E
  | [], [], σ, _, h => ⟨rfl, h⟩
  | i :: is, v :: vs, σ, hl, h => ⟨v, vs, rfl, gNms_sets (by simpa using hl) h⟩
  | [], _ :: _, _, hl, _ => by cases hl
  | _ :: _, [], _, hl, _ => by cases hl
theorem loc_ix : ∀ {is : List Nat} {ts : List Expr}, trTg.trNs c is ts = true → locAll c ts = true → ∀ (j i : Nat) (x : Str), is[j]? = some i → (idsOf ts)[j]? = some x → c.N[i]? = some x ∧ c.sc.names.lookup x = some .local
  | [], [], _, _, j, i, x, h1, _ => by simp at h1
  | i :: is, t :: ts, h, hl, j, i', x', h1, h2 => by
    cases t <;> first | (simp only [trTg.trNs] at h; cases h; done) | skip
    rename_i x p
    simp only [trTg.trNs, Bool.and_eq_true] at h
    have hl : ((c.sc.names.lookup x == some .local) && locAll c ts) = true := hl
    rw [Bool.and_eq_true] at hl
    cases j with
    | zero =>
      simp at h1; subst h1
      have h2 : (x :: idsOf ts)[0]? = some x' := h2
      simp at h2; subst h2
      exact ⟨stB_ix h.1, by simpa using hl.1⟩
    | succ j => exact loc_ix h.2 hl.2 j i' x' (by simpa using h1) (by have h2 : (x :: idsOf ts)[j + 1]? = some x' := h2; simpa using h2)
  | [], _ :: _, h, _, _, _, _, _, _ => by simp [trTg.trNs] at h
  | _ :: _, [], h, _, _, _, _, _, _ => by simp [trTg.trNs] at h
theorem s_par (G : GoodS T C n W c X) {is : List Nat} {as : List E} {ts xs : List Expr} {k k2 : Nat} {tp p2 pos : Pos} (ht : trTg.trNs c is ts = true) (ha : trA c as xs = true) (hl : as.length = is.length) (hnd : is.Nodup) (h100 : is.length ≤ 100) (hp : parB c ts xs = true) :
    PS X (.Assign [.Tuple ts k tp] (.Tuple xs k2 p2) pos) (RS T C n W (.par is as)) := by
  obtain ⟨a1, a2⟩ := tr_len ha
  obtain ⟨l1, l2⟩ := ids_len ht
  have hw := swapped_eq G (k := k) (k2 := k2) (p := tp) (p2 := p2) ht a2 (by rw [← a1, hl, l1]) hp
  have hA := s_A2 G.toGood ha
  have hN : X.N.Nodup := by rw [G.N]; exact G.nd
  by_cases hs : swN c ts xs = true
  · rw [hs, if_pos rfl] at hw
    unfold swN at hs
    rw [Bool.and_eq_true, Bool.and_eq_true] at hs
    obtain ⟨⟨h1, h2⟩, h3⟩ := hs
    have lx := loc_ix ht h1
    have hlen : is.length = 2 ∨ is.length = 3 := by
      rw [Bool.or_eq_true, beq_iff_eq, beq_iff_eq] at h2; omega
    rcases hlen with hlen | hlen
    · obtain ⟨i, j, rfl⟩ := len_two hlen
      obtain ⟨t1, t2, rfl⟩ := len_two (l1.symm.trans hlen)
      obtain ⟨x1, x2, rfl⟩ := len_two (a1.symm.trans (hl.trans hlen))
      cases t1 <;> first | (simp only [trTg.trNs] at ht; cases ht; done) | skip
      rename_i n1 q1
      cases t2 <;> first | (simp [trTg.trNs] at ht; done) | skip
      rename_i n2 q2
      obtain ⟨u1, v1⟩ := lx 0 i n1 rfl rfl
      obtain ⟨u2, v2⟩ := lx 1 j n2 rfl rfl
      have hne : i ≠ j := by simpa using hnd
      refine (ps_par G.cl hN (by rw [G.N]; exact u1) (by rw [G.N]; exact u2) hne (by rw [G.sc]; exact v1) (by rw [G.sc]; exact v2) hA hw).to fun E σ H q => ?_
      obtain ⟨e, F, R, q⟩ := rd_par q
      refine ⟨e, F, R, ?_⟩
      revert q
      generalize evA T (callF T n) as e = o
      intro q
      cases o with
      | exc c p e' => exact q
      | stuck => exact q
      | ok rs e1 =>
        intro vs F1 H1 t r d
        obtain ⟨z1, z2, _⟩ := q vs F1 H1 t r d
        match vs, z1, z2 with
        | [v, w], _, z2 => exact ⟨v, w, rfl, z2⟩
    · obtain ⟨i, j, l, rfl⟩ := len_three hlen
      obtain ⟨t1, t2, t3, rfl⟩ := len_three (l1.symm.trans hlen)
      obtain ⟨x1, x2, x3, rfl⟩ := len_three (a1.symm.trans (hl.trans hlen))
      cases t1 <;> first | (simp only [trTg.trNs] at ht; cases ht; done) | skip
      rename_i n1 q1
      cases t2 <;> first | (simp [trTg.trNs] at ht; done) | skip
      rename_i n2 q2
      cases t3 <;> first | (simp [trTg.trNs] at ht; done) | skip
      rename_i n3 q3
      obtain ⟨u1, v1⟩ := lx 0 i n1 rfl rfl
      obtain ⟨u2, v2⟩ := lx 1 j n2 rfl rfl
      obtain ⟨u3, v3⟩ := lx 2 l n3 rfl rfl
      have n12 : i ≠ j := fun e => by subst e; simp at hnd
      have n13 : i ≠ l := fun e => by subst e; simp at hnd
      have n23 : j ≠ l := fun e => by subst e; simp at hnd
      refine (ps_par3 G.cl hN (by rw [G.N]; exact u1) (by rw [G.N]; exact u2) (by rw [G.N]; exact u3) n12 n13 n23 (by rw [G.sc]; exact v1) (by rw [G.sc]; exact v2) (by rw [G.sc]; exact v3) hA hw).to fun E σ H q => ?_
      obtain ⟨e, F, R, q⟩ := rd_par q
      refine ⟨e, F, R, ?_⟩
      revert q
      generalize evA T (callF T n) as e = o
      intro q
      cases o with
      | exc c p e' => exact q
      | stuck => exact q
      | ok rs e1 =>
        intro vs F1 H1 t r d
        obtain ⟨z1, z2, _⟩ := q vs F1 H1 t r d
        match vs, z1, z2 with
        | [u, v, w], _, z2 => exact ⟨u, v, w, rfl, z2⟩
  · have hs : swN c ts xs = false := by simpa using hs
    rw [hs, if_neg (by simp)] at hw
    obtain ⟨h1, h2, h3⟩ := s_tgNames G.toGood ht
    refine (ps_asg (pe_tup hA) (pg_tup G.cl h1 h2 h3) rfl hw rfl).to fun E σ H q => ?_
    obtain ⟨e, F, R, q⟩ := rd_par q
    refine ⟨e, F, R, ?_⟩
    have hlen : ∀ rs e1, evA T (callF T n) as e = .ok rs e1 → rs.length = as.length := fun rs e1 h => evA_len h
    revert q hlen
    generalize evA T (callF T n) as e = o
    intro q hlen
    cases o with
    | exc c p e' => exact q
    | stuck => exact q
    | ok rs e1 =>
      intro vs F1 H1 t r d
      obtain ⟨z1, _, z3⟩ := q vs F1 H1 t r d
      have hle : vs.length ≤ sizeLine := by
        rw [← sizeL_eq, ← r.len, hlen rs e1 rfl, hl]
        unfold sizeL
        omega
      refine ⟨hle, fun p hp => ⟨p, vs, rfl, .inl (.inl upd_same), z1.symm, ?_⟩⟩
      exact gNms_sets z1 (z3 p _ hp)
end
end PL
end

section
namespace PL
open PySem PySem.Spec L2

section
variable {T : GT} {C : G0} {n : Nat} {W : WX} {c : CC} {X : Cx}
theorem s_unp (G : GoodS T C n W c X) {is : List Nat} {a : E} {ts : List Expr} {y : Expr} {k : Nat} {tp pos : Pos} (ht : trTg.trNs c is ts = true) (ha : trE c a y = true) (hy : isTup y = false) : PS X (.Assign [.Tuple ts k tp] y pos) (RS T C n W (.unp is a)) := by
  obtain ⟨h1, h2, h3⟩ := s_tgNames G.toGood ht
  have hs : swapsWithSole [.Tuple ts k tp] y pos.line X.env = pure false := by
    show swapsWith y (some (.Tuple ts k tp)) pos.line X.env = pure false
    cases y <;> rfl
  have hw : swappedStores [.Tuple ts k tp] y X.env = pure none := by
    cases y <;> first | rfl | cases hy
  refine (ps_asg (s_E a G.toGood ha).1 (pg_tup G.cl h1 h2 h3) hs hw rfl).to fun E σ H => ?_
  rintro ⟨e, F, R, q⟩
  refine ⟨e, F, R, PostS.first (by simpa only [exS] using q) fun r e1 v F1 H1 t1 r1 q => ?_⟩
  obtain ⟨d, k1, q⟩ := q.opt
  have z := cont_crp t1.sr r1 k1
  cases d <;> try exact q.elim
  rename_i ds
  obtain ⟨e2, k2, q⟩ := PostS.opt (show PostS C W e F σ H (opt _ _) E from q)
  obtain ⟨p, vs, rfl, p1, p2⟩ := z.tup
  rw [G.K]
  exact ⟨p, vs, rfl, t1.sr.sub.sqT p1, by rw [← p2.len, setVals_len k2], setVals_ok t1.toTr p2 k2 fun σ2 t2 _ => q F1 σ2 H1 t2⟩
def rIp (o : Bop) : TIp := fun x y H Q => ∃ i j z, x = .int i ∧ y = .int j ∧ augop o (.int i) (.int j) = some (.int z) ∧ Q (.int z) H
theorem ip_ok (o : Bop) (ho : (o == .add || o == .sub) = true) : PIp X (opOf o) (rIp o) := by
  intro pins s σ H x y v u Q I r1 r2 h
  obtain ⟨i, j, z, rfl, rfl, k, q⟩ := h
  cases o <;> first | (simp at ho; done) | skip
  · cases k; exact ip_add pins s σ H _ _ v u Q I r1 r2 ⟨i, j, rfl, rfl, q⟩
  · cases k; exact ip_sub pins s σ H _ _ v u Q I r1 r2 ⟨i, j, rfl, rfl, q⟩
theorem s_aug (G : GoodS T C n W c X) {i : Nat} {o : Bop} {a : E} {x : Str} {y : Expr} {p pos : Pos} (hx : stB c i x = true) (ho : (o == .add || o == .sub) = true) (ha : trE c a y = true) : PS X (.AugAssign (.Name x p) (opOf o) y pos) (RS T C n W (.aug i o a)) := by
  obtain ⟨l1, l2⟩ := G.st i x hx
  refine (ps_aug (by rw [G.N]; exact G.nd) (by rw [G.N]; exact stB_ix hx) l1 (s_E a G.toGood ha).1 (ip_ok o ho) l2).to fun E σ H => ?_
  rintro ⟨e, F, R, q⟩
  simp only [exS] at q
  split at q
  · rename_i d ed
    obtain ⟨v0, h1, h2⟩ := R.slot i _ ed
    refine ⟨v0, h1, e, F, R, PostS.first q fun r e1 v F1 H1 t1 r1 q => ?_⟩
    obtain ⟨y, k1, q⟩ := q.opt
    obtain ⟨z, k2, qz⟩ := q.opt
    obtain ⟨e2, k3, qf⟩ := qz.opt
    have hz := cont_crp t1.sr r1 k1
    unfold augop at k2
    split at k2 <;> cases k2
    · rw [Rep] at h2; subst h2; cases hz.int
      obtain ⟨F2, t2⟩ := put_ok (r := .v (.int _)) (v := .int _) t1 (show Rep C F1 _ _ from rep_int) rfl k3
      exact ⟨_, _, _, rfl, rfl, rfl, qf F2 _ H1 t2⟩
    · rw [Rep] at h2; subst h2; cases hz.int
      obtain ⟨F2, t2⟩ := put_ok (r := .v (.int _)) (v := .int _) t1 (show Rep C F1 _ _ from rep_int) rfl k3
      exact ⟨_, _, _, rfl, rfl, rfl, qf F2 _ H1 t2⟩
  · exact q.elim
theorem pset_or {X : Cx} {r r' : TSet} (h : PSet X r) (h' : PSet X r') : PSet X (fun o i v H Q => r o i v H Q ∨ r' o i v H Q) := by
  intro pins s σ H o i v ov iv u Q I ro ri rv q
  rcases q with q | q
  · exact h pins s σ H o i v ov iv u Q I ro ri rv q
  · exact h' pins s σ H o i v ov iv u Q I ro ri rv q
theorem s_six (G : GoodS T C n W c X) {i : Nat} {k a : E} {x : Str} {y z : Expr} {p tp pos : Pos} (hx : nmB c i x = true) (hk : trE c k y = true) (ha : trE c a z = true) (hsl : isSl y = false) : PS X (.Assign [.Subscript (.Name x p) y tp] z pos) (RS T C n W (.six i k a)) := by
  have hs : swapsWithSole [.Subscript (.Name x p) y tp] z pos.line X.env = pure false := by
    show swapsWith z (some (.Subscript (.Name x p) y tp)) pos.line X.env = pure false
    cases z <;> rfl
  have hw : swappedStores [.Subscript (.Name x p) y tp] z X.env = pure none := by
    cases z <;> rfl
  refine (ps_asg (s_E a G.toGood ha).1 (pg_sub (G.nm hx) (s_E k G.toGood hk).1 (pset_or set_list (set_dict (by have := G.hu; omega))) (by intro v; cases y <;> first | rfl | cases hsl)) hs hw rfl).to fun E σ H => ?_
  rintro ⟨e, F, R, q⟩
  refine ⟨e, F, R, PostS.first (by simpa only [exS] using q) fun r e1 v F1 H1 t1 r1 q => ?_⟩
  obtain ⟨⟨d, e2⟩, k1, q⟩ := q.opt
  obtain ⟨F2, t2, rp, s2⟩ := frz_ok t1 r1 k1
  dsimp only at q
  split at q
  · rename_i hl
    have hl : ∃ a, σ[i]? = some (some (.ref a)) := by
      rw [Bool.or_eq_true] at hl
      rcases hl with hl | hl
      · obtain ⟨a, h1, _⟩ := lstAt_ok t2.sr hl; exact ⟨a, h1⟩
      · obtain ⟨a, h1, _⟩ := dkAt_ok t2.sr hl; exact ⟨a, h1⟩
    obtain ⟨a, h1⟩ := hl
    refine ⟨.ref a, h1, e2, F2, t2.sr, PostS.first (PostS.shift t2.toTr q) fun rk e3 v3 F3 H3 t3 r3 q => ?_⟩
    obtain ⟨kd, k2, q⟩ := q.opt
    obtain ⟨e4, k3, qf⟩ := q.opt
    have hz := cont_crp t3.sr r3 k2
    unfold sixE at k3
    split at k3
    · rename_i xs hxs
      obtain ⟨zi, k4, k6⟩ := Option.bind_eq_some_iff.mp k3
      cases kd <;> cases k4
      cases hz.int
      cases k5 : ixN xs.length zi with
      | none => rw [k5] at k6; cases k6
      | some j =>
        rw [k5] at k6
        cases k6
        obtain ⟨s, a', g1, g2, g3, m⟩ := mineD_ok t3.sr hxs
        rw [h1] at g3; cases g3
        obtain ⟨hF, ws, g4, g5⟩ := m.lst'
        have mm := mut_ok t3.sr g1 g2 h1 (d := .lst (xs.set j d)) (o := .lst (ws.set j v)) ⟨hF, _, upd_same, g5.set (rp.mono t3.fs) j⟩
        exact .inl ⟨a, ws, zi, j, rfl, rfl, g4, by rw [← g5.len]; exact k5, qf F3 σ _ (t3.trans mm).toTr⟩
    · rename_i ks xs hxs
      obtain ⟨zk, k4, k6⟩ := Option.bind_eq_some_iff.mp k3
      split at k6
      · rename_i hsz
        cases k6
        obtain ⟨s, a', g1, g2, g3, m⟩ := mineD_ok t3.sr hxs
        rw [h1] at g3; cases g3
        obtain ⟨hF, vs, g4, g5, g6⟩ := m
        obtain ⟨ws, p1, p2, p3⟩ := dput_rep (x := zk) (rp.mono t3.fs) g5 g6
        have hv3 : v3 = kV zk := by
          cases kd <;> simp only [keyOf] at k4 <;> cases k4
          · exact hz.int
          · exact hz.str
        have hlen : (ks.zip vs).length < sizeLine := by
          have e := sizeL_eq
          rw [List.length_zip, ← g6.len, ← g5, Nat.min_self]
          omega
        have mm := mut_ok t3.sr g1 g2 h1 (d := .dk (dput ks xs zk d).1 (dput ks xs zk d).2) (o := .dK (putK (ks.zip vs) zk v)) ⟨hF, ws, by rw [p1]; exact upd_same, p2, p3⟩
        exact .inr ⟨a, _, rfl, by rw [hv3]; exact DPut.k g4 hlen, qf F3 σ _ (t3.trans mm).toTr⟩
      · cases k6
    · cases k3
  · exact q.elim
/-! ### several stores into things by place -/
def gSx (T : GT) (C : G0) (n : Nat) (W : WX) (p : Nat × E) : TG := gSub (tVar p.1) (RE T C n W p.2) (fun o i v H Q => rSetL o i v H Q ∨ rSetD o i v H Q)
def gSxs (T : GT) (C : G0) (n : Nat) (W : WX) : List (Nat × E) → TGs
  | [] => gNil
  | p :: ps => gCons (gSx T C n W p) (gSxs T C n W ps)
theorem s_tgSubs (G : GoodS T C n W c X) : ∀ {ts : List (Nat × E)} {xs : List Expr}, trX c ts xs = true → PGs X xs (gSxs T C n W ts) ∧ (assignEach xs X.env).length = ts.length ∧ (assignEach xs X.env).findIdx? (·.1) = none
  | [], [], _ => ⟨pgs_nil, rfl, rfl⟩
  | [], _ :: _, h => by simp [trX] at h
  | _ :: _, [], h => by simp [trX] at h
  | (i, k) :: ts, z :: xs, h => by
    cases z <;> first | (simp [trX] at h; done) | skip
    rename_i o y p
    cases o <;> first | (simp [trX] at h; done) | skip
    rename_i z zp
    simp only [trX, Bool.and_eq_true] at h
    obtain ⟨h1, h2, h3⟩ := s_tgSubs G h.2
    have hsl := tr_slice h.1.2
    have hg : PG X (.Subscript (.Name z zp) y p) (gSx T C n W (i, k)) := pg_sub (G.nm h.1.1) (s_E k G.toGood h.1.2).1 (pset_or set_list (set_dict (by have := G.hu; omega))) (by intro v; cases y <;> first | rfl | cases hsl)
    refine ⟨pgs_cons hg h1, ?_, ?_⟩
    · show (assignEach xs X.env).length + 1 = _; rw [h2]; rfl
    · show List.findIdx? (·.1) ((false, _) :: assignEach xs X.env) = none
      rw [List.findIdx?_cons, h3]; rfl
theorem stx_ok : ∀ (ts : List (Nat × E)) (ds : List D) (vs : List V) {e : EV} {F : Hp} {σ : St} {H : Hp} {Ed : Ends}, SR C e F σ H → PostS C W e F σ H (stX T (callF T n) ts ds e) Ed → RepL C F ds vs → gSxs T C n W ts vs σ H Ed.nx
  | [], [], vs, e, F, σ, H, Ed, R, q, r => by
    rw [RepL] at r
    exact ⟨r, q F σ H (Tr.refl R)⟩
  | [], _ :: _, vs, e, F, σ, H, Ed, R, q, r => by simp only [stX] at q; exact q.elim
  | _ :: _, [], vs, e, F, σ, H, Ed, R, q, r => by simp only [stX] at q; exact q.elim
  | (i, k) :: ts, d :: ds, vs, e, F, σ, H, Ed, R, q, r => by
    rw [RepL] at r
    obtain ⟨v, rs, rfl, rp, rr⟩ := r
    refine ⟨v, rs, rfl, ?_⟩
    simp only [stX] at q
    split at q
    · rename_i hl
      have hl : ∃ a, σ[i]? = some (some (.ref a)) := by
        rw [Bool.or_eq_true] at hl
        rcases hl with hl | hl
        · obtain ⟨a, h1, _⟩ := lstAt_ok R hl; exact ⟨a, h1⟩
        · obtain ⟨a, h1, _⟩ := dkAt_ok R hl; exact ⟨a, h1⟩
      obtain ⟨a, h1⟩ := hl
      refine ⟨.ref a, h1, e, F, R, PostS.first q fun rk e3 v3 F3 H3 t3 r3 q => ?_⟩
      obtain ⟨kd, k2, q⟩ := q.opt
      obtain ⟨e4, k3, qf⟩ := q.opt
      have hz := cont_crp t3.sr r3 k2
      unfold sixE at k3
      split at k3
      · rename_i xs hxs
        obtain ⟨zi, k4, k6⟩ := Option.bind_eq_some_iff.mp k3
        cases kd <;> cases k4
        cases hz.int
        cases k5 : ixN xs.length zi with
        | none => rw [k5] at k6; cases k6
        | some j =>
          rw [k5] at k6
          cases k6
          obtain ⟨s, a', g1, g2, g3, m⟩ := mineD_ok t3.sr hxs
          rw [h1] at g3; cases g3
          obtain ⟨hF, ws, g4, g5⟩ := m.lst'
          have mm := mut_ok t3.sr g1 g2 h1 (d := .lst (xs.set j d)) (o := .lst (ws.set j v)) ⟨hF, _, upd_same, g5.set (rp.mono t3.fs) j⟩
          have tt := (t3.trans mm)
          exact .inl ⟨a, ws, zi, j, rfl, rfl, g4, by rw [← g5.len]; exact k5, stx_ok ts ds rs tt.sr (PostS.shift tt.toTr qf) (rr.mono tt.fs)⟩
      · rename_i ks xs hxs
        obtain ⟨zk, k4, k6⟩ := Option.bind_eq_some_iff.mp k3
        split at k6
        · rename_i hsz
          cases k6
          obtain ⟨s, a', g1, g2, g3, m⟩ := mineD_ok t3.sr hxs
          rw [h1] at g3; cases g3
          obtain ⟨hF, vs, g4, g5, g6⟩ := m
          obtain ⟨ws, p1, p2, p3⟩ := dput_rep (x := zk) (rp.mono t3.fs) g5 g6
          have hv3 : v3 = kV zk := by
            cases kd <;> simp only [keyOf] at k4 <;> cases k4
            · exact hz.int
            · exact hz.str
          have hlen : (ks.zip vs).length < sizeLine := by
            have e := sizeL_eq
            rw [List.length_zip, ← g6.len, ← g5, Nat.min_self]
            omega
          have mm := mut_ok t3.sr g1 g2 h1 (d := .dk (dput ks xs zk d).1 (dput ks xs zk d).2) (o := .dK (putK (ks.zip vs) zk v)) ⟨hF, ws, by rw [p1]; exact upd_same, p2, p3⟩
          have tt := (t3.trans mm)
          exact .inr ⟨a, _, rfl, by rw [hv3]; exact DPut.k g4 hlen, stx_ok ts ds rs tt.sr (PostS.shift tt.toTr qf) (rr.mono tt.fs)⟩
        · cases k6
      · cases k3
    · exact q.elim
theorem subs_nm {env : Env} {l : Nat} : ∀ {ts : List (Nat × E)} {xs : List Expr}, trX c ts xs = true → xs.filterMap (nmF env l) = [] ∧ (ts ≠ [] → xs ≠ [])
  | [], [], _ => ⟨rfl, fun h => absurd rfl h⟩
  | [], _ :: _, h => by simp [trX] at h
  | _ :: _, [], h => by simp [trX] at h
  | (i, k) :: ts, z :: xs, h => by
    cases z <;> first | (simp [trX] at h; done) | skip
    rename_i o y p
    cases o <;> first | (simp [trX] at h; done) | skip
    simp only [trX, Bool.and_eq_true] at h
    obtain ⟨h1, _⟩ := subs_nm (env := env) (l := l) h.2
    exact ⟨by rw [List.filterMap_cons_none rfl]; exact h1, fun _ => by simp⟩
theorem swapped_sub (G : GoodS T C n W c X) {ts : List (Nat × E)} {xs vs : List Expr} {k k2 : Nat} {p p2 : Pos} (ht : trX c ts xs = true) (hv : vs.all nst = true) (hl : vs.length = xs.length) :
    swappedStores [.Tuple xs k p] (.Tuple vs k2 p2) X.env = pure none := by
  unfold swappedStores
  simp only [G.blk, hl]
  show (if (!(xs.length == 2 || xs.length == 3) || xs.length != xs.length || (ScopeKind.function != ScopeKind.function)) = true then _ else _) = _
  have hb : (ScopeKind.function != ScopeKind.function) = false := rfl
  rw [hb]
  simp only [bne_self_eq_false, Bool.or_false]
  by_cases hlen : (xs.length == 2 || xs.length == 3) = true
  · rw [hlen]
    simp only [Bool.not_true, Bool.false_eq_true, if_false]
    split
    · rename_i h; exact absurd h (Bool.eq_false_iff.mp (any_star hv))
    show (if ((xs.filterMap (nmF X.env ((xs.head?.map (·.pos.line)).getD 0))).length != xs.length || (xs.filterMap (nmF X.env ((xs.head?.map (·.pos.line)).getD 0))).eraseDups.length != (xs.filterMap (nmF X.env ((xs.head?.map (·.pos.line)).getD 0))).length) = true then pure none else _) = _
    rw [(subs_nm ht).1]
    have hne : (([] : List Str).length != xs.length) = true := by
      rw [Bool.or_eq_true, beq_iff_eq, beq_iff_eq] at hlen
      rcases hlen with h | h <;> rw [h] <;> rfl
    rw [hne, Bool.true_or, if_pos rfl]
  · have hlen : (xs.length == 2 || xs.length == 3) = false := by simpa using hlen
    rw [hlen]
    rfl
theorem tup_nst {a : E} {vs : List Expr} {k : Nat} {p : Pos} (h : trE c a (.Tuple vs k p) = true) : vs.all nst = true := by
  cases a <;> first | (simp only [trE] at h; cases h; done) | skip
  simp only [trE] at h
  exact (tr_len h).2
theorem s_unpx (G : GoodS T C n W c X) {ts : List (Nat × E)} {a : E} {xs vs : List Expr} {k k2 : Nat} {tp p2 pos : Pos} (ht : trX c ts xs = true) (he : trE c a (.Tuple vs k2 p2) = true) (hl : vs.length = xs.length) : PS X (.Assign [.Tuple xs k tp] (.Tuple vs k2 p2) pos) (RS T C n W (.unpx ts a)) := by
  obtain ⟨h1, h2, h3⟩ := s_tgSubs G ht
  have hv := tup_nst he
  have hs : swapsWithSole [.Tuple xs k tp] (.Tuple vs k2 p2) pos.line X.env = pure false := rfl
  refine (ps_asg (s_E a G.toGood he).1 (pg_tup G.cl h1 h2 h3) hs (swapped_sub G ht hv hl) rfl).to fun Ed σ H => ?_
  rintro ⟨e, F, R, q⟩
  refine ⟨e, F, R, PostS.first (by simpa only [exS] using q) fun r e1 v F1 H1 t1 r1 q => ?_⟩
  obtain ⟨d, k1, q⟩ := q.opt
  have z := cont_crp t1.sr r1 k1
  cases d <;> try exact q.elim
  rename_i ds
  obtain ⟨p, ws, rfl, p1, q2⟩ := z.tup
  rw [G.K]
  have q : PostS C W e F σ H (if ds.length = ts.length then stX T (callF T n) ts ds e1 else .stuck) Ed := q
  split at q
  · rename_i hlen
    exact ⟨p, ws, rfl, t1.sr.sub.sqT p1, by rw [← q2.len, hlen], stx_ok ts ds ws t1.sr (PostS.shift t1.toTr q) q2⟩
  · exact q.elim
/-! ### control -/
theorem s_if {d : E} {a b : List S} {x : Expr} {ys zs : List Stmt} {pos : Pos} (hd : PT X x (RT T C n W d)) (ha : PSs X ys (RB T C n W a)) (hb : PSs X zs (RB T C n W b)) : PS X (.If x ys zs pos) (RS T C n W (.if_ d a b)) := by
  refine (ps_if hd ha hb).to fun E σ H => ?_
  rintro ⟨e, F, R, q⟩
  refine ⟨e, F, R, PostS.firstB (by simpa only [exS] using q) fun k e1 F1 H1 t1 q => ?_⟩
  cases k with
  | true => exact ⟨e1, F1, t1.sr, q⟩
  | false => exact ⟨e1, F1, t1.sr, q⟩
theorem s_ret {a : E} {x : Expr} {pos : Pos} (ha : PE X x (RE T C n W a)) : PS X (.Return (some x) pos) (RS T C n W (.ret a)) := by
  refine (ps_ret ha).to fun E σ H => ?_
  rintro ⟨e, F, R, q⟩
  refine ⟨e, F, R, PostS.first (by simpa only [exS] using q) fun r e1 v F1 H1 t1 r1 q => ?_⟩
  obtain ⟨⟨r2, e2⟩, k1, q⟩ := q.opt
  cases r with
  | v d => cases k1; exact q F1 σ H1 v t1.toTr r1
  | t d =>
    cases k1
    obtain ⟨a, rfl, m, h0, no⟩ := r1
    exact q F1 σ H1 _ t1.toTr ⟨a, rfl, m, no, .inr h0⟩
  | h i =>
    have r0 := r1
    obtain ⟨h1, s, h2, h3⟩ := r1
    have hz := t1.sr.slot i s h2
    simp only [retR, h2] at k1
    cases s with
    | un => cases k1
    | val d => cases k1; obtain ⟨v', z1, z2⟩ := hz; rw [h1] at z1; cases z1; exact q F1 σ H1 v t1.toTr z2
    | fro d => cases k1; obtain ⟨v', z1, z2⟩ := hz; rw [h1] at z1; cases z1; exact q F1 σ H1 v t1.toTr z2
    | bor d =>
      cases k1
      obtain ⟨F2, t2, rp, s2⟩ := frz_ok t1 (show RVok C H F1 σ H1 e1 (.h i) v from r0) (show frz e1 (.h i) = some (d, e1.set i (.fro d)) from by simp only [frz, h2])
      exact q F2 σ H1 v t2.toTr rp
    | own d =>
      cases k1
      obtain ⟨a, z1, z2⟩ := hz
      rw [h1] at z1; cases z1
      have hl : i < e1.length := (List.getElem?_eq_some_iff.mp h2).1
      have t2 : Tr C e F σ H (e1.set i .un) F1 (σ.set i (some (.ref a))) H1 := by
        refine set0 t1.toTr hl (fun d q => ?_) (fun d q => ?_) (.inl rfl)
        · obtain ⟨_, d', h | h⟩ := t1.toTr.bor i d q <;> (rw [h2] at h; cases h)
        · have h := (t1.toTr.fro i d q).2; rw [h2] at h; cases h
      have hσ : σ.set i (some (.ref a)) = σ := by
        apply List.ext_getElem?
        intro j
        by_cases z : i = j
        · subst z
          have hl2 : i < σ.length := by rw [← t1.sr.len]; exact hl
          rw [List.getElem?_set_self hl2, h1]
        · rw [getE_set_ne z]
      rw [hσ] at t2
      refine q F1 σ H1 _ t2 ⟨a, rfl, z2, fun ⟨j, s, w1, w2, w3⟩ => ?_, t1.toTr.own i d a h2 h1⟩
      by_cases z : i = j
      · subst z; rw [List.getElem?_set_self hl] at w1; cases w1; cases w2
      · rw [getE_set_ne z] at w1; exact z (t1.sr.dis i j _ s a h2 w1 rfl w2 h1 w3)
theorem s_nop : PSs X [] (RB T C n W []) := pss_nil.to fun E σ H ⟨e, F, R, q⟩ => by
  simp only [exB] at q
  exact q F σ H (Tr.refl R)
theorem s_seq {s : S} {ss : List S} {x : Stmt} {xs : List Stmt} (h1 : PS X x (RS T C n W s)) (h2 : PSs X xs (RB T C n W ss)) : PSs X (x :: xs) (RB T C n W (s :: ss)) := by
  refine (pss_cons h1 h2).to fun E σ H => ?_
  rintro ⟨e, F, R, q⟩
  refine ⟨e, F, R, ?_⟩
  simp only [exB] at q
  revert q
  generalize exS T (callF T n) s e = o
  intro q
  cases o with
  | exc c p e' => exact q
  | stuck => exact q
  | ok f e1 =>
    cases f with
    | next => exact fun F1 σ1 H1 t => ⟨e1, F1, t.sr, PostS.shift t q⟩
    | brk => exact q
    | cnt => exact q
    | ret r => exact q
theorem s_wh (G : GoodS T C n W c X) {d : E} {b : List S} {x : Expr} {ys : List Stmt} {pos : Pos} (hd : PT X x (RT T C n W d)) (hb : PSs X ys (RB T C n W b)) : PS X (.While x ys [] pos) (RS T C n W (.wh d b)) := by
  refine (ps_while G.po hd hb).to fun E σ H => ?_
  rintro ⟨e, F, R, q⟩
  refine ⟨fun m σ' H' => ∃ e' F', SR C e' F' σ' H' ∧ PostS C W e' F' σ' H' (whL (fun e => toB (evE T (callF T n) true d e)) (fun e => exB T (callF T n) b e) m e') E, ⟨T.wf, e, F, R, by simpa only [exS] using q⟩, ?_⟩
  rintro m σ' H' ⟨e', F', R', q⟩
  cases m with
  | zero => exact q.elim
  | succ m =>
    simp only [whL] at q
    refine ⟨e', F', R', PostS.firstB q fun k e1 F1 H1 t1 q => ?_⟩
    cases k with
    | false => rw [if_neg (by simp)] at q ⊢; exact q F1 σ' H1 (Tr.refl t1.sr)
    | true =>
      rw [if_pos rfl] at q ⊢
      refine ⟨fun σ2 H2 => ∃ e' F', SR C e' F' σ2 H2 ∧ PostS C W e' F' σ2 H2 (whL (fun e => toB (evE T (callF T n) true d e)) (fun e => exB T (callF T n) b e) m e') E, fun σ2 H2 w => ⟨m, Nat.lt_succ_self m, w⟩, e1, F1, t1.sr, ?_⟩
      revert q
      generalize exB T (callF T n) b e1 = o
      intro q
      cases o with
      | exc c p e' => exact q
      | stuck => exact q
      | ok f e2 =>
        cases f with
        | next => exact fun F2 σ2 H2 t => ⟨e2, F2, t.sr, PostS.shift t q⟩
        | cnt => exact fun F2 σ2 H2 t => ⟨e2, F2, t.sr, PostS.shift t q⟩
        | brk => exact q
        | ret r => exact q
theorem s_for (G : GoodS T C n W c X) {tg : Tg} {it : It} {b : List S} {t i : Expr} {ys : List Stmt} {pos : Pos} (hi : PI X t i (RI T C n W it)) (hg : PG X t (gTg C.K tg)) (hb : PSs X ys (RB T C n W b)) (hs : isSetE i = false) : PS X (.For t i ys [] pos) (RS T C n W (.for_ tg it b)) := by
  refine (ps_for G.po G.cl hi hg hb (folded_no hs)).to fun E σ H => ?_
  rintro ⟨e, F, R, q⟩
  refine ⟨e, F, R, PostS.firstI (by simpa only [exS] using q) fun ds e1 J F1 H1 t1 wk q => ?_⟩
  refine for_it (D := E) wk (fun i σ' H' => ∃ e' F', SR C e' F' σ' H' ∧ Sub F1 F' ∧ PostS C W e' F' σ' H' (forL (fun d e => opt (asg tg d e) fun e1 => exB T (callF T n) b e1) (ds.drop i) e') E) ⟨e1, F1, t1.sr, Sub.refl _, q⟩ ?_ ?_ ?_
  · rintro i σ' H' _ ⟨e', F', R', s', _⟩
    exact s'.trans R'.sub
  · rintro i x σ' H' H2 hlt ⟨e', F', R', s', q⟩ ⟨d, hdi, hy⟩
    have hdrop : ds.drop i = d :: ds.drop (i + 1) := by
      rw [List.drop_eq_getElem_cons hlt]
      rw [List.getElem?_eq_getElem hlt] at hdi; cases hdi; rfl
    rw [hdrop, forL] at q
    obtain ⟨F'', t2, s2, rx⟩ : ∃ F'', Tr C e' F' σ' H' e' F'' σ' H2 ∧ Sub F' F'' ∧ Rep C F'' d x := by
      rcases hy with ⟨rfl, r⟩ | ⟨p, d1, d2, x1, x2, rfl, hp, rfl, rfl, r1, r2⟩
      · exact ⟨F', Tr.refl R', Sub.refl _, r.mono s'⟩
      · have u := (TrE.refl R').newT (o := .tup [x1, x2]) hp
        refine ⟨_, u.toTr, u.fs, ?_⟩
        rw [Rep]
        exact ⟨p, [x1, x2], rfl, .inl (.inl upd_same), (RepL.cons r1 (.cons r2 .nil)).mono (s'.trans u.fs)⟩
    cases ka : asg tg d e' with
    | none => simp only [ka, opt_none, bd_stuck] at q; exact q.elim
    | some e2 =>
      simp only [ka, opt_some] at q
      refine asg_ok t2 rx ka fun σ3 t3 _ => ⟨e2, F'', t3.sr, ?_⟩
      have q := PostS.shift t3 q
      have ss : Sub F1 F'' := s'.trans s2
      revert q
      generalize exB T (callF T n) b e2 = o
      intro q
      cases o with
      | exc c p e' => exact q
      | stuck => exact q
      | ok f e3 =>
        cases f with
        | next => exact fun F3 σ4 H4 t => ⟨e3, F3, t.sr, ss.trans t.fs, PostS.shift t q⟩
        | cnt => exact fun F3 σ4 H4 t => ⟨e3, F3, t.sr, ss.trans t.fs, PostS.shift t q⟩
        | brk => exact q
        | ret r => exact q
  · rintro σ' H' ⟨e', F', R', _, q⟩
    rw [List.drop_length, forL] at q
    exact q F' σ' H' (Tr.refl R')
end
end PL
end

section
namespace PL
open PySem PySem.Spec L2
open PyProof.Rows hiding St

/-! ## try with several named clauses -/
abbrev HL := List (Value × Nat × (Addr → Value → Option Addr → TS))
/-- behind a clause its name is gone -/
def offS (i : Nat) (E : Ends) : Ends := { nx := fun σ H => E.nx (σ.set i none) H, rt := E.rt, bk := fun σ H => E.bk (σ.set i none) H, ct := fun σ H => E.ct (σ.set i none) H }
def wNm (K : PySem.W.Frag) (Wo : WX) (E : Ends) : HL → WX
  | [] => Wo
  | (k, i, ts) :: r => fun cls d σ H => ∃ b, PySem.W.exmOne K cls k = some b ∧ (b = true → ∀ a, H a = none → ts a cls d (offS i E) (σ.set i (some (.ref a))) H) ∧ (b = false → wNm K Wo E r cls d σ H)
inductive HdN (X : Cx) : List ExceptHandler → HL → Prop
  | nil : HdN X [] []
  | cons {x m : Str} {k : Value} {i : Nat} {ts : Addr → Value → Option Addr → TS} {y : Stmt} {ys : List Stmt} {np hp : Pos} {hs : List ExceptHandler} {l : HL} (hk : Names X x k) (hi : X.N[i]? = some m) (hm : X.env.kindOf m = some .local)
      (hy : ∀ (a : Addr) (o : Obj) (cls : Value) (d : Option Addr) (pn : List (Addr × Obj)), Zc cls d o → (∃ fs, o.data = .fields fs) → PSs (X.suite a ((a, o) :: pn)) (y :: ys) (ts a cls d)) (r : HdN X hs l) :
      HdN X (.ExceptHandler (some (.Name x np)) (some m) (y :: ys) hp :: hs) ((k, i, ts) :: l)
section
variable {X : Cx} {ys : List Stmt} {h0 : ExceptHandler} {hs : List ExceptHandler} {l : HL} {pos : Pos} {tb : WX → TS} {Wo : WX}
theorem ps_try_nm (stk : X.stack = X.env :: X.outer) (fr : X.env.frame = some X.env.locals) (nd : X.N.Nodup) (tk : Takes X Wo)
    (body : ∀ (V : WX) (q : List (Addr × Obj)) (xw : Value → Shared → Prop), Takes (X.tr q xw) V → PassesOwn (model X.prog X.w) X.A X.env xw → PSs (X.tr q xw) ys (tb V))
    (cl : HdN X (h0 :: hs) l) : PS X (.Try ys (h0 :: hs) [] [] pos) (fun E σ H => tb (wNm X.K Wo E l) E σ H) := by
  refine ⟨fun pins s σ H E I want => ?_⟩
  have good := I.ok
  have fr0 : X.A.frames = some (X.env :: X.outer) := by rw [good.frames, stk]
  refine wpAny_Try_except ?_
  have caught : Takes (X.tr (X.pn ++ pins) fun x z => wpAny (model X.prog X.w) X.A (noteFrame x X.env) (fun _ z2 => wpAny (model X.prog X.w) X.A (setFlight x none) (fun _ z3 =>
      wpAny (model X.prog X.w) X.A (handleBy x X.env (h0 :: hs)) (SP X pins E) X.xe z3) X.xe z2) X.xe z) (wNm X.K Wo E l) := by
    rintro x z ⟨a, B, sI, pins2, σ2, H2, cls, d, rfl, J2, below, slots, sky, fresh, same, bare, w⟩
    have J : Inv X pins σ2 H2 sI := J2.ofTry good
    have sky : Sky B (X.env :: X.outer) a (Zc cls d) X.env.locals z.heap := by rw [← stk]; exact sky
    show wpAny (model X.prog X.w) X.A (noteFrame (.ref a) X.env) _ _ z
    refine Sky.land Zc.steady fr0 fr sky fun g fly slots2 => ?_
    have at3 : Inv X pins σ2 H2 { z with heap := g } := J.landed below fly.1 (slots.trans slots2) same bare
    obtain ⟨ob, fs, look, isz, data⟩ := fly.there
    have off : a ∉ frs (X.env :: X.outer) := fun hm => by
      obtain ⟨_, ob2, look2, nofs⟩ := fly.2.2.1.mem hm
      rw [look] at look2
      cases look2
      exact nofs _ data
    have offL : a ≠ X.env.locals := fun e => off (List.mem_filterMap.mpr ⟨X.env, List.mem_cons_self, by rw [fr, e]⟩)
    have offF : a ∉ X.fs := fun hm => by
      obtain ⟨v, mv, ev⟩ := List.mem_filterMap.mp hm
      exact off (List.mem_filterMap.mpr ⟨v, List.mem_cons_of_mem _ mv, ev⟩)
    have inSuite := at3.suite look data fresh offL offF
    have tried : ∀ {hs' : List ExceptHandler} {l' : HL}, HdN X hs' l' → wNm X.K Wo E l' cls d σ2 H2 → wpAny (model X.prog X.w) X.A (handleBy (.ref a) X.env hs') (SP X pins E) X.xe { z with heap := g } := fun {hs' l'} hd => by
      induction hd with
      | nil =>
        intro w
        refine wpAny_handleBy_nil ?_
        obtain ⟨_, _, _, ob5, fs5, tr, otr, sl5, look5, _, data5, one5, _⟩ := id fly
        unfold PySem.passOn
        refine wpAny_bind (wpAny_field look5 data5 one5 ?_)
        rw [if_neg (show ¬ ((Value.ref tr == Value.none) = true) from by simp)]
        have onward : wpAny (model X.prog X.w) X.A (setFlight (.ref a) X.env.frame) (fun _ z4 => wpAny (model X.prog X.w) X.A (throw (.ref a) : Sem Flow) (SP X pins E) X.xe z4) X.xe { z with heap := g } := by
          rw [fr]
          refine HandSPX.setFlight_upZ fly fun g4 held slots4 => wpAny_throw (tk (.ref a) _ ?_)
          exact ⟨a, B, sI, pins, σ2, H2, cls, d, rfl, J, below, (slots.trans slots2).trans slots4, .inr (.inr (by rw [stk]; exact held)), fresh, same, bare, w⟩
        first | exact wpAny_bind onward | exact wpAny_bind (wpAny_pure (wpAny_bind onward))
      | @cons x m k i ts y yr np hp hs2 l2 named slot loc suite rest ih =>
        rintro ⟨b, asks, yes, no⟩
        refine wpAny_handleBy_cons (codeAny_handlers_test ?_) (by intro bad; cases bad)
        have typ : PySem.W.Looks (model X.prog X.w) g (typeOf (.ref a)) cls := fun _ _ _ _ keep q => wpAny_typeOf_ref (keep _ _ look) (by rw [isz.1]; exact q)
        have answer := PySem.W.exm_one (M := model X.prog X.w) at3.kIn typ asks
        have cls0 : ∀ {Q R : Value → Shared → Prop}, Q k { z with heap := g } → wpAny (model X.prog X.w) (X.A.mark (some (.ref a))) (eval (.Name x np) X.env) Q R { z with heap := g } := fun {Q R} q => by
          obtain ⟨isg, nodbg, mod | ⟨nomod, boot, noname⟩⟩ := named
          · exact ld_glob (X := X.suite a ((a, ob) :: (X.pn ++ pins))) inSuite isg mod q nodbg
          · exact ld_blt (X := X.suite a ((a, ob) :: (X.pn ++ pins))) inSuite isg nomod boot q noname nodbg
        refine cls0 (answer.here ?_)
        cases b with
        | false =>
          show wpAny _ X.A (handleBy (.ref a) X.env hs2) _ _ _
          exact ih (no rfl)
        | true =>
          refine codeAny_handlers_suite_as (HandSPX.lands_againZ fly fun g6 fly6 slots6 => ?_)
          have at6 : Inv X pins σ2 H2 { z with heap := g6 } := J.landed below fly6.1 ((slots.trans slots2).trans slots6) same bare
          obtain ⟨ob6, fs6, look6, isz6, data6⟩ := fly6.there
          refine store_ok (X := X.suite a ((a, ob6) :: (X.pn ++ pins))) (v := .ref a) (at6.suite look6 data6 fresh offL offF) nd slot (.inl loc) rfl (fun z7 at7 => ?_) (.inr loc)
          refine wpAny_mono ((suite a ob6 cls d (X.pn ++ pins) isz6 ⟨_, data6⟩).run [] z7 _ H2 _ at7 (yes rfl a fresh)) (fun flow z8 got => ?_) fun _ _ never => never.elim
          have gone : ∀ {σ8 : St} {H8 : Hp} {Q : Shared → Prop}, Inv (X.suite a ((a, ob6) :: (X.pn ++ pins))) [] σ8 H8 z8 → (∀ z9, Inv X pins (σ8.set i none) H8 z9 → Q z9) →
              wpAny (model X.prog X.w) X.A (do bindName X.env m .none; unbindBehindTheSuite X.env m hp) (fun _ z9 => Q z9) X.xe z8 := fun {σ8 H8 Q} at8 q => gone_ok (at8.unsuite good) nd slot loc q
          cases flow with
          | next => obtain ⟨σ8, H8, at8, q8⟩ := got; exact gone at8 fun z9 at9 => ⟨_, _, at9, q8⟩
          | brk => obtain ⟨σ8, H8, at8, q8⟩ := got; exact gone at8 fun z9 at9 => ⟨_, _, at9, q8⟩
          | cont => obtain ⟨σ8, H8, at8, q8⟩ := got; exact gone at8 fun z9 at9 => ⟨_, _, at9, q8⟩
          | ret u => obtain ⟨v8, σ8, H8, at8, r8, q8⟩ := got; exact gone at8 fun z9 at9 => ⟨_, _, _, at9, r8, q8⟩
    exact tried cl w
  refine wpAny_mono ((body (wNm X.K Wo E l) (X.pn ++ pins) _ caught PassesOwn.looking).run [] s σ H E (I.toTry _) want) (fun flow z got => ?_) fun _ _ x => x
  cases flow with
  | next => obtain ⟨σ2, H2, at2, q⟩ := got; exact wpAny_execs_nil ⟨σ2, H2, at2.ofTry good, q⟩
  | brk => obtain ⟨σ2, H2, at2, q⟩ := got; exact ⟨σ2, H2, at2.ofTry good, q⟩
  | cont => obtain ⟨σ2, H2, at2, q⟩ := got; exact ⟨σ2, H2, at2.ofTry good, q⟩
  | ret u => obtain ⟨v2, σ2, H2, at2, r2, q⟩ := got; exact ⟨v2, σ2, H2, at2.ofTry good, r2, q⟩
end
end PL
end

section
namespace PL
open PySem PySem.Spec L2
open PyProof.Rows hiding St

/-- a class of exceptions -/
structure ExK (K : PySem.W.Frag) (p : Addr) : Prop where
  base : ∃ B newId initId bm, ExcBaseFacts B newId initId bm ∧ PySem.W.excIn K p bm newId = true
  sub : PySem.W.subIn K (.ref p) (.type "BaseException") = some true
  ty : PySem.W.typeIn K (.ref p) = some (.type "type")
  exc : ExcC K p
  keep : PySem.W.keepIn K (.ref p) = true
structure GEx (T : GT) (C : G0) (c : CC) (X : Cx) : Prop where
  en : ∀ (k : Nat) (x : Str), c.en[k]? = some x → X.mg x = some (.ref (C.cv k)) ∧ ExK C.K (C.cv k)
  exm : ∀ (k k' : Nat) (x : Str), k < T.nex → c.en[k']? = some x → PySem.W.exmOne C.K (.ref (C.cv k)) (.ref (C.cv k')) = some (decide (k = k'))
  isx : ∀ p ∈ c.isx, PySem.W.kitOne C.K (.ref (C.cv p.1)) (.type p.2) = some true
  mgx : ∀ s ∈ ["ValueError", "LookupError"], X.mg (Str.ofString s) = none
section
variable {X : Cx}
theorem pmk_own0 {p : Addr} {bm : List Value} {B newId initId : String} {x : Str} {np pos : Pos} (f : ExcBaseFacts B newId initId bm) (q : PySem.W.excIn X.K p bm newId = true) (g : X.mg x = some (.ref p)) (kp : PySem.W.keepIn X.K (.ref p) = true) (r : Raises X (.ref p)) (hg : Gl X x) (hd : (x == ("__debug__" : Str)) = false) :
    PMk X (.Call (.Name x np) [] [] pos) (fun _ H Q => Q (.ref p) none H) := by
  intro pins s σ H Q I want
  refine wpAny_Call_Name_kw (ld_glob I hg g ?_ hd)
  refine PySem.W.callWith_K0 I.kIn kp ?_
  obtain ⟨bs, N, nm, qn, b2, hdct, sn, sub, ab, col, dd, k0, k1, k2, k3, k4, mN, hC, hN, hni, T⟩ := exc_obj I.kIn q
  exact wpAny_call_exc_subT f T hC hN hni (fun g2 e made => mk_of I made r want (I.hok.gone made.new)) (Nat.zero_le _)
end
section
variable {T : GT} {C : G0} {n : Nat} {W : WX} {c : CC} {X : Cx}
theorem s_raise (G : GoodS T C n W c X) (GX : GEx T C c X) {k : Nat} {x : Str} {np p2 pos : Pos} (hk : c.en[k]? = some x) (hg : glB c.sc x = true) : PS X (.Raise (some (.Call (.Name x np) [] [] p2)) none pos) (RS T C n W (.raise_ k)) := by
  obtain ⟨g1, g2, g3⟩ := G.glb hg
  obtain ⟨m, ex⟩ := GX.en k x hk
  obtain ⟨B, newId, initId, bm, f, q⟩ := ex.base
  refine (ps_raise G.cl G.tk (pmk_own0 (X := X) f (by rw [G.K]; exact q) m (by rw [G.K]; exact ex.keep) (raises_own (by rw [G.K]; exact ex.sub) (by rw [G.K]; exact ex.ty)) g1 g2)).to fun E σ H => ?_
  rintro ⟨e, F, R, q⟩
  simp only [exS] at q
  exact (q F σ H (Tr.refl R)).2
/-- the suite of a clause -/
def tSuite (C : G0) (h : Hd) (a : Addr) (cls : Value) (d : Option Addr) : TS := fun E σ H => cls = .ref (C.cv h.c) ∧ d = none ∧ σ[h.i]? = some (some (.ref a)) ∧ ∀ p, H p = none → E.nx (σ.set h.j (some (.ref p))) (upd H p (.lst [.str h.lab, .bl true]))
theorem exc_boot : ∀ s ∈ ["ValueError", "LookupError"], bootBuiltins (Str.ofString s) = some (.type s) := by decide +kernel
theorem s_suite (G : GoodS T C n W c X) (GX : GEx T C c X) {h : Hd} {m y cl : Str} {a : Addr} {oe : Obj} {cls : Value} {d : Option Addr} {pn : List (Addr × Obj)} {yp np fp cp lp kp sp sp2 : Pos} {z : Nat} (hm : nmB c h.i m = true) (hy : stB c h.j y = true)
    (hi : glB c.sc "isinstance" = true) (hcl : cl = Str.ofString h.cls) (hg : glB c.sc cl = true) (ht : (trHd.tyExc).contains h.cls = true) (hx : c.isx.contains (h.c, h.cls) = true) (hex : ∃ x, c.en[h.c]? = some x) (hz : Zc cls d oe) (hf : ∃ fs, oe.data = .fields fs) :
    PSs (X.suite a ((a, oe) :: pn)) [.Assign [.Name y yp] (.List [.Constant (.str h.lab) z kp, .Call (.Name "isinstance" fp) [.Name m np, .Name cl cp] [] lp] sp2) sp] (tSuite C h a cls d) := by
  refine ⟨fun pins s σ H E I => ?_⟩
  rintro ⟨rfl, rfl, hσ, want⟩
  obtain ⟨g1, g2, g3⟩ := G.glb hi
  obtain ⟨u1, u2, u3⟩ := G.glb hg
  have hs : h.cls ∈ ["ValueError", "LookupError"] := List.contains_iff_mem.mp ht
  obtain ⟨x, hen⟩ := hex
  obtain ⟨_, ex⟩ := GX.en h.c x hen
  have kit := GX.isx _ (List.contains_iff_mem.mp hx)
  unfold nmB dbgB at hm
  simp only [Bool.and_eq_true] at hm
  have pv : PE (X.suite a ((a, oe) :: pn)) (.Name m np) (tVar h.i) := pe_var (by show X.N[h.i]? = _; rw [G.N]; exact of_decide_eq_true hm.1.1) (by show Vis X.env.scope m; rw [G.sc]; exact vis_of hm.1.2) (by simpa using hm.2.1) (by simpa using hm.2.2)
  subst hcl
  have pc : PE (X.suite a ((a, oe) :: pn)) (.Name (Str.ofString h.cls) cp) (tC (.ty h.cls)) := pe_bltn u1 (GX.mgx _ hs) (exc_boot _ hs) rfl u3 u2
  have pcall := pe_callB (X := X.suite a ((a, oe) :: pn)) (p := fp) (pos := lp) (call_isE (by show ExcC X.K _; rw [G.K]; exact ex.exc) hz hf) g1 (G.gl.bi "isinstance" (by decide)) (by decide +kernel) (pa_cons pv (pa_cons pc pa_nil)) g3 g2
  obtain ⟨l1, l2⟩ := G.st h.j y hy
  have ps := ps_set (X := X.suite a ((a, oe) :: pn)) (pos' := yp) (pos := sp) (by show X.N.Nodup; rw [G.N]; exact G.nd) (by show X.N[h.j]? = _; rw [G.N]; exact stB_ix hy) l1 (pe_lst (pos := sp2) (pa_cons (pe_str (x := h.lab) (j := z) (pos := kp)) (pa_cons pcall pa_nil))) rfl l2
  refine (pss_one ps).run pins s σ H E I ?_
  refine ⟨.ref a, hσ, .ty h.cls, .type h.cls, true, rfl, fun u r => r, ?_, ?_⟩
  · show PySem.W.kitOne X.K _ _ = _; rw [G.K]; exact kit
  · exact ⟨by rw [← sizeL_eq]; unfold sizeL; simp, want⟩
theorem setOk_set {e : EV} {i j : Nat} {s : SV} (h : setOk (e.set i s) j = true) (hne : i ≠ j) : setOk e j = true := by
  unfold setOk at h ⊢
  rw [getE_set_ne hne] at h
  exact h
/-- what the clauses wish -/
def hL (C : G0) (hs : List Hd) : HL := hs.map fun h => (.ref (C.cv h.c), h.i, tSuite C h)
theorem exH_w (GX : GEx T C c X) {e e1 : EV} {F H F1 H1 : Hp} {σ σ1 : St} {E : Ends} {k : Nat} (hk : k < T.nex) (t : Tr C e F σ H e1 F1 σ1 H1) : ∀ {hs : List Hd}, (∀ h ∈ hs, ∃ x, c.en[h.c]? = some x) → PostS C W e F σ H (exH hs k [] e1) E → wNm C.K W E (hL C hs) (.ref (C.cv k)) none σ1 H1
  | [], _, q => (q F1 σ1 H1 t).2
  | h :: hs, hen, q => by
    obtain ⟨x, hx⟩ := hen h (by simp)
    refine ⟨decide (k = h.c), GX.exm k h.c x hk hx, fun hb a ha => ?_, fun hb => ?_⟩
    · have e0 := of_decide_eq_true hb
      subst e0
      simp only [exH, if_pos] at q
      split at q
      · rename_i ok
        simp only [Bool.and_eq_true, bne_iff_ne, ne_eq] at ok
        obtain ⟨⟨ok1, ok2⟩, hne⟩ := ok
        have ok3 := setOk_set ok2 hne
        have hl : h.i < σ1.length := by rw [← t.sr.len]; exact (setOk_not ok1).1
        refine ⟨rfl, rfl, by simp [hl], fun p hp => ?_⟩
        show E.nx (((σ1.set h.i (some (.ref a))).set h.j (some (.ref p))).set h.i none) _
        have e1' : ((σ1.set h.i (some (.ref a))).set h.j (some (.ref p))).set h.i none = (σ1.set h.j (some (.ref p))).set h.i none := by
          rw [List.set_comm _ _ hne, List.set_set]
        rw [e1']
        have hF : F1 p = none := by
          cases z : F1 p with
          | none => rfl
          | some u => rw [t.sr.sub p u z] at hp; cases hp
        have hH : H p = none := by
          by_cases z : H p = none
          · exact z
          · exact absurd hp (t.there p z)
        have no := own_there t.sr hp
        have t2 := set1 (t.pad (o := .lst [.str h.lab, .bl true]) hH hF no) ok3 (s' := .own (.lst [.str h.lab, .bl true])) (o := some (.ref p)) (.inr (.inr ⟨_, p, rfl, rfl, ⟨hF, _, upd_same, .cons rep_str (.cons rep_bl .nil)⟩, no, .inr hH⟩))
        have ok4 : setOk (e1.set h.j (.own (.lst [.str h.lab, .bl true]))) h.i = true := by
          unfold setOk at ok1 ⊢
          rw [getE_set_ne (Ne.symm hne)]
          exact ok1
        exact q F1 _ _ (set1 t2 ok4 (.inl rfl))
      · exact q.elim
    · have hne : ¬ k = h.c := of_decide_eq_false hb
      simp only [exH, if_neg hne] at q
      exact exH_w GX hk t (fun h' hh => hen h' (by simp [hh])) q
theorem inv_hd {h : Hd} {x : ExceptHandler} (hh : trHd c h x = true) : ∃ y np m s hp, x = .ExceptHandler (some (.Name y np)) (some m) [s] hp ∧ c.en[h.c]? = some y ∧ glB c.sc y = true ∧ c.sc.names.lookup m = some .local ∧ stB c h.i m = true ∧
    ∃ y2 yp l z kp fp np2 cl cp lp sp pos, s = .Assign [.Name y2 yp] (.List [.Constant (.str l) z kp, .Call (.Name "isinstance" fp) [.Name m np2, .Name cl cp] [] lp] sp) pos ∧ nmB c h.i m = true ∧ stB c h.j y2 = true ∧ h.lab = l ∧ glB c.sc "isinstance" = true ∧ cl = Str.ofString h.cls ∧ glB c.sc cl = true ∧ (trHd.tyExc).contains h.cls = true ∧ c.isx.contains (h.c, h.cls) = true := by
  unfold trHd at hh
  split at hh
  · simp only [Bool.and_eq_true, decide_eq_true_eq] at hh
    obtain ⟨⟨⟨⟨⟨⟨⟨⟨⟨⟨⟨⟨h1, h2⟩, h3⟩, h4⟩, h5⟩, h6⟩, h7⟩, h8⟩, h9⟩, h10⟩, h11⟩, h12⟩, h13⟩ := hh
    rename_i x1 np m y2 yp l z kp f fp m2 np2 cl cp lp sp pos hp
    have h4' : c.sc.names.lookup m = some NameKind.local := by
      split at h4
      · assumption
      · cases h4
    have em : m2 = m := by
      have a1 := stB_ix h3
      unfold nmB at h5
      rw [Bool.and_eq_true, Bool.and_eq_true] at h5
      have a2 := of_decide_eq_true h5.1.1
      rw [a1] at a2; cases a2; rfl
    subst em h8
    exact ⟨x1, np, m2, _, hp, rfl, h1, h2, h4', h3, y2, yp, l, z, kp, fp, np2, cl, cp, lp, sp, pos, rfl, h5, h6, h7, h9, h10, h11, h12, h13⟩
  · cases hh
theorem s_hds (G : GoodS T C n W c X) (GX : GEx T C c X) : ∀ {hs : List Hd} {xs : List ExceptHandler}, trHs c hs xs = true → HdN X xs (hL C hs) ∧ ∀ h ∈ hs, ∃ x, c.en[h.c]? = some x
  | [], [], _ => ⟨.nil, fun h hh => by simp at hh⟩
  | h :: hs, x :: xs, hh => by
    simp only [trHs, Bool.and_eq_true] at hh
    obtain ⟨y, np, m, s, hp, rfl, h1, h2, h3, h4, y2, yp, l, z, kp, fp, np2, cl, cp, lp, sp, pos, rfl, k1, k2, rfl, k4, k5, k6, k7, k8⟩ := inv_hd hh.1
    obtain ⟨r1, r2⟩ := s_hds G GX hh.2
    obtain ⟨g1, g2, g3⟩ := G.glb h2
    refine ⟨.cons ⟨g1, g2, .inl (GX.en h.c y h1).1⟩ (by rw [G.N]; exact stB_ix h4) (by show X.env.scope.names.lookup m = _; rw [G.sc]; exact h3) (fun a o cls d pn hz hf => s_suite G GX k1 k2 k4 k5 k6 k7 k8 ⟨y, h1⟩ hz hf) r1, fun h' hm => ?_⟩
    rcases List.mem_cons.mp hm with rfl | hm
    · exact ⟨y, h1⟩
    · exact r2 h' hm
  | [], _ :: _, hh => by simp [trHs] at hh
  | _ :: _, [], hh => by simp [trHs] at hh
theorem GoodS.try_ (G : GoodS T C n W c X) {V : WX} {q : List (Addr × Obj)} {xw : Value → Shared → Prop} (tk : Takes (X.tr q xw) V) (po : PassesOwn (model X.prog X.w) X.A X.env xw) : GoodS T C n V c (X.tr q xw) where
  K := G.K
  N := G.N
  nd := G.nd
  sc := G.sc
  st := G.st
  cm := G.cm
  hu := G.hu
  room := G.room
  tk := tk
  gl := G.gl
  kind := G.kind
  po := po
  stk := G.stk
  fr := G.fr
  cl := G.cl
  bs := G.bs
  fnx := G.fnx
theorem s_try (G : GoodS T C n W c X) (GX : GEx T C c X) {b : List S} {hs : List Hd} {ys : List Stmt} {x : ExceptHandler} {xs : List ExceptHandler} {pos : Pos} (hb : ∀ {V : WX} {X' : Cx}, GoodS T C n V c X' → GEx T C c X' → PSs X' ys (RB T C n V b)) (hh : trHs c hs (x :: xs) = true) :
    PS X (.Try ys (x :: xs) [] [] pos) (RS T C n W (.try_ b hs)) := by
  obtain ⟨h1, h2⟩ := s_hds G GX hh
  refine (ps_try_nm (tb := fun V => RB T C n V b) G.stk G.fr (by rw [G.N]; exact G.nd) G.tk (fun V q xw tk po => hb (G.try_ tk po) ⟨GX.en, GX.exm, GX.isx, GX.mgx⟩) h1).to fun E σ H => ?_
  rintro ⟨e, F, R, q⟩
  refine ⟨e, F, R, ?_⟩
  simp only [exS] at q
  revert q
  generalize exB T (callF T n) b e = o
  intro q
  cases o with
  | stuck => exact q
  | ok f e1 => cases f <;> exact q
  | exc k p e1 =>
    intro F1 σ1 H1 t
    dsimp only at q
    split at q
    · rename_i ok
      rw [Bool.and_eq_true] at ok
      have hp : p = [] := by simpa using ok.2
      subst hp
      exact ⟨rfl, by rw [G.K]; exact exH_w GX (of_decide_eq_true ok.1) t h2 q⟩
    · exact q.elim
end
end PL
end

section
namespace PL
open PySem PySem.Spec L2

section
variable {c : CC} {x : Stmt}
theorem one_t {ts : List Expr} (h : ts.length = 1) : ∃ t, ts = [t] := by
  match ts, h with
  | [t], _ => exact ⟨t, rfl⟩
theorem i_set {i : Nat} {a : E} (h : trS c (.set i a) x = true) : ∃ z zp y p, x = .Assign [.Name z zp] y p ∧ stB c i z = true ∧ trE c a y = true := by
  cases x <;> first | (simp only [trS] at h; cases h; done) | skip
  rename_i ts y p
  match ts, h with
  | [], h => simp only [trS] at h; cases h
  | t :: _ :: _, h => cases t <;> first | (cases h; done) | (cases y <;> (cases h; done))
  | [t], h =>
    cases t <;> first | (simp only [trS] at h; cases h; done) | skip
    simp only [trS, Bool.and_eq_true] at h
    exact ⟨_, _, _, _, rfl, h.1, h.2⟩
theorem i_par {is : List Nat} {as : List E} (h : trS c (.par is as) x = true) : ∃ ts k tp xs k2 p2 p, x = .Assign [.Tuple ts k tp] (.Tuple xs k2 p2) p ∧ trTg.trNs c is ts = true ∧ trA c as xs = true ∧ as.length = is.length ∧ is.Nodup ∧ is.length ≤ 100 ∧ parB c ts xs = true := by
  cases x <;> first | (simp only [trS] at h; cases h; done) | skip
  rename_i ts y p
  match ts, h with
  | [], h => simp only [trS] at h; cases h
  | t :: _ :: _, h => cases t <;> first | (cases h; done) | (cases y <;> (cases h; done))
  | [t], h =>
    cases t <;> first | (simp only [trS] at h; cases h; done) | skip
    cases y <;> first | (simp only [trS] at h; cases h; done) | skip
    simp only [trS, Bool.and_eq_true, decide_eq_true_eq] at h
    obtain ⟨⟨⟨⟨⟨⟨h1, h2⟩, h3⟩, h4⟩, h5⟩, h6⟩, h7⟩ := h
    exact ⟨_, _, _, _, _, _, _, rfl, h2, h3, h4, h5, h6, h7⟩
theorem i_unp {is : List Nat} {a : E} (h : trS c (.unp is a) x = true) : ∃ ts k tp y p, x = .Assign [.Tuple ts k tp] y p ∧ trTg.trNs c is ts = true ∧ trE c a y = true ∧ isTup y = false := by
  cases x <;> first | (simp only [trS] at h; cases h; done) | skip
  rename_i ts y p
  match ts, h with
  | [], h => simp only [trS] at h; cases h
  | t :: _ :: _, h => cases t <;> first | (cases h; done) | (cases y <;> (cases h; done))
  | [t], h =>
    cases t <;> first | (simp only [trS] at h; cases h; done) | skip
    simp only [trS, Bool.and_eq_true] at h
    obtain ⟨⟨⟨h1, h2⟩, h3⟩, h4⟩ := h
    exact ⟨_, _, _, _, _, rfl, h2, h3, by simpa using h4⟩
theorem i_unpx {ts : List (Nat × E)} {a : E} (h : trS c (.unpx ts a) x = true) : ∃ xs k tp vs k2 p2 p, x = .Assign [.Tuple xs k tp] (.Tuple vs k2 p2) p ∧ trX c ts xs = true ∧ trE c a (.Tuple vs k2 p2) = true ∧ vs.length = xs.length := by
  cases x <;> first | (simp only [trS] at h; cases h; done) | skip
  rename_i tg y p
  match tg, h with
  | [], h => simp only [trS] at h; cases h
  | t :: _ :: _, h => cases t <;> (simp only [trS] at h; cases h)
  | [t], h =>
    cases t <;> first | (simp only [trS] at h; cases h; done) | skip
    cases y <;> first | (simp only [trS] at h; cases h; done) | skip
    simp only [trS, Bool.and_eq_true] at h
    exact ⟨_, _, _, _, _, _, _, rfl, h.1.1, h.1.2, of_decide_eq_true h.2⟩
theorem i_six {i : Nat} {k a : E} (h : trS c (.six i k a) x = true) : ∃ z zp y tp w p, x = .Assign [.Subscript (.Name z zp) y tp] w p ∧ nmB c i z = true ∧ trE c k y = true ∧ trE c a w = true := by
  cases x <;> first | (simp only [trS] at h; cases h; done) | skip
  rename_i ts y p
  match ts, h with
  | [], h => simp only [trS] at h; cases h
  | t :: _ :: _, h => cases t <;> first | (cases h; done) | (rename_i o _ _ ; cases o <;> (cases h; done))
  | [t], h =>
    cases t <;> first | (simp only [trS] at h; cases h; done) | skip
    rename_i o z tp
    cases o <;> first | (simp only [trS] at h; cases h; done) | skip
    simp only [trS, Bool.and_eq_true] at h
    exact ⟨_, _, _, _, _, _, rfl, h.1.1, h.1.2, h.2⟩
end
section
variable {T : GT} {C : G0} {n : Nat} {c : CC}
mutual
theorem s_S : ∀ (s : S) {W : WX} {X : Cx} (G : GoodS T C n W c X) (GX : GEx T C c X) {x : Stmt} (h : trS c s x = true), PS X x (RS T C n W s)
  | .ex a, W, X, G, GX, x, h => by
    cases x <;> first | (simp only [trS] at h; cases h; done) | skip
    simp only [trS, Bool.and_eq_true] at h
    obtain ⟨n1, n2⟩ := tr_nosc h.1
    exact s_ex G (s_E a G.toGood h.1).1 fun l => swaps_no0 (by simpa using h.2) n1 n2
  | .set i a, W, X, G, GX, x, h => by
    obtain ⟨z, zp, y, p, rfl, h1, h2⟩ := i_set h
    exact s_set G h1 h2
  | .par is as, W, X, G, GX, x, h => by
    obtain ⟨ts, k, tp, xs, k2, p2, p, rfl, h2, h3, h4, h5, h6, h7⟩ := i_par h
    exact s_par G h2 h3 h4 h5 h6 h7
  | .unp is a, W, X, G, GX, x, h => by
    obtain ⟨ts, k, tp, y, p, rfl, h2, h3, h4⟩ := i_unp h
    exact s_unp G h2 h3 h4
  | .aug i o a, W, X, G, GX, x, h => by
    cases x <;> first | (simp only [trS] at h; cases h; done) | skip
    rename_i t p y pos
    cases t <;> first | (simp only [trS] at h; cases h; done) | skip
    simp only [trS, Bool.and_eq_true] at h
    obtain ⟨⟨⟨⟨h1, h2⟩, h3⟩, h4⟩, h5⟩ := h
    rw [← of_decide_eq_true h3]
    exact s_aug G h1 h4 h5
  | .six i k a, W, X, G, GX, x, h => by
    obtain ⟨z, zp, y, tp, w, p, rfl, h1, h2, h3⟩ := i_six h
    exact s_six G h1 h2 h3 (tr_slice h2)
  | .unpx ts a, W, X, G, GX, x, h => by
    obtain ⟨xs, k, tp, vs, k2, p2, p, rfl, h1, h2, h3⟩ := i_unpx h
    exact s_unpx G h1 h2 h3
  | .if_ d a b, W, X, G, GX, x, h => by
    cases x <;> first | (simp only [trS] at h; cases h; done) | skip
    simp only [trS, Bool.and_eq_true] at h
    exact s_if (s_E d G.toGood h.1.1).2 (s_B a G GX h.1.2) (s_B b G GX h.2)
  | .wh d b, W, X, G, GX, x, h => by
    cases x <;> first | (simp only [trS] at h; cases h; done) | skip
    rename_i y ys zs p
    cases zs <;> first | (simp only [trS] at h; cases h; done) | skip
    simp only [trS, Bool.and_eq_true] at h
    exact s_wh G (s_E d G.toGood h.1).2 (s_B b G GX h.2)
  | .for_ tg it b, W, X, G, GX, x, h => by
    cases x <;> first | (simp only [trS] at h; cases h; done) | skip
    rename_i t i ys zs p
    cases zs <;> first | (simp only [trS] at h; cases h; done) | skip
    simp only [trS, Bool.and_eq_true] at h
    obtain ⟨⟨⟨⟨h1, h2⟩, h3⟩, h4⟩, h5⟩ := h
    obtain ⟨k1, k2⟩ := s_I it (tg := tg) (t := t) G.toGood h2 ⟨c, h3⟩ h4
    exact s_for G k1 (s_tg G.toGood h1 h3) (s_B b G GX h5) k2
  | .ret a, W, X, G, GX, x, h => by
    cases x <;> first | (simp only [trS] at h; cases h; done) | skip
    rename_i v p
    cases v <;> first | (simp only [trS] at h; cases h; done) | skip
    simp only [trS] at h
    exact s_ret (s_E a G.toGood h).1
  | .retN, W, X, G, GX, x, h => by
    cases x <;> first | (simp only [trS] at h; cases h; done) | skip
    rename_i v p
    cases v <;> first | (simp only [trS] at h; cases h; done) | skip
    exact ps_retN.to fun E σ H ⟨e, F, R, q⟩ => q F σ H .non (Tr.refl R) (show Rep C F .non .non from rep_non)
  | .raise_ k, W, X, G, GX, x, h => by
    cases x <;> first | (simp only [trS] at h; cases h; done) | skip
    rename_i v w p
    cases v <;> first | (simp only [trS] at h; cases h; done) | skip
    rename_i v
    cases v <;> first | (simp only [trS] at h; cases h; done) | skip
    rename_i f xs kws p2
    cases f <;> first | (simp only [trS] at h; cases h; done) | skip
    cases xs <;> first | (simp only [trS] at h; cases h; done) | skip
    cases kws <;> first | (simp only [trS] at h; cases h; done) | skip
    cases w <;> first | (simp only [trS] at h; cases h; done) | skip
    simp only [trS, Bool.and_eq_true, decide_eq_true_eq] at h
    exact s_raise G GX h.1.2 h.2
  | .brk, W, X, G, GX, x, h => by
    cases x <;> first | (simp only [trS] at h; cases h; done) | skip
    exact ps_break.to fun E σ H ⟨e, F, R, q⟩ => q F σ H (Tr.refl R)
  | .cnt, W, X, G, GX, x, h => by
    cases x <;> first | (simp only [trS] at h; cases h; done) | skip
    exact ps_continue.to fun E σ H ⟨e, F, R, q⟩ => q F σ H (Tr.refl R)
  | .pass, W, X, G, GX, x, h => by
    cases x <;> first | (simp only [trS] at h; cases h; done) | skip
    exact ps_pass.to fun E σ H ⟨e, F, R, q⟩ => q F σ H (Tr.refl R)
  | .try_ b hs, W, X, G, GX, x, h => by
    cases x <;> first | (simp only [trS] at h; cases h; done) | skip
    rename_i ys xs us vs p
    cases xs <;> first | (simp only [trS] at h; cases h; done) | skip
    cases us <;> first | (simp only [trS] at h; cases h; done) | skip
    cases vs <;> first | (simp only [trS] at h; cases h; done) | skip
    simp only [trS, Bool.and_eq_true] at h
    exact s_try G GX (fun {V X'} G' GX' => s_B b G' GX' h.1.2) h.2
theorem s_B : ∀ (ss : List S) {W : WX} {X : Cx} (G : GoodS T C n W c X) (GX : GEx T C c X) {xs : List Stmt} (h : trB c ss xs = true), PSs X xs (RB T C n W ss)
  | [], W, X, G, GX, [], h => s_nop
  | s :: ss, W, X, G, GX, x :: xs, h => by
    simp only [trB, Bool.and_eq_true] at h
    exact s_seq (s_S s G GX h.1) (s_B ss G GX h.2)
  | [], _, _, _, _, _ :: _, h => by simp only [trB] at h; cases h
  | _ :: _, _, _, _, _, [], h => by simp only [trB] at h; cases h
end
end
end PL
end

section
namespace PL
open PySem PySem.Spec L2
open PyProof.Rows hiding St

/-! ## the defs -/
structure NG where
  fn : List Str
  cn : List Str
  en : List Str
  kw : List (Nat × List Str × Nat)
  gcd : Bool
  isx : List (Nat × String)
  dn : List Str
def ccOf (g : NG) (N : List Str) (sc : Scope) : CC := ⟨N, sc, none, g.fn, g.cn, g.en, true, g.kw, g.gcd, g.isx, g.dn⟩
def scB (N P : List Str) (sc : Scope) : Bool := (match sc.kind with | .function => true | _ => false) && !sc.isCoroutine && !sc.isGenerator && decide N.Nodup && decide (N.take P.length = P) &&
  (P.all fun x => sc.names.lookup x == some .local || sc.names.lookup x == some .cell) && (sc.names.all fun y => y.2 != .free)
theorem scB_ok {N P : List Str} {sc : Scope} (h : scB N P sc = true) : FnScope N P sc := by
  unfold scB at h
  simp only [Bool.and_eq_true, decide_eq_true_eq, List.all_eq_true, Bool.or_eq_true, beq_iff_eq, bne_iff_ne, ne_eq, Bool.not_eq_true'] at h
  obtain ⟨⟨⟨⟨⟨⟨h1, h2⟩, h3⟩, h4⟩, h5⟩, h6⟩, h7⟩ := h
  refine ⟨?_, h2, h3, h4, h5, h6, h7⟩
  split at h1
  · assumption
  · cases h1
theorem kwG_rel {ps ks : List Str} {np : Nat} {vs zs : List V} {us ws : List Value} (h : Vals vs us) (k : Vals zs ws) : Vals (kwG ps ks np vs zs) (kwG ps ks np us ws) := by
  unfold kwG
  rw [Paired.length h, Paired.length k]
  split
  · exact Paired.kw h k
  · exact .nil
theorem kb_mk {K : PySem.W.Frag} {fd : FuncData} {ps ks : List Str} {np : Nat} (hp : 0 < ps.length) (h : ∀ us ws : List Value, us.length = np → ws.length = ks.length → bindArgs fd ⟨us, ks.zip ws⟩ = pure (ps.zip (kwSort ps ks us ws))) : KBinds K fd ps ks (kwG ps ks np) (kwG ps ks np) where
  to := fun s us ws _ hl => by
    unfold kwG at hl ⊢
    by_cases c : us.length = np ∧ ws.length = ks.length
    · rw [if_pos c]; exact .of_eq (h us ws c.1 c.2)
    · rw [if_neg c] at hl; exact absurd hl (by simp; omega)
  rel := fun h k => kwG_rel h k
structure FnB (C : G0) (ng : NG) (g : Nat) (F : FnD) (fd : FuncData) : Prop where
  ex : ∃ (x qual : Str) (st : Stmt), Fun C.K x qual st (C.gv g) fd ∧ FnScope F.N F.ps (defScope st) ∧ trB (ccOf ng F.N (defScope st)) F.body (defBody st) = true
  bind : Binds C.K fd F.ps []
  kws : ∀ ks np, (g, ks, np) ∈ ng.kw → KBinds C.K fd F.ps ks (kwG F.ps ks np) (kwG F.ps ks np)
structure Base (T : GT) (C : G0) (ng : NG) (mg : Str → Option Value) : Prop where
  names : ∀ (g : Nat) (x : Str), ng.fn[g]? = some x → mg x = some (.ref (C.gv g)) ∧ g < T.fns.length
  fns : ∀ (g : Nat) (F : FnD), T.fns[g]? = some F → ∃ fd, FnB C ng g F fd
  cons : ∀ (k : Nat) (x : Str) (d : D), ng.cn[k]? = some x → T.cons[k]? = some d → ∃ v u, mg x = some u ∧ RelV v u ∧ ∀ H, Rep C H d v
  bi : ∀ s ∈ bnames, mg (Str.ofString s) = none
  gcd : ng.gcd = true → mg (Str.ofString "gcd") = some (.builtin "math.gcd")
  dcs : ∀ (k : Nat) (x : Str) (p : List Key × List D), ng.dn[k]? = some x → T.dcs[k]? = some p → ∃ a, mg x = some (.ref a) ∧ ∀ kk d, dlook p.1 p.2 kk = some d → ∃ i v, kk = .inl i ∧ KDI C.K a i v ∧ ∀ H, Rep C H d v
  en : ∀ (k : Nat) (x : Str), ng.en[k]? = some x → mg x = some (.ref (C.cv k)) ∧ ExK C.K (C.cv k)
  exm : ∀ (k k' : Nat) (x : Str), k < T.nex → ng.en[k']? = some x → PySem.W.exmOne C.K (.ref (C.cv k)) (.ref (C.cv k')) = some (decide (k = k'))
  isx : ∀ p ∈ ng.isx, PySem.W.kitOne C.K (.ref (C.cv p.1)) (.type p.2) = some true
  mgx : ∀ s ∈ ["ValueError", "LookupError"], mg (Str.ofString s) = none
section
variable {C : G0} {F F' H H' : Hp} {vs : List V} {as : List SV}
theorem outs_get : ∀ {as : List SV} {e : EV} {j : Nat} {s : SV}, as.length ≤ e.length → as[j]? = some s → (outs as e)[j]? = (match s with | .bor _ => e[j]? | s => some s)
  | [], _, _, _, _, h => by simp at h
  | a :: as, [], _, _, hl, _ => by simp at hl
  | a :: as, z :: e, 0, s, hl, h => by
    simp at h; subst h
    cases a <;> rfl
  | a :: as, z :: e, j + 1, s, hl, h => by
    have ih := outs_get (as := as) (e := e) (j := j) (s := s) (by simpa using hl) (by simpa using h)
    cases a <;> (simp only [outs, List.getElem?_cons_succ]; exact ih)
theorem outs_len : ∀ {as : List SV} {e : EV}, as.length ≤ e.length → (outs as e).length = as.length
  | [], _, _ => rfl
  | a :: as, [], hl => by simp at hl
  | a :: as, z :: e, hl => by
    have ih := outs_len (as := as) (e := e) (by simpa using hl)
    cases a <;> (simp only [outs, List.length_cons]; rw [ih])
theorem SR.ext {e : EV} {σ : St} (R : SR C e F σ H) (m : Nat) : SR C (e ++ List.replicate m .un) F (σ ++ List.replicate m none) H := by
  have lt : ∀ {j : Nat} {s : SV}, (e ++ List.replicate m SV.un)[j]? = some s → s.mine = true → j < e.length := fun {j s} h ms => by
    by_cases hj : j < e.length
    · exact hj
    · rw [List.getElem?_append_right (by omega), List.getElem?_replicate] at h
      split at h
      · cases h; cases ms
      · cases h
  refine ⟨R.sub, fun j s h => ?_, fun j k s t a h1 h2 m1 m2 a1 a2 => ?_, by simp [R.len]⟩
  · by_cases hj : j < e.length
    · rw [List.getElem?_append_left hj] at h
      rw [List.getElem?_append_left (by rw [← R.len]; exact hj)]
      exact R.slot j s h
    · rw [List.getElem?_append_right (by omega), List.getElem?_replicate] at h
      split at h
      · cases h; trivial
      · cases h
  · have l1 := lt h1 m1
    have l2 := lt h2 m2
    rw [List.getElem?_append_left l1] at h1
    rw [List.getElem?_append_left l2] at h2
    rw [List.getElem?_append_left (by rw [← R.len]; exact l1)] at a1
    rw [List.getElem?_append_left (by rw [← R.len]; exact l2)] at a2
    exact R.dis j k s t a h1 h2 m1 m2 a1 a2
/-- behind a def's body -/
theorem outs_ok {m : Nat} {e' : EV} {σ' : St} (R : SR C as F (vs.map some) H) (hv : ∀ s ∈ as, (∃ d, s = .val d) ∨ ∃ d, s = .bor d) (t : Tr C (as ++ List.replicate m .un) F (vs.map some ++ List.replicate m none) H e' F' σ' H') :
    TrE C as F (vs.map some) H (outs as e') F' H' ∧ ∀ a, OwnA (outs as e') (vs.map some) a → OwnA e' σ' a := by
  have hle : as.length ≤ e'.length := by rw [t.len]; simp
  have lt : ∀ {j : Nat} {s : SV}, (outs as e')[j]? = some s → j < as.length := fun {j s} h => by rw [← outs_len hle]; exact (List.getElem?_eq_some_iff.mp h).1
  have big : ∀ {j : Nat} {s : SV}, as[j]? = some s → (as ++ List.replicate m SV.un)[j]? = some s := fun {j s} h => by rw [List.getElem?_append_left (List.getElem?_eq_some_iff.mp h).1]; exact h
  have bigσ : ∀ {j : Nat}, j < as.length → (vs.map some ++ List.replicate m none)[j]? = (vs.map some)[j]? := fun {j} h => List.getElem?_append_left (by rw [← R.len]; exact h)
  have char : ∀ j, j < as.length → (∃ d, as[j]? = some (.val d) ∧ (outs as e')[j]? = some (.val d)) ∨ ∃ d d', as[j]? = some (.bor d) ∧ σ'[j]? = (vs.map some)[j]? ∧ (outs as e')[j]? = e'[j]? ∧ (e'[j]? = some (.bor d') ∨ e'[j]? = some (.fro d')) := fun j hj => by
    have hs : as[j]? = some as[j] := List.getElem?_eq_getElem hj
    rcases hv as[j] (List.getElem_mem hj) with ⟨d, e⟩ | ⟨d, e⟩
    · rw [e] at hs
      exact .inl ⟨d, hs, by rw [outs_get hle hs]⟩
    · rw [e] at hs
      obtain ⟨h1, d', h2⟩ := t.bor j d (big hs)
      rw [bigσ hj] at h1
      exact .inr ⟨d, d', hs, h1, by rw [outs_get hle hs], h2⟩
  have ownS : ∀ b, OwnA as (vs.map some) b → OwnA (as ++ List.replicate m .un) (vs.map some ++ List.replicate m none) b := fun b ⟨j, s, h1, h2, h3⟩ =>
    ⟨j, s, big h1, h2, by rw [bigσ (List.getElem?_eq_some_iff.mp h1).1]; exact h3⟩
  have ownB : ∀ b, OwnA (as ++ List.replicate m .un) (vs.map some ++ List.replicate m none) b → OwnA as (vs.map some) b := fun b ⟨j, s, h1, h2, h3⟩ => by
    by_cases hj : j < as.length
    · rw [List.getElem?_append_left hj] at h1
      rw [bigσ hj] at h3
      exact ⟨j, s, h1, h2, h3⟩
    · rw [List.getElem?_append_right (by omega), List.getElem?_replicate] at h1
      split at h1
      · cases h1; cases h2
      · cases h1
  have R' := t.sr
  refine ⟨⟨⟨⟨R'.sub, fun j s h => ?_, fun j k s s2 a h1 h2 m1 m2 a1 a2 => ?_, by rw [outs_len hle]; exact R.len⟩, t.fs, fun b o h n => t.keep b o h fun q => n (ownB b q), t.there, fun b o h => ?_, fun j d a h1 h2 => ?_, fun j d h => ?_, fun j d h => ⟨rfl, ?_⟩, fun j d h => ⟨rfl, ?_⟩, outs_len hle⟩, fun j s h k => ?_, fun j s h k => ?_⟩, fun a ⟨j, s, h1, h2, h3⟩ => ?_⟩
  · have hj := lt h
    rcases char j hj with ⟨d, k1, k2⟩ | ⟨d, d', k1, k2, k3, k4⟩
    · rw [k2] at h; cases h
      obtain ⟨v, z1, z2⟩ := R.slot j _ k1
      exact ⟨v, z1, z2.mono t.fs⟩
    · rw [k3] at h
      have z := R'.slot j s h
      rw [k2] at z; exact z
  · have hj := lt h1
    have hk := lt h2
    rcases char j hj with ⟨d, k1, k2⟩ | ⟨d, d', k1, k2, k3, k4⟩
    · rw [k2] at h1; cases h1; cases m1
    rcases char k hk with ⟨d2, l1, l2⟩ | ⟨d2, d2', l1, l2, l3, l4⟩
    · rw [l2] at h2; cases h2; cases m2
    rw [k3] at h1; rw [l3] at h2
    exact R'.dis j k s s2 a h1 h2 m1 m2 (by rw [k2]; exact a1) (by rw [l2]; exact a2)
  · rcases t.new b o h with w | w | w
    · exact .inl w
    · exact .inr (.inl w)
    · exact .inr (.inr (ownB b w))
  · have hj := lt h1
    rcases char j hj with ⟨d2, k1, k2⟩ | ⟨d2, d', k1, k2, k3, k4 | k4⟩
    · rw [k2] at h1; cases h1
    · rw [k3, k4] at h1; cases h1
    · rw [k3, k4] at h1; cases h1
  · have hj := lt h
    rcases char j hj with ⟨d2, k1, k2⟩ | ⟨d2, d', k1, k2, k3, k4⟩
    · rw [k2] at h; cases h
    · exact ⟨d2, k1⟩
  · rcases char j (List.getElem?_eq_some_iff.mp h).1 with ⟨d2, k1, k2⟩ | ⟨d2, d', k1, k2, k3, k4⟩
    · rw [k1] at h; cases h
    · exact ⟨d', by rw [k3]; exact k4⟩
  · rcases char j (List.getElem?_eq_some_iff.mp h).1 with ⟨d2, k1, k2⟩ | ⟨d2, d', k1, k2, k3, k4⟩
    · rw [k1] at h; cases h
    · rw [k1] at h; cases h
  · rcases char j (List.getElem?_eq_some_iff.mp h).1 with ⟨d2, k1, k2⟩ | ⟨d2, d', k1, k2, k3, k4 | k4⟩
    · exact ⟨_, k2, rfl⟩
    · exact ⟨_, by rw [k3]; exact k4, rfl⟩
    · exact ⟨_, by rw [k3]; exact k4, rfl⟩
  · rcases char j (lt h) with ⟨d2, k1, k2⟩ | ⟨d2, d', k1, k2, k3, k4⟩
    · rw [k2] at h; cases h; cases k
    · exact ⟨_, k1, rfl⟩
  · rcases char j (lt h1) with ⟨d2, k1, k2⟩ | ⟨d2, d', k1, k2, k3, k4⟩
    · rw [k2] at h1; cases h1; cases h2
    · exact ⟨j, s, by rw [← k3]; exact h1, h2, by rw [k2]; exact h3⟩
end
section
variable {T : GT} {C : G0} {ng : NG} {P : Program} {w : World} {mg : Str → Option Value} {base : Heap}
theorem fn_all (B : Base T C ng mg) : ∀ (n g : Nat) (F : FnD) (fd : FuncData), T.fns[g]? = some F → FnB C ng g F fd → FnOk P w C.K mg base (CX P w) n (C.gv g) fd F.ps (SpI T C n g F.ps.length)
  | 0, g, F, fd, hF, b => ⟨fun vs H Q E ⟨as, F0, h, _⟩ => h, fun A outer s H args us vs Q E _ _ _ _ ⟨as, F0, _, _, _, h⟩ => h.elim⟩
  | n + 1, g, F, fd, hF, b => by
    obtain ⟨x, qual, st, fu, S, tr⟩ := b.ex
    refine fu.okX S (fun vs H Q E ⟨as, F0, h, _⟩ => h) fun cdv A outer s H vs Q E hr sp => ?_
    obtain ⟨as, F0, hl, hv, R, sp⟩ := sp
    have G : GoodS T C n (fun cls d _ H => E cls d H) (ccOf ng F.N (defScope st)) (cxOf (L2.CX P w) P w C.K mg base F.N qual (defScope st) (C.gv g) cdv A outer s H E) :=
      { K := rfl, N := rfl, nd := S.nd, sc := rfl,
        st := fun i x h => by
          unfold stB at h
          rw [Bool.and_eq_true, Bool.and_eq_true] at h
          refine ⟨?_, .inl rfl⟩
          have h2 := h.1.2
          unfold locB at h2
          show Loc (defScope st) x
          split at h2
          · exact .inl (by assumption)
          · exact .inr (by assumption)
          · cases h2
        cm := fun _ => rfl, hu := hr.units, room := fun _ => hr, tk := takes_of rfl rfl rfl rfl,
        gl := ⟨B.names, fun g' F' h' => by
          obtain ⟨fd', b'⟩ := B.fns g' F' h'
          obtain ⟨x', q', st', fu', _⟩ := b'.ex
          exact ⟨fu'.kp, fd', fn_all B n g' F' fd' h' b', b'.bind, b'.kws⟩, B.cons, B.bi, B.gcd, B.dcs⟩,
        kind := S.kind, po := passes_of rfl, stk := rfl, fr := rfl, cl := rfl, bs := rfl, fnx := fun _ => rfl }
    have GX : GEx T C (ccOf ng F.N (defScope st)) (cxOf (L2.CX P w) P w C.K mg base F.N qual (defScope st) (C.gv g) cdv A outer s H E) := ⟨B.en, B.exm, B.isx, B.mgx⟩
    refine ⟨_, s_B F.body G GX tr, as ++ List.replicate (F.N.length - as.length) .un, F0, ?_, ?_⟩
    · have hla : as.length = vs.length := by rw [R.len]; simp
      have := R.ext (F.N.length - as.length)
      rw [hla] at this ⊢
      exact this
    · have hla : as.length = vs.length := by rw [R.len]; simp
      simp only [callF, hF] at sp
      rw [if_pos (by rw [hla]; exact hl)] at sp
      revert sp
      have hst : L2.start F.N vs = vs.map some ++ List.replicate (F.N.length - as.length) none := by unfold L2.start; rw [hla]
      rw [hst]
      generalize exB T (callF T n) F.body (as ++ List.replicate (F.N.length - as.length) .un) = o
      intro sp
      cases o with
      | stuck => exact sp
      | exc k p e' =>
        intro F' σ' H' t
        exact sp F' H' (outs_ok R hv t).1
      | ok f e' =>
        cases f with
        | brk => exact sp.elim
        | cnt => exact sp.elim
        | next =>
          intro F' σ' H' t
          exact sp .non F' H' (outs_ok R hv t).1 (show Rep C F' .non .non from rep_non)
        | ret r =>
          intro F' σ' H' v t k
          obtain ⟨o1, o2⟩ := outs_ok R hv t
          cases r with
          | v d => exact sp v F' H' o1 k
          | h i => exact k.elim
          | t d =>
            obtain ⟨a, rfl, m, no, hh⟩ := k
            refine sp _ F' H' o1 ⟨a, rfl, m, ?_, fun q => no (o2 a q)⟩
            rcases hh with ⟨j, d', h1, _⟩ | hh
            · by_cases hj : j < as.length
              · rw [List.getElem?_append_left hj] at h1
                rcases hv _ (List.mem_of_getElem? h1) with ⟨_, z⟩ | ⟨_, z⟩ <;> cases z
              · rw [List.getElem?_append_right (by omega), List.getElem?_replicate] at h1
                split at h1 <;> cases h1
            · exact hh
end
end PL
end

section
namespace PL
open PySem PySem.Spec L2
open PyProof.Rows hiding St

/-! ## facts in rows -/
def AllIx {α : Type} (P : Nat → α → Prop) : Nat → List α → Prop
  | _, [] => True
  | i, a :: l => P i a ∧ AllIx P (i + 1) l
theorem AllIx.get {α : Type} {P : Nat → α → Prop} : ∀ {l : List α} {j i : Nat} {a : α}, AllIx P j l → l[i]? = some a → P (j + i) a
  | [], _, _, _, _, h => by simp at h
  | b :: l, j, 0, a, ⟨h, _⟩, k => by simp at k; subst k; exact h
  | b :: l, j, i + 1, a, ⟨_, h⟩, k => by
    have := AllIx.get (i := i) h (by simpa using k)
    rw [show j + (i + 1) = j + 1 + i by omega]; exact this
theorem AllIx.all {α : Type} {P : Nat → α → Prop} {l : List α} (h : AllIx P 0 l) (i : Nat) (a : α) (k : l[i]? = some a) : P i a := by
  have := AllIx.get h k
  rwa [Nat.zero_add] at this
theorem fn_mk {C : G0} {ng : NG} {g : Nat} {F : FnD} {st : Stmt} {x : Str} {oc : Value} {od an : Option Addr} {sl : Array (Option Value)} {kV dc pm cd ct : Value}
    (l : C.K.lookup (C.gv g) = some ⟨oc, od, .func (PySem.W.fnOf x x (defArgs st) (defBody st) (defScope st) .none kV dc pm an cd ct), sl⟩) (c : PySem.W.codeIn C.K cd x = true) (k : PySem.W.keepIn C.K (.ref (C.gv g)) = true)
    (S : scB F.N F.ps (defScope st) = true) (tr : trB (ccOf ng F.N (defScope st)) F.body (defBody st) = true)
    (b : ∀ (kV doc pm : Value) (an : Option Addr) (cdv ct : Value) (us : List Value), us.length = F.ps.length → bindArgs (PySem.W.fnOf x x (defArgs st) (defBody st) (defScope st) .none kV doc pm an cdv ct) ⟨us, []⟩ = pure (F.ps.zip us))
    (kw : ∀ (kV doc pm : Value) (an : Option Addr) (cdv ct : Value) (ks : List Str) (np : Nat), (g, ks, np) ∈ ng.kw → KBinds C.K (PySem.W.fnOf x x (defArgs st) (defBody st) (defScope st) .none kV doc pm an cdv ct) F.ps ks (kwG F.ps ks np) (kwG F.ps ks np)) :
    FnB C ng g F (PySem.W.fnOf x x (defArgs st) (defBody st) (defScope st) .none kV dc pm an cd ct) where
  ex := ⟨x, x, st, L2.fun_mk (st := st) l c k, scB_ok S, tr⟩
  bind := (L2.fun_mk (st := st) l c k).binds b
  kws := kw kV dc pm an cd ct
theorem kw_of {l r : List (Nat × List Str × Nat)} {g : Nat} {ks : List Str} {np : Nat} (q : (g, ks, np) ∈ l) (h : (l.filter fun t => t.1 == g) = r) : (g, ks, np) ∈ r := by
  rw [← h]
  exact List.mem_filter.mpr ⟨q, by simp⟩
/-- a constant of the module -/
def KRep (K : PySem.W.Frag) : D → Value → Prop
  | .non, u => u = .none
  | .bl b, u => u = .bool b
  | .int i, u => ∃ t, u = .int i t
  | .str x, u => ∃ t, u = .str x t
  | .tup ds, u => ∃ (a : Addr) (o : Obj) (its : Array Value) (m : Nat), u = .ref a ∧ K.lookup a = some o ∧ o.cls = .type "tuple" ∧ o.data = .seq its m ∧ its.size ≤ sizeLine ∧ KRepL ds its.toList
  | _, _ => False
where KRepL : List D → List Value → Prop
  | [], us => us = []
  | d :: ds, us => ∃ u r, us = u :: r ∧ KRep K d u ∧ KRepL ds r
mutual
theorem krep {C : G0} : ∀ (d : D) (u : Value), KRep C.K d u → ∃ v, RelV v u ∧ ∀ H, Rep C H d v
  | .non, u, h => ⟨.non, h, fun H => rep_non⟩
  | .bl b, u, h => ⟨.bl b, h, fun H => rep_bl⟩
  | .int i, u, h => ⟨.int i, h, fun H => rep_int⟩
  | .str x, u, h => ⟨.str x, h, fun H => rep_str⟩
  | .tup ds, u, h => by
    unfold KRep at h
    obtain ⟨a, o, its, m, rfl, h1, h2, h3, h4, h5⟩ := h
    obtain ⟨vs, r1, r2⟩ := krepL ds _ h5
    exact ⟨.ref a, rfl, fun H => by rw [Rep]; exact ⟨a, vs, rfl, .inr ⟨o, its, m, h1, h2, h3, h4, r1⟩, r2 H⟩⟩
  | .lst _, _, h => by unfold KRep at h; exact h.elim
  | .scr _, _, h => by unfold KRep at h; exact h.elim
  | .dk _ _, _, h => by unfold KRep at h; exact h.elim
  | .dt _ _, _, h => by unfold KRep at h; exact h.elim
  | .fn _, _, h => by unfold KRep at h; exact h.elim
  | .exn _ _, _, h => by unfold KRep at h; exact h.elim
theorem krepL {C : G0} : ∀ (ds : List D) (us : List Value), KRep.KRepL C.K ds us → ∃ vs, Vals vs us ∧ ∀ H, RepL C H ds vs
  | [], us, h => by unfold KRep.KRepL at h; subst h; exact ⟨[], .nil, fun H => .nil⟩
  | d :: ds, us, h => by
    unfold KRep.KRepL at h
    obtain ⟨u, r, rfl, h1, h2⟩ := h
    obtain ⟨v, k1, k2⟩ := krep d u h1
    obtain ⟨vs, k3, k4⟩ := krepL ds r h2
    exact ⟨v :: vs, .cons k1 k3, fun H => .cons (k2 H) (k4 H)⟩
end
theorem kdi_mk {K : PySem.W.Frag} {a : Addr} {n : Nat} {es : List (Int × Tok × Value)} {k : Int} {u : Value} {v : V} (l : K.lookup a = some ⟨.type "dict", none, .dict (es.map fun e => ⟨hashInt e.1, .int e.1 e.2.1, e.2.2⟩).toArray n, #[]⟩) (h : (es.find? fun e => decide (e.1 = k)).map (·.2.2) = some u) (r : RelV v u) : KDI K a k v := by
  refine ⟨_, n, u, l, fun e he => ?_, ?_, r⟩
  · simp only [List.mem_map] at he
    obtain ⟨x, _, rfl⟩ := he
    exact ⟨_, _, rfl, rfl⟩
  · have : ∀ es : List (Int × Tok × Value), (es.find? fun e => decide (e.1 = k)).map (·.2.2) = some u → ((es.map fun e => (⟨hashInt e.1, .int e.1 e.2.1, e.2.2⟩ : DictEntry)).find? fun d => Value.isInt k d.key).map (·.val) = some u := by
      intro es
      induction es with
      | nil => intro h; simp at h
      | cons e es ih =>
        intro h
        rw [List.map_cons, List.find?_cons]
        rw [List.find?_cons] at h
        have q : Value.isInt k (.int e.1 e.2.1) = decide (e.1 = k) := by
          by_cases z : e.1 = k
          · subst z; simp [Value.isInt]
          · simp [Value.isInt, z]
        simp only [q]
        by_cases z : e.1 = k
        · simp [z] at h ⊢; exact h
        · simp [z] at h ⊢; simpa using ih (by simpa using h)
    unfold findBy
    rw [List.find?_toArray]
    exact this es h
theorem dlk_3 {a b c : Key} {x y z : D} {k : Key} {d : D} (h : dlook [a, b, c] [x, y, z] k = some d) : (k = a ∧ d = x) ∨ (k = b ∧ d = y) ∨ (k = c ∧ d = z) := by
  simp only [dlook] at h
  split at h
  · rename_i q; cases h; exact .inl ⟨q.symm, rfl⟩
  · split at h
    · rename_i q; cases h; exact .inr (.inl ⟨q.symm, rfl⟩)
    · split at h
      · rename_i q; cases h; exact .inr (.inr ⟨q.symm, rfl⟩)
      · cases h
theorem exk_mk {K : PySem.W.Frag} {p : Addr} {B newId initId : String} {bm : List Value} (f : ExcBaseFacts B newId initId bm) (x : PySem.W.excIn K p bm newId = true) (kp : PySem.W.keepIn K (.ref p) = true) (sb : PySem.W.subIn K (.ref p) (.type "BaseException") = some true) (ty : PySem.W.typeIn K (.ref p) = some (.type "type"))
    (e1 : PySem.W.findIn K (.ref p) "__getattribute__" = some (some (.builtin "BaseException.__getattribute__"))) (e2 : PySem.W.findIn K (.ref p) "__getattr__" = some none) (e3 : PySem.W.hasDictIn K p = true) (e4 : PySem.W.findIn K (.ref p) "__class__" = some (some (.builtin "object.__class__")))
    (e5 : PySem.W.specialIn K (.builtin "object.__class__") "__get__" = some (some (.builtin "getset_descriptor.__get__"))) (e6 : PySem.W.takesIn K (.builtin "object.__class__") = some true) (e7 : PySem.W.mroIn K p (.type "object") = some true) : ExK K p :=
  ⟨⟨B, newId, initId, bm, f, x⟩, sb, ty, ⟨e1, e2, sb, e3, e4, e5, e6, e7⟩, kp⟩
theorem kit_sub {K : PySem.W.Frag} {p : Addr} {s : String} {b : Bool} (h : PySem.W.subIn K (.ref p) (.type s) = some b) (m : PySem.W.kitMeta s = true) : PySem.W.kitOne K (.ref p) (.type s) = some b := by
  show (if (Value.ref p == Value.type s) = true then some true else PySem.W.kitCls K (.ref p) (.type s)) = _
  rw [if_neg (by intro e; exact absurd (beq_iff_eq.mp e) (by simp))]
  show (if PySem.W.kitMeta s = true then PySem.W.subIn K (.ref p) (.type s) else none) = _
  rw [if_pos m]; exact h
theorem bi_mk {K : PySem.W.Frag} {h : Heap} {mg : Str → Option Value} (X : K.In h) (G : h.Ns mainGlobals mg) (z : AllIx (fun _ s => PySem.W.nsIn K mainGlobals (Str.ofString s) = some none) 0 bnames) : ∀ s ∈ bnames, mg (Str.ofString s) = none := fun s hs => by
  obtain ⟨i, hi⟩ := List.getElem?_of_mem hs
  exact PySem.W.mg_none_of X G (z.all i s hi)
/-! ## the law's def -/
def spLaw (K : PySem.W.Frag) : Sp := fun vs H Q _ => ∃ (a : Addr) (ns : List Int), vs = [.ref a] ∧ ns.length ≤ 63 ∧ SqL K H a (ns.map V.int) ∧ ∀ H', Q (.bl true) H'
theorem law_sp {T : GT} {C : G0} {n g : Nat} (ok : ∀ ns : List Int, ns.length ≤ 63 → ∃ as', callF T n g [.val (.scr ns)] = .ok (.v (.bl true)) as') {vs : List V} {H : Hp} {Q : VK} {E : XK} (h : spLaw C.K vs H Q E) : SpI T C n g 1 vs H Q E := by
  obtain ⟨a, ns, rfl, hl, hs, q⟩ := h
  obtain ⟨as', e⟩ := ok ns hl
  refine ⟨[.val (.scr ns)], H, rfl, fun s hs => ?_, ⟨Sub.refl H, fun i s h => ?_, fun i j s t a h1 h2 m1 _ _ _ => ?_, rfl⟩, ?_⟩
  · simp at hs; exact .inl ⟨_, hs⟩
  · cases i with
    | zero => simp at h; subst h; exact ⟨.ref a, rfl, by rw [Rep]; exact ⟨a, rfl, hs⟩⟩
    | succ i => simp at h
  · cases i with
    | zero => simp at h1; subst h1; cases m1
    | succ i => simp at h1
  · rw [e]
    intro v F' H' _ r
    have r : Rep C F' (.bl true) v := r
    rw [Rep] at r
    subst r
    exact q H'
theorem cx_no {P : Program} {w : World} {H : Hp} {s : Shared} {e : Value} {s' : Shared} (h : CX P w [] H s (fun _ _ _ => False) e s') : False := by
  obtain ⟨a, B, H', cls, d, _, _, _, _, _, _, _, h⟩ := h
  exact h
end PL
end

section
namespace PL
open PySem PySem.Spec L2

/-! ## the interpreter's rows, for simp -/
section
variable (T : GT) (cf : Nat → List SV → CO) (m : Bool) (e : EV)
@[simp] theorem x_var (i : Nat) : evE T cf m (.var i) e = tst m (match e[i]? with
    | some (.val d) => .ok (.v d) e
    | some (.fro d) => .ok (.v d) e
    | some (.own _) => .ok (.h i) e
    | some (.bor _) => .ok (.h i) e
    | _ => .stuck) := by first | (rw [evE]; done) | (rw [evE]; rfl)
@[simp] theorem x_int (k : Int) : evE T cf m (.int k) e = tst m (.ok (.v (.int k)) e) := by first | (rw [evE]; done) | (rw [evE]; rfl)
@[simp] theorem x_bl (k : Bool) : evE T cf m (.bl k) e = tst m (.ok (.v (.bl k)) e) := by first | (rw [evE]; done) | (rw [evE]; rfl)
@[simp] theorem x_non : evE T cf m .non e = tst m (.ok (.v .non) e) := by first | (rw [evE]; done) | (rw [evE]; rfl)
@[simp] theorem x_str (k : Str) : evE T cf m (.str k) e = tst m (.ok (.v (.str k)) e) := by first | (rw [evE]; done) | (rw [evE]; rfl)
@[simp] theorem x_con (k : Nat) : evE T cf m (.con k) e = tst m (opt T.cons[k]? fun d => .ok (.v d) e) := by first | (rw [evE]; done) | (rw [evE]; rfl)
@[simp] theorem x_fnv (g : Nat) : evE T cf m (.fnv g) e = tst m (if g < T.fns.length then .ok (.v (.fn g)) e else .stuck) := by first | (rw [evE]; done) | (rw [evE]; rfl)
@[simp] theorem x_bin (o : Bop) (a b : E) : evE T cf m (.bin o a b) e = tst m ((evE T cf false a e).bd fun ra e1 => (evE T cf false b e1).bd fun rb e2 =>
      opt (cont e2 ra) fun x => opt (cont e2 rb) fun y => opt (binop o x y) fun r => .ok r e2) := by first | (rw [evE]; done) | (rw [evE]; rfl)
@[simp] theorem x_dd1 (k v : E) : evE T cf m (.dd1 k v) e = tst m ((evE T cf false k e).bd fun rk e1 => (evE T cf false v e1).bd fun rv e2 => opt ((cont e2 rk).bind keyOf) fun x => opt (frz e2 rv) fun (d, e3) => .ok (.t (.dk [x] [d])) e3) := by first | (rw [evE]; done) | (rw [evE]; rfl)
@[simp] theorem x_lrg (t : Bool) (a : E) : evE T cf m (.lrg t a) e = tst m ((evE T cf false a e).bd fun r e1 => opt ((cont e1 r).bind intD) fun n =>
      if decide (-(2 ^ 62) ≤ n) && decide (n ≤ 16777216) then .ok (if t then .v (.tup (rgI n)) else .t (.lst (rgI n))) e1 else .stuck) := by first | (rw [evE]; done) | (rw [evE]; rfl)
@[simp] theorem x_lset (a : E) : evE T cf m (.lset a) e = tst m ((evE T cf false a e).bd fun r e1 => opt ((cont e1 r).bind rowsD) fun l => opt (lsetN l) fun k => .ok (.v (.int k)) e1) := by first | (rw [evE]; done) | (rw [evE]; rfl)
@[simp] theorem x_sset (a : E) : evE T cf m (.sset a) e = tst m ((evE T cf false a e).bd fun r e1 => opt ((cont e1 r).bind rowsD) fun l => opt (ssort l) fun k => .ok (.t (.lst (k.map rowD))) e1) := by first | (rw [evE]; done) | (rw [evE]; rfl)
theorem x_comp2 (own : List Nat) (it : It) (tg : Tg) (cond : Option E) (own1 : List Nat) (it1 : It) (tg1 : Tg) (cond1 : Option E) (elt : E) : evE T cf m (.comp2 own it tg cond own1 it1 tg1 cond1 elt) e = tst m ((evI T cf it e).bd fun ds e1 =>
      (comp2L (fun d e => opt (asg tg d e) fun e1 => (evC T cf cond e1).bd fun k e2 => if k then (evI T cf it1 e2).bd fun xs e3 => .ok (some xs) e3 else .ok none e2)
        (fun d e => opt (asg tg1 d e) fun e1 => (evC T cf cond1 e1).bd fun k e2 => if k then (evE T cf false elt e2).bd fun r e3 => opt (frz e3 r) fun (x, e4) => .ok (some x) e4 else .ok none e2) own own1 ds (wipeE e1 own) []).bd
        fun acc e2 => .ok (.t (.lst acc)) (unwipe e1 e2 own)) := by first | (rw [evE]; done) | (rw [evE]; rfl)
@[simp] theorem x_dix (k : Nat) (a : E) : evE T cf m (.dix k a) e = tst m (opt T.dcs[k]? fun p => (evE T cf false a e).bd fun r e1 => opt ((cont e1 r).bind keyOf) fun x => opt (dlook p.1 p.2 x) fun d => .ok (.v d) e1) := by first | (rw [evE]; done) | (rw [evE]; rfl)
@[simp] theorem x_neg (a : E) : evE T cf m (.neg a) e = tst m ((evE T cf false a e).bd fun ra e1 => opt ((cont e1 ra).bind intD) fun i => .ok (.v (.int (-i))) e1) := by first | (rw [evE]; done) | (rw [evE]; rfl)
@[simp] theorem x_cmp (o : CmpOp) (a b : E) : evE T cf m (.cmp o a b) e = tst m ((evE T cf false a e).bd fun ra e1 => (evE T cf false b e1).bd fun rb e2 =>
      opt (cont e2 ra) fun x => opt (cont e2 rb) fun y => opt (cmpop o x y) fun r => .ok (.v (.bl r)) e2) := by first | (rw [evE]; done) | (rw [evE]; rfl)
@[simp] theorem x_chain (o p : CmpOp) (a b c : E) : evE T cf m (.chain o p a b c) e = tst m ((evE T cf false a e).bd fun ra e1 => (evE T cf false b e1).bd fun rb e2 =>
      opt (cont e2 ra) fun x => opt (cont e2 rb) fun y => opt (cmpop o x y) fun r =>
        if r then (evE T cf false c e2).bd fun rc e3 => opt (cont e3 rb) fun y => opt (cont e3 rc) fun z => opt (cmpop p y z) fun r => .ok (.v (.bl r)) e3
        else .ok (.v (.bl false)) e2) := by first | (rw [evE]; done) | (rw [evE]; rfl)
@[simp] theorem x_andor (k : Bool) (es : List E) : evE T cf m (.andor k es) e = evV T cf m k es e := by first | (rw [evE]; done) | (rw [evE]; rfl)
@[simp] theorem x_v1 (k : Bool) (a : E) : evV T cf m k [a] e = evE T cf m a e := by first | (rw [evV]; done) | (rw [evV]; rfl)
@[simp] theorem x_v2 (k : Bool) (a b : E) (r : List E) : evV T cf m k (a :: b :: r) e = (evE T cf m a e).bd fun x e1 => opt ((cont e1 x).bind truth) fun z => if z = k then evV T cf m k (b :: r) e1 else .ok x e1 := by first | (rw [evV]; done) | (rw [evV]; rfl)
@[simp] theorem x_not (a : E) : evE T cf m (.not_ a) e = (evE T cf m a e).bd fun r e1 => opt ((cont e1 r).bind truth) fun b => .ok (.v (.bl (!b))) e1 := by first | (rw [evE]; done) | (rw [evE]; rfl)
@[simp] theorem x_ite (c a b : E) : evE T cf false (.ite c a b) e = (toB (evE T cf true c e)).bd fun k e1 => if k then evE T cf false a e1 else evE T cf false b e1 := by rw [evE]; rfl
@[simp] theorem x_tup (es : List E) : evE T cf m (.tup es) e = tst m ((evA T cf es e).bd fun rs e1 => opt (frzs e1 rs) fun (ds, e2) => if ds.length ≤ sizeL then .ok (.v (.tup ds)) e2 else .stuck) := by first | (rw [evE]; done) | (rw [evE]; rfl)
@[simp] theorem x_lst (es : List E) : evE T cf m (.lst es) e = tst m ((evA T cf es e).bd fun rs e1 => opt (frzs e1 rs) fun (ds, e2) => if ds.length ≤ sizeL then .ok (.t (.lst ds)) e2 else .stuck) := by first | (rw [evE]; done) | (rw [evE]; rfl)
@[simp] theorem x_ix (a i : E) : evE T cf m (.ix a i) e = tst m ((evE T cf false a e).bd fun ra e1 => (evE T cf false i e1).bd fun ri e2 =>
      opt (cont e2 ra) fun x => opt (cont e2 ri) fun y => opt (item x y) fun d => .ok (.v d) e2) := by first | (rw [evE]; done) | (rw [evE]; rfl)
@[simp] theorem x_sl (a : E) (lo hi : Option E) : evE T cf m (.sl a lo hi) e = tst m ((evE T cf false a e).bd fun ra e1 => (evO T cf lo e1).bd fun l e2 => (evO T cf hi e2).bd fun h e3 =>
      opt (cont e3 ra) fun x => opt (sliceD x l h) fun r => .ok r e3) := by first | (rw [evE]; done) | (rw [evE]; rfl)
@[simp] theorem x_rev (a : E) : evE T cf m (.rev a) e = tst m ((evE T cf false a e).bd fun ra e1 => opt (cont e1 ra) fun x => opt (revD x) fun r => .ok r e1) := by first | (rw [evE]; done) | (rw [evE]; rfl)
@[simp] theorem x_call (g : Nat) (es : List E) : evE T cf m (.call g es) e = tst m ((evA T cf es e).bd fun rs e1 => doCall cf g rs e1) := by first | (rw [evE]; done) | (rw [evE]; rfl)
@[simp] theorem x_callt (g : Nat) (es : List E) : evE T cf m (.callt g es) e = tst m ((evA T cf es e).bd fun rs e1 => doCallT cf g rs e1) := by first | (rw [evE]; done) | (rw [evE]; rfl)
@[simp] theorem x_callk (g : Nat) (es ws : List E) (ks : List Str) : evE T cf m (.callk g es ks ws) e = tst m ((evA T cf es e).bd fun rs e1 => (evA T cf ws e1).bd fun qs e2 =>
      opt T.fns[g]? fun F => doCall cf g (kwSort F.ps ks rs qs) e2) := by first | (rw [evE]; done) | (rw [evE]; rfl)
@[simp] theorem x_calld (i : Nat) (es : List E) : evE T cf m (.calld i es) e = tst m (match e[i]? with
    | some (.val (.fn g)) => if g < T.fns.length then (evA T cf es e).bd fun rs e1 => doCall cf g rs e1 else .stuck
    | _ => .stuck) := by first | (rw [evE]; done) | (rw [evE]; rfl)
@[simp] theorem x_bi (b : Bi) (es : List E) : evE T cf m (.bi b es) e = tst m ((evA T cf es e).bd fun rs e1 => opt (conts e1 rs) fun ds => opt (biF b ds) fun r => .ok r e1) := by first | (rw [evE]; done) | (rw [evE]; rfl)
@[simp] theorem x_isi (a : E) (cs : List String) : evE T cf m (.isi a cs) e = tst m ((evE T cf false a e).bd fun ra e1 => opt ((cont e1 ra).bind tyNm) fun t => if cs.all tyOk.contains then .ok (.v (.bl (cs.any (isTy t)))) e1 else .stuck) := by first | (rw [evE]; done) | (rw [evE]; rfl)
@[simp] theorem x_dlit (ks : List Key) (vs : List D) (x : E) (d : Option E) : evE T cf m (.dlit ks vs x d) e = tst m ((evE T cf false x e).bd fun rx e1 => (evM T cf d e1).bd fun rd e2 =>
      opt ((cont e2 rx).bind keyOf) fun k => match dlook ks vs k with
        | some y => .ok (.v y) e2
        | none => opt (frz e2 rd) fun (y, e3) => .ok (.v y) e3) := by first | (rw [evE]; done) | (rw [evE]; rfl)
@[simp] theorem x_comp (own : List Nat) (it : It) (tg : Tg) (cond : Option E) (elt : E) : evE T cf m (.comp own it tg cond elt) e = tst m ((evI T cf it e).bd fun ds e1 =>
      (compL (fun d e => opt (asg tg d e) fun e1 => (evC T cf cond e1).bd fun k e2 => if k then (evE T cf false elt e2).bd fun r e3 => opt (frz e3 r) fun (x, e4) => .ok (some x) e4 else .ok none e2) own ds (wipeE e1 own) []).bd
        fun acc e2 => .ok (.t (.lst acc)) (unwipe e1 e2 own)) := by first | (rw [evE]; done) | (rw [evE]; rfl)
@[simp] theorem x_a0 : evA T cf [] e = .ok [] e := by first | (rw [evA]; done) | (rw [evA]; rfl)
@[simp] theorem x_a1 (a : E) (r : List E) : evA T cf (a :: r) e = (evE T cf false a e).bd fun x e1 => (evA T cf r e1).bd fun xs e2 => .ok (x :: xs) e2 := by first | (rw [evA]; done) | (rw [evA]; rfl)
@[simp] theorem x_c0 : evC T cf none e = .ok true e := by first | (rw [evC]; done) | (rw [evC]; rfl)
@[simp] theorem x_c1 (a : E) : evC T cf (some a) e = toB (evE T cf true a e) := by first | (rw [evC]; done) | (rw [evC]; rfl)
@[simp] theorem x_o0 : evO T cf none e = .ok none e := by first | (rw [evO]; done) | (rw [evO]; rfl)
@[simp] theorem x_o1 (a : E) : evO T cf (some a) e = (evE T cf false a e).bd fun r e1 => opt ((cont e1 r).bind intD) fun i => .ok (some i) e1 := by first | (rw [evO]; done) | (rw [evO]; rfl)
@[simp] theorem x_m0 : evM T cf none e = .ok (.v .non) e := by first | (rw [evM]; done) | (rw [evM]; rfl)
@[simp] theorem x_m1 (a : E) : evM T cf (some a) e = evE T cf false a e := by first | (rw [evM]; done) | (rw [evM]; rfl)
@[simp] theorem x_ie (a : E) : evI T cf (.e a) e = (evE T cf false a e).bd fun r e1 => opt (frz e1 r) fun (d, e2) => opt (seqD d) fun xs => .ok xs e2 := by first | (rw [evI]; done) | (rw [evI]; rfl)
@[simp] theorem x_ir (es : List E) : evI T cf (.rng es) e = (evA T cf es e).bd fun rs e1 => opt (conts e1 rs) fun ds => opt (rngD ds) fun xs => .ok xs e1 := by first | (rw [evI]; done) | (rw [evI]; rfl)
@[simp] theorem x_in (a : E) : evI T cf (.enum a) e = (evE T cf false a e).bd fun r e1 => opt (frz e1 r) fun (d, e2) => opt (seqD d) fun xs => .ok (enumD xs) e2 := by first | (rw [evI]; done) | (rw [evI]; rfl)
@[simp] theorem x_iz (es : List E) : evI T cf (.zip es) e = (evA T cf es e).bd fun rs e1 => opt (frzs e1 rs) fun (ds, e2) => match ds with
    | [.tup xs, .tup ys] => .ok (zipD xs ys) e2
    | [x, y] => opt (seqL x) fun xs => opt (seqL y) fun ys => .ok (zipD xs ys) e2
    | _ => .stuck := by first | (rw [evI]; done) | (rw [evI]; rfl)
@[simp] theorem x_b0 : exB T cf [] e = .ok .next e := by first | (rw [exB]; done) | (rw [exB]; rfl)
@[simp] theorem x_b1 (s : S) (ss : List S) : exB T cf (s :: ss) e = (exS T cf s e).bd fun fl e1 => match fl with
    | .next => exB T cf ss e1
    | fl => .ok fl e1 := by first | (rw [exB]; done) | (rw [exB]; rfl)
@[simp] theorem x_ex (a : E) : exS T cf (.ex a) e = (evE T cf false a e).bd fun _ e1 => .ok .next e1 := by first | (rw [exS]; done) | (rw [exS]; rfl)
@[simp] theorem x_set (i : Nat) (a : E) : exS T cf (.set i a) e = (evE T cf false a e).bd fun r e1 => opt (fzR e1 r) fun (r', e2) => opt (setR i r' e2) fun e3 => .ok .next e3 := by first | (rw [exS]; done) | (rw [exS]; rfl)
@[simp] theorem x_par (is : List Nat) (es : List E) : exS T cf (.par is es) e = (evA T cf es e).bd fun rs e1 => opt (fzRs e1 rs) fun (rs', e2) => opt (setRs is rs' e2) fun e3 => .ok .next e3 := by first | (rw [exS]; done) | (rw [exS]; rfl)
@[simp] theorem x_unp (is : List Nat) (a : E) : exS T cf (.unp is a) e = (evE T cf false a e).bd fun r e1 => opt (cont e1 r) fun d => match d with
    | .tup ds => opt (setVals is ds e1) fun e2 => .ok .next e2
    | _ => .stuck := by first | (rw [exS]; done) | (rw [exS]; rfl)
@[simp] theorem x_unpx (ts : List (Nat × E)) (a : E) : exS T cf (.unpx ts a) e = (evE T cf false a e).bd fun r e1 => opt (cont e1 r) fun d => match d with
    | .tup ds => if ds.length = ts.length then stX T cf ts ds e1 else .stuck
    | _ => .stuck := by first | (rw [exS]; done) | (rw [exS]; rfl)
@[simp] theorem x_stX0 : stX T cf [] [] e = .ok .next e := rfl
@[simp] theorem x_stX1 (i : Nat) (k : E) (ts : List (Nat × E)) (d : D) (ds : List D) : stX T cf ((i, k) :: ts) (d :: ds) e = if lstAt e i || dkAt e i then (evE T cf false k e).bd fun rk e3 => opt (cont e3 rk) fun kd =>
      opt (sixE e3 i kd d) fun e4 => stX T cf ts ds e4
    else .stuck := rfl
@[simp] theorem x_six (i : Nat) (k a : E) : exS T cf (.six i k a) e = (evE T cf false a e).bd fun r e1 => opt (frz e1 r) fun (d, e2) => if lstAt e2 i || dkAt e2 i then (evE T cf false k e2).bd fun rk e3 => opt (cont e3 rk) fun kd =>
      opt (sixE e3 i kd d) fun e4 => .ok .next e4
    else .stuck := by first | (rw [exS]; done) | (rw [exS]; rfl)
@[simp] theorem x_if (c : E) (a b : List S) : exS T cf (.if_ c a b) e = (toB (evE T cf true c e)).bd fun k e1 => if k then exB T cf a e1 else exB T cf b e1 := by first | (rw [exS]; done) | (rw [exS]; rfl)
@[simp] theorem x_wh (c : E) (b : List S) : exS T cf (.wh c b) e = whL (fun e => toB (evE T cf true c e)) (fun e => exB T cf b e) T.wf e := by first | (rw [exS]; done) | (rw [exS]; rfl)
@[simp] theorem x_for (tg : Tg) (it : It) (b : List S) : exS T cf (.for_ tg it b) e = (evI T cf it e).bd fun ds e1 => forL (fun d e => opt (asg tg d e) fun e1 => exB T cf b e1) ds e1 := by first | (rw [exS]; done) | (rw [exS]; rfl)
@[simp] theorem x_ret (a : E) : exS T cf (.ret a) e = (evE T cf false a e).bd fun r e1 => opt (retR e1 r) fun (r2, e2) => .ok (.ret r2) e2 := by first | (rw [exS]; done) | (rw [exS]; rfl)
@[simp] theorem x_raise (c : Nat) : exS T cf (.raise_ c) e = .exc c [] e := by first | (rw [exS]; done) | (rw [exS]; rfl)
@[simp] theorem x_try (b : List S) (hs : List Hd) : exS T cf (.try_ b hs) e = (match exB T cf b e with
    | .exc c p e1 => if decide (c < T.nex) && p.isEmpty then exH hs c p e1 else .stuck
    | r => r) := by first | (rw [exS]; done) | (rw [exS]; rfl)
@[simp] theorem x_cont_v (d : D) : cont e (.v d) = some d := rfl
@[simp] theorem x_cont_t (d : D) : cont e (.t d) = some d := rfl
@[simp] theorem x_cont_h (i : Nat) : cont e (.h i) = (e[i]?).bind SV.dat := rfl
@[simp] theorem x_frz_v (d : D) : frz e (.v d) = some (d, e) := rfl
@[simp] theorem x_frz_t (d : D) : frz e (.t d) = some (d, e) := rfl
@[simp] theorem x_frz_h (i : Nat) : frz e (.h i) = (match e[i]? with
    | some (.own d) => some (d, e.set i (.val d))
    | some (.bor d) => some (d, e.set i (.fro d))
    | some (.val d) => some (d, e)
    | some (.fro d) => some (d, e)
    | _ => none) := rfl
@[simp] theorem x_frzs0 : frzs e [] = some ([], e) := rfl
@[simp] theorem x_frzs1 (r : RV) (rs : List RV) : frzs e (r :: rs) = (frz e r).bind fun (d, e1) => (frzs e1 rs).map fun (l, e2) => (d :: l, e2) := rfl
@[simp] theorem x_conts0 : conts e [] = some [] := rfl
@[simp] theorem x_conts1 (r : RV) (rs : List RV) : conts e (r :: rs) = (cont e r).bind fun d => (conts e rs).map fun l => d :: l := rfl
@[simp] theorem x_fz_v (d : D) : fzR e (.v d) = some (.v d, e) := rfl
@[simp] theorem x_fz_t (d : D) : fzR e (.t d) = some (.t d, e) := rfl
@[simp] theorem x_fz_h (i : Nat) : fzR e (.h i) = (frz e (.h i)).map fun (d, e') => (.v d, e') := rfl
@[simp] theorem x_fzs0 : fzRs e [] = some ([], e) := rfl
@[simp] theorem x_fzs1 (r : RV) (rs : List RV) : fzRs e (r :: rs) = (fzR e r).bind fun (r', e1) => (fzRs e1 rs).map fun (l, e2) => (r' :: l, e2) := rfl
@[simp] theorem x_setR_v (i : Nat) (d : D) : setR i (.v d) e = if setOk e i then some (e.set i (.val d)) else none := rfl
@[simp] theorem x_setR_t (i : Nat) (d : D) : setR i (.t d) e = if setOk e i then some (e.set i (.own d)) else none := rfl
@[simp] theorem x_setRs0 : setRs [] [] e = some e := rfl
@[simp] theorem x_setRs1 (i : Nat) (is : List Nat) (r : RV) (rs : List RV) : setRs (i :: is) (r :: rs) e = (setR i r e).bind (setRs is rs) := rfl
@[simp] theorem x_sv0 : setVals [] [] e = some e := rfl
@[simp] theorem x_sv1 (i : Nat) (is : List Nat) (d : D) (ds : List D) : setVals (i :: is) (d :: ds) e = if setOk e i then setVals is ds (e.set i (.val d)) else none := rfl
@[simp] theorem x_retR_v (d : D) : retR e (.v d) = some (.v d, e) := rfl
@[simp] theorem x_retR_t (d : D) : retR e (.t d) = some (.t d, e) := rfl
@[simp] theorem x_asg (i : Nat) (d : D) : asg (.nm i) d e = if setOk e i then some (e.set i (.val d)) else none := rfl
@[simp] theorem x_asgt (is : List Nat) (ds : List D) : asg (.tp is) (.tup ds) e = setVals is ds e := rfl
end
@[simp] theorem x_dat_v (d : D) : SV.dat (.val d) = some d := rfl
@[simp] theorem x_dat_o (d : D) : SV.dat (.own d) = some d := rfl
@[simp] theorem x_dat_b (d : D) : SV.dat (.bor d) = some d := rfl
@[simp] theorem x_dat_f (d : D) : SV.dat (.fro d) = some d := rfl
theorem x_callF (T : GT) (n g : Nat) (as : List SV) {F : FnD} (h : T.fns[g]? = some F) (hl : as.length = F.ps.length) : callF T (n + 1) g as = fin as (exB T (callF T n) F.body (as ++ List.replicate (F.N.length - as.length) .un)) := by
  simp only [callF, h, hl, if_pos]
end PL
end

section
namespace PL
open PySem PySem.Spec L2

@[simp] theorem truth_bl (b : Bool) : truth (.bl b) = some b := rfl
@[simp] theorem truth_int (i : Int) : truth (.int i) = some (i != 0) := rfl
@[simp] theorem truth_non : truth .non = some false := rfl
@[simp] theorem truth_tup (xs : List D) : truth (.tup xs) = some (!xs.isEmpty) := rfl
@[simp] theorem truth_lst (xs : List D) : truth (.lst xs) = some (!xs.isEmpty) := rfl
@[simp] theorem cmp_gt (i j : Int) : cmpop .Gt (.int i) (.int j) = some (decide (j < i)) := rfl
@[simp] theorem cmp_lt (i j : Int) : cmpop .Lt (.int i) (.int j) = some (decide (i < j)) := rfl
@[simp] theorem cmp_le (i j : Int) : cmpop .LtE (.int i) (.int j) = some (decide (i ≤ j)) := rfl
@[simp] theorem cmp_ge (i j : Int) : cmpop .GtE (.int i) (.int j) = some (decide (j ≤ i)) := rfl
@[simp] theorem cmp_eq (a b : D) : cmpop .Eq a b = eqD a b := rfl
@[simp] theorem cmp_ne (a b : D) : cmpop .NotEq a b = (eqD a b).map not := rfl
@[simp] theorem cmp_is (a : D) : cmpop .Is a .non = some (isNon a) := by cases a <;> rfl
@[simp] theorem eqD_int (i j : Int) : eqD (.int i) (.int j) = some (decide (i = j)) := by
  simp [eqD, toPy, SeqAt.shaped, PyData.canLay0, PyData.depth, PyData.eqv]; rfl
@[simp] theorem eqD_bl (i j : Bool) : eqD (.bl i) (.bl j) = some (i == j) := by
  simp [eqD, toPy, SeqAt.shaped, PyData.canLay0, PyData.depth, PyData.eqv]
/-- whether two lists of ints are the same, as the language sees it -/
theorem shaped_ints : ∀ xs : List Int, PyData.canLayAll0 (toPys (xs.map D.int)) = true ∧ PyData.depthAll (toPys (xs.map D.int)) = 0
  | [] => by simp [toPys, PyData.canLayAll0, PyData.depthAll]
  | x :: xs => by
    obtain ⟨h1, h2⟩ := shaped_ints xs
    simp [toPys, toPy, PyData.canLayAll0, PyData.depthAll, PyData.canLay0, PyData.depth, h1, h2]
theorem eqv_ints : ∀ xs ys : List Int, PyData.eqvAll (toPys (xs.map D.int)) (toPys (ys.map D.int)) = decide (xs = ys)
  | [], [] => by simp [toPys, PyData.eqvAll]
  | x :: xs, y :: ys => by
    simp only [List.map_cons, toPys, toPy, PyData.eqvAll, PyData.eqv, eqv_ints xs ys]
    by_cases h : x = y <;> simp [h]
  | [], _ :: _ => by simp [toPys, PyData.eqvAll]
  | _ :: _, [] => by simp [toPys, PyData.eqvAll]
theorem eqD_ints (xs ys : List Int) : eqD (.tup (xs.map D.int)) (.tup (ys.map D.int)) = some (decide (xs = ys)) := by
  unfold eqD SeqAt.shaped
  simp [toPy, PyData.canLay0, PyData.depth, shaped_ints xs, shaped_ints ys, PyData.eqv, eqv_ints]
@[simp] theorem setOk_un (e : EV) (i : Nat) (h : e[i]? = some .un) : setOk e i = true := by unfold setOk; rw [h]
theorem setOk_of {e : EV} {i : Nat} (h : e[i]? = some .un ∨ (∃ d, e[i]? = some (.val d)) ∨ ∃ d, e[i]? = some (.own d)) : setOk e i = true := by
  unfold setOk
  rcases h with h | ⟨d, h⟩ | ⟨d, h⟩ <;> rw [h]
/-- a comprehension whose turns leave the slots as they were -/
theorem compL_map {f : D → EV → Out (Option D)} {own : List Nat} {e0 : EV} (h : D → D) : ∀ (ds : List D) (acc : List D), (∀ d ∈ ds, ∃ e1, f d e0 = .ok (some (h d)) e1 ∧ wipeE e1 own = e0) → acc.length + ds.length ≤ sizeL → compL f own ds e0 acc = .ok (acc ++ ds.map h) e0
  | [], acc, _, _ => by simp [compL]
  | d :: ds, acc, k, hl => by
    obtain ⟨e1, h1, h2⟩ := k d (by simp)
    rw [compL, h1]
    simp only [List.length_cons] at hl
    dsimp only
    rw [if_pos (by omega), h2, compL_map h ds (acc ++ [h d]) (fun x hx => k x (by simp [hx])) (by simp; omega)]
    simp
/-- .. with a test -/
theorem compL_filter {f : D → EV → Out (Option D)} {own : List Nat} {e0 : EV} (h : D → D) (p : D → Bool) : ∀ (ds : List D) (acc : List D), (∀ d ∈ ds, ∃ e1, f d e0 = .ok (if p d then some (h d) else none) e1 ∧ wipeE e1 own = e0) → acc.length + ds.length ≤ sizeL → compL f own ds e0 acc = .ok (acc ++ (ds.filter p).map h) e0
  | [], acc, _, _ => by simp [compL]
  | d :: ds, acc, k, hl => by
    obtain ⟨e1, h1, h2⟩ := k d (by simp)
    simp only [List.length_cons] at hl
    rw [compL, h1]
    by_cases hp : p d = true
    · rw [if_pos hp]
      dsimp only
      rw [if_pos (by omega), h2, compL_filter h p ds (acc ++ [h d]) (fun x hx => k x (by simp [hx])) (by simp; omega)]
      simp [hp]
    · rw [if_neg hp]
      dsimp only
      rw [h2, compL_filter h p ds acc (fun x hx => k x (by simp [hx])) (by omega)]
      simp [hp]
/-- bounds, for products -/
def Bd (b : Nat) (i : Int) : Prop := i.natAbs < 2 ^ b
theorem Bd.mono {a b : Nat} {i : Int} (h : Bd a i) (k : a ≤ b) : Bd b i := Nat.lt_of_lt_of_le h (Nat.pow_le_pow_right (by decide) k)
theorem Bd.neg {a : Nat} {i : Int} (h : Bd a i) : Bd a (-i) := by unfold Bd at *; rw [Int.natAbs_neg]; exact h
theorem Bd.add {a b : Nat} {i j : Int} (h : Bd a i) (k : Bd b j) : Bd (max a b + 1) (i + j) := by
  have h1 := h.mono (Nat.le_max_left a b)
  have h2 := k.mono (Nat.le_max_right a b)
  unfold Bd at *
  have := Int.natAbs_add_le i j
  rw [Nat.pow_succ]
  omega
theorem Bd.sub {a b : Nat} {i j : Int} (h : Bd a i) (k : Bd b j) : Bd (max a b + 1) (i - j) := by
  rw [Int.sub_eq_add_neg]; exact h.add k.neg
theorem Bd.mul {a b : Nat} {i j : Int} (h : Bd a i) (k : Bd b j) : Bd (a + b) (i * j) := by
  unfold Bd at *
  rw [Int.natAbs_mul, Nat.pow_add]
  exact Nat.mul_lt_mul'' h k
theorem Bd.mulOk {a b : Nat} {i j : Int} (h : Bd a i) (k : Bd b j) (l : a + b ≤ 900000) : mulOk i j = true := by
  unfold PL.mulOk
  rw [Bool.or_eq_true]
  refine .inr (decide_eq_true ?_)
  have lg : ∀ {a : Nat} {i : Int}, Bd a i → i.natAbs.log2 ≤ a := fun {a i} h => by
    by_cases z : i.natAbs = 0
    · rw [z]; simp
    · exact Nat.le_of_lt_succ (Nat.lt_succ_of_lt ((Nat.log2_lt z).mpr h))
  have := lg h
  have := lg k
  omega

/-! ### rows for written lists -/
@[simp] theorem item_tup (xs : List D) (i : Int) : item (.tup xs) (.int i) = atI xs i := rfl
@[simp] theorem item_lst (xs : List D) (i : Int) : item (.lst xs) (.int i) = atI xs i := rfl
@[simp] theorem item_scr (xs : List Int) (i : Int) : item (.scr xs) (.int i) = (atI xs i).map D.int := rfl
theorem atI_nat {α : Type} (xs : List α) (k : Nat) : atI xs (k : Int) = xs[k]? := by
  unfold atI ixN
  by_cases h : k < xs.length
  · have : (k : Int) < xs.length := by omega
    simp [this]
  · have : ¬ (k : Int) < xs.length := by omega
    simp [this]
    omega
@[simp] theorem atI_0 {α : Type} (xs : List α) : atI xs 0 = xs[0]? := atI_nat xs 0
@[simp] theorem atI_1 {α : Type} (xs : List α) : atI xs 1 = xs[1]? := atI_nat xs 1
@[simp] theorem atI_2 {α : Type} (xs : List α) : atI xs 2 = xs[2]? := atI_nat xs 2
@[simp] theorem atI_3 {α : Type} (xs : List α) : atI xs 3 = xs[3]? := atI_nat xs 3
@[simp] theorem atI_4 {α : Type} (xs : List α) : atI xs 4 = xs[4]? := atI_nat xs 4
@[simp] theorem atI_5 {α : Type} (xs : List α) : atI xs 5 = xs[5]? := atI_nat xs 5
@[simp] theorem atI_6 {α : Type} (xs : List α) : atI xs 6 = xs[6]? := atI_nat xs 6
@[simp] theorem atI_7 {α : Type} (xs : List α) : atI xs 7 = xs[7]? := atI_nat xs 7
@[simp] theorem atI_8 {α : Type} (xs : List α) : atI xs 8 = xs[8]? := atI_nat xs 8
@[simp] theorem atI_9 {α : Type} (xs : List α) : atI xs 9 = xs[9]? := atI_nat xs 9
@[simp] theorem atI_10 {α : Type} (xs : List α) : atI xs 10 = xs[10]? := atI_nat xs 10
@[simp] theorem atI_11 {α : Type} (xs : List α) : atI xs 11 = xs[11]? := atI_nat xs 11
@[simp] theorem setOk_def (e : EV) (i : Nat) : setOk e i = (match e[i]? with
  | some .un => true
  | some (.val _) => true
  | some (.own _) => true
  | _ => false) := rfl
@[simp] theorem seqD_tup (xs : List D) : seqD (.tup xs) = some xs := rfl
@[simp] theorem seqD_lst (xs : List D) : seqD (.lst xs) = some xs := rfl
@[simp] theorem seqD_scr (xs : List Int) : seqD (.scr xs) = some (xs.map D.int) := rfl
@[simp] theorem seqL_lst (xs : List D) : seqL (.lst xs) = some xs := rfl
@[simp] theorem seqL_scr (xs : List Int) : seqL (.scr xs) = some (xs.map D.int) := rfl
@[simp] theorem bin_add (i j : Int) : binop .add (.int i) (.int j) = some (.v (.int (i + j))) := rfl
@[simp] theorem bin_sub (i j : Int) : binop .sub (.int i) (.int j) = some (.v (.int (i - j))) := rfl
@[simp] theorem bin_mul (i j : Int) : binop .mul (.int i) (.int j) = if mulOk i j then some (.v (.int (i * j))) else none := rfl
@[simp] theorem bin_fdiv (i j : Int) : binop .fdiv (.int i) (.int j) = if divOk j then some (.v (.int (i / j))) else if decide (j ≠ 0) && decide (j.natAbs < 1073741824) then some (.v (.int (i.fdiv j))) else none := rfl
@[simp] theorem bin_pow (i j : Int) : binop .pow (.int i) (.int j) = if powOk i j then some (.v (.int (i ^ j.toNat))) else none := rfl
@[simp] theorem bin_mod (i j : Int) : binop .mod (.int i) (.int j) = if 0 < j then some (.v (.int (i % j))) else none := rfl
@[simp] theorem bin_cat (xs ys : List D) : binop .add (.lst xs) (.lst ys) = if xs.length + ys.length ≤ sizeL then some (.t (.lst (xs ++ ys))) else none := rfl
@[simp] theorem wipeE_nil (e : EV) : wipeE e [] = e := rfl
@[simp] theorem wipeE_cons (e : EV) (i : Nat) (is : List Nat) : wipeE e (i :: is) = (wipeE e is).set i .un := rfl
@[simp] theorem unwipe_nil (e e2 : EV) : unwipe e e2 [] = e2 := rfl
@[simp] theorem unwipe_cons (e e2 : EV) (i : Nat) (is : List Nat) : unwipe e e2 (i :: is) = (match e[i]? with
    | some s => (unwipe e e2 is).set i s
    | none => unwipe e e2 is) := rfl
@[simp] theorem compL_nil (f : D → EV → Out (Option D)) (own : List Nat) (e : EV) (acc : List D) : compL f own [] e acc = .ok acc e := rfl
@[simp] theorem compL_cons (f : D → EV → Out (Option D)) (own : List Nat) (d : D) (ds : List D) (e : EV) (acc : List D) : compL f own (d :: ds) e acc = (match f d e with
    | .ok (some x) e1 => if acc.length < sizeL then compL f own ds (wipeE e1 own) (acc ++ [x]) else .stuck
    | .ok none e1 => compL f own ds (wipeE e1 own) acc
    | _ => .stuck) := rfl
@[simp] theorem forL_nil (f : D → EV → Out Fl) (e : EV) : forL f [] e = .ok .next e := rfl
@[simp] theorem forL_cons (f : D → EV → Out Fl) (d : D) (ds : List D) (e : EV) : forL f (d :: ds) e = (f d e).bd fun fl e1 => match fl with
    | .next => forL f ds e1
    | .cnt => forL f ds e1
    | .brk => .ok .next e1
    | .ret r => .ok (.ret r) e1 := rfl
@[simp] theorem bi_len_t (xs : List D) : biF .len [.tup xs] = some (.v (.int xs.length)) := rfl
@[simp] theorem bi_len_l (xs : List D) : biF .len [.lst xs] = some (.v (.int xs.length)) := rfl
@[simp] theorem bi_len_s (xs : List Int) : biF .len [.scr xs] = some (.v (.int xs.length)) := rfl
@[simp] theorem bi_abs (i : Int) : biF .abs [.int i] = some (.v (.int (if i < 0 then -i else i))) := rfl
@[simp] theorem bi_tuple_t (xs : List D) : biF .tuple [.tup xs] = some (.v (.tup xs)) := rfl
@[simp] theorem bi_tuple_l (xs : List D) : biF .tuple [.lst xs] = some (.v (.tup xs)) := rfl
@[simp] theorem bi_list_t (xs : List D) : biF .list [.tup xs] = some (.t (.lst xs)) := rfl
@[simp] theorem bi_list_l (xs : List D) : biF .list [.lst xs] = some (.t (.lst xs)) := rfl
@[simp] theorem bi_list_s (xs : List Int) : biF .list [.scr xs] = some (.t (.lst (xs.map D.int))) := rfl
@[simp] theorem bi_int_i (i : Int) : biF .int1 [.int i] = some (.v (.int i)) := rfl
@[simp] theorem bi_int_b (b : Bool) : biF .int1 [.bl b] = some (.v (.int (if b then 1 else 0))) := rfl
@[simp] theorem bi_gcd (i j : Int) : biF .gcd [.int i, .int j] = some (.v (.int ((Nat.gcd i.natAbs j.natAbs : Nat) : Int))) := rfl
theorem blsD_map : ∀ bs : List Bool, blsD (bs.map D.bl) = some bs
  | [] => rfl
  | b :: bs => by simp [blsD, blsD_map bs]
@[simp] theorem bi_all (xs : List D) : biF .all [.lst xs] = (blsD xs).map fun l => .v (.bl (l.all id)) := rfl
@[simp] theorem bi_any (xs : List D) : biF .any [.lst xs] = (blsD xs).map fun l => .v (.bl (l.any id)) := rfl
@[simp] theorem bls_nil : blsD [] = some [] := rfl
@[simp] theorem bls_cons (b : Bool) (xs : List D) : blsD (.bl b :: xs) = (blsD xs).map fun l => b :: l := rfl
@[simp] theorem ty_int (i : Int) : tyNm (.int i) = some "int" := rfl
@[simp] theorem ty_bl (i : Bool) : tyNm (.bl i) = some "bool" := rfl
@[simp] theorem ty_str (i : Str) : tyNm (.str i) = some "str" := rfl
@[simp] theorem ty_non : tyNm .non = some "NoneType" := rfl
@[simp] theorem ty_tup (xs : List D) : tyNm (.tup xs) = some "tuple" := rfl
@[simp] theorem ty_lst (xs : List D) : tyNm (.lst xs) = some "list" := rfl
@[simp] theorem ty_scr (xs : List Int) : tyNm (.scr xs) = some "list" := rfl
@[simp] theorem sz (n : Nat) (h : n ≤ 1000) : (n ≤ sizeL) = True := by simp [sizeL]; omega
@[simp] theorem sz' (n : Nat) (h : n ≤ 1000) : (n < sizeL) = True := by simp [sizeL]; omega
@[simp] theorem outs_nil (e : EV) : outs [] e = [] := by cases e <;> rfl
@[simp] theorem outs_v (d : D) (as : List SV) (x : SV) (e : EV) : outs (.val d :: as) (x :: e) = .val d :: outs as e := rfl
@[simp] theorem outs_b (d : D) (as : List SV) (x : SV) (e : EV) : outs (.bor d :: as) (x :: e) = x :: outs as e := rfl
@[simp] theorem fin_next (as : List SV) (e : EV) : fin as (.ok .next e) = .ok (.v .non) (outs as e) := rfl
@[simp] theorem fin_v (as : List SV) (d : D) (e : EV) : fin as (.ok (.ret (.v d)) e) = .ok (.v d) (outs as e) := rfl
@[simp] theorem fin_t (as : List SV) (d : D) (e : EV) : fin as (.ok (.ret (.t d)) e) = .ok (.t d) (outs as e) := rfl
@[simp] theorem fin_x (as : List SV) (c : Nat) (p : List D) (e : EV) : fin as (.exc c p e) = .exc c p (outs as e) := rfl
@[simp] theorem argOf_v (e : EV) (d : D) : argOf e (.v d) = some (.val d) := rfl
@[simp] theorem argOf_t (e : EV) (d : D) : argOf e (.t d) = some (.val d) := rfl
@[simp] theorem argOf_h (e : EV) (i : Nat) : argOf e (.h i) = (match e[i]? with
    | some (.own d) => some (.bor d)
    | some (.bor d) => some (.bor d)
    | some (.val d) => some (.val d)
    | some (.fro d) => some (.val d)
    | _ => none) := rfl
@[simp] theorem argsOf_nil (e : EV) : argsOf e [] = some [] := rfl
@[simp] theorem argsOf_cons (e : EV) (r : RV) (rs : List RV) : argsOf e (r :: rs) = (argOf e r).bind fun a => (argsOf e rs).map fun l => a :: l := rfl
@[simp] theorem hands_nil : hands [] = [] := rfl
@[simp] theorem hands_v (d : D) (rs : List RV) : hands (.v d :: rs) = hands rs := rfl
@[simp] theorem hands_t (d : D) (rs : List RV) : hands (.t d :: rs) = hands rs := rfl
@[simp] theorem hands_h (i : Nat) (rs : List RV) : hands (.h i :: rs) = i :: hands rs := rfl
@[simp] theorem pb_nil (e : EV) (ss : List SV) : putBack e [] ss = e := by cases ss <;> rfl
@[simp] theorem pb_cons (e : EV) (r : RV) (rs : List RV) (s : SV) (ss : List SV) : putBack e (r :: rs) (s :: ss) = putBack (putBack1 e r s) rs ss := rfl
@[simp] theorem pb_v (e : EV) (d : D) (s : SV) : putBack1 e (.v d) s = e := by cases s <;> rfl
@[simp] theorem pb_t (e : EV) (d : D) (s : SV) : putBack1 e (.t d) s = e := by cases s <;> rfl
@[simp] theorem pb_hb (e : EV) (i : Nat) (d : D) : putBack1 e (.h i) (.bor d) = (match e[i]? with
    | some (.own _) => e.set i (.own d)
    | some (.bor _) => e.set i (.bor d)
    | _ => e) := rfl
@[simp] theorem pb_hf (e : EV) (i : Nat) (d : D) : putBack1 e (.h i) (.fro d) = (match e[i]? with
    | some (.own _) => e.set i (.val d)
    | some (.bor _) => e.set i (.fro d)
    | _ => e) := rfl
@[simp] theorem pb_hv (e : EV) (i : Nat) (d : D) : putBack1 e (.h i) (.val d) = e := rfl
@[simp] theorem x_do (cf : Nat → List SV → CO) (g : Nat) (rs : List RV) (e : EV) : doCall cf g rs e = (if (hands rs).Nodup then
    match argsOf e rs with
    | none => .stuck
    | some as => match cf g as with
      | .ok r as' => .ok r (putBack e rs as')
      | .exc c p as' => .exc c p (putBack e rs as')
      | .stuck => .stuck
  else .stuck) := rfl
theorem wh_step {T : GT} {cf : Nat → List SV → CO} {c : E} {b : List S} {e e1 e2 : EV} {n : Nat} (hc : toB (evE T cf true c e) = .ok true e1) (hb : exB T cf b e1 = .ok .next e2) :
    whL (fun e => toB (evE T cf true c e)) (fun e => exB T cf b e) (n + 1) e = whL (fun e => toB (evE T cf true c e)) (fun e => exB T cf b e) n e2 := by
  simp only [whL, hc, bd_ok, if_pos, hb]
theorem wh_end {T : GT} {cf : Nat → List SV → CO} {c : E} {b : List S} {e e1 : EV} {n : Nat} (hc : toB (evE T cf true c e) = .ok false e1) :
    whL (fun e => toB (evE T cf true c e)) (fun e => exB T cf b e) (n + 1) e = .ok .next e1 := by
  simp only [whL, hc, bd_ok, Bool.false_eq_true, if_false]
/-- a slot that may be stored into -/
def Fre (s : SV) : Prop := s = .un ∨ (∃ d, s = .val d) ∨ ∃ d, s = .own d
theorem Fre.un : Fre .un := .inl rfl
theorem Fre.val (d : D) : Fre (.val d) := .inr (.inl ⟨d, rfl⟩)
theorem Fre.own (d : D) : Fre (.own d) := .inr (.inr ⟨d, rfl⟩)
theorem Fre.ok {s : SV} (h : Fre s) : (match some s with
  | some .un => true
  | some (.val _) => true
  | some (.own _) => true
  | _ => false) = true := by
  rcases h with rfl | ⟨d, rfl⟩ | ⟨d, rfl⟩ <;> rfl
end PL
end

section
namespace PL
open PySem PySem.Spec L2
section
variable (T : GT) (cf : Nat → List SV → CO) (m : Bool) (e : EV)
@[simp] theorem x_app (i : Nat) (a : E) : evE T cf m (.app i a) e = tst m (if lstAt e i then (evE T cf false a e).bd fun ra e1 => opt (frz e1 ra) fun (d, e2) => match mineD e2 i with
    | some (.lst xs) => if xs.length < sizeL then .ok (.v .non) (upS e2 i (.lst (xs ++ [d]))) else .stuck
    | _ => .stuck
    else .stuck) := by first | (rw [evE]; done) | (rw [evE]; rfl)
@[simp] theorem x_ext (i : Nat) (a : E) : evE T cf m (.ext i a) e = tst m (if lstAt e i then (evE T cf false a e).bd fun ra e1 => opt (cont e1 ra) fun d => match mineD e1 i, d with
    | some (.lst xs), .lst ys => if xs.length + ys.length ≤ sizeL then .ok (.v .non) (upS e1 i (.lst (xs ++ ys))) else .stuck
    | _, _ => .stuck
    else .stuck) := by first | (rw [evE]; done) | (rw [evE]; rfl)
@[simp] theorem x_pop (i : Nat) : evE T cf m (.pop i) e = tst m (match mineD e i with
    | some (.lst xs) => opt (xs[xs.length - 1]?) fun d => .ok (.v d) (upS e i (.lst xs.dropLast))
    | _ => .stuck) := by first | (rw [evE]; done) | (rw [evE]; rfl)
end
@[simp] theorem cmp_isb (a b : Bool) : cmpop .Is (.bl a) (.bl b) = some (decide (a = b)) := rfl
@[simp] theorem cmp_isnb (a b : Bool) : cmpop .IsNot (.bl a) (.bl b) = some (!decide (a = b)) := rfl
@[simp] theorem mine_own (e : EV) (i : Nat) (d : D) (h : e[i]? = some (.own d)) : mineD e i = some d := by unfold mineD; rw [h]
@[simp] theorem lst_own (e : EV) (i : Nat) (xs : List D) (h : e[i]? = some (.own (.lst xs))) : lstAt e i = true := by unfold lstAt; rw [mine_own e i _ h]
@[simp] theorem up_own (e : EV) (i : Nat) (d c : D) (h : e[i]? = some (.own c)) : upS e i d = e.set i (.own d) := by unfold upS; rw [h]
end PL
end

section
/-! slots by what is known of them -/
namespace PL
open PySem PySem.Spec L2

theorem lt_of_get {e : EV} {i : Nat} {s : SV} (h : e[i]? = some s) : i < e.length := by
  rcases Nat.lt_or_ge i e.length with h1 | h1
  · exact h1
  · rw [List.getElem?_eq_none h1] at h; cases h
theorem set_same {e : EV} {i : Nat} {s : SV} (h : e[i]? = some s) : e.set i s = e := by
  apply List.ext_getElem?
  intro j
  rw [List.getElem?_set]
  by_cases hj : i = j
  · subst hj
    have := lt_of_get h
    rw [List.getElem?_eq_getElem this] at h
    simp [this]
    exact (Option.some.inj h).symm
  · simp [hj]
theorem get_set {e : EV} {i : Nat} (t : SV) (h : i < e.length) : (e.set i t)[i]? = some t := by simp [h]
theorem get_ne (e : EV) (i j : Nat) (t : SV) (h : i ≠ j) : (e.set i t)[j]? = e[j]? := by
  rw [List.getElem?_set]; simp [h]
theorem setOk_fre {e : EV} {i : Nat} {s : SV} (h : e[i]? = some s) (f : Fre s) : setOk e i = true := by
  rw [setOk_def, h]; exact f.ok
def Q (N : Nat) (kv : List (Nat × SV)) (e : EV) : Prop := e.length = N ∧ (∀ i, 1 ≤ i → i < N → ∃ s, e[i]? = some s ∧ Fre s) ∧ ∀ p ∈ kv, e[p.1]? = some p.2
section
variable {N : Nat} {kv : List (Nat × SV)} {e : EV}
theorem Q.len (h : Q N kv e) : e.length = N := h.1
theorem Q.get (h : Q N kv e) {i : Nat} {s : SV} (m : (i, s) ∈ kv) : e[i]? = some s := h.2.2 _ m
theorem Q.g0 {i : Nat} {s : SV} {kv : List (Nat × SV)} (h : Q N ((i, s) :: kv) e) : e[i]? = some s := h.2.2 (i, s) (List.mem_cons_self ..)
theorem Q.tl {p : Nat × SV} {kv : List (Nat × SV)} (h : Q N (p :: kv) e) : Q N kv e := ⟨h.1, h.2.1, fun q m => h.2.2 q (List.mem_cons_of_mem _ m)⟩
theorem Q.ok (h : Q N kv e) {i : Nat} (h1 : 1 ≤ i) (h2 : i < N) : setOk e i = true := by
  obtain ⟨s, a, b⟩ := h.2.1 i h1 h2
  exact setOk_fre a b
theorem Q.fre (h : Q N kv e) {i : Nat} (h1 : 1 ≤ i) (h2 : i < N) : ∃ s, e[i]? = some s ∧ Fre s := h.2.1 i h1 h2
theorem Q.set (h : Q N kv e) {i : Nat} {t : SV} (h1 : 1 ≤ i) (h2 : i < N) (f : Fre t) : Q N ((i, t) :: kv.filter fun p => p.1 != i) (e.set i t) := by
  refine ⟨by simp [h.1], fun j j1 j2 => ?_, fun p m => ?_⟩
  · by_cases hj : i = j
    · subst hj; exact ⟨t, get_set t (by rw [h.1]; exact h2), f⟩
    · rw [get_ne _ _ _ _ hj]; exact h.2.1 j j1 j2
  · rcases List.mem_cons.mp m with rfl | m
    · exact get_set t (by rw [h.1]; exact h2)
    · have := List.mem_filter.mp m
      rw [get_ne _ _ _ _ (by have := this.2; simp at this; exact fun q => this q.symm)]
      exact h.2.2 p this.1
theorem Q.sub (h : Q N kv e) {kv' : List (Nat × SV)} (s : ∀ p ∈ kv', p ∈ kv) : Q N kv' e := ⟨h.1, h.2.1, fun p m => h.2.2 p (s p m)⟩
theorem Q.add (h : Q N kv e) {i : Nat} {s : SV} (g : e[i]? = some s) : Q N ((i, s) :: kv) e := ⟨h.1, h.2.1, fun p m => by
  rcases List.mem_cons.mp m with rfl | m
  · exact g
  · exact h.2.2 p m⟩
end
section
variable {T : GT} {cf : Nat → List SV → CO} {e e1 : EV}
theorem st_v {i : Nat} {a : E} {d : D} (he : evE T cf false a e = .ok (.v d) e1) (ho : setOk e1 i = true) : exS T cf (.set i a) e = .ok .next (e1.set i (.val d)) := by
  rw [x_set, he]; simp [fzR, setR, ho, opt, -setOk_def]
theorem st_t {i : Nat} {a : E} {d : D} (he : evE T cf false a e = .ok (.t d) e1) (ho : setOk e1 i = true) : exS T cf (.set i a) e = .ok .next (e1.set i (.own d)) := by
  rw [x_set, he]; simp [fzR, setR, ho, opt, -setOk_def]
theorem st_if {c : E} {b : List S} (he : evE T cf true c e = .ok (.v (.bl false)) e1) : exS T cf (.if_ c b []) e = .ok .next e1 := by
  rw [x_if, he]; simp [toB]
theorem st_ifn {c : E} {b : List S} (he : evE T cf true c e = .ok (.v (.bl true)) e1) : exS T cf (.if_ (.not_ c) b []) e = .ok .next e1 := by
  rw [x_if, x_not, he]; simp [toB, truth, opt]
theorem st_or {es : List E} {b : List S} (he : evV T cf true false es e = .ok (.v (.bl false)) e1) : exS T cf (.if_ (.andor false es) b []) e = .ok .next e1 := st_if (by rw [x_andor]; exact he)
theorem or1 {a b : E} {r : List E} (he : evE T cf true a e = .ok (.v (.bl false)) e1) : evV T cf true false (a :: b :: r) e = evV T cf true false (b :: r) e1 := by
  rw [x_v2, he]; simp [truth, opt]
theorem andf {a b : E} {r : List E} (he : evE T cf true a e = .ok (.v (.bl false)) e1) : evV T cf true true (a :: b :: r) e = .ok (.v (.bl false)) e1 := by
  rw [x_v2, he]; simp [truth, opt]
theorem and1 {a b : E} {r : List E} (he : evE T cf true a e = .ok (.v (.bl true)) e1) : evV T cf true true (a :: b :: r) e = evV T cf true true (b :: r) e1 := by
  rw [x_v2, he]; simp [truth, opt]
theorem ntrue {a : E} {b : Bool} (he : evE T cf true a e = .ok (.v (.bl b)) e1) : evE T cf true (.not_ a) e = .ok (.v (.bl (!b))) e1 := by
  rw [x_not, he]; simp [truth, opt]
theorem tst_v {a : Out RV} {b : Bool} (he : a = .ok (.v (.bl b)) e1) : tst true a = .ok (.v (.bl b)) e1 := by
  subst he; simp [tst, truth, opt]
theorem pbn : ∀ (rs : List RV) (as : List SV) (e : EV), hands rs = [] → putBack e rs as = e
  | [], as, e, _ => by cases as <;> rfl
  | r :: rs, [], e, _ => rfl
  | .v d :: rs, s :: as, e, h => by rw [pb_cons, pb_v]; exact pbn rs as e h
  | .t d :: rs, s :: as, e, h => by rw [pb_cons, pb_t]; exact pbn rs as e h
  | .h i :: rs, s :: as, e, h => by simp at h
/-- a call whose arguments are no handles -/
theorem ev_call {m : Bool} {g : Nat} {es : List E} {rs : List RV} {as as' : List SV} {r : RV} (ha : evA T cf es e = .ok rs e1) (hh : hands rs = []) (hs : argsOf e1 rs = some as) (hc : cf g as = .ok r as') : evE T cf m (.call g es) e = tst m (.ok r e1) := by
  rw [x_call, ha]
  simp only [bd_ok, x_do, hh, List.nodup_nil, if_true, hs, hc]
  rw [pbn rs as' e1 hh]
/-- a comprehension with one name -/
theorem ev_comp {i : Nat} {it : It} {cond : Option E} {elt : E} {ds : List D} {s : SV} (p : D → Bool) (h : D → D) (hi : evI T cf it e = .ok ds e1) (hs : e1[i]? = some s) (hl : ds.length ≤ 1000)
    (hf : ∀ d ∈ ds, evC T cf cond (e1.set i (.val d)) = .ok (p d) (e1.set i (.val d)) ∧ (p d = true → evE T cf false elt (e1.set i (.val d)) = .ok (.v (h d)) (e1.set i (.val d)) ∨ evE T cf false elt (e1.set i (.val d)) = .ok (.t (h d)) (e1.set i (.val d)))) :
    evE T cf false (.comp [i] it (.nm i) cond elt) e = .ok (.t (.lst ((ds.filter p).map h))) e1 := by
  have hlt := lt_of_get hs
  have ho : setOk (e1.set i .un) i = true := setOk_fre (get_set .un hlt) Fre.un
  have hc := compL_filter (f := fun d e => opt (asg (.nm i) d e) fun e1 => (evC T cf cond e1).bd fun k e2 => if k then (evE T cf false elt e2).bd fun r e3 => opt (frz e3 r) fun (x, e4) => .ok (some x) e4 else .ok none e2) (own := [i]) (e0 := e1.set i .un) h p ds [] (by
    intro d hd
    obtain ⟨h1, h2⟩ := hf d hd
    refine ⟨e1.set i (.val d), ?_, by simp [wipeE]⟩
    have : (e1.set i .un).set i (.val d) = e1.set i (.val d) := List.set_set ..
    simp only [asg, ho, if_true, this, opt, h1, bd_ok]
    by_cases hp : p d = true
    · rw [if_pos hp, if_pos hp]
      rcases h2 hp with q | q <;> rw [q] <;> simp [frz]
    · rw [if_neg hp, if_neg hp]) (by simp [sizeL]; omega)
  rw [x_comp, hi]
  simp only [tst, Bool.false_eq_true, if_false, bd_ok, wipeE_cons, wipeE_nil]
  rw [hc]
  simp only [bd_ok, List.nil_append, unwipe_cons, unwipe_nil, hs, List.set_set]
  rw [set_same hs]
end
end PL
end

section
namespace PL.K00
open PL

/-! ## moves -/
abbrev M := Int × Int × Int × Int
def pos (m : M) : Bool := decide (0 < m.2.2.1) || (decide (m.2.2.1 = 0) && decide (0 < m.2.2.2))
def ngM (m : M) : M := (0 - m.1, 0 - m.2.1, 0 - m.2.2.1, 0 - m.2.2.2)
def sg (m : M) : M := if pos m then m else ngM m
def mulM (x y : M) : M := (x.1 * y.1 + x.2.1 * y.2.2.1, x.1 * y.2.1 + x.2.1 * y.2.2.2, x.2.2.1 * y.1 + x.2.2.2 * y.2.2.1, x.2.2.1 * y.2.1 + x.2.2.2 * y.2.2.2)
def adj (m : M) : M := (m.2.2.2, 0 - m.2.1, 0 - m.2.2.1, m.1)
def det (m : M) : Int := m.1 * m.2.2.2 - m.2.1 * m.2.2.1
def one1 : M := (1, 0, 0, 1)
def good (m : M) : Prop := det m = 1 ∧ (0 < m.2.2.1 ∨ (m.2.2.1 = 0 ∧ m.2.2.2 = 1))
theorem mulM_assoc (x y z : M) : mulM (mulM x y) z = mulM x (mulM y z) := by
  obtain ⟨a, b, c, d⟩ := x
  obtain ⟨e, f, g, h⟩ := y
  obtain ⟨i, j, k, l⟩ := z
  simp only [mulM, Prod.mk.injEq]
  grind
theorem det_mul (x y : M) : det (mulM x y) = det x * det y := by
  obtain ⟨a, b, c, d⟩ := x
  obtain ⟨e, f, g, h⟩ := y
  simp only [mulM, det]
  grind
theorem det_ng (x : M) : det (ngM x) = det x := by
  obtain ⟨a, b, c, d⟩ := x
  simp only [ngM, det]
  grind
theorem det_sg (x : M) : det (sg x) = det x := by
  unfold sg; split
  · rfl
  · exact det_ng x
theorem det_adj (x : M) : det (adj x) = det x := by
  obtain ⟨a, b, c, d⟩ := x
  simp only [adj, det]
  grind
theorem mul_ng_l (x y : M) : mulM (ngM x) y = ngM (mulM x y) := by
  obtain ⟨a, b, c, d⟩ := x
  obtain ⟨e, f, g, h⟩ := y
  simp only [mulM, ngM, Prod.mk.injEq]
  grind
theorem mul_ng_r (x y : M) : mulM x (ngM y) = ngM (mulM x y) := by
  obtain ⟨a, b, c, d⟩ := x
  obtain ⟨e, f, g, h⟩ := y
  simp only [mulM, ngM, Prod.mk.injEq]
  grind
theorem ng_ng (x : M) : ngM (ngM x) = x := by
  obtain ⟨a, b, c, d⟩ := x
  simp only [ngM, Prod.mk.injEq]
  omega
theorem pos_ng {x : M} (h : det x = 1) : pos (ngM x) = !pos x := by
  obtain ⟨a, b, c, d⟩ := x
  have h : a * d - b * c = 1 := h
  show (decide (0 < 0 - c) || (decide (0 - c = 0) && decide (0 < 0 - d))) = !(decide (0 < c) || (decide (c = 0) && decide (0 < d)))
  have hz : c ≠ 0 ∨ d ≠ 0 := by
    by_cases hc : c = 0
    · right; intro hd; subst hc hd; simp at h
    · exact .inl hc
  by_cases h1 : 0 < c
  · have e1 : ¬ (0 < 0 - c) := by omega
    have e2 : ¬ (0 - c = 0) := by omega
    rw [decide_eq_true h1, decide_eq_false e1, decide_eq_false e2]; rfl
  · by_cases h2 : c = 0
    · subst h2
      have hd : d ≠ 0 := by omega
      by_cases h3 : 0 < d
      · have e3 : ¬ (0 < 0 - d) := by omega
        rw [decide_eq_true h3, decide_eq_false e3]; rfl
      · have e3 : 0 < 0 - d := by omega
        rw [decide_eq_false h3, decide_eq_true e3]; rfl
    · have e1 : 0 < 0 - c := by omega
      rw [decide_eq_false h1, decide_eq_true e1, decide_eq_false h2]; rfl
theorem sg_ng {x : M} (h : det x = 1) : sg (ngM x) = sg x := by
  unfold sg
  rw [pos_ng h]
  cases pos x <;> simp [ng_ng]
theorem sg_or (x : M) : sg x = x ∨ sg x = ngM x := by
  unfold sg; split <;> simp
theorem sg_mul_l {x y : M} (hx : det x = 1) (hy : det y = 1) : sg (mulM (sg x) y) = sg (mulM x y) := by
  rcases sg_or x with h | h <;> rw [h]
  rw [mul_ng_l, sg_ng (by rw [det_mul, hx, hy]; rfl)]
theorem sg_mul_r {x y : M} (hx : det x = 1) (hy : det y = 1) : sg (mulM x (sg y)) = sg (mulM x y) := by
  rcases sg_or y with h | h <;> rw [h]
  rw [mul_ng_r, sg_ng (by rw [det_mul, hx, hy]; rfl)]
theorem sg_sg {x : M} (h : det x = 1) : sg (sg x) = sg x := by
  rcases sg_or x with k | k <;> rw [k]
  · exact k
  · rw [sg_ng h]; exact k
theorem unit_of {a d : Int} (h : a * d = 1) (hd : 0 < d) : d = 1 ∧ a = 1 := by
  have e := Int.eq_one_of_mul_eq_one_left (by omega) h
  subst e
  simpa using h
theorem good_sg {x : M} (h : det x = 1) : good (sg x) := by
  refine ⟨by rw [det_sg, h], ?_⟩
  obtain ⟨a, b, c, d⟩ := x
  unfold sg
  simp only [det] at h
  by_cases h1 : 0 < c
  · simp [pos, h1]
  · by_cases h2 : c = 0
    · subst h2
      simp only [Int.mul_zero, Int.sub_zero] at h
      by_cases h3 : 0 < d
      · obtain ⟨e, _⟩ := unit_of h h3
        simp [pos, e]
      · have hd : 0 < -d := by
          have : d ≠ 0 := by intro e; subst e; simp at h
          omega
        have h' : (-a) * (-d) = 1 := by rw [Int.neg_mul_neg]; exact h
        obtain ⟨e, _⟩ := unit_of h' hd
        simp [pos, h3, ngM]
        omega
    · have : ¬ 0 < c := h1
      simp [pos, h1, h2, ngM]
      omega
theorem sg_good {x : M} (h : good x) : sg x = x := by
  obtain ⟨a, b, c, d⟩ := x
  obtain ⟨_, h⟩ := h
  have : pos (a, b, c, d) = true := by
    simp only [pos]
    rcases h with h | ⟨h1, h2⟩
    · have h : 0 < c := h; simp [h]
    · have h1 : c = 0 := h1; have h2 : d = 1 := h2; subst h1 h2; rfl
  unfold sg; rw [if_pos this]
def P (x y : M) : M := sg (mulM x y)
theorem det_P {x y : M} (hx : det x = 1) (hy : det y = 1) : det (P x y) = 1 := by unfold P; rw [det_sg, det_mul, hx, hy]; rfl
theorem good_P {x y : M} (hx : det x = 1) (hy : det y = 1) : good (P x y) := good_sg (by rw [det_mul, hx, hy]; rfl)
theorem P_assoc {x y z : M} (hx : det x = 1) (hy : det y = 1) (hz : det z = 1) : P (P x y) z = P x (P y z) := by
  unfold P
  rw [sg_mul_l (by rw [det_mul, hx, hy]; rfl) hz, sg_mul_r hx (by rw [det_mul, hy, hz]; rfl), mulM_assoc]
theorem one_mul (x : M) : mulM one1 x = x := by
  obtain ⟨a, b, c, d⟩ := x
  simp [mulM, one1]
theorem P_one {x : M} (h : good x) : P one1 x = x := by unfold P; rw [one_mul]; exact sg_good h
theorem det_one : det one1 = 1 := by decide
/-! sizes -/
def BdM (b : Nat) (m : M) : Prop := Bd b m.1 ∧ Bd b m.2.1 ∧ Bd b m.2.2.1 ∧ Bd b m.2.2.2
theorem BdM.mono {a b : Nat} {m : M} (h : BdM a m) (k : a ≤ b) : BdM b m := ⟨h.1.mono k, h.2.1.mono k, h.2.2.1.mono k, h.2.2.2.mono k⟩
theorem BdM.ng {a : Nat} {m : M} (h : BdM a m) : BdM a (ngM m) := by
  obtain ⟨h1, h2, h3, h4⟩ := h
  have z : ∀ {i : Int}, Bd a i → Bd a (0 - i) := fun {i} h => by rw [Int.zero_sub]; exact h.neg
  exact ⟨z h1, z h2, z h3, z h4⟩
theorem BdM.sg {a : Nat} {m : M} (h : BdM a m) : BdM a (K00.sg m) := by
  rcases sg_or m with k | k <;> rw [k]
  · exact h
  · exact h.ng
theorem BdM.mul {a b : Nat} {x y : M} (h : BdM a x) (k : BdM b y) : BdM (a + b + 1) (mulM x y) := by
  obtain ⟨h1, h2, h3, h4⟩ := h
  obtain ⟨k1, k2, k3, k4⟩ := k
  have z : ∀ {i j p q : Int}, Bd a i → Bd b j → Bd a p → Bd b q → Bd (a + b + 1) (i * j + p * q) := fun h k h' k' => ((h.mul k).add (h'.mul k')).mono (by omega)
  exact ⟨z h1 k1 h2 k3, z h1 k2 h2 k4, z h3 k1 h4 k3, z h3 k2 h4 k4⟩
theorem BdM.P {a b : Nat} {x y : M} (h : BdM a x) (k : BdM b y) : BdM (a + b + 1) (K00.P x y) := (h.mul k).sg
theorem BdM.adj {a : Nat} {m : M} (h : BdM a m) : BdM a (K00.adj m) := by
  obtain ⟨h1, h2, h3, h4⟩ := h
  have z : ∀ {i : Int}, Bd a i → Bd a (0 - i) := fun {i} h => by rw [Int.zero_sub]; exact h.neg
  exact ⟨h4, z h2, z h3, h1⟩
end PL.K00
end

section
/-! orders of finitely many places, their rounds, and how many there can be -/
namespace PL.PM

abbrev Rl := Nat → Nat → Prop
structure Eqv (R : Rl) : Prop where
  rf : ∀ i, R i i
  sy : ∀ i j, R i j → R j i
  tr : ∀ i j k, R i j → R j k → R i k
def Mg (R : Rl) (a b : Nat) : Rl := fun i j => R i j ∨ (R a i ∧ R b j) ∨ (R b i ∧ R a j)
theorem Mg.eqv {R : Rl} (h : Eqv R) (a b : Nat) : Eqv (Mg R a b) where
  rf := fun i => .inl (h.rf i)
  sy := fun i j q => by
    rcases q with q | ⟨q1, q2⟩ | ⟨q1, q2⟩
    · exact .inl (h.sy _ _ q)
    · exact .inr (.inr ⟨q2, q1⟩)
    · exact .inr (.inl ⟨q2, q1⟩)
  tr := fun i j k p q => by
    have s := h.sy
    have t := h.tr
    rcases p with p | ⟨p1, p2⟩ | ⟨p1, p2⟩ <;> rcases q with q | ⟨q1, q2⟩ | ⟨q1, q2⟩
    · exact .inl (t _ _ _ p q)
    · exact .inr (.inl ⟨t _ _ _ q1 (s _ _ p), q2⟩)
    · exact .inr (.inr ⟨t _ _ _ q1 (s _ _ p), q2⟩)
    · exact .inr (.inl ⟨p1, t _ _ _ p2 q⟩)
    · exact .inr (.inl ⟨p1, q2⟩)
    · exact .inl (t _ _ _ (s _ _ p1) q2)
    · exact .inr (.inr ⟨p1, t _ _ _ p2 q⟩)
    · exact .inl (t _ _ _ (s _ _ p1) q2)
    · exact .inr (.inr ⟨p1, q2⟩)
theorem Mg.swap {R : Rl} {a b i j : Nat} : Mg R a b i j ↔ Mg R b a i j := by
  unfold Mg
  constructor
  · rintro (q | q | q)
    · exact .inl q
    · exact .inr (.inr q)
    · exact .inr (.inl q)
  · rintro (q | q | q)
    · exact .inl q
    · exact .inr (.inr q)
    · exact .inr (.inl q)
theorem Mg.ab {R : Rl} (h : Eqv R) (a b : Nat) : Mg R a b a b := .inr (.inl ⟨h.rf a, h.rf b⟩)
theorem Mg.same {R : Rl} (h : Eqv R) {a b : Nat} (q : R a b) {i j : Nat} : Mg R a b i j ↔ R i j := by
  constructor
  · rintro (p | ⟨p1, p2⟩ | ⟨p1, p2⟩)
    · exact p
    · exact h.tr _ _ _ (h.sy _ _ p1) (h.tr _ _ _ q p2)
    · exact h.tr _ _ _ (h.sy _ _ p1) (h.tr _ _ _ (h.sy _ _ q) p2)
  · exact .inl
/-! ### how many classes -/
def Lst (R : Rl) (i : Nat) : Prop := ∀ j, j < i → ¬ R j i
open Classical in
noncomputable def cnt (n : Nat) (R : Rl) : Nat := ((List.range n).filter fun i => decide (Lst R i)).length
theorem cnt_congr {n : Nat} {R S : Rl} (h : ∀ i j, R i j ↔ S i j) : cnt n R = cnt n S := by
  have : R = S := by funext i j; exact propext (h i j)
  rw [this]
theorem least {R : Rl} (h : Eqv R) : ∀ (k x : Nat), x ≤ k → ∃ m, m ≤ x ∧ R m x ∧ Lst R m
  | k, x, hx => by
    by_cases q : Lst R x
    · exact ⟨x, Nat.le_refl _, h.rf x, q⟩
    · have : ∃ j, j < x ∧ R j x := by
        apply Classical.byContradiction
        intro z
        exact q fun j hj hr => z ⟨j, hj, hr⟩
      obtain ⟨j, hj, hr⟩ := this
      match k with
      | 0 => omega
      | k + 1 =>
        obtain ⟨m, h1, h2, h3⟩ := least h k j (by omega)
        exact ⟨m, by omega, h.tr _ _ _ h2 hr, h3⟩
theorem lst_eq {R : Rl} (h : Eqv R) {i m : Nat} (h1 : Lst R i) (h2 : Lst R m) (q : R i m) : i = m := by
  rcases Nat.lt_trichotomy i m with z | z | z
  · exact absurd q (h2 i z)
  · exact z
  · exact absurd (h.sy _ _ q) (h1 m z)
theorem filter_one (p : Nat → Bool) (x : Nat) : ∀ l : List Nat, l.Nodup → x ∈ l → p x = true → (l.filter p).length = (l.filter fun i => p i && decide (i ≠ x)).length + 1
  | [], _, h, _ => by cases h
  | y :: l, nd, h, hp => by
    rw [List.nodup_cons] at nd
    by_cases e : y = x
    · subst e
      have : l.filter p = l.filter fun i => p i && decide (i ≠ y) := by
        apply List.filter_congr
        intro i hi
        have : i ≠ y := fun z => nd.1 (z ▸ hi)
        simp [this]
      rw [List.filter_cons_of_pos hp, List.filter_cons_of_neg (by simp), List.length_cons, this]
    · have hx : x ∈ l := by
        rcases List.mem_cons.mp h with q | q
        · exact absurd q.symm e
        · exact q
      have ih := filter_one p x l nd.2 hx hp
      by_cases py : p y = true
      · rw [List.filter_cons_of_pos py, List.filter_cons_of_pos (by simp [py, e]), List.length_cons, List.length_cons, ih]
      · rw [List.filter_cons_of_neg py, List.filter_cons_of_neg (by simp [py]), ih]
open Classical in
theorem cnt_lt {n : Nat} {R : Rl} (h : Eqv R) {a b : Nat} (hb : b < n) (hab : ¬ R a b) {ma mb : Nat} (a1 : R ma a) (a2 : Lst R ma) (b0 : mb ≤ b) (b1 : R mb b) (b2 : Lst R mb) (hm : ma < mb) : cnt n R = cnt n (Mg R a b) + 1 := by
  unfold cnt
  rw [filter_one _ mb (List.range n) List.nodup_range (by rw [List.mem_range]; omega) (decide_eq_true b2)]
  congr 2
  apply List.filter_congr
  intro i _
  have s := h.sy
  have t := h.tr
  have key : Lst (Mg R a b) i ↔ (Lst R i ∧ i ≠ mb) := by
    constructor
    · intro q
      refine ⟨fun j hj hr => q j hj (.inl hr), fun e => ?_⟩
      subst e
      exact q ma hm (.inr (.inl ⟨s _ _ a1, s _ _ b1⟩))
    · rintro ⟨q, e⟩ j hj (r | ⟨r1, r2⟩ | ⟨r1, r2⟩)
      · exact q j hj r
      · exact e (lst_eq h q b2 (t _ _ _ (s _ _ r2) (s _ _ b1)))
      · have hi : i = ma := lst_eq h q a2 (t _ _ _ (s _ _ r2) (s _ _ a1))
        exact b2 j (by omega) (s _ _ (t _ _ _ b1 r1))
  by_cases k1 : Lst (Mg R a b) i
  · obtain ⟨q1, q2⟩ := key.mp k1
    simp [k1, q1, q2]
  · have : ¬ (Lst R i ∧ i ≠ mb) := fun z => k1 (key.mpr z)
    rw [decide_eq_false k1]
    by_cases q1 : Lst R i
    · have q2 : i = mb := by
        apply Classical.byContradiction
        intro z; exact this ⟨q1, z⟩
      simp [q1, q2]
    · simp [q1]
theorem cnt_merge {n : Nat} {R : Rl} (h : Eqv R) {a b : Nat} (ha : a < n) (hb : b < n) (hab : ¬ R a b) : cnt n R = cnt n (Mg R a b) + 1 := by
  obtain ⟨ma, a0, a1, a2⟩ := least h a a (Nat.le_refl _)
  obtain ⟨mb, b0, b1, b2⟩ := least h b b (Nat.le_refl _)
  rcases Nat.lt_trichotomy ma mb with z | z | z
  · exact cnt_lt h hb hab a1 a2 b0 b1 b2 z
  · exfalso
    subst z
    exact hab (h.tr _ _ _ (h.sy _ _ a1) b1)
  · rw [cnt_lt h ha (fun q => hab (h.sy _ _ q)) b1 b2 a0 a1 a2 z]
    rw [cnt_congr (R := Mg R b a) (S := Mg R a b) fun i j => Mg.swap]
open Classical in
theorem cnt_id (n : Nat) : cnt n (fun i j => i = j) = n := by
  unfold cnt
  rw [List.filter_eq_self.mpr, List.length_range]
  intro i _
  apply decide_eq_true
  intro j hj e
  omega
open Classical in
theorem cnt_one {n : Nat} {R : Rl} (h : Eqv R) (hn : 0 < n) (c : ∀ i, i < n → R 0 i) : cnt n R = 1 := by
  unfold cnt
  have : ((List.range n).filter fun i => decide (Lst R i)) = (List.range n).filter fun i => decide (i = 0) := by
    apply List.filter_congr
    intro i hi
    by_cases e : i = 0
    · subst e
      have : Lst R 0 := fun j hj => by omega
      simp [this]
    · have : ¬ Lst R i := fun q => q 0 (by omega) (c i (List.mem_range.mp hi))
      simp [this, e]
  rw [this]
  obtain ⟨m, rfl⟩ : ∃ m, n = m + 1 := ⟨n - 1, by omega⟩
  rw [List.range_succ_eq_map, List.filter_cons_of_pos (by simp), List.filter_eq_nil_iff.mpr]
  · rfl
  · intro x hx
    obtain ⟨y, _, rfl⟩ := List.mem_map.mp hx
    simp
/-! ### orders -/
def Bij (n : Nat) (f : Nat → Nat) : Prop := (∀ i, i < n → f i < n) ∧ ∀ i j, i < n → j < n → f i = f j → i = j
inductive Cl (n : Nat) (f : Nat → Nat) : Nat → Nat → Prop where
  | rf (i : Nat) : Cl n f i i
  | st (i : Nat) (h : i < n) : Cl n f i (f i)
  | sy {i j : Nat} : Cl n f i j → Cl n f j i
  | tr {i j k : Nat} : Cl n f i j → Cl n f j k → Cl n f i k
theorem Cl.eqv (n : Nat) (f : Nat → Nat) : Eqv (Cl n f) := ⟨.rf, fun _ _ => .sy, fun _ _ _ => .tr⟩
theorem Cl.sub {n : Nat} {f : Nat → Nat} {R : Rl} (h : Eqv R) (k : ∀ i, i < n → R i (f i)) {i j : Nat} (q : Cl n f i j) : R i j := by
  induction q with
  | rf i => exact h.rf i
  | st i hi => exact k i hi
  | sy _ ih => exact h.sy _ _ ih
  | tr _ _ i1 i2 => exact h.tr _ _ _ i1 i2
def it (f : Nat → Nat) : Nat → Nat → Nat
  | 0, x => x
  | k + 1, x => it f k (f x)
theorem it_add (f : Nat → Nat) : ∀ (a b x : Nat), it f (a + b) x = it f b (it f a x)
  | 0, b, x => by rw [Nat.zero_add]; rfl
  | a + 1, b, x => by rw [Nat.succ_add]; exact it_add f a b (f x)
theorem it_succ (f : Nat → Nat) (a x : Nat) : it f (a + 1) x = f (it f a x) := it_add f a 1 x
section
variable {n : Nat} {f : Nat → Nat}
theorem it_lt (h : Bij n f) : ∀ (k : Nat) {x : Nat}, x < n → it f k x < n
  | 0, _, hx => hx
  | k + 1, _, hx => it_lt h k (h.1 _ hx)
theorem it_inj (h : Bij n f) : ∀ (k : Nat) {x y : Nat}, x < n → y < n → it f k x = it f k y → x = y
  | 0, _, _, _, _, e => e
  | k + 1, x, y, hx, hy, e => h.2 _ _ hx hy (it_inj h k (h.1 _ hx) (h.1 _ hy) e)
theorem it_cl (h : Bij n f) : ∀ (k : Nat) {x : Nat}, x < n → Cl n f x (it f k x)
  | 0, x, _ => .rf x
  | k + 1, x, hx => .tr (.st x hx) (it_cl h k (h.1 _ hx))
theorem nodup_le : ∀ (n : Nat) (l : List Nat), l.Nodup → (∀ x ∈ l, x < n) → l.length ≤ n
  | 0, [], _, _ => Nat.le_refl _
  | 0, x :: l, _, h => by have := h x (by simp); omega
  | n + 1, l, nd, h => by
    by_cases hn : n ∈ l
    · have e := filter_one (fun _ => true) n l nd hn rfl
      rw [List.filter_eq_self.mpr (fun _ _ => rfl)] at e
      have := nodup_le n (l.filter fun i => true && decide (i ≠ n)) (nd.filter _) (fun x hx => by
        obtain ⟨h1, h2⟩ := List.mem_filter.mp hx
        have := h x h1
        simp at h2
        omega)
      omega
    · have := nodup_le n l nd (fun x hx => by
        have := h x hx
        have : x ≠ n := fun e => hn (e ▸ hx)
        omega)
      omega
theorem period (h : Bij n f) {x : Nat} (hx : x < n) : ∃ p, 0 < p ∧ it f p x = x := by
  apply Classical.byContradiction
  intro z
  have inj : ∀ i j, i < j → it f i x ≠ it f j x := by
    intro i j hij e
    refine z ⟨j - i, by omega, ?_⟩
    have : it f j x = it f i (it f (j - i) x) := by rw [← it_add]; congr 1; omega
    rw [this] at e
    exact (it_inj h i hx (it_lt h _ hx) e).symm
  have nd : ((List.range (n + 1)).map fun k => it f k x).Nodup := by
    rw [List.nodup_iff_pairwise_ne, List.pairwise_map]
    refine List.Pairwise.imp (fun {a b} hab => ?_) List.pairwise_lt_range
    exact inj a b hab
  have := nodup_le n _ nd (fun y hy => by
    obtain ⟨k, _, rfl⟩ := List.mem_map.mp hy
    exact it_lt h k hx)
  simp at this
  omega
theorem period_mul {p x : Nat} (h : it f p x = x) : ∀ t : Nat, it f (p * t) x = x
  | 0 => rfl
  | t + 1 => by rw [Nat.mul_succ, Nat.add_comm, it_add, h, period_mul h t]
theorem cl_lt (h : Bij n f) {x y : Nat} (q : Cl n f x y) : x = y ∨ (x < n ∧ y < n) := by
  induction q with
  | rf i => exact .inl rfl
  | st i hi => exact .inr ⟨hi, h.1 _ hi⟩
  | sy _ ih => rcases ih with e | ⟨a, b⟩
               · exact .inl e.symm
               · exact .inr ⟨b, a⟩
  | tr _ _ i1 i2 =>
    rcases i1 with rfl | ⟨a, b⟩
    · exact i2
    · rcases i2 with rfl | ⟨c, d⟩
      · exact .inr ⟨a, b⟩
      · exact .inr ⟨a, d⟩
theorem reach (h : Bij n f) {x y : Nat} (q : Cl n f x y) : ∃ k, it f k x = y := by
  induction q with
  | rf i => exact ⟨0, rfl⟩
  | st i hi => exact ⟨1, rfl⟩
  | sy r ih =>
    rename_i i j
    obtain ⟨k, hk⟩ := ih
    rcases cl_lt h r with e | ⟨a, _⟩
    · exact ⟨0, e.symm⟩
    · obtain ⟨p, p0, p1⟩ := period h a
      refine ⟨p * k - k, ?_⟩
      have hle : k ≤ p * k := Nat.le_mul_of_pos_left _ p0
      rw [← hk, ← it_add, show k + (p * k - k) = p * k by omega]
      exact period_mul p1 k
  | tr _ _ i1 i2 =>
    obtain ⟨k, rfl⟩ := i1
    obtain ⟨l, rfl⟩ := i2
    exact ⟨k + l, it_add f k l _⟩
end
/-- the values at two places changed for one another -/
def sw (a b : Nat) (f : Nat → Nat) : Nat → Nat := fun i => if i = a then f b else if i = b then f a else f i
theorem sw_bij {n : Nat} {f : Nat → Nat} (h : Bij n f) {a b : Nat} (ha : a < n) (hb : b < n) : Bij n (sw a b f) := by
  have key : ∀ i, i < n → ∃ i', i' < n ∧ sw a b f i = f i' ∧ i' = (if i = a then b else if i = b then a else i) := fun i hi => by
    unfold sw
    by_cases e1 : i = a
    · exact ⟨b, hb, by rw [if_pos e1], by rw [if_pos e1]⟩
    · by_cases e2 : i = b
      · exact ⟨a, ha, by rw [if_neg e1, if_pos e2], by rw [if_neg e1, if_pos e2]⟩
      · exact ⟨i, hi, by rw [if_neg e1, if_neg e2], by rw [if_neg e1, if_neg e2]⟩
  refine ⟨fun i hi => ?_, fun i j hi hj e => ?_⟩
  · obtain ⟨i', h1, h2, _⟩ := key i hi
    rw [h2]; exact h.1 _ h1
  · obtain ⟨i', h1, h2, h3⟩ := key i hi
    obtain ⟨j', k1, k2, k3⟩ := key j hj
    rw [h2, k2] at e
    have e := h.2 _ _ h1 k1 e
    rw [h3, k3] at e
    split at e <;> split at e <;> (try split at e) <;> (try split at e) <;> omega
theorem sw_sw {f : Nat → Nat} {a b : Nat} : sw a b (sw a b f) = f := by
  funext i
  unfold sw
  by_cases e1 : i = a
  · subst e1
    by_cases e2 : b = i
    · subst e2; simp
    · simp [e2]
  · by_cases e2 : i = b
    · subst e2; simp [e1]
    · simp [e1, e2]
theorem merge_cl {n : Nat} {f : Nat → Nat} (h : Bij n f) {a b : Nat} (ha : a < n) (hb : b < n) (hab : ¬ Cl n f a b) {i j : Nat} : Cl n (sw a b f) i j ↔ Mg (Cl n f) a b i j := by
  have ne : a ≠ b := fun e => hab (e ▸ .rf a)
  have sa : sw a b f a = f b := by unfold sw; rw [if_pos rfl]
  have sb : sw a b f b = f a := by unfold sw; rw [if_neg (Ne.symm ne), if_pos rfl]
  have so : ∀ x, x ≠ a → x ≠ b → sw a b f x = f x := fun x h1 h2 => by unfold sw; rw [if_neg h1, if_neg h2]
  have hE := Cl.eqv n f
  have hG := Mg.eqv hE a b
  constructor
  · intro q
    refine Cl.sub hG (fun x hx => ?_) q
    by_cases e1 : x = a
    · subst e1; rw [sa]; exact .inr (.inl ⟨.rf _, .st b hb⟩)
    · by_cases e2 : x = b
      · subst e2; rw [sb]; exact .inr (.inr ⟨.rf _, .st a ha⟩)
      · rw [so x e1 e2]; exact .inl (.st x hx)
  · have walk : ∀ k, (∀ i, i < k → it f i (f b) ≠ b) → Cl n (sw a b f) (f b) (it f k (f b)) := by
      intro k
      induction k with
      | zero => intro _; exact .rf _
      | succ k ih =>
        intro hk
        have h1 := ih (fun i hi => hk i (by omega))
        have hlt : it f k (f b) < n := it_lt h k (h.1 _ hb)
        have nb := hk k (by omega)
        have na : it f k (f b) ≠ a := fun e => by
          have := it_cl h (k + 1) hb
          exact hab (.sy (e ▸ (this : Cl n f b (it f k (f b)))))
        rw [it_succ, ← so _ na nb]
        exact .tr h1 (.st _ hlt)
    have cab : Cl n (sw a b f) a b := by
      obtain ⟨p, p0, p1⟩ := period h hb
      have ex : ∃ k, it f k (f b) = b := ⟨p - 1, by
        have : it f (p - 1 + 1) b = b := by rw [show p - 1 + 1 = p by omega]; exact p1
        exact this⟩
      have min : ∃ k, it f k (f b) = b ∧ ∀ i, i < k → it f i (f b) ≠ b := by
        obtain ⟨k, hk⟩ := ex
        have : ∀ m k, k ≤ m → it f k (f b) = b → ∃ k, it f k (f b) = b ∧ ∀ i, i < k → it f i (f b) ≠ b := by
          intro m
          induction m with
          | zero => intro k hk e; exact ⟨k, e, fun i hi => by omega⟩
          | succ m ih =>
            intro k hk e
            by_cases z : ∃ i, i < k ∧ it f i (f b) = b
            · obtain ⟨i, hi, e2⟩ := z
              exact ih i (by omega) e2
            · exact ⟨k, e, fun i hi e2 => z ⟨i, hi, e2⟩⟩
        exact this k k (Nat.le_refl _) hk
      obtain ⟨k, k1, k2⟩ := min
      have := walk k k2
      rw [k1, ← sa] at this
      exact .tr (.st a ha) this
    have sub : ∀ {x y}, Cl n f x y → Cl n (sw a b f) x y := fun {x y} q => by
      refine Cl.sub (Cl.eqv n (sw a b f)) (fun x hx => ?_) q
      by_cases e1 : x = a
      · subst e1; rw [← sb]; exact .tr cab (.st b hb)
      · by_cases e2 : x = b
        · subst e2; rw [← sa]; exact .tr (.sy cab) (.st a ha)
        · rw [← so x e1 e2]; exact .st x hx
    rintro (q | ⟨q1, q2⟩ | ⟨q1, q2⟩)
    · exact sub q
    · exact .tr (.sy (sub q1)) (.tr cab (sub q2))
    · exact .tr (.sy (sub q1)) (.tr (.sy cab) (sub q2))
theorem split_cl {n : Nat} {f : Nat → Nat} (h : Bij n f) {a b : Nat} (ha : a < n) (hb : b < n) (ne : a ≠ b) (hab : Cl n f a b) : ¬ Cl n (sw a b f) a b := by
  have sa : sw a b f a = f b := by unfold sw; rw [if_pos rfl]
  have so : ∀ x, x ≠ a → x ≠ b → sw a b f x = f x := fun x h1 h2 => by unfold sw; rw [if_neg h1, if_neg h2]
  obtain ⟨k, hk⟩ := reach h (.sy hab : Cl n f b a)
  have min : ∃ j, it f j b = a ∧ ∀ i, i < j → it f i b ≠ a := by
    have : ∀ m k, k ≤ m → it f k b = a → ∃ k, it f k b = a ∧ ∀ i, i < k → it f i b ≠ a := by
      intro m
      induction m with
      | zero => intro k hk e; exact ⟨k, e, fun i hi => by omega⟩
      | succ m ih =>
        intro k hk e
        by_cases z : ∃ i, i < k ∧ it f i b = a
        · obtain ⟨i, hi, e2⟩ := z
          exact ih i (by omega) e2
        · exact ⟨k, e, fun i hi e2 => z ⟨i, hi, e2⟩⟩
    exact this k k (Nat.le_refl _) hk
  obtain ⟨j, j1, j2⟩ := min
  have j0 : 0 < j := by
    rcases Nat.eq_zero_or_pos j with z | z
    · subst z; exact absurd j1.symm ne
    · exact z
  -- between, b does not come again
  have nob : ∀ i, 1 ≤ i → i ≤ j → it f i b ≠ b := by
    intro i i1 i2 e
    have : it f (j - i) b = a := by
      have : it f j b = it f (j - i) (it f i b) := by rw [← it_add]; congr 1; omega
      rw [e] at this
      rw [← this]; exact j1
    exact j2 (j - i) (by omega) this
  let S : Nat → Prop := fun x => ∃ i, 1 ≤ i ∧ i ≤ j ∧ it f i b = x
  have fwd : ∀ x, S x → S (sw a b f x) := by
    rintro x ⟨i, i1, i2, rfl⟩
    rcases Nat.lt_or_ge i j with z | z
    · rw [so _ (j2 i z) (nob i i1 i2)]
      exact ⟨i + 1, by omega, by omega, it_succ f i b⟩
    · have : i = j := by omega
      subst this
      rw [j1, sa]
      exact ⟨1, by omega, by omega, rfl⟩
  have bb := sw_bij h ha hb
  have bwd : ∀ x, x < n → S (sw a b f x) → S x := by
    rintro x hx ⟨i, i1, i2, e⟩
    rcases Nat.lt_or_ge 1 i with z | z
    · have e2 : sw a b f (it f (i - 1) b) = it f i b := by
        rw [so _ (j2 (i - 1) (by omega)) (nob (i - 1) (by omega) (by omega)), ← it_succ f (i - 1) b]
        congr 1; omega
      rw [← e2] at e
      exact ⟨i - 1, by omega, by omega, bb.2 _ _ (it_lt h _ hb) hx e⟩
    · have : i = 1 := by omega
      subst this
      have e : f b = sw a b f x := e
      rw [← sa] at e
      exact ⟨j, by omega, by omega, by rw [j1]; exact bb.2 _ _ ha hx e⟩
  have hS : ∀ {x y}, Cl n (sw a b f) x y → (S x ↔ S y) := by
    intro x y q
    induction q with
    | rf i => exact Iff.rfl
    | st i hi => exact ⟨fwd i, bwd i hi⟩
    | sy _ ih => exact ih.symm
    | tr _ _ i1 i2 => exact i1.trans i2
  intro q
  have : S b := (hS q).mp ⟨j, j0, Nat.le_refl _, j1⟩
  obtain ⟨i, i1, i2, e⟩ := this
  exact nob i i1 i2 e
/-! ### the count along a row of changes -/
def rounds (n : Nat) (f : Nat → Nat) : Nat → Prop := fun c => cnt n (Cl n f) = c
def fms : List (Nat × Nat) → (Nat → Nat) → Nat → Nat
  | [], f => f
  | (a, b) :: ms, f => fms ms (sw a b f)
def Gms : List (Nat × Nat) → Rl → Rl
  | [], R => R
  | (a, b) :: ms, R => Gms ms (Mg R a b)
theorem Gms_eqv : ∀ (ms : List (Nat × Nat)) {R : Rl}, Eqv R → Eqv (Gms ms R)
  | [], _, h => h
  | (a, b) :: ms, _, h => Gms_eqv ms (Mg.eqv h a b)
theorem Gms_sub : ∀ (ms : List (Nat × Nat)) {R : Rl} {i j : Nat}, R i j → Gms ms R i j
  | [], _, _, _, h => h
  | (a, b) :: ms, _, _, _, h => Gms_sub ms (.inl h)
theorem Gms_mem : ∀ (ms : List (Nat × Nat)) {R : Rl} {a b : Nat}, Eqv R → (a, b) ∈ ms → Gms ms R a b
  | [], _, _, _, _, hm => by cases hm
  | (a', b') :: ms, R, a, b, h, hm => by
    rcases List.mem_cons.mp hm with e | hm
    · cases e
      exact Gms_sub ms (Mg.ab h a' b')
    · exact Gms_mem ms (Mg.eqv h a' b') hm
structure Bd (n k : Nat) (f : Nat → Nat) (R : Rl) : Prop where
  bij : Bij n f
  eqv : Eqv R
  sub : ∀ i, i < n → R i (f i)
  le : cnt n (Cl n f) + n ≤ k + 2 * cnt n R
  par : (cnt n (Cl n f) + n + k) % 2 = 0
theorem bd_step {n k : Nat} {f : Nat → Nat} {R : Rl} (h : Bd n k f R) {a b : Nat} (ha : a < n) (hb : b < n) (ne : a ≠ b) : Bd n (k + 1) (sw a b f) (Mg R a b) := by
  have hE := Cl.eqv n f
  have sub' : ∀ i, i < n → Mg R a b i (sw a b f i) := fun i hi => by
    have g := Mg.eqv h.eqv a b
    have ab := Mg.ab h.eqv a b
    unfold sw
    split
    · next e => subst e; exact g.tr _ _ _ ab (.inl (h.sub b hb))
    · split
      · next e => subst e; exact g.tr _ _ _ (g.sy _ _ ab) (.inl (h.sub a ha))
      · exact .inl (h.sub i hi)
  have l := h.le
  have p := h.par
  by_cases q : Cl n f a b
  · have nq := split_cl h.bij ha hb ne q
    have m := cnt_merge (Cl.eqv n (sw a b f)) ha hb nq
    have e : cnt n (Mg (Cl n (sw a b f)) a b) = cnt n (Cl n f) := cnt_congr fun i j => by
      rw [← merge_cl (sw_bij h.bij ha hb) ha hb nq, sw_sw]
    have rab : R a b := Cl.sub h.eqv h.sub q
    have e2 : cnt n (Mg R a b) = cnt n R := cnt_congr fun i j => Mg.same h.eqv rab
    exact ⟨sw_bij h.bij ha hb, Mg.eqv h.eqv a b, sub', by omega, by omega⟩
  · have m := cnt_merge hE ha hb q
    have e : cnt n (Cl n (sw a b f)) = cnt n (Mg (Cl n f) a b) := cnt_congr fun i j => merge_cl h.bij ha hb q
    by_cases r : R a b
    · have e2 : cnt n (Mg R a b) = cnt n R := cnt_congr fun i j => Mg.same h.eqv r
      exact ⟨sw_bij h.bij ha hb, Mg.eqv h.eqv a b, sub', by omega, by omega⟩
    · have m2 := cnt_merge h.eqv ha hb r
      exact ⟨sw_bij h.bij ha hb, Mg.eqv h.eqv a b, sub', by omega, by omega⟩
theorem bd_all {n : Nat} : ∀ (ms : List (Nat × Nat)) {k : Nat} {f : Nat → Nat} {R : Rl}, Bd n k f R → (∀ m ∈ ms, m.1 < n ∧ m.2 < n ∧ m.1 ≠ m.2) → Bd n (k + ms.length) (fms ms f) (Gms ms R)
  | [], _, _, _, h, _ => h
  | (a, b) :: ms, k, f, R, h, hm => by
    obtain ⟨h1, h2, h3⟩ := hm (a, b) (by simp)
    have := bd_all ms (bd_step h h1 h2 h3) (fun m hm' => hm m (by simp [hm']))
    rw [List.length_cons, show k + (ms.length + 1) = k + 1 + ms.length by omega]
    exact this
theorem cl_id {n i j : Nat} : Cl n (fun i => i) i j ↔ i = j := by
  constructor
  · intro q
    exact Cl.sub (R := fun i j => i = j) ⟨fun _ => rfl, fun _ _ h => h.symm, fun _ _ _ h k => h.trans k⟩ (fun _ _ => rfl) q
  · rintro rfl; exact .rf _
theorem bd_id (n : Nat) : Bd n 0 (fun i => i) (fun i j => i = j) := by
  have e : cnt n (Cl n fun i => i) = n := by rw [cnt_congr fun i j => cl_id, cnt_id]
  exact ⟨⟨fun _ h => h, fun _ _ _ _ h => h⟩, ⟨fun _ => rfl, fun _ _ h => h.symm, fun _ _ _ h k => h.trans k⟩, fun _ _ => rfl, by rw [e, cnt_id]; omega, by rw [e]; omega⟩
/-- as many rounds as there can be, when all places hang together -/
theorem rounds_le {n : Nat} (hn : 0 < n) (ms : List (Nat × Nat)) (hm : ∀ m ∈ ms, m.1 < n ∧ m.2 < n ∧ m.1 ≠ m.2) (hc : ∀ i, i < n → Gms ms (fun i j => i = j) 0 i) :
    cnt n (Cl n (fms ms fun i => i)) + n ≤ ms.length + 2 ∧ (cnt n (Cl n (fms ms fun i => i)) + n + ms.length) % 2 = 0 := by
  have h := bd_all ms (bd_id n) hm
  have e := cnt_one h.eqv hn hc
  have l := h.le
  have p := h.par
  rw [Nat.zero_add] at l p
  omega
end PL.PM
end

section
/-! pairs and threes of places -/
namespace PL.PM

theorem sw_comp (f g : Nat → Nat) (a b : Nat) : sw a b (fun i => f (g i)) = fun i => f (sw a b g i) := by
  funext i
  unfold sw
  split
  · rfl
  · split <;> rfl
theorem fms_comp : ∀ (ms : List (Nat × Nat)) (f g : Nat → Nat), fms ms (fun i => f (g i)) = fun i => f (fms ms g i)
  | [], _, _ => rfl
  | (a, b) :: ms, f, g => by rw [fms, sw_comp, fms_comp ms f (sw a b g)]; rfl
theorem fms_app : ∀ (ms ns : List (Nat × Nat)) (f : Nat → Nat), fms (ms ++ ns) f = fms ns (fms ms f)
  | [], _, _ => rfl
  | (a, b) :: ms, ns, f => by rw [List.cons_append, fms, fms_app ms ns]; rfl
def flat2 (ps : List (Nat × Nat)) : List Nat := ps.flatMap fun p => [p.1, p.2]
def flat3 (ts : List (Nat × Nat × Nat)) : List Nat := ts.flatMap fun p => [p.1, p.2.1, p.2.2]
def ms3 (ts : List (Nat × Nat × Nat)) : List (Nat × Nat) := ts.flatMap fun p => [(p.1, p.2.2), (p.1, p.2.1)]
theorem flat2_cons (a b : Nat) (ps : List (Nat × Nat)) : flat2 ((a, b) :: ps) = a :: b :: flat2 ps := rfl
theorem flat3_cons (a b c : Nat) (ts : List (Nat × Nat × Nat)) : flat3 ((a, b, c) :: ts) = a :: b :: c :: flat3 ts := rfl
theorem flat2_len : ∀ ps : List (Nat × Nat), (flat2 ps).length = 2 * ps.length
  | [] => rfl
  | (a, b) :: ps => by rw [flat2_cons, List.length_cons, List.length_cons, flat2_len ps, List.length_cons]; omega
theorem flat3_len : ∀ ts : List (Nat × Nat × Nat), (flat3 ts).length = 3 * ts.length
  | [] => rfl
  | (a, b, c) :: ts => by rw [flat3_cons, List.length_cons, List.length_cons, List.length_cons, flat3_len ts, List.length_cons]; omega
theorem ms3_len : ∀ ts : List (Nat × Nat × Nat), (ms3 ts).length = 2 * ts.length
  | [] => rfl
  | (a, b, c) :: ts => by
    show ((a, c) :: (a, b) :: ms3 ts).length = _
    rw [List.length_cons, List.length_cons, ms3_len ts, List.length_cons]; omega
/-- what pairs lead to -/
theorem two_at : ∀ (ps : List (Nat × Nat)) (f : Nat → Nat), (flat2 ps).Nodup → (∀ x ∈ flat2 ps, f x = x) →
    (∀ i, i ∉ flat2 ps → fms ps f i = f i) ∧ ∀ p ∈ ps, fms ps f p.1 = p.2 ∧ fms ps f p.2 = p.1
  | [], f, _, _ => ⟨fun _ _ => rfl, fun p h => by cases h⟩
  | (a, b) :: ps, f, nd, hf => by
    rw [flat2_cons] at nd hf
    rw [List.nodup_cons, List.nodup_cons] at nd
    obtain ⟨n1, n2, n3⟩ := nd
    have nb : b ≠ a := fun e => n1 (by simp [e])
    have na : a ∉ flat2 ps := fun h => n1 (by simp [h])
    have so : ∀ x, x ≠ a → x ≠ b → sw a b f x = f x := fun x h1 h2 => by unfold sw; rw [if_neg h1, if_neg h2]
    have sa : sw a b f a = b := by unfold sw; rw [if_pos rfl, hf b (by simp)]
    have sb : sw a b f b = a := by unfold sw; rw [if_neg nb, if_pos rfl, hf a (by simp)]
    obtain ⟨i1, i2⟩ := two_at ps (sw a b f) n3 (fun x hx => by
      rw [so x (fun e => na (e ▸ hx)) (fun e => n2 (e ▸ hx))]
      exact hf x (by simp [hx]))
    refine ⟨fun i hi => ?_, fun p hp => ?_⟩
    · rw [flat2_cons] at hi
      simp only [List.mem_cons, not_or] at hi
      rw [fms, i1 i hi.2.2, so i hi.1 hi.2.1]
    · rcases List.mem_cons.mp hp with rfl | hp
      · exact ⟨by rw [fms, i1 a na, sa], by rw [fms, i1 b n2, sb]⟩
      · exact i2 p hp
theorem three_at : ∀ (ts : List (Nat × Nat × Nat)) (f : Nat → Nat), (flat3 ts).Nodup → (∀ x ∈ flat3 ts, f x = x) →
    (∀ i, i ∉ flat3 ts → fms (ms3 ts) f i = f i) ∧ ∀ p ∈ ts, fms (ms3 ts) f p.1 = p.2.1 ∧ fms (ms3 ts) f p.2.1 = p.2.2 ∧ fms (ms3 ts) f p.2.2 = p.1
  | [], f, _, _ => ⟨fun _ _ => rfl, fun p h => by cases h⟩
  | (a, b, c) :: ts, f, nd, hf => by
    rw [flat3_cons] at nd hf
    rw [List.nodup_cons, List.nodup_cons, List.nodup_cons] at nd
    obtain ⟨n1, n2, n3, n4⟩ := nd
    have ba : b ≠ a := fun e => n1 (by simp [e])
    have ca : c ≠ a := fun e => n1 (by simp [e])
    have cb : c ≠ b := fun e => n2 (by simp [e])
    have na : a ∉ flat3 ts := fun h => n1 (by simp [h])
    have nb : b ∉ flat3 ts := fun h => n2 (by simp [h])
    have fa := hf a (by simp)
    have fb := hf b (by simp)
    have fc := hf c (by simp)
    have e : fms (ms3 ((a, b, c) :: ts)) f = fms (ms3 ts) (sw a b (sw a c f)) := rfl
    have so : ∀ x, x ≠ a → x ≠ b → x ≠ c → sw a b (sw a c f) x = f x := fun x h1 h2 h3 => by simp only [sw]; rw [if_neg h1, if_neg h2, if_neg h1, if_neg h3]
    have ab := Ne.symm ba
    have ac := Ne.symm ca
    have bc := Ne.symm cb
    have sa : sw a b (sw a c f) a = b := by simp [sw, ba, bc, fb]
    have sb : sw a b (sw a c f) b = c := by simp [sw, ba, fc]
    have sc : sw a b (sw a c f) c = a := by simp [sw, ca, cb, fa]
    obtain ⟨i1, i2⟩ := three_at ts (sw a b (sw a c f)) n4 (fun x hx => by
      rw [so x (fun e => na (e ▸ hx)) (fun e => nb (e ▸ hx)) (fun e => n3 (e ▸ hx))]
      exact hf x (by simp [hx]))
    rw [e]
    refine ⟨fun i hi => ?_, fun p hp => ?_⟩
    · rw [flat3_cons] at hi
      simp only [List.mem_cons, not_or] at hi
      rw [i1 i hi.2.2.2, so i hi.1 hi.2.1 hi.2.2.1]
    · rcases List.mem_cons.mp hp with rfl | hp
      · exact ⟨by rw [i1 a na, sa], by rw [i1 b nb, sb], by rw [i1 c n3, sc]⟩
      · exact i2 p hp
theorem mem_flat2 {ps : List (Nat × Nat)} {x : Nat} : x ∈ flat2 ps ↔ ∃ p ∈ ps, x = p.1 ∨ x = p.2 := by
  unfold flat2
  simp [List.mem_flatMap]
theorem mem_flat3 {ts : List (Nat × Nat × Nat)} {x : Nat} : x ∈ flat3 ts ↔ ∃ p ∈ ts, x = p.1 ∨ x = p.2.1 ∨ x = p.2.2 := by
  unfold flat3
  simp [List.mem_flatMap]
/-- the places that stay -/
theorem stay_len (n : Nat) : ∀ L : List Nat, L.Nodup → (∀ x ∈ L, x < n) → ((List.range n).filter fun i => decide (i ∉ L)).length + L.length = n
  | [], _, _ => by rw [List.filter_eq_self.mpr (by simp), List.length_range]; rfl
  | x :: L, nd, h => by
    rw [List.nodup_cons] at nd
    have ih := stay_len n L nd.2 (fun y hy => h y (by simp [hy]))
    rw [filter_one (fun i => decide (i ∉ L)) x (List.range n) List.nodup_range (List.mem_range.mpr (h x (by simp))) (decide_eq_true nd.1)] at ih
    have e : ((List.range n).filter fun i => decide (i ∉ x :: L)) = (List.range n).filter fun i => decide (i ∉ L) && decide (i ≠ x) := by
      apply List.filter_congr
      intro i _
      simp only [List.mem_cons, not_or]
      by_cases h1 : i = x <;> by_cases h2 : i ∈ L <;> simp [h1, h2]
    rw [e, List.length_cons]
    omega
structure Net (n : Nat) (f g : Nat → Nat) (ps : List (Nat × Nat)) (ts : List (Nat × Nat × Nat)) : Prop where
  pos : 0 < n
  nd2 : (flat2 ps).Nodup
  nd3 : (flat3 ts).Nodup
  lt2 : ∀ x ∈ flat2 ps, x < n
  lt3 : ∀ x ∈ flat3 ts, x < n
  ef : f = fms ps fun i => i
  eg : g = fms (ms3 ts) fun i => i
inductive Rch (n : Nat) (f g : Nat → Nat) : Nat → Prop where
  | z : Rch n f g 0
  | f {i : Nat} : Rch n f g i → Rch n f g (f i)
  | g {i : Nat} : Rch n f g i → Rch n f g (g i)
section
variable {n : Nat} {f g : Nat → Nat} {ps : List (Nat × Nat)} {ts : List (Nat × Nat × Nat)}
theorem Net.f_at (h : Net n f g ps ts) : (∀ i, i ∉ flat2 ps → f i = i) ∧ ∀ p ∈ ps, f p.1 = p.2 ∧ f p.2 = p.1 := by
  rw [h.ef]; exact two_at ps _ h.nd2 fun _ _ => rfl
theorem Net.g_at (h : Net n f g ps ts) : (∀ i, i ∉ flat3 ts → g i = i) ∧ ∀ p ∈ ts, g p.1 = p.2.1 ∧ g p.2.1 = p.2.2 ∧ g p.2.2 = p.1 := by
  rw [h.eg]; exact three_at ts _ h.nd3 fun _ _ => rfl
theorem Net.ff (h : Net n f g ps ts) (i : Nat) : f (f i) = i := by
  obtain ⟨a, b⟩ := h.f_at
  by_cases q : i ∈ flat2 ps
  · obtain ⟨p, hp, rfl | rfl⟩ := mem_flat2.mp q
    · rw [(b p hp).1, (b p hp).2]
    · rw [(b p hp).2, (b p hp).1]
  · rw [a i q, a i q]
theorem Net.ggg (h : Net n f g ps ts) (i : Nat) : g (g (g i)) = i := by
  obtain ⟨a, b⟩ := h.g_at
  by_cases q : i ∈ flat3 ts
  · obtain ⟨p, hp, rfl | rfl | rfl⟩ := mem_flat3.mp q
    · rw [(b p hp).1, (b p hp).2.1, (b p hp).2.2]
    · rw [(b p hp).2.1, (b p hp).2.2, (b p hp).1]
    · rw [(b p hp).2.2, (b p hp).1, (b p hp).2.1]
  · rw [a i q, a i q, a i q]
theorem Net.f_lt (h : Net n f g ps ts) {i : Nat} (hi : i < n) : f i < n := by
  obtain ⟨a, b⟩ := h.f_at
  by_cases q : i ∈ flat2 ps
  · obtain ⟨p, hp, rfl | rfl⟩ := mem_flat2.mp q
    · rw [(b p hp).1]; exact h.lt2 _ (mem_flat2.mpr ⟨p, hp, .inr rfl⟩)
    · rw [(b p hp).2]; exact h.lt2 _ (mem_flat2.mpr ⟨p, hp, .inl rfl⟩)
  · rw [a i q]; exact hi
theorem Net.g_lt (h : Net n f g ps ts) {i : Nat} (hi : i < n) : g i < n := by
  obtain ⟨a, b⟩ := h.g_at
  by_cases q : i ∈ flat3 ts
  · obtain ⟨p, hp, rfl | rfl | rfl⟩ := mem_flat3.mp q
    · rw [(b p hp).1]; exact h.lt3 _ (mem_flat3.mpr ⟨p, hp, .inr (.inl rfl)⟩)
    · rw [(b p hp).2.1]; exact h.lt3 _ (mem_flat3.mpr ⟨p, hp, .inr (.inr rfl)⟩)
    · rw [(b p hp).2.2]; exact h.lt3 _ (mem_flat3.mpr ⟨p, hp, .inl rfl⟩)
  · rw [a i q]; exact hi
theorem Net.fix2 (h : Net n f g ps ts) : ((List.range n).filter fun i => decide (f i = i)).length + 2 * ps.length = n := by
  obtain ⟨a, b⟩ := h.f_at
  have e : ((List.range n).filter fun i => decide (f i = i)) = (List.range n).filter fun i => decide (i ∉ flat2 ps) := by
    apply List.filter_congr
    intro i _
    by_cases q : i ∈ flat2 ps
    · have : f i ≠ i := by
        intro e
        have nd := h.nd2
        obtain ⟨p, hp, hq⟩ := mem_flat2.mp q
        have ne : p.1 ≠ p.2 := by
          obtain ⟨u, v, rfl⟩ := List.append_of_mem hp
          unfold flat2 at nd
          rw [List.flatMap_append, List.flatMap_cons] at nd
          have := (List.nodup_append.mp nd).2.1
          have := (List.nodup_append.mp this).1
          simpa using this
        rcases hq with rfl | rfl
        · rw [(b p hp).1] at e; exact ne e.symm
        · rw [(b p hp).2] at e; exact ne e
      simp [this, q]
    · simp [a i q, q]
  rw [e, ← flat2_len]
  exact stay_len n _ h.nd2 h.lt2
theorem Net.fix3 (h : Net n f g ps ts) : ((List.range n).filter fun i => decide (g i = i)).length + 3 * ts.length = n := by
  obtain ⟨a, b⟩ := h.g_at
  have e : ((List.range n).filter fun i => decide (g i = i)) = (List.range n).filter fun i => decide (i ∉ flat3 ts) := by
    apply List.filter_congr
    intro i _
    by_cases q : i ∈ flat3 ts
    · have : g i ≠ i := by
        intro e
        have nd := h.nd3
        obtain ⟨p, hp, hq⟩ := mem_flat3.mp q
        have ne : p.1 ≠ p.2.1 ∧ p.1 ≠ p.2.2 ∧ p.2.1 ≠ p.2.2 := by
          obtain ⟨u, v, rfl⟩ := List.append_of_mem hp
          unfold flat3 at nd
          rw [List.flatMap_append, List.flatMap_cons] at nd
          have := (List.nodup_append.mp nd).2.1
          have := (List.nodup_append.mp this).1
          simp at this
          exact ⟨this.1.1, this.1.2, this.2⟩
        rcases hq with rfl | rfl | rfl
        · rw [(b p hp).1] at e; exact ne.1 e.symm
        · rw [(b p hp).2.1] at e; exact ne.2.2 e.symm
        · rw [(b p hp).2.2] at e; exact ne.2.1 e
      simp [this, q]
    · simp [a i q, q]
  rw [e, ← flat3_len]
  exact stay_len n _ h.nd3 h.lt3
theorem Net.step (h : Net n f g ps ts) : (fun i => g (f i)) = fms (ms3 ts ++ ps) fun i => i := by
  rw [fms_app, ← h.eg, h.ef]
  have := fms_comp ps g (fun i => i)
  exact this.symm
theorem ms3_mem {a b : Nat} (h : (a, b) ∈ ms3 ts) : ∃ p ∈ ts, a = p.1 ∧ (b = p.2.2 ∨ b = p.2.1) := by
  unfold ms3 at h
  obtain ⟨p, hp, hq⟩ := List.mem_flatMap.mp h
  simp at hq
  rcases hq with ⟨rfl, rfl⟩ | ⟨rfl, rfl⟩
  · exact ⟨p, hp, rfl, .inl rfl⟩
  · exact ⟨p, hp, rfl, .inr rfl⟩
/-- the rounds of a step, of a whole net -/
theorem Net.rounds (h : Net n f g ps ts) (w : ∀ i, i < n → Rch n f g i) :
    cnt n (Cl n fun i => g (f i)) + n ≤ 2 * ts.length + ps.length + 2 ∧ (cnt n (Cl n fun i => g (f i)) + n + (2 * ts.length + ps.length)) % 2 = 0 := by
  have hl : (ms3 ts ++ ps).length = 2 * ts.length + ps.length := by rw [List.length_append, ms3_len]
  rw [h.step, ← hl]
  refine rounds_le h.pos _ (fun m hm => ?_) fun i hi => ?_
  · rcases List.mem_append.mp hm with q | q
    · obtain ⟨p, hp, e1, e2⟩ := ms3_mem (a := m.1) (b := m.2) q
      have nd := h.nd3
      have ne : p.1 ≠ p.2.1 ∧ p.1 ≠ p.2.2 := by
        obtain ⟨u, v, rfl⟩ := List.append_of_mem hp
        unfold flat3 at nd
        rw [List.flatMap_append, List.flatMap_cons] at nd
        have := (List.nodup_append.mp nd).2.1
        have := (List.nodup_append.mp this).1
        simp at this
        exact ⟨this.1.1, this.1.2⟩
      rcases e2 with e2 | e2
      · exact ⟨by rw [e1]; exact h.lt3 _ (mem_flat3.mpr ⟨p, hp, .inl rfl⟩), by rw [e2]; exact h.lt3 _ (mem_flat3.mpr ⟨p, hp, .inr (.inr rfl)⟩), by rw [e1, e2]; exact ne.2⟩
      · exact ⟨by rw [e1]; exact h.lt3 _ (mem_flat3.mpr ⟨p, hp, .inl rfl⟩), by rw [e2]; exact h.lt3 _ (mem_flat3.mpr ⟨p, hp, .inr (.inl rfl)⟩), by rw [e1, e2]; exact ne.1⟩
    · have nd := h.nd2
      have ne : m.1 ≠ m.2 := by
        obtain ⟨u, v, rfl⟩ := List.append_of_mem q
        unfold flat2 at nd
        rw [List.flatMap_append, List.flatMap_cons] at nd
        have := (List.nodup_append.mp nd).2.1
        have := (List.nodup_append.mp this).1
        simpa using this
      exact ⟨h.lt2 _ (mem_flat2.mpr ⟨m, q, .inl rfl⟩), h.lt2 _ (mem_flat2.mpr ⟨m, q, .inr rfl⟩), ne⟩
  · have E : Eqv (Gms (ms3 ts ++ ps) fun i j => i = j) := Gms_eqv _ ⟨fun _ => rfl, fun _ _ h => h.symm, fun _ _ _ h k => h.trans k⟩
    have I : Eqv (fun i j : Nat => i = j) := ⟨fun _ => rfl, fun _ _ h => h.symm, fun _ _ _ h k => h.trans k⟩
    have mem : ∀ {a b : Nat}, (a, b) ∈ ms3 ts ++ ps → Gms (ms3 ts ++ ps) (fun i j => i = j) a b := fun hm => Gms_mem _ I hm
    have ef : ∀ x, Gms (ms3 ts ++ ps) (fun i j => i = j) x (f x) := fun x => by
      obtain ⟨a, b⟩ := h.f_at
      by_cases q : x ∈ flat2 ps
      · obtain ⟨p, hp, rfl | rfl⟩ := mem_flat2.mp q
        · rw [(b p hp).1]; exact mem (List.mem_append_right _ hp)
        · rw [(b p hp).2]; exact E.sy _ _ (mem (List.mem_append_right _ hp))
      · rw [a x q]; exact E.rf x
    have eg : ∀ x, Gms (ms3 ts ++ ps) (fun i j => i = j) x (g x) := fun x => by
      obtain ⟨a, b⟩ := h.g_at
      by_cases q : x ∈ flat3 ts
      · obtain ⟨p, hp, hq⟩ := mem_flat3.mp q
        have m1 : Gms (ms3 ts ++ ps) (fun i j => i = j) p.1 p.2.2 := mem (List.mem_append_left _ (List.mem_flatMap.mpr ⟨p, hp, by simp⟩))
        have m2 : Gms (ms3 ts ++ ps) (fun i j => i = j) p.1 p.2.1 := mem (List.mem_append_left _ (List.mem_flatMap.mpr ⟨p, hp, by simp⟩))
        rcases hq with rfl | rfl | rfl
        · rw [(b p hp).1]; exact m2
        · rw [(b p hp).2.1]; exact E.tr _ _ _ (E.sy _ _ m2) m1
        · rw [(b p hp).2.2]; exact E.sy _ _ m1
      · rw [a x q]; exact E.rf x
    have r := w i hi
    clear hi
    induction r with
    | z => exact E.rf 0
    | f _ ih => exact E.tr _ _ _ ih (ef _)
    | g _ ih => exact E.tr _ _ _ ih (eg _)
/-- the handles: a whole number, not below nought -/
theorem Net.shape (h : Net n f g ps ts) (w : ∀ i, i < n → Rch n f g i) :
    ∃ k : Nat, 12 * (k : Int) = 12 + n - 3 * ((List.range n).filter fun i => decide (f i = i)).length - 4 * ((List.range n).filter fun i => decide (g i = i)).length - 6 * cnt n (Cl n fun i => g (f i)) := by
  obtain ⟨r1, r2⟩ := h.rounds w
  have a := h.fix2
  have b := h.fix3
  generalize cnt n (Cl n fun i => g (f i)) = c at *
  generalize ((List.range n).filter fun i => decide (f i = i)).length = e2 at *
  generalize ((List.range n).filter fun i => decide (g i = i)).length = e3 at *
  generalize ps.length = p at *
  generalize ts.length = t at *
  obtain ⟨j, hj⟩ : ∃ j, 2 * t + p + 2 = c + n + 2 * j := ⟨(2 * t + p + 2 - (c + n)) / 2, by omega⟩
  refine ⟨j, ?_⟩
  omega
theorem Net.bij (h : Net n f g ps ts) : Bij n fun i => g (f i) := by
  refine ⟨fun i hi => h.g_lt (h.f_lt hi), fun i j hi hj e => ?_⟩
  have e : g (f i) = g (f j) := e
  have e1 : f i = f j := by rw [← h.ggg (f i), ← h.ggg (f j), e]
  rw [← h.ff i, ← h.ff j, e1]
end
end PL.PM
end

section
/-! one round, and all of them in turn -/
namespace PL.PM

/-- a round: its length, its places all unlike -/
theorem round_of {n : Nat} {f : Nat → Nat} (h : Bij n f) {k : Nat} (hk : k < n) :
    ∃ p, 0 < p ∧ p ≤ n ∧ it f p k = k ∧ (∀ i j, i < j → j < p → it f i k ≠ it f j k) ∧ ∀ x, Cl n f k x ↔ ∃ i, i < p ∧ it f i k = x := by
  obtain ⟨q, q0, q1⟩ := period h hk
  have min : ∃ p, 0 < p ∧ it f p k = k ∧ ∀ i, 0 < i → i < p → it f i k ≠ k := by
    have : ∀ m q, q ≤ m → 0 < q → it f q k = k → ∃ p, 0 < p ∧ it f p k = k ∧ ∀ i, 0 < i → i < p → it f i k ≠ k := by
      intro m
      induction m with
      | zero => intro q hq h0 _; omega
      | succ m ih =>
        intro q hq h0 h1
        by_cases z : ∃ i, 0 < i ∧ i < q ∧ it f i k = k
        · obtain ⟨i, i0, i1, i2⟩ := z
          exact ih i (by omega) i0 i2
        · exact ⟨q, h0, h1, fun i i0 i1 e => z ⟨i, i0, i1, e⟩⟩
    exact this q q (Nat.le_refl _) q0 q1
  obtain ⟨p, p0, p1, p2⟩ := min
  have dis : ∀ i j, i < j → j < p → it f i k ≠ it f j k := by
    intro i j hij hj e
    have : it f j k = it f i (it f (j - i) k) := by rw [← it_add]; congr 1; omega
    rw [this] at e
    have e2 := it_inj h i hk (it_lt h _ hk) e
    exact p2 (j - i) (by omega) (by omega) e2.symm
  have hn : p ≤ n := by
    have nd : ((List.range p).map fun i => it f i k).Nodup := by
      rw [List.nodup_iff_pairwise_ne, List.pairwise_map]
      refine List.Pairwise.imp_of_mem (fun {a b} ha hb hab => ?_) List.pairwise_lt_range
      exact dis a b hab (List.mem_range.mp hb)
    have := nodup_le n _ nd (fun y hy => by
      obtain ⟨i, _, rfl⟩ := List.mem_map.mp hy
      exact it_lt h i hk)
    simpa using this
  refine ⟨p, p0, hn, p1, dis, fun x => ⟨fun q => ?_, ?_⟩⟩
  · obtain ⟨m, rfl⟩ := reach h q
    refine ⟨m % p, Nat.mod_lt _ p0, ?_⟩
    have e : it f m k = it f (m % p) (it f (p * (m / p)) k) := by rw [← it_add]; congr 1; exact (Nat.div_add_mod m p).symm
    rw [e, period_mul p1]
  · rintro ⟨i, _, rfl⟩
    exact it_cl h i hk
/-- the places of the rounds that are gone through before k -/
def Bef (n : Nat) (f : Nat → Nat) (k : Nat) : Nat → Prop := fun x => ∃ j, j < k ∧ Cl n f j x
theorem bef_lst {n : Nat} {f : Nat → Nat} {k : Nat} : Bef n f k k ↔ ¬ Lst (Cl n f) k := by
  unfold Bef Lst
  constructor
  · rintro ⟨j, h1, h2⟩ q
    exact q j h1 h2
  · intro q
    apply Classical.byContradiction
    intro z
    exact q fun j h1 h2 => z ⟨j, h1, h2⟩
theorem bef_succ {n : Nat} {f : Nat → Nat} {k x : Nat} : Bef n f (k + 1) x ↔ Bef n f k x ∨ Cl n f k x := by
  unfold Bef
  constructor
  · rintro ⟨j, h1, h2⟩
    rcases Nat.lt_or_ge j k with z | z
    · exact .inl ⟨j, z, h2⟩
    · have : j = k := by omega
      subst this
      exact .inr h2
  · rintro (⟨j, h1, h2⟩ | h2)
    · exact ⟨j, by omega, h2⟩
    · exact ⟨k, by omega, h2⟩
theorem bef_cl {n : Nat} {f : Nat → Nat} {k x y : Nat} (h : Bef n f k x) (c : Cl n f x y) : Bef n f k y := by
  obtain ⟨j, h1, h2⟩ := h
  exact ⟨j, h1, .tr h2 c⟩
open Classical in
noncomputable def cto (n : Nat) (f : Nat → Nat) (k : Nat) : Nat := ((List.range k).filter fun i => decide (Lst (Cl n f) i)).length
theorem cto_n (n : Nat) (f : Nat → Nat) : cto n f n = cnt n (Cl n f) := rfl
theorem cto_z (n : Nat) (f : Nat → Nat) : cto n f 0 = 0 := rfl
open Classical in
theorem cto_s (n : Nat) (f : Nat → Nat) (k : Nat) : cto n f (k + 1) = cto n f k + (if Bef n f k k then 0 else 1) := by
  unfold cto
  rw [List.range_succ, List.filter_append, List.length_append]
  congr 1
  by_cases q : Bef n f k k
  · rw [if_pos q, List.filter_cons_of_neg (by simpa using bef_lst.mp q)]; rfl
  · have : Lst (Cl n f) k := by
      apply Classical.byContradiction
      intro z
      exact q (bef_lst.mpr z)
    rw [if_neg q, List.filter_cons_of_pos (by simpa using this)]; rfl
theorem cnt_le {n : Nat} {R : Rl} : cnt n R ≤ n := by
  unfold cnt
  have := List.length_filter_le (fun i => @decide (Lst R i) (Classical.propDecidable _)) (List.range n)
  rw [List.length_range] at this
  exact this
end PL.PM
end

section
/-! more for the laws: cuts, calls, comprehensions -/
namespace PL
open PySem PySem.Spec L2

theorem eqD_bb' (a b : Bool) : eqD (.bl a) (.bl b) = some (decide (a = b)) := by
  simp [eqD, toPy, SeqAt.shaped, PyData.canLay0, PyData.depth, PyData.eqv]
  cases a <;> cases b <;> rfl
theorem eqD_li (xs ys : List Int) : eqD (.lst (xs.map D.int)) (.lst (ys.map D.int)) = some (decide (xs = ys)) := by
  unfold eqD SeqAt.shaped
  simp [toPy, PyData.canLay0, PyData.depth, shaped_ints xs, shaped_ints ys, PyData.eqv, eqv_ints]
theorem cut_fromN {α : Type} (xs : List α) (k : Nat) : cutD xs (some (k : Int)) none = xs.drop k := by
  unfold cutD
  rw [HT.sIx_nat, HT.sIx_none]
  rcases Nat.le_total k xs.length with h | h
  · rw [Nat.min_eq_left h, List.take_of_length_le (by simp)]
  · rw [Nat.min_eq_right h, List.drop_length, List.drop_of_length_le h]; simp
theorem intsD_mapI : ∀ l : List Int, intsD (l.map D.int) = some l
  | [] => rfl
  | x :: l => by simp [intsD, intsD_mapI l]
theorem bls_tr : ∀ ds : List D, blsD (ds.map fun _ => D.bl true) = some (ds.map fun _ => true)
  | [] => rfl
  | x :: l => by simp [blsD, bls_tr l]
theorem all_tr (ds : List D) : biF .all [.lst (ds.map fun _ => D.bl true)] = some (.v (.bl true)) := by
  show (blsD _).map _ = _
  rw [bls_tr]; simp
theorem isort_len : ∀ l : List Int, (isort l).length = l.length
  | [] => rfl
  | x :: l => by
    have ins : ∀ l : List Int, (isort.ins x l).length = l.length + 1 := by
      intro l
      induction l with
      | nil => rfl
      | cons y ys ih =>
        unfold isort.ins
        split
        · simp
        · simp [ih]
    rw [isort, ins, isort_len l]; rfl
section
variable {T : GT} {cf : Nat → List SV → CO} {e e1 e2 : EV}
theorem andFt {a b : E} {r : List E} (he : evE T cf false a e = .ok (.v (.bl true)) e1) : evV T cf false true (a :: b :: r) e = evV T cf false true (b :: r) e1 := by
  rw [x_v2, he]; simp [truth, opt]
theorem vaT {i : Nat} {d : D} (h : e[i]? = some (.val d)) : evE T cf false (.var i) e = .ok (.v d) e := by simp [h]
theorem ev_b1 {b : Bi} {a : E} {d : D} {r : RV} (ha : evE T cf false a e = .ok (.v d) e1 ∨ evE T cf false a e = .ok (.t d) e1) (hb : biF b [d] = some r) : evE T cf false (.bi b [a]) e = .ok r e1 := by
  rw [x_bi, x_a1]
  rcases ha with h | h <;> rw [h] <;> simp [hb]
theorem ev_f1 {a : E} {g : Nat} {d : D} {r : RV} {as : List SV} (ha : evE T cf false a e = .ok (.v d) e1 ∨ evE T cf false a e = .ok (.t d) e1) (hc : cf g [.val d] = .ok r as) : evE T cf false (.call g [a]) e = .ok r e1 := by
  rcases ha with h | h
  · exact ev_call (rs := [.v d]) (by rw [x_a1, h]; simp) rfl rfl hc
  · exact ev_call (rs := [.t d]) (by rw [x_a1, h]; simp) rfl rfl hc
theorem ev_f2 {a b : E} {g : Nat} {d f : D} {r : RV} {as : List SV} (ha : evE T cf false a e = .ok (.v d) e1 ∨ evE T cf false a e = .ok (.t d) e1) (hb : evE T cf false b e1 = .ok (.v f) e2 ∨ evE T cf false b e1 = .ok (.t f) e2) (hc : cf g [.val d, .val f] = .ok r as) : evE T cf false (.call g [a, b]) e = .ok r e2 := by
  rcases ha with h | h <;> rcases hb with k | k
  · exact ev_call (rs := [.v d, .v f]) (by rw [x_a1, h]; simp only [bd_ok]; rw [x_a1, k]; simp) rfl rfl hc
  · exact ev_call (rs := [.v d, .t f]) (by rw [x_a1, h]; simp only [bd_ok]; rw [x_a1, k]; simp) rfl rfl hc
  · exact ev_call (rs := [.t d, .v f]) (by rw [x_a1, h]; simp only [bd_ok]; rw [x_a1, k]; simp) rfl rfl hc
  · exact ev_call (rs := [.t d, .t f]) (by rw [x_a1, h]; simp only [bd_ok]; rw [x_a1, k]; simp) rfl rfl hc
theorem ev_kw1 {a : E} {g : Nat} {p : Str} {F : FnD} {d : D} {r : RV} {as : List SV} (hF : T.fns[g]? = some F) (hk : ∀ r : RV, kwSort F.ps [p] [] [r] = [r]) (ha : evE T cf false a e = .ok (.v d) e1 ∨ evE T cf false a e = .ok (.t d) e1) (hc : cf g [.val d] = .ok r as) : evE T cf false (.callk g [] [p] [a]) e = .ok r e1 := by
  rw [x_callk, x_a0]
  simp only [bd_ok]
  rcases ha with h | h
  · rw [x_a1, h]
    simp only [bd_ok, x_a0, hF, opt, hk, x_do, hands_v, hands_nil, List.nodup_nil, if_true, argsOf_cons, argsOf_nil, argOf_v, Option.bind, Option.map, hc]
    rw [pbn _ _ _ rfl]; rfl
  · rw [x_a1, h]
    simp only [bd_ok, x_a0, hF, opt, hk, x_do, hands_t, hands_nil, List.nodup_nil, if_true, argsOf_cons, argsOf_nil, argOf_t, Option.bind, Option.map, hc]
    rw [pbn _ _ _ rfl]; rfl
theorem ev_kw2 {a b : E} {g : Nat} {p q : Str} {F : FnD} {d f : D} {r : RV} {as : List SV} (hF : T.fns[g]? = some F) (hk : ∀ r s : RV, kwSort F.ps [p, q] [] [r, s] = [r, s]) (ha : evE T cf false a e = .ok (.v d) e1 ∨ evE T cf false a e = .ok (.t d) e1) (hb : evE T cf false b e1 = .ok (.v f) e2 ∨ evE T cf false b e1 = .ok (.t f) e2) (hc : cf g [.val d, .val f] = .ok r as) : evE T cf false (.callk g [] [p, q] [a, b]) e = .ok r e2 := by
  rw [x_callk, x_a0]
  simp only [bd_ok]
  rcases ha with h | h <;> rcases hb with k | k <;>
    (rw [x_a1, h]
     simp only [bd_ok]
     rw [x_a1, k]
     simp only [bd_ok, x_a0, hF, opt, hk, x_do, hands_v, hands_t, hands_nil, List.nodup_nil, if_true, argsOf_cons, argsOf_nil, argOf_v, argOf_t, Option.bind, Option.map, hc]
     rw [pbn _ _ _ rfl]; rfl)
theorem ne_ii {a b : E} {m : Int} (ha : evE T cf false a e = .ok (.v (.int m)) e1) (hb : evE T cf false b e1 = .ok (.v (.int m)) e2) : evE T cf true (.cmp .NotEq a b) e = .ok (.v (.bl false)) e2 := by
  rw [x_cmp, ha]
  simp only [bd_ok]
  rw [hb]
  simp [cmpop, eqD_int, tst, truth, opt]
/-- a comprehension with two names and, if wanted, a condition -/
theorem ev_comp2n {i j : Nat} (hij : i ≠ j) {it : It} {cond : Option E} {elt : E} {ds : List D} {s t : SV} (x y h : D → D) (p : D → Bool) (hi : evI T cf it e = .ok ds e1) (hs : e1[i]? = some s) (ht : e1[j]? = some t) (hl : ds.length ≤ 1000)
    (hf : ∀ d ∈ ds, d = .tup [x d, y d] ∧ evC T cf cond ((e1.set i (.val (x d))).set j (.val (y d))) = .ok (p d) ((e1.set i (.val (x d))).set j (.val (y d))) ∧ (p d = true → evE T cf false elt ((e1.set i (.val (x d))).set j (.val (y d))) = .ok (.v (h d)) ((e1.set i (.val (x d))).set j (.val (y d))))) :
    evE T cf false (.comp [i, j] it (.tp [i, j]) cond elt) e = .ok (.t (.lst ((ds.filter p).map h))) e1 := by
  have hlt := lt_of_get hs
  have hlt2 := lt_of_get ht
  have ha : ∀ a b : D, asg (.tp [i, j]) (.tup [a, b]) ((e1.set j .un).set i .un) = some ((e1.set i (.val a)).set j (.val b)) := by
    intro a b
    have o1 : setOk ((e1.set j .un).set i .un) i = true := setOk_fre (get_set .un (by simpa using hlt)) Fre.un
    have e2 : ((e1.set j .un).set i .un).set i (.val a) = (e1.set i (.val a)).set j .un := by
      rw [List.set_set, List.set_comm _ _ (Ne.symm hij)]
    have o2 : setOk ((e1.set i (.val a)).set j .un) j = true := setOk_fre (get_set .un (by simpa using hlt2)) Fre.un
    show setVals [i, j] [a, b] _ = _
    simp only [setVals, o1, if_true, e2, o2, List.set_set]
  have hc := compL_filter (f := fun d e => opt (asg (.tp [i, j]) d e) fun e1 => (evC T cf cond e1).bd fun k e2 => if k then (evE T cf false elt e2).bd fun r e3 => opt (frz e3 r) fun (x, e4) => .ok (some x) e4 else .ok none e2) (own := [i, j]) (e0 := (e1.set j .un).set i .un) h p ds [] (by
    intro d hd
    obtain ⟨h1, h2, h4⟩ := hf d hd
    have h3 := ha (x d) (y d)
    rw [← h1] at h3
    refine ⟨(e1.set i (.val (x d))).set j (.val (y d)), ?_, ?_⟩
    · simp only [h3, opt, h2, bd_ok]
      by_cases hp : p d = true
      · rw [if_pos hp, if_pos hp, h4 hp]; rfl
      · rw [if_neg hp, if_neg hp]
    · show (((e1.set i (.val (x d))).set j (.val (y d))).set j .un).set i .un = _
      rw [List.set_set, List.set_comm _ _ hij, List.set_set]) (by simp [sizeL]; omega)
  rw [x_comp, hi]
  simp only [tst, Bool.false_eq_true, if_false, bd_ok, wipeE_cons, wipeE_nil]
  rw [hc]
  simp only [bd_ok, List.nil_append, unwipe_cons, unwipe_nil, hs, ht]
  rw [List.set_comm _ _ hij, List.set_set, List.set_set, set_same ht, set_same hs]
end
section
variable {N : Nat} {kv : List (Nat × SV)} {e : EV}
theorem Q.over' {rest : List (Nat × SV)} {i : Nat} {t : SV} (q : Q N rest e) (h1 : 1 ≤ i) (h2 : i < N) (f : Fre t) (ho : ∀ p ∈ rest, p.1 ≠ i) : Q N ((i, t) :: rest) (e.set i t) := by
  have := Q.set q h1 h2 f
  rwa [List.filter_eq_self.mpr (fun p hp => by simp [ho p hp])] at this
end
end PL
end

section
/-! steps of blocks, each by its own rule (no unfolding of what is told) -/
namespace PL
open PySem PySem.Spec L2
section
variable {T : GT} {cf : Nat → List SV → CO} {e e1 e2 : EV}
theorem bN {s : S} {ss : List S} (h : exS T cf s e = .ok .next e1) : exB T cf (s :: ss) e = exB T cf ss e1 := by
  rw [x_b1, h]; rfl
theorem bR {s : S} {ss : List S} {r : RV} (h : exS T cf s e = .ok (.ret r) e1) : exB T cf (s :: ss) e = .ok (.ret r) e1 := by
  rw [x_b1, h]; rfl
theorem st_ret {x : E} {d : D} (h : evE T cf false x e = .ok (.v d) e1) : exS T cf (.ret x) e = .ok (.ret (.v d)) e1 := by
  rw [x_ret, h]; rfl
theorem st_rett {x : E} {d : D} (h : evE T cf false x e = .ok (.t d) e1) : exS T cf (.ret x) e = .ok (.ret (.t d)) e1 := by
  rw [x_ret, h]; rfl
theorem st_unp {x : E} {is : List Nat} {ds : List D} (h : evE T cf false x e = .ok (.v (.tup ds)) e1) (hs : setVals is ds e1 = some e2) : exS T cf (.unp is x) e = .ok .next e2 := by
  rw [x_unp, h]
  simp only [bd_ok, x_cont_v, opt]
  rw [hs]
theorem st_ifT {c : E} {a b : List S} (h : evE T cf true c e = .ok (.v (.bl true)) e1) : exS T cf (.if_ c a b) e = exB T cf a e1 := by
  rw [x_if, h]; simp [toB]
theorem st_ifF {c : E} {a b : List S} (h : evE T cf true c e = .ok (.v (.bl false)) e1) : exS T cf (.if_ c a b) e = exB T cf b e1 := by
  rw [x_if, h]; simp [toB]
theorem tsT {x : E} {b : Bool} (hm : evE T cf true x e = tst true (evE T cf false x e)) (h : evE T cf false x e = .ok (.v (.bl b)) e1) : evE T cf true x e = .ok (.v (.bl b)) e1 := by
  rw [hm, h]; simp [tst, truth, opt]
theorem fnR {n g : Nat} {F : FnD} {as : List SV} {d : D} (hF : T.fns[g]? = some F) (hl : as.length = F.ps.length) (hb : exB T (callF T n) F.body (as ++ List.replicate (F.N.length - as.length) .un) = .ok (.ret (.v d)) e1) : callF T (n+1) g as = .ok (.v d) (outs as e1) := by
  rw [x_callF T n g _ hF hl, hb]; rfl
theorem fnRt {n g : Nat} {F : FnD} {as : List SV} {d : D} (hF : T.fns[g]? = some F) (hl : as.length = F.ps.length) (hb : exB T (callF T n) F.body (as ++ List.replicate (F.N.length - as.length) .un) = .ok (.ret (.t d)) e1) : callF T (n+1) g as = .ok (.t d) (outs as e1) := by
  rw [x_callF T n g _ hF hl, hb]; rfl
/-! numbers -/
theorem iT {i : Int} : evE T cf false (.int i) e = .ok (.v (.int i)) e := by simp
theorem ev_ix {x i : E} {d k r : D} (hx : evE T cf false x e = .ok (.v d) e1) (hi : evE T cf false i e1 = .ok (.v k) e2) (h : item d k = some r) : evE T cf false (.ix x i) e = .ok (.v r) e2 := by
  rw [x_ix, hx]
  simp only [bd_ok]
  rw [hi]
  simp [h, tst]
theorem ev_bin {o : Bop} {x y : E} {a b : D} {r : RV} (hx : evE T cf false x e = .ok (.v a) e1) (hy : evE T cf false y e1 = .ok (.v b) e2) (h : binop o a b = some r) : evE T cf false (.bin o x y) e = .ok r e2 := by
  rw [x_bin, hx]
  simp only [bd_ok]
  rw [hy]
  simp only [bd_ok, x_cont_v, opt, h, tst_false]
theorem ev_add {x y : E} {i j : Int} (hx : evE T cf false x e = .ok (.v (.int i)) e1) (hy : evE T cf false y e1 = .ok (.v (.int j)) e2) : evE T cf false (.bin .add x y) e = .ok (.v (.int (i + j))) e2 := ev_bin hx hy rfl
theorem ev_sub {x y : E} {i j : Int} (hx : evE T cf false x e = .ok (.v (.int i)) e1) (hy : evE T cf false y e1 = .ok (.v (.int j)) e2) : evE T cf false (.bin .sub x y) e = .ok (.v (.int (i - j))) e2 := ev_bin hx hy rfl
theorem ev_mul {x y : E} {i j : Int} (hm : mulOk i j = true) (hx : evE T cf false x e = .ok (.v (.int i)) e1) (hy : evE T cf false y e1 = .ok (.v (.int j)) e2) : evE T cf false (.bin .mul x y) e = .ok (.v (.int (i * j))) e2 := ev_bin hx hy (by rw [bin_mul, if_pos hm])
theorem ev_div {x y : E} {i j : Int} (hm : divOk j = true) (hx : evE T cf false x e = .ok (.v (.int i)) e1) (hy : evE T cf false y e1 = .ok (.v (.int j)) e2) : evE T cf false (.bin .fdiv x y) e = .ok (.v (.int (i / j))) e2 := ev_bin hx hy (by rw [bin_fdiv, if_pos hm])
theorem ev_mod {x y : E} {i j : Int} (hm : 0 < j) (hx : evE T cf false x e = .ok (.v (.int i)) e1) (hy : evE T cf false y e1 = .ok (.v (.int j)) e2) : evE T cf false (.bin .mod x y) e = .ok (.v (.int (i % j))) e2 := ev_bin hx hy (by show (if 0 < j then _ else _) = _; rw [if_pos hm])
theorem ev_cmp {o : CmpOp} {x y : E} {a b : D} {k : Bool} (hx : evE T cf false x e = .ok (.v a) e1) (hy : evE T cf false y e1 = .ok (.v b) e2) (h : cmpop o a b = some k) (m : Bool) : evE T cf m (.cmp o x y) e = .ok (.v (.bl k)) e2 := by
  rw [x_cmp, hx]
  simp only [bd_ok]
  rw [hy]
  cases m <;> simp [h, tst, truth, opt]
theorem ev_lt {x y : E} {i j : Int} (hx : evE T cf false x e = .ok (.v (.int i)) e1) (hy : evE T cf false y e1 = .ok (.v (.int j)) e2) (m : Bool) : evE T cf m (.cmp .Lt x y) e = .ok (.v (.bl (decide (i < j)))) e2 := ev_cmp hx hy rfl m
theorem ev_le {x y : E} {i j : Int} (hx : evE T cf false x e = .ok (.v (.int i)) e1) (hy : evE T cf false y e1 = .ok (.v (.int j)) e2) (m : Bool) : evE T cf m (.cmp .LtE x y) e = .ok (.v (.bl (decide (i ≤ j)))) e2 := ev_cmp hx hy rfl m
theorem ev_gt {x y : E} {i j : Int} (hx : evE T cf false x e = .ok (.v (.int i)) e1) (hy : evE T cf false y e1 = .ok (.v (.int j)) e2) (m : Bool) : evE T cf m (.cmp .Gt x y) e = .ok (.v (.bl (decide (j < i)))) e2 := ev_cmp hx hy rfl m
theorem ev_ge {x y : E} {i j : Int} (hx : evE T cf false x e = .ok (.v (.int i)) e1) (hy : evE T cf false y e1 = .ok (.v (.int j)) e2) (m : Bool) : evE T cf m (.cmp .GtE x y) e = .ok (.v (.bl (decide (j ≤ i)))) e2 := ev_cmp hx hy rfl m
theorem ev_eqi {x y : E} {i j : Int} (hx : evE T cf false x e = .ok (.v (.int i)) e1) (hy : evE T cf false y e1 = .ok (.v (.int j)) e2) (m : Bool) : evE T cf m (.cmp .Eq x y) e = .ok (.v (.bl (decide (i = j)))) e2 := ev_cmp hx hy (by simp [cmpop, eqD_int]) m
theorem ev_nei {x y : E} {i j : Int} (hx : evE T cf false x e = .ok (.v (.int i)) e1) (hy : evE T cf false y e1 = .ok (.v (.int j)) e2) (m : Bool) : evE T cf m (.cmp .NotEq x y) e = .ok (.v (.bl (!decide (i = j)))) e2 := ev_cmp hx hy (by simp [cmpop, eqD_int]) m
theorem st_ifb {c : E} {a b : List S} {k : Bool} (h : evE T cf true c e = .ok (.v (.bl k)) e1) : exS T cf (.if_ c a b) e = if k = true then exB T cf a e1 else exB T cf b e1 := by
  cases k
  · rw [st_ifF h]; rfl
  · rw [st_ifT h]; rfl
theorem ev_ite {c a b : E} {k : Bool} (h : evE T cf true c e = .ok (.v (.bl k)) e1) : evE T cf false (.ite c a b) e = if k = true then evE T cf false a e1 else evE T cf false b e1 := by
  rw [x_ite, h]
  cases k <;> simp [toB]
theorem ev_calln {g : Nat} {as : List E} {r : RV} {rs : List RV} {ss : List SV} {outs' : List SV} (ha : evA T cf as e = .ok rs e1) (hh : hands rs = []) (hs : argsOf e1 rs = some ss) (hc : cf g ss = .ok r outs') : evE T cf false (.call g as) e = .ok r e1 := ev_call ha hh hs hc
theorem eA0 : evA T cf [] e = .ok [] e := x_a0 ..
theorem eA1 {x : E} {r : RV} {es : List E} {rs : List RV} (hx : evE T cf false x e = .ok r e1) (hy : evA T cf es e1 = .ok rs e2) : evA T cf (x :: es) e = .ok (r :: rs) e2 := by
  rw [x_a1, hx]
  simp only [bd_ok]
  rw [hy]; rfl
theorem frzs_vs : ∀ (ds : List D) (e : EV), frzs e (ds.map RV.v) = some (ds, e)
  | [], e => rfl
  | d :: ds, e => by
    show (frz e (.v d)).bind _ = _
    rw [x_frz_v]
    simp [frzs_vs ds e]
theorem ev_tup {es : List E} {ds : List D} (h : evA T cf es e = .ok (ds.map RV.v) e1) (hl : ds.length ≤ 100) : evE T cf false (.tup es) e = .ok (.v (.tup ds)) e1 := by
  rw [x_tup, h]
  simp only [bd_ok, frzs_vs, opt, tst_false]
  rw [if_pos (by unfold sizeL; omega)]
theorem ev_lst {es : List E} {ds : List D} (h : evA T cf es e = .ok (ds.map RV.v) e1) (hl : ds.length ≤ 100) : evE T cf false (.lst es) e = .ok (.t (.lst ds)) e1 := by
  rw [x_lst, h]
  simp only [bd_ok, frzs_vs, opt, tst_false]
  rw [if_pos (by unfold sizeL; omega)]
theorem conts_vs : ∀ (ds : List D) (e : EV), conts e (ds.map RV.v) = some ds
  | [], e => rfl
  | d :: ds, e => by
    show (cont e (.v d)).bind _ = _
    rw [x_cont_v]
    simp [conts_vs ds e]
theorem ev_rngV {es : List E} {vs ds : List D} (h : evA T cf es e = .ok (vs.map RV.v) e1) (hr : rngD vs = some ds) : evI T cf (.rng es) e = .ok ds e1 := by
  rw [x_ir, h]
  simp only [bd_ok, conts_vs, Option.bind, opt, hr]
/-- a comprehension over a range by a call of what stands in names and the running one -/
theorem ev_compf {i : Nat} {it : It} {elt : E} {ds : List D} {s : SV} (h : D → D) (hi : evI T cf it e = .ok ds e1) (hs : e1[i]? = some s) (hl : ds.length ≤ 1000)
    (hf : ∀ d ∈ ds, evE T cf false elt (e1.set i (.val d)) = .ok (.v (h d)) (e1.set i (.val d))) :
    evE T cf false (.comp [i] it (.nm i) none elt) e = .ok (.t (.lst (ds.map h))) e1 := by
  have := ev_comp (T := T) (cf := cf) (cond := none) (elt := elt) (fun _ => true) h hi hs hl fun d hd => ⟨x_c0 .., fun _ => .inl (hf d hd)⟩
  rwa [List.filter_eq_self.mpr (fun _ _ => rfl)] at this
end
theorem mulL {i j : Int} (h : i.natAbs < 2 ^ 64) : mulOk i j = true := by
  unfold mulOk
  simp [h]
theorem mulR {i j : Int} (h : j.natAbs < 2 ^ 64) : mulOk i j = true := by
  unfold mulOk
  simp [h]
end PL
end

section
/-! what an expression holds (by value or by handle), lists in slots, calls that lend a slot -/
namespace PL
open PySem PySem.Spec L2
def CV (T : GT) (cf : Nat → List SV → CO) (e : EV) (x : E) (d : D) : Prop := ∃ r, evE T cf false x e = .ok r e ∧ cont e r = some d
section
variable {T : GT} {cf : Nat → List SV → CO} {e e1 e2 : EV}
theorem CV.v {x : E} {d : D} (h : evE T cf false x e = .ok (.v d) e) : CV T cf e x d := ⟨_, h, rfl⟩
theorem CV.t {x : E} {d : D} (h : evE T cf false x e = .ok (.t d) e) : CV T cf e x d := ⟨_, h, rfl⟩
theorem vaO {i : Nat} {d : D} (h : e[i]? = some (.own d)) : evE T cf false (.var i) e = .ok (.h i) e := by
  rw [x_var, h]; rfl
theorem vaB {i : Nat} {d : D} (h : e[i]? = some (.bor d)) : evE T cf false (.var i) e = .ok (.h i) e := by
  rw [x_var, h]; rfl
theorem CV.own {i : Nat} {d : D} (h : e[i]? = some (.own d)) : CV T cf e (.var i) d := ⟨_, vaO h, by rw [x_cont_h, h]; rfl⟩
theorem CV.bor {i : Nat} {d : D} (h : e[i]? = some (.bor d)) : CV T cf e (.var i) d := ⟨_, vaB h, by rw [x_cont_h, h]; rfl⟩
theorem ev_ixC {x i : E} {d k r : D} (hx : CV T cf e x d) (hi : CV T cf e i k) (h : item d k = some r) : evE T cf false (.ix x i) e = .ok (.v r) e := by
  obtain ⟨r1, h1, c1⟩ := hx
  obtain ⟨r2, h2, c2⟩ := hi
  rw [x_ix, h1]
  simp only [bd_ok]
  rw [h2]
  simp only [bd_ok, c1, c2, opt, h, tst_false]
theorem ev_biC {b : Bi} {x : E} {d : D} {r : RV} (hx : CV T cf e x d) (h : biF b [d] = some r) : evE T cf false (.bi b [x]) e = .ok r e := by
  obtain ⟨r1, h1, c1⟩ := hx
  rw [x_bi, x_a1, h1]
  simp only [bd_ok, x_a0, x_conts1, x_conts0, c1, Option.bind, Option.map, opt, h, tst_false]
theorem ev_cmpC {o : CmpOp} {x y : E} {a b : D} {k : Bool} (hx : CV T cf e x a) (hy : CV T cf e y b) (h : cmpop o a b = some k) (m : Bool) : evE T cf m (.cmp o x y) e = .ok (.v (.bl k)) e := by
  obtain ⟨r1, h1, c1⟩ := hx
  obtain ⟨r2, h2, c2⟩ := hy
  rw [x_cmp, h1]
  simp only [bd_ok]
  rw [h2]
  simp only [bd_ok, c1, c2, opt, h]
  cases m <;> simp [tst, truth, opt]
theorem ev_slC {x : E} {d : D} {k : Int} {r : RV} (hx : CV T cf e x d) (h : sliceD d (some k) none = some r) : evE T cf false (.sl x (some (.int k)) none) e = .ok r e := by
  obtain ⟨r1, h1, c1⟩ := hx
  rw [x_sl, h1]
  simp only [bd_ok]
  rw [x_o1, iT]
  simp only [bd_ok, x_cont_v, Option.bind, intD, opt, x_o0, c1, h, tst_false]
theorem upS_own {i : Nat} {d d' : D} (h : e[i]? = some (.own d)) : upS e i d' = e.set i (.own d') := by
  unfold upS; rw [h]
theorem mine_own' {i : Nat} {d : D} (h : e[i]? = some (.own d)) : mineD e i = some d := by
  unfold mineD; rw [h]
theorem st_app {i : Nat} {a : E} {d : D} {xs : List D} (h : e[i]? = some (.own (.lst xs))) (ha : evE T cf false a e = .ok (.v d) e) (hl : xs.length < 1000000) : exS T cf (.ex (.app i a)) e = .ok .next (e.set i (.own (.lst (xs ++ [d])))) := by
  have l1 : lstAt e i = true := by unfold lstAt; rw [mine_own' h]
  rw [x_ex, x_app, l1, if_pos rfl, ha]
  simp only [bd_ok, x_frz_v, opt, mine_own' h]
  rw [if_pos (show xs.length < sizeL by unfold sizeL; omega), tst_false, upS_own h]
  rfl
theorem ev_pop {i : Nat} {xs : List D} {d : D} (h : e[i]? = some (.own (.lst (xs ++ [d])))) : evE T cf false (.pop i) e = .ok (.v d) (e.set i (.own (.lst xs))) := by
  rw [x_pop, mine_own' h]
  have : (xs ++ [d])[(xs ++ [d]).length - 1]? = some d := by simp
  simp only [this, opt, tst_false, List.dropLast_concat]
  rw [upS_own h]
/-- a call that lends a slot it owns and gets it back -/
theorem ev_cho {i g : Nat} {es : List E} {rs : List RV} {ss as' : List SV} {x x' : D} {r : RV} (hx : e[i]? = some (.own x)) (ha : evA T cf es e = .ok rs e) (hh : hands rs = []) (hs : argsOf e rs = some ss) (hc : cf g (.bor x :: ss) = .ok r (.bor x' :: as')) :
    evE T cf false (.call g (.var i :: es)) e = .ok r (e.set i (.own x')) := by
  rw [x_call, x_a1, vaO hx]
  simp only [bd_ok]
  rw [ha]
  simp only [bd_ok, x_do, hands_h, hh, argsOf_cons, argOf_h, hx, hs, Option.bind, Option.map]
  rw [if_pos (by simp), hc]
  simp only [tst_false, pb_cons, pb_hb, hx]
  rw [pbn _ _ _ hh]
theorem ev_chb {i g : Nat} {es : List E} {rs : List RV} {ss as' : List SV} {x x' : D} {r : RV} (hx : e[i]? = some (.bor x)) (ha : evA T cf es e = .ok rs e) (hh : hands rs = []) (hs : argsOf e rs = some ss) (hc : cf g (.bor x :: ss) = .ok r (.bor x' :: as')) :
    evE T cf false (.call g (.var i :: es)) e = .ok r (e.set i (.bor x')) := by
  rw [x_call, x_a1, vaB hx]
  simp only [bd_ok]
  rw [ha]
  simp only [bd_ok, x_do, hands_h, hh, argsOf_cons, argOf_h, hx, hs, Option.bind, Option.map]
  rw [if_pos (by simp), hc]
  simp only [tst_false, pb_cons, pb_hb, hx]
  rw [pbn _ _ _ hh]
/-- two slots lent -/
theorem ev_cho2 {i j g : Nat} {x y x' y' : D} {r : RV} (hij : i ≠ j) (hx : e[i]? = some (.own x)) (hy : e[j]? = some (.own y)) (hc : cf g [.bor x, .bor y] = .ok r [.bor x', .bor y']) :
    evE T cf false (.call g [.var i, .var j]) e = .ok r ((e.set i (.own x')).set j (.own y')) := by
  rw [x_call, x_a1, vaO hx]
  simp only [bd_ok]
  rw [x_a1, vaO hy]
  simp only [bd_ok, x_a0, x_do, hands_h, hands_nil, argsOf_cons, argsOf_nil, argOf_h, hx, hy, Option.bind, Option.map]
  rw [if_pos (by simp [hij]), hc]
  simp only [tst_false, pb_cons, pb_nil, pb_hb, hx]
  rw [get_ne _ _ _ _ hij, hy]
theorem toB_v {b : Bool} {x : Out RV} (h : x = .ok (.v (.bl b)) e1) : toB x = .ok b e1 := by
  rw [h]; cases b <;> simp [toB, truth, opt]
theorem st_par {is : List Nat} {es : List E} {rs : List RV} (ha : evA T cf es e = .ok rs e1) (hf : fzRs e1 rs = some (rs, e1)) (hs : setRs is rs e1 = some e2) : exS T cf (.par is es) e = .ok .next e2 := by
  rw [x_par, ha]
  simp only [bd_ok, hf, opt, hs]
end
end PL
end

section
namespace PL.K20
open PySem PySem.Spec L2 PL
def top (i : Nat) : Stmt := PySem.Challenge.pw_tablelots_k20_whole_numbers_of_forms.main.body.getD i (.Pass ⟨0, 0, 0, 0⟩)
abbrev s0 : Stmt := top 5
/-- is_number -/
def f0 : FnD := ⟨"is_number", ["thing"], ["thing"], [
  .ret (.andor true [.isi (.var 0) ["int"], .not_ (.isi (.var 0) ["bool"])])]⟩
abbrev s1 : Stmt := top 6
/-- is_within -/
def f1 : FnD := ⟨"is_within", ["thing", "least", "most"], ["thing", "least", "most"], [
  .ret (.andor true [.call 0 [.var 0], .chain .LtE .LtE (.var 1) (.var 0) (.var 2)])]⟩
abbrev s2 : Stmt := top 7
/-- is_long -/
def f2 : FnD := ⟨"is_long", ["thing", "length"], ["thing", "length"], [
  .ret (.andor true [.isi (.var 0) ["tuple"], .cmp .Eq (.bi .len [.var 0]) (.var 1)])]⟩
abbrev s3 : Stmt := top 8
/-- are_numbers -/
def f3 : FnD := ⟨"are_numbers", ["thing", "length"], ["thing", "length", "own"], [
  .ret (.andor true [.call 2 [.var 0, .var 1], .bi .all [.comp [2] (.e (.var 0)) (.nm 2) none (.call 0 [.var 2])]])]⟩
abbrev s4 : Stmt := top 9
/-- tupled -/
def f4 : FnD := ⟨"tupled", ["value"], ["value", "own"], [
  .ret (.ite (.isi (.var 0) ["list", "tuple"]) (.bi .tuple [.comp [1] (.e (.var 0)) (.nm 1) none (.call 4 [.var 1])]) (.var 0))]⟩
abbrev s5 : Stmt := top 10
/-- is_order -/
def f5 : FnD := ⟨"is_order", ["thing", "many"], ["thing", "many"], [
  .ret (.andor true [.call 3 [.var 0, .var 1], .cmp .Eq (.bi .sorted [.var 0]) (.lrg false (.var 1))])]⟩
abbrev s6 : Stmt := top 11
/-- behind -/
def f6 : FnD := ⟨"behind", ["one", "other"], ["one", "other", "own"], [
  .ret (.bi .tuple [.comp [2] (.e (.var 0)) (.nm 2) none (.ix (.var 1) (.var 2))])]⟩
abbrev s7 : Stmt := top 12
/-- rounds -/
def f7 : FnD := ⟨"rounds", ["order"], ["order", "gone", "found", "start", "own", "here"], [
  .par [1, 2] [.dnew false, .lst []],
  .for_ (.nm 3) (.rng [.bi .len [.var 0]]) [.if_ (.cmp .NotIn (.var 3) (.var 1)) [.par [4, 5] [.lst [], .var 3], .wh (.cmp .NotIn (.var 5) (.var 1)) [.six 1 (.var 5) (.bl true), .ex (.app 4 (.var 5)), .set 5 (.ix (.var 0) (.var 5))], .ex (.app 2 (.bi .tuple [.var 4]))] []],
  .ret (.var 2)]⟩
abbrev s8 : Stmt := top 15
/-- is_whole -/
def f8 : FnD := ⟨"is_whole", ["two", "three"], ["two", "three"], [
  .ret (.cmp .Eq (.bi .len [.call 9 [.var 0, .var 1, .int 0]]) (.bi .len [.var 0]))]⟩
abbrev s9 : Stmt := top 16
/-- listed -/
def f9 : FnD := ⟨"listed", ["two", "three", "start"], ["two", "three", "start", "found", "gone", "place", "order", "own"], [
  .par [3, 4, 5] [.lst [.var 2], .dd1 (.var 2) (.bl true), .int 0],
  .wh (.cmp .Lt (.var 5) (.bi .len [.var 3])) [.for_ (.nm 6) (.e (.tup [.var 0, .var 1])) [.set 7 (.ix (.var 6) (.ix (.var 3) (.var 5))), .if_ (.cmp .NotIn (.var 7) (.var 4)) [.six 4 (.var 7) (.bl true), .ex (.app 3 (.var 7))] []], .aug 5 .add (.int 1)],
  .ret (.var 3)]⟩
abbrev s10 : Stmt := top 17
/-- is_lot_of -/
def f10 : FnD := ⟨"is_lot_of", ["thing"], ["thing", "many", "two", "three", "own"], [
  .if_ (.andor false [.not_ (.call 2 [.var 0, .int 2]), .not_ (.isi (.ix (.var 0) (.int 0)) ["tuple"]), .not_ (.chain .LtE .LtE (.int 1) (.bi .len [.ix (.var 0) (.int 0)]) (.con 0))]) [.ret (.bl false)] [],
  .set 1 (.bi .len [.ix (.var 0) (.int 0)]),
  .if_ (.andor false [.not_ (.call 5 [.ix (.var 0) (.int 0), .var 1]), .not_ (.call 5 [.ix (.var 0) (.int 1), .var 1])]) [.ret (.bl false)] [],
  .unp [2, 3] (.var 0),
  .if_ (.not_ (.bi .all [.comp [4] (.rng [.var 1]) (.nm 4) none (.andor true [.cmp .Eq (.ix (.var 2) (.ix (.var 2) (.var 4))) (.var 4), .cmp .Eq (.ix (.var 3) (.ix (.var 3) (.ix (.var 3) (.var 4)))) (.var 4)])])) [.ret (.bl false)] [],
  .ret (.call 8 [.var 2, .var 3])]⟩
abbrev s11 : Stmt := top 18
/-- sure_lot -/
def f11 : FnD := ⟨"sure_lot", ["lot"], ["lot", "own"], [
  .set 1 (.call 4 [.var 0]),
  .if_ (.not_ (.call 10 [.var 1])) [.raise_ 2] [],
  .ret (.var 1)]⟩
abbrev s12 : Stmt := top 19
/-- step_order -/
def f12 : FnD := ⟨"step_order", ["lot"], ["lot"], [
  .ret (.call 6 [.ix (.var 0) (.int 0), .ix (.var 0) (.int 1)])]⟩
abbrev s13 : Stmt := top 21
/-- corners_in -/
def f13 : FnD := ⟨"corners_in", ["lot"], ["lot"], [
  .ret (.call 7 [.call 12 [.var 0]])]⟩
abbrev s14 : Stmt := top 23
/-- kept_by -/
def f14 : FnD := ⟨"kept_by", ["order"], ["order", "place", "own"], [
  .ret (.comp [1, 2] (.enum (.var 0)) (.tp [1, 2]) (some (.cmp .Eq (.var 2) (.var 1))) (.var 1))]⟩
abbrev s15 : Stmt := top 24
/-- handles_in -/
def f15 : FnD := ⟨"handles_in", ["lot"], ["lot"], [
  .ret (.bin .fdiv (.bin .sub (.bin .sub (.bin .sub (.bin .add (.int 12) (.bi .len [.ix (.var 0) (.int 0)])) (.bin .mul (.int 3) (.bi .len [.call 14 [.ix (.var 0) (.int 0)]]))) (.bin .mul (.int 4) (.bi .len [.call 14 [.ix (.var 0) (.int 1)]]))) (.bin .mul (.int 6) (.bi .len [.call 13 [.var 0]]))) (.int 12))]⟩
abbrev s16 : Stmt := top 27
/-- parts_of -/
def f16 : FnD := ⟨"parts_of", ["lot"], ["lot"], [
  .ret (.tup [.call 15 [.var 0], .bi .len [.call 14 [.ix (.var 0) (.int 0)]], .bi .len [.call 14 [.ix (.var 0) (.int 1)]], .bi .len [.call 13 [.var 0]]])]⟩
abbrev s17 : Stmt := top 28
/-- whole_forms -/
def f17 : FnD := ⟨"whole_forms", ["lot", "weight"], ["lot", "weight", "handles", "twos", "threes", "corners", "half"], [
  .unp [2, 3, 4, 5] (.call 16 [.var 0]),
  .if_ (.cmp .LtE (.var 1) (.int 0)) [.ret (.ite (.cmp .Eq (.var 1) (.int 0)) (.int 1) (.int 0))] [],
  .if_ (.cmp .Eq (.var 1) (.int 2)) [.ret (.bin .sub (.bin .add (.var 2) (.var 5)) (.int 1))] [],
  .set 6 (.bin .fdiv (.var 1) (.int 2)),
  .ret (.bin .add (.bin .add (.bin .add (.bin .mul (.bin .sub (.var 1) (.int 1)) (.bin .sub (.var 2) (.int 1))) (.bin .mul (.bin .fdiv (.var 1) (.int 4)) (.var 3))) (.bin .mul (.bin .fdiv (.var 1) (.int 3)) (.var 4))) (.bin .mul (.var 6) (.var 5)))]⟩
abbrev s18 : Stmt := top 29
/-- corner_free -/
def f18 : FnD := ⟨"corner_free", ["lot", "weight"], ["lot", "weight", "handles", "twos", "threes", "corners"], [
  .unp [2, 3, 4, 5] (.call 16 [.var 0]),
  .if_ (.cmp .LtE (.var 1) (.int 0)) [.ret (.int 0)] [],
  .if_ (.cmp .Eq (.var 1) (.int 2)) [.ret (.var 2)] [],
  .ret (.bin .sub (.call 17 [.var 0, .var 1]) (.var 5))]⟩
abbrev s19 : Stmt := top 30
/-- sure_weight -/
def f19 : FnD := ⟨"sure_weight", ["weight"], ["weight"], [
  .if_ (.andor false [.not_ (.call 1 [.var 0, .bin .sub (.int 0) (.con 1), .con 1]), .cmp .Eq (.bin .mod (.var 0) (.int 2)) (.int 1)]) [.raise_ 2] [],
  .ret (.var 0)]⟩
abbrev s20 : Stmt := top 31
/-- forms -/
def f20 : FnD := ⟨"forms", ["lot", "weight"], ["lot", "weight", "own"], [
  .set 2 (.call 11 [.var 0]),
  .ret (.call 17 [.var 2, .call 19 [.var 1]])]⟩
abbrev s21 : Stmt := top 32
/-- corner_forms -/
def f21 : FnD := ⟨"corner_forms", ["lot", "weight"], ["lot", "weight", "own"], [
  .set 2 (.call 11 [.var 0]),
  .ret (.call 18 [.var 2, .call 19 [.var 1]])]⟩
abbrev s22 : Stmt := top 33
/-- growth -/
def f22 : FnD := ⟨"growth", ["lot"], ["lot", "own"], [
  .set 1 (.call 11 [.var 0]),
  .ret (.tup [.bi .len [.ix (.var 1) (.int 0)], .int 4])]⟩
abbrev s23 : Stmt := top 34
/-- row_of_forms -/
def f23 : FnD := ⟨"row_of_forms", ["lot", "most"], ["lot", "most", "own", "weight"], [
  .set 2 (.call 11 [.var 0]),
  .if_ (.not_ (.call 1 [.var 1, .int 0, .int 1000])) [.raise_ 2] [],
  .ret (.bi .tuple [.comp [3] (.rng [.int 0, .bin .add (.var 1) (.int 1), .int 2]) (.nm 3) none (.call 17 [.var 2, .var 3])])]⟩
abbrev s24 : Stmt := top 35
/-- corner_row -/
def f24 : FnD := ⟨"corner_row", ["lot", "most"], ["lot", "most", "own", "weight"], [
  .set 2 (.call 11 [.var 0]),
  .if_ (.not_ (.call 1 [.var 1, .int 0, .int 1000])) [.raise_ 2] [],
  .ret (.bi .tuple [.comp [3] (.rng [.int 0, .bin .add (.var 1) (.int 1), .int 2]) (.nm 3) none (.call 18 [.var 2, .var 3])])]⟩
abbrev s25 : Stmt := top 36
/-- bound -/
def f25 : FnD := ⟨"bound", ["lot", "weight"], ["lot", "weight", "own"], [
  .set 2 (.call 11 [.var 0]),
  .ret (.bin .fdiv (.bin .mul (.call 19 [.var 1]) (.bi .len [.ix (.var 2) (.int 0)])) (.int 12))]⟩
abbrev s26 : Stmt := top 37
/-- edge_forms -/
def f26 : FnD := ⟨"edge_forms", ["lot", "weight"], ["lot", "weight", "own", "told"], [
  .par [2, 3] [.call 11 [.var 0], .call 19 [.var 1]],
  .ret (.bin .sub (.call 17 [.var 2, .var 3]) (.call 18 [.var 2, .var 3]))]⟩
abbrev s27 : Stmt := top 39
/-- _law_box -/
def f27 : FnD := ⟨"_law_box", ["script", "k"], ["script", "k", "bit_so"], [
  .set 2 (.ite (.cmp .Lt (.var 1) (.bi .len [.var 0])) (.ix (.var 0) (.var 1)) (.int 0)),
  .ret (.lst [.bin .mul (.bi .abs [.var 2]) (.bi .int1 [.cmp .GtE (.bi .abs [.var 2]) (.bin .pow (.int 10) (.int 18))]), .bin .add (.bin .add (.bin .mod (.bi .int1 [.var 2]) (.int 2305843009213693951)) (.bin .mul (.int 39373) (.var 1))) (.int 9284020), .int 0])]⟩
abbrev s28 : Stmt := top 40
/-- _law_take -/
def f28 : FnD := ⟨"_law_take", ["tin", "below_so"], ["tin", "below_so", "drawn_so", "once_so", "wide_so", "twice_so"], [
  .if_ (.cmp .Gt (.ix (.var 0) (.int 0)) (.int 0)) [.set 2 (.bin .mod (.bi .int1 [.ix (.var 0) (.int 0)]) (.var 1)), .six 0 (.int 0) (.bin .fdiv (.ix (.var 0) (.int 0)) (.var 1)), .ret (.var 2)] [],
  .six 0 (.int 2) (.bin .add (.ix (.var 0) (.int 2)) (.int 1)),
  .set 3 (.bin .mod (.bi .int1 [.bin .mul (.bin .add (.ix (.var 0) (.int 1)) (.bin .mul (.int 48271) (.ix (.var 0) (.int 2)))) (.bin .add (.int 39373) (.ix (.var 0) (.int 2)))]) (.int 2147483647)),
  .set 4 (.bin .add (.bin .mod (.bi .int1 [.var 3]) (.int 40009)) (.int 7)),
  .set 5 (.bin .mod (.bi .int1 [.bin .mul (.bin .add (.bin .add (.var 3) (.ix (.var 0) (.int 2))) (.bin .fdiv (.ix (.var 0) (.int 1)) (.int 1000003))) (.var 4)]) (.int 2147483629)),
  .ret (.bin .mod (.bi .int1 [.bin .fdiv (.bin .mod (.bi .int1 [.bin .add (.bin .mul (.var 5) (.int 48271)) (.var 3)]) (.int 2147483587)) (.int 64)]) (.var 1))]⟩
abbrev s29 : Stmt := top 41
/-- _law_cells -/
def f29 : FnD := ⟨"_law_cells", ["script", "most_so"], ["script", "most_so", "cells_so", "k", "bit_so", "at_so"], [
  .set 2 (.andor false [.bi .list [.sl (.var 0) none (some (.var 1))], .lst [.int 0]]),
  .for_ (.tp [3, 4]) (.enum (.sl (.var 0) (some (.var 1)) (some (.int 63)))) [.set 5 (.bin .mod (.bi .int1 [.var 3]) (.var 1)), .six 2 (.var 5) (.bin .add (.ix (.var 2) (.var 5)) (.bin .mul (.var 4) (.bin .add (.var 3) (.int 2))))],
  .ret (.var 2)]⟩
abbrev s30 : Stmt := top 42
/-- _law_pick -/
def f30 : FnD := ⟨"_law_pick", ["tin", "goods_so", "count_so"], ["tin", "goods_so", "count_so", "pool_so", "found", "lap"], [
  .par [3, 4] [.bi .list [.var 1], .lst []],
  .for_ (.nm 5) (.rng [.bi .min2 [.bi .int1 [.var 2], .bi .len [.var 3]]]) [.ex (.app 4 (.popat 3 (.call 28 [.var 0, .bi .len [.var 3]])))],
  .ret (.var 4)]⟩
abbrev s31 : Stmt := top 43
/-- _law_lists -/
def f31 : FnD := ⟨"_law_lists", ["matter"], ["matter", "bit"], [
  .ret (.ite (.isi (.var 0) ["list", "tuple"]) (.comp [1] (.e (.var 0)) (.nm 1) none (.call 31 [.var 1])) (.var 0))]⟩
abbrev s32 : Stmt := top 44
/-- _law_same -/
def f32 : FnD := ⟨"_law_same", ["got", "due"], ["got", "due", "mine", "its"], [
  .if_ (.isi (.var 1) ["list", "tuple"]) [.if_ (.andor false [.cmp .NotEq (.isi (.var 0) ["list"]) (.isi (.var 1) ["list"]), .cmp .NotEq (.isi (.var 0) ["tuple"]) (.isi (.var 1) ["tuple"])]) [.ret (.bl false)] [], .ret (.andor true [.cmp .Eq (.bi .len [.var 0]) (.bi .len [.var 1]), .bi .all [.comp [2, 3] (.zip [.var 0, .var 1]) (.tp [2, 3]) none (.call 32 [.var 2, .var 3])]])] [],
  .if_ (.cmp .Is (.var 1) (.non)) [.ret (.cmp .Is (.var 0) (.non))] [],
  .if_ (.isi (.var 1) ["bool", "str"]) [.ret (.andor true [.cmp .Eq (.isi (.var 0) ["bool"]) (.isi (.var 1) ["bool"]), .cmp .Eq (.isi (.var 0) ["str"]) (.isi (.var 1) ["str"]), .cmp .Eq (.var 0) (.var 1)])] [],
  .ret (.andor true [.isi (.var 0) ["int"], .not_ (.isi (.var 0) ["bool"]), .cmp .Eq (.var 0) (.var 1)])]⟩
abbrev s33 : Stmt := top 45
/-- _law_unmarked -/
def f33 : FnD := ⟨"_law_unmarked", ["told_so"], ["told_so"], [
  .ret (.ite (.andor true [.isi (.var 0) ["list"], .cmp .Gt (.bi .len [.var 0]) (.int 0), .isi (.ix (.var 0) (.int 0)) ["str"]]) (.lst [.str "told", .str "a mark"]) (.var 0))]⟩
abbrev s34 : Stmt := top 46
/-- _law_call -/
def f34 : FnD := ⟨"_law_call", ["door", "goods_so"], ["door", "goods_so"], [
  .if_ (.cmp .Lt (.bi .len [.var 1]) (.int 3)) [.ret (.ite (.cmp .Eq (.bi .len [.var 1]) (.int 1)) (.calld 0 [.ix (.var 1) (.int 0)]) (.calld 0 [.ix (.var 1) (.int 0), .ix (.var 1) (.int 1)]))] [],
  .ret (.ite (.cmp .Eq (.bi .len [.var 1]) (.int 3)) (.calld 0 [.ix (.var 1) (.int 0), .ix (.var 1) (.int 1), .ix (.var 1) (.int 2)]) (.calld 0 [.ix (.var 1) (.int 0), .ix (.var 1) (.int 1), .ix (.var 1) (.int 2), .ix (.var 1) (.int 3)]))]⟩
abbrev s35 : Stmt := top 47
/-- _law_then -/
def f35 : FnD := ⟨"_law_then", ["one", "two"], ["one", "two", "own"], [
  .ret (.bi .tuple [.comp [2] (.e (.var 0)) (.nm 2) none (.ix (.var 1) (.var 2))])]⟩
abbrev s36 : Stmt := top 48
/-- _law_rounds -/
def f36 : FnD := ⟨"_law_rounds", ["order_so"], ["order_so", "found", "gone_so", "k", "own", "here"], [
  .par [1, 2] [.lst [], .lst []],
  .for_ (.nm 3) (.rng [.bi .len [.var 0]]) [.if_ (.cmp .NotIn (.var 3) (.var 2)) [.par [4, 5] [.lst [], .var 3], .wh (.cmp .NotIn (.var 5) (.var 4)) [.ex (.app 4 (.var 5)), .set 5 (.ix (.var 0) (.var 5))], .ex (.ext 2 (.var 4)), .ex (.app 1 (.bi .tuple [.var 4]))] []],
  .ret (.var 1)]⟩
abbrev s37 : Stmt := top 49
/-- _law_is_whole -/
def f37 : FnD := ⟨"_law_is_whole", ["two", "three"], ["two", "three", "seen_so", "left_so", "here", "own"], [
  .par [2, 3] [.lst [.int 0], .lst [.int 0]],
  .wh (.cmp .NotEq (.var 3) (.lst [])) [.set 4 (.pop 3), .for_ (.nm 5) (.e (.tup [.ix (.var 0) (.var 4), .ix (.var 1) (.var 4)])) [.if_ (.cmp .NotIn (.var 5) (.var 2)) [.ex (.app 2 (.var 5)), .ex (.app 3 (.var 5))] []]],
  .ret (.cmp .Eq (.bi .len [.var 2]) (.bi .len [.var 0]))]⟩
abbrev s38 : Stmt := top 50
/-- _law_draw_lot -/
def f38 : FnD := ⟨"_law_draw_lot", ["tin", "most_so"], ["tin", "most_so", "lap", "many", "two", "three", "left_so", "a", "b", "c"], [
  .for_ (.nm 2) (.rng [.int 12]) [.set 3 (.bin .add (.int 1) (.call 28 [.var 0, .var 1])), .par [4, 5] [.lrg false (.var 3), .lrg false (.var 3)], .set 6 (.call 30 [.var 0, .lrg false (.var 3), .var 3]), .wh (.cmp .Gt (.bi .len [.var 6]) (.int 1)) [.par [7, 8, 6] [.ix (.var 6) (.int 0), .ix (.var 6) (.int 1), .sl (.var 6) (some (.int 2)) none], .if_ (.cmp .Gt (.call 28 [.var 0, .int 5]) (.int 0)) [.unpx [(4, .var 7), (4, .var 8)] (.tup [.var 8, .var 7])] []], .set 6 (.call 30 [.var 0, .lrg false (.var 3), .var 3]), .wh (.cmp .Gt (.bi .len [.var 6]) (.int 2)) [.par [7, 8, 9, 6] [.ix (.var 6) (.int 0), .ix (.var 6) (.int 1), .ix (.var 6) (.int 2), .sl (.var 6) (some (.int 3)) none], .if_ (.cmp .Gt (.call 28 [.var 0, .int 6]) (.int 0)) [.unpx [(5, .var 7), (5, .var 8), (5, .var 9)] (.tup [.var 8, .var 9, .var 7])] []], .if_ (.call 37 [.var 4, .var 5]) [.ret (.tup [.bi .tuple [.var 4], .bi .tuple [.var 5]])] []],
  .ret (.tup [.tup [.int 1, .int 0, .int 2], .tup [.int 1, .int 2, .int 0]])]⟩
abbrev s39 : Stmt := top 51
/-- _law_step -/
def f39 : FnD := ⟨"_law_step", ["net"], ["net"], [
  .ret (.call 35 [.ix (.var 0) (.int 0), .ix (.var 0) (.int 1)])]⟩
abbrev s40 : Stmt := top 52
/-- _law_corners -/
def f40 : FnD := ⟨"_law_corners", ["net"], ["net"], [
  .ret (.call 36 [.call 39 [.var 0]])]⟩
abbrev s41 : Stmt := top 53
/-- _law_kept -/
def f41 : FnD := ⟨"_law_kept", ["order_so"], ["order_so", "k", "own"], [
  .ret (.comp [1, 2] (.enum (.var 0)) (.tp [1, 2]) (some (.cmp .Eq (.var 2) (.var 1))) (.var 1))]⟩
abbrev s42 : Stmt := top 54
/-- _law_handles -/
def f42 : FnD := ⟨"_law_handles", ["net"], ["net"], [
  .ret (.bin .fdiv (.bin .sub (.bin .sub (.bin .sub (.bin .add (.int 12) (.bi .len [.ix (.var 0) (.int 0)])) (.bin .mul (.int 3) (.bi .len [.call 41 [.ix (.var 0) (.int 0)]]))) (.bin .mul (.int 4) (.bi .len [.call 41 [.ix (.var 0) (.int 1)]]))) (.bin .mul (.int 6) (.bi .len [.call 40 [.var 0]]))) (.int 12))]⟩
abbrev s43 : Stmt := top 55
/-- _law_shape -/
def f43 : FnD := ⟨"_law_shape", ["net"], ["net", "wide", "own"], [
  .set 1 (.bi .tuple [.rev (.bi .sorted [.comp [2] (.e (.call 40 [.var 0])) (.nm 2) none (.bi .len [.var 2])])]),
  .ret (.tup [.bi .len [.ix (.var 0) (.int 0)], .bi .len [.call 41 [.ix (.var 0) (.int 0)]], .bi .len [.call 41 [.ix (.var 0) (.int 1)]], .var 1, .call 42 [.var 0]])]⟩
abbrev s44 : Stmt := top 56
/-- _law_heard -/
def f44 : FnD := ⟨"_law_heard", ["door", "goods_so"], ["door", "goods_so", "caught", "told_so", "error_a", "error_b", "error_c"], [
  .par [2, 3] [.non, .non],
  .try_ [.set 3 (.call 33 [.call 34 [.var 0, .var 1]])] [⟨0, 4, 2, "cannot", "ValueError"⟩, ⟨1, 5, 2, "many", "ValueError"⟩, ⟨2, 6, 2, "unfit", "ValueError"⟩],
  .ret (.ite (.cmp .Is (.var 2) (.non)) (.var 3) (.var 2))]⟩
abbrev s45 : Stmt := top 57
/-- _law_forms -/
def f45 : FnD := ⟨"_law_forms", ["shape_so", "weight"], ["shape_so", "weight", "index_so", "twos", "threes", "wide_so", "handles_so"], [
  .unp [2, 3, 4, 5, 6] (.var 0),
  .if_ (.cmp .Lt (.var 1) (.int 3)) [.ret (.ite (.cmp .Lt (.var 1) (.int 0)) (.int 0) (.ite (.cmp .Eq (.var 1) (.int 0)) (.int 1) (.bin .sub (.bin .add (.var 6) (.bi .len [.var 5])) (.int 1))))] [],
  .ret (.bin .add (.bin .add (.bin .add (.bin .mul (.bin .sub (.var 1) (.int 1)) (.bin .sub (.var 6) (.int 1))) (.bin .mul (.bin .fdiv (.var 1) (.int 4)) (.var 3))) (.bin .mul (.bin .fdiv (.var 1) (.int 3)) (.var 4))) (.bin .mul (.bin .fdiv (.var 1) (.int 2)) (.bi .len [.var 5])))]⟩
abbrev s46 : Stmt := top 58
/-- _law_corner_forms -/
def f46 : FnD := ⟨"_law_corner_forms", ["shape_so", "weight"], ["shape_so", "weight"], [
  .if_ (.cmp .Lt (.var 1) (.int 3)) [.ret (.ite (.cmp .Lt (.var 1) (.int 2)) (.int 0) (.ix (.var 0) (.int 4)))] [],
  .ret (.bin .sub (.call 45 [.var 0, .var 1]) (.bi .len [.ix (.var 0) (.int 3)]))]⟩
abbrev s47 : Stmt := top 59
/-- law -/
def f47 : FnD := ⟨"law", ["script"], ["script", "tin", "lap", "net", "shape_so", "weight", "most_so", "near", "far", "got", "due", "k", "whole_so"], [
  .set 1 (.call 27 [.call 29 [.var 0, .int 1], .int 0]),
  .for_ (.nm 2) (.rng [.int 6]) [.set 3 (.call 38 [.var 1, .int 18]), .set 4 (.call 43 [.var 3]), .set 5 (.bin .mul (.int 2) (.bin .sub (.call 28 [.var 1, .int 61]) (.int 10))), .set 6 (.call 28 [.var 1, .int 60]), .par [7, 8] [.call 45 [.var 4, .var 5], .call 46 [.var 4, .var 5]], .set 9 (.lst [.callk 20 [] ["lot", "weight"] [.var 3, .var 5], .callk 21 [] ["lot", "weight"] [.call 31 [.var 3], .var 5], .callk 26 [] ["lot", "weight"] [.var 3, .var 5], .callk 25 [] ["lot", "weight"] [.var 3, .var 5], .callk 22 [] ["lot"] [.var 3], .callk 23 [] ["lot", "most"] [.var 3, .var 6], .callk 24 [] ["lot", "most"] [.var 3, .var 6]]), .set 10 (.lst [.var 7, .var 8, .bin .sub (.var 7) (.var 8), .bin .fdiv (.bin .mul (.var 5) (.bi .len [.ix (.var 3) (.int 0)])) (.int 12), .tup [.bi .len [.ix (.var 3) (.int 0)], .int 4], .bi .tuple [.comp [11] (.rng [.int 0, .bin .add (.var 6) (.int 1), .int 2]) (.nm 11) none (.call 45 [.var 4, .var 11])], .bi .tuple [.comp [11] (.rng [.int 0, .bin .add (.var 6) (.int 1), .int 2]) (.nm 11) none (.call 46 [.var 4, .var 11])]]), .if_ (.andor false [.not_ (.call 32 [.var 9, .var 10]), .cmp .Lt (.var 7) (.int 0), .cmp .Lt (.var 8) (.int 0)]) [.ret (.bl false)] [], .if_ (.andor false [.andor true [.cmp .Gt (.var 5) (.int 3), .cmp .NotEq (.bin .sub (.call 20 [.var 3, .bin .add (.var 5) (.int 12)]) (.var 7)) (.bi .len [.ix (.var 3) (.int 0)])], .andor true [.cmp .Gt (.var 5) (.int 3), .cmp .Gt (.var 7) (.bin .add (.bin .fdiv (.bin .mul (.var 5) (.bi .len [.ix (.var 3) (.int 0)])) (.int 12)) (.int 1))]]) [.ret (.bl false)] []],
  .set 12 (.tup [.tup [.int 0], .tup [.int 0]]),
  .set 9 (.lst [.call 23 [.var 12, .int 26], .call 24 [.var 12, .int 26], .call 44 [.fnv 20, .tup [.var 12, .int 3]], .call 44 [.fnv 20, .tup [.var 12, .bl true]], .call 44 [.fnv 23, .tup [.var 12, .int 1001]], .call 44 [.fnv 24, .tup [.var 12, .neg (.int 1)]], .call 44 [.fnv 25, .tup [.non, .int 2]], .call 20 [.var 12, .neg (.int 2)]]),
  .ret (.call 32 [.var 9, .bin .add (.bin .add (.lst [.tup [.int 1, .int 0, .int 1, .int 1, .int 1, .int 1, .int 2, .int 1, .int 2, .int 2, .int 2, .int 2, .int 3, .int 2], .tup [.int 0, .int 0, .int 0, .int 0, .int 0, .int 0, .int 1, .int 0, .int 1, .int 1, .int 1, .int 1, .int 2, .int 1]]) (.bin .mul (.lst [.lst [.str "unfit", .bl true]]) (.int 5))) (.lst [.int 0])])]⟩
def T : GT := ⟨[f0, f1, f2, f3, f4, f5, f6, f7, f8, f9, f10, f11, f12, f13, f14, f15, f16, f17, f18, f19, f20, f21, f22, f23, f24, f25, f26, f27, f28, f29, f30, f31, f32, f33, f34, f35, f36, f37, f38, f39, f40, f41, f42, f43, f44, f45, f46, f47], [.int 240, .int 1000000], 100000, 3, []⟩
def ng : NG := ⟨[.ofString "is_number", .ofString "is_within", .ofString "is_long", .ofString "are_numbers", .ofString "tupled", .ofString "is_order", .ofString "behind", .ofString "rounds", .ofString "is_whole", .ofString "listed", .ofString "is_lot_of", .ofString "sure_lot", .ofString "step_order", .ofString "corners_in", .ofString "kept_by", .ofString "handles_in", .ofString "parts_of", .ofString "whole_forms", .ofString "corner_free", .ofString "sure_weight", .ofString "forms", .ofString "corner_forms", .ofString "growth", .ofString "row_of_forms", .ofString "corner_row", .ofString "bound", .ofString "edge_forms", .ofString "_law_box", .ofString "_law_take", .ofString "_law_cells", .ofString "_law_pick", .ofString "_law_lists", .ofString "_law_same", .ofString "_law_unmarked", .ofString "_law_call", .ofString "_law_then", .ofString "_law_rounds", .ofString "_law_is_whole", .ofString "_law_draw_lot", .ofString "_law_step", .ofString "_law_corners", .ofString "_law_kept", .ofString "_law_handles", .ofString "_law_shape", .ofString "_law_heard", .ofString "_law_forms", .ofString "_law_corner_forms", .ofString "law"], [.ofString "MOST_lots", .ofString "MOST_weights"], [.ofString "CanNot", .ofString "TooMany", .ofString "Unfit"], [(20, ["lot", "weight"], 0), (21, ["lot", "weight"], 0), (26, ["lot", "weight"], 0), (25, ["lot", "weight"], 0), (22, ["lot"], 0), (23, ["lot", "most"], 0), (24, ["lot", "most"], 0)], false, [(0, "ValueError"), (1, "ValueError"), (2, "ValueError")], []⟩
theorem tr0 : scB f0.N f0.ps (defScope s0) = true ∧ trB (ccOf ng f0.N (defScope s0)) f0.body (defBody s0) = true := ⟨by decide +kernel, by decide +kernel⟩
theorem tr1 : scB f1.N f1.ps (defScope s1) = true ∧ trB (ccOf ng f1.N (defScope s1)) f1.body (defBody s1) = true := ⟨by decide +kernel, by decide +kernel⟩
theorem tr2 : scB f2.N f2.ps (defScope s2) = true ∧ trB (ccOf ng f2.N (defScope s2)) f2.body (defBody s2) = true := ⟨by decide +kernel, by decide +kernel⟩
theorem tr3 : scB f3.N f3.ps (defScope s3) = true ∧ trB (ccOf ng f3.N (defScope s3)) f3.body (defBody s3) = true := ⟨by decide +kernel, by decide +kernel⟩
theorem tr4 : scB f4.N f4.ps (defScope s4) = true ∧ trB (ccOf ng f4.N (defScope s4)) f4.body (defBody s4) = true := ⟨by decide +kernel, by decide +kernel⟩
theorem tr5 : scB f5.N f5.ps (defScope s5) = true ∧ trB (ccOf ng f5.N (defScope s5)) f5.body (defBody s5) = true := ⟨by decide +kernel, by decide +kernel⟩
theorem tr6 : scB f6.N f6.ps (defScope s6) = true ∧ trB (ccOf ng f6.N (defScope s6)) f6.body (defBody s6) = true := ⟨by decide +kernel, by decide +kernel⟩
theorem tr7 : scB f7.N f7.ps (defScope s7) = true ∧ trB (ccOf ng f7.N (defScope s7)) f7.body (defBody s7) = true := ⟨by decide +kernel, by decide +kernel⟩
theorem tr8 : scB f8.N f8.ps (defScope s8) = true ∧ trB (ccOf ng f8.N (defScope s8)) f8.body (defBody s8) = true := ⟨by decide +kernel, by decide +kernel⟩
theorem tr9 : scB f9.N f9.ps (defScope s9) = true ∧ trB (ccOf ng f9.N (defScope s9)) f9.body (defBody s9) = true := ⟨by decide +kernel, by decide +kernel⟩
theorem tr10 : scB f10.N f10.ps (defScope s10) = true ∧ trB (ccOf ng f10.N (defScope s10)) f10.body (defBody s10) = true := ⟨by decide +kernel, by decide +kernel⟩
theorem tr11 : scB f11.N f11.ps (defScope s11) = true ∧ trB (ccOf ng f11.N (defScope s11)) f11.body (defBody s11) = true := ⟨by decide +kernel, by decide +kernel⟩
theorem tr12 : scB f12.N f12.ps (defScope s12) = true ∧ trB (ccOf ng f12.N (defScope s12)) f12.body (defBody s12) = true := ⟨by decide +kernel, by decide +kernel⟩
theorem tr13 : scB f13.N f13.ps (defScope s13) = true ∧ trB (ccOf ng f13.N (defScope s13)) f13.body (defBody s13) = true := ⟨by decide +kernel, by decide +kernel⟩
theorem tr14 : scB f14.N f14.ps (defScope s14) = true ∧ trB (ccOf ng f14.N (defScope s14)) f14.body (defBody s14) = true := ⟨by decide +kernel, by decide +kernel⟩
theorem tr15 : scB f15.N f15.ps (defScope s15) = true ∧ trB (ccOf ng f15.N (defScope s15)) f15.body (defBody s15) = true := ⟨by decide +kernel, by decide +kernel⟩
theorem tr16 : scB f16.N f16.ps (defScope s16) = true ∧ trB (ccOf ng f16.N (defScope s16)) f16.body (defBody s16) = true := ⟨by decide +kernel, by decide +kernel⟩
theorem tr17 : scB f17.N f17.ps (defScope s17) = true ∧ trB (ccOf ng f17.N (defScope s17)) f17.body (defBody s17) = true := ⟨by decide +kernel, by decide +kernel⟩
theorem tr18 : scB f18.N f18.ps (defScope s18) = true ∧ trB (ccOf ng f18.N (defScope s18)) f18.body (defBody s18) = true := ⟨by decide +kernel, by decide +kernel⟩
theorem tr19 : scB f19.N f19.ps (defScope s19) = true ∧ trB (ccOf ng f19.N (defScope s19)) f19.body (defBody s19) = true := ⟨by decide +kernel, by decide +kernel⟩
theorem tr20 : scB f20.N f20.ps (defScope s20) = true ∧ trB (ccOf ng f20.N (defScope s20)) f20.body (defBody s20) = true := ⟨by decide +kernel, by decide +kernel⟩
theorem tr21 : scB f21.N f21.ps (defScope s21) = true ∧ trB (ccOf ng f21.N (defScope s21)) f21.body (defBody s21) = true := ⟨by decide +kernel, by decide +kernel⟩
theorem tr22 : scB f22.N f22.ps (defScope s22) = true ∧ trB (ccOf ng f22.N (defScope s22)) f22.body (defBody s22) = true := ⟨by decide +kernel, by decide +kernel⟩
theorem tr23 : scB f23.N f23.ps (defScope s23) = true ∧ trB (ccOf ng f23.N (defScope s23)) f23.body (defBody s23) = true := ⟨by decide +kernel, by decide +kernel⟩
theorem tr24 : scB f24.N f24.ps (defScope s24) = true ∧ trB (ccOf ng f24.N (defScope s24)) f24.body (defBody s24) = true := ⟨by decide +kernel, by decide +kernel⟩
theorem tr25 : scB f25.N f25.ps (defScope s25) = true ∧ trB (ccOf ng f25.N (defScope s25)) f25.body (defBody s25) = true := ⟨by decide +kernel, by decide +kernel⟩
theorem tr26 : scB f26.N f26.ps (defScope s26) = true ∧ trB (ccOf ng f26.N (defScope s26)) f26.body (defBody s26) = true := ⟨by decide +kernel, by decide +kernel⟩
theorem tr27 : scB f27.N f27.ps (defScope s27) = true ∧ trB (ccOf ng f27.N (defScope s27)) f27.body (defBody s27) = true := ⟨by decide +kernel, by decide +kernel⟩
theorem tr28 : scB f28.N f28.ps (defScope s28) = true ∧ trB (ccOf ng f28.N (defScope s28)) f28.body (defBody s28) = true := ⟨by decide +kernel, by decide +kernel⟩
theorem tr29 : scB f29.N f29.ps (defScope s29) = true ∧ trB (ccOf ng f29.N (defScope s29)) f29.body (defBody s29) = true := ⟨by decide +kernel, by decide +kernel⟩
theorem tr30 : scB f30.N f30.ps (defScope s30) = true ∧ trB (ccOf ng f30.N (defScope s30)) f30.body (defBody s30) = true := ⟨by decide +kernel, by decide +kernel⟩
theorem tr31 : scB f31.N f31.ps (defScope s31) = true ∧ trB (ccOf ng f31.N (defScope s31)) f31.body (defBody s31) = true := ⟨by decide +kernel, by decide +kernel⟩
theorem tr32 : scB f32.N f32.ps (defScope s32) = true ∧ trB (ccOf ng f32.N (defScope s32)) f32.body (defBody s32) = true := ⟨by decide +kernel, by decide +kernel⟩
theorem tr33 : scB f33.N f33.ps (defScope s33) = true ∧ trB (ccOf ng f33.N (defScope s33)) f33.body (defBody s33) = true := ⟨by decide +kernel, by decide +kernel⟩
theorem tr34 : scB f34.N f34.ps (defScope s34) = true ∧ trB (ccOf ng f34.N (defScope s34)) f34.body (defBody s34) = true := ⟨by decide +kernel, by decide +kernel⟩
theorem tr35 : scB f35.N f35.ps (defScope s35) = true ∧ trB (ccOf ng f35.N (defScope s35)) f35.body (defBody s35) = true := ⟨by decide +kernel, by decide +kernel⟩
theorem tr36 : scB f36.N f36.ps (defScope s36) = true ∧ trB (ccOf ng f36.N (defScope s36)) f36.body (defBody s36) = true := ⟨by decide +kernel, by decide +kernel⟩
theorem tr37 : scB f37.N f37.ps (defScope s37) = true ∧ trB (ccOf ng f37.N (defScope s37)) f37.body (defBody s37) = true := ⟨by decide +kernel, by decide +kernel⟩
theorem tr38 : scB f38.N f38.ps (defScope s38) = true ∧ trB (ccOf ng f38.N (defScope s38)) f38.body (defBody s38) = true := ⟨by decide +kernel, by decide +kernel⟩
theorem tr39 : scB f39.N f39.ps (defScope s39) = true ∧ trB (ccOf ng f39.N (defScope s39)) f39.body (defBody s39) = true := ⟨by decide +kernel, by decide +kernel⟩
theorem tr40 : scB f40.N f40.ps (defScope s40) = true ∧ trB (ccOf ng f40.N (defScope s40)) f40.body (defBody s40) = true := ⟨by decide +kernel, by decide +kernel⟩
theorem tr41 : scB f41.N f41.ps (defScope s41) = true ∧ trB (ccOf ng f41.N (defScope s41)) f41.body (defBody s41) = true := ⟨by decide +kernel, by decide +kernel⟩
theorem tr42 : scB f42.N f42.ps (defScope s42) = true ∧ trB (ccOf ng f42.N (defScope s42)) f42.body (defBody s42) = true := ⟨by decide +kernel, by decide +kernel⟩
theorem tr43 : scB f43.N f43.ps (defScope s43) = true ∧ trB (ccOf ng f43.N (defScope s43)) f43.body (defBody s43) = true := ⟨by decide +kernel, by decide +kernel⟩
theorem tr44 : scB f44.N f44.ps (defScope s44) = true ∧ trB (ccOf ng f44.N (defScope s44)) f44.body (defBody s44) = true := ⟨by decide +kernel, by decide +kernel⟩
theorem tr45 : scB f45.N f45.ps (defScope s45) = true ∧ trB (ccOf ng f45.N (defScope s45)) f45.body (defBody s45) = true := ⟨by decide +kernel, by decide +kernel⟩
theorem tr46 : scB f46.N f46.ps (defScope s46) = true ∧ trB (ccOf ng f46.N (defScope s46)) f46.body (defBody s46) = true := ⟨by decide +kernel, by decide +kernel⟩
theorem tr47 : scB f47.N f47.ps (defScope s47) = true ∧ trB (ccOf ng f47.N (defScope s47)) f47.body (defBody s47) = true := ⟨by decide +kernel, by decide +kernel⟩
end PL.K20
end

section
namespace PL.K20
open PySem PySem.Spec L2 PL
open PyProof.Rows hiding St
theorem kb {C : G0} {g : Nat} {fd : FuncData} {F : FnD} (h : ∀ ks np, (g, ks, np) ∉ ng.kw) : ∀ (ks : List Str) (np : Nat), (g, ks, np) ∈ ng.kw → KBinds C.K fd F.ps ks (kwG F.ps ks np) (kwG F.ps ks np) := fun ks np q => absurd q (h ks np)
theorem kno (g : Nat) (h : (ng.kw.all fun t => t.1 != g) = true) : ∀ (ks : List Str) (np : Nat), (g, ks, np) ∉ ng.kw := fun ks np q => by
  have := List.all_eq_true.mp h _ q
  simp at this
def mkC (K : PySem.W.Frag) (gs cs : List Addr) : G0 := ⟨K, fun i => gs.getD i 0, fun i => cs.getD i 0⟩
theorem fb0 {C : G0} {oc kV dc pm cd ct : Value} {od an : Option Addr} {sl : Array (Option Value)} (l : C.K.lookup (C.gv 0) = some ⟨oc, od, .func (PySem.W.fnOf "is_number" "is_number" (defArgs s0) (defBody s0) (defScope s0) .none kV dc pm an cd ct), sl⟩) (c : PySem.W.codeIn C.K cd "is_number" = true) (k : PySem.W.keepIn C.K (.ref (C.gv 0)) = true) :
    FnB C ng 0 f0 (PySem.W.fnOf "is_number" "is_number" (defArgs s0) (defBody s0) (defScope s0) .none kV dc pm an cd ct) :=
  fn_mk (st := s0) l c k tr0.1 tr0.2 (fun _ _ _ _ _ _ us hl => match us, hl with | [_], _ => rfl) (fun kV dc pm an cd ct => kb (kno 0 (by decide +kernel)))
theorem fb1 {C : G0} {oc kV dc pm cd ct : Value} {od an : Option Addr} {sl : Array (Option Value)} (l : C.K.lookup (C.gv 1) = some ⟨oc, od, .func (PySem.W.fnOf "is_within" "is_within" (defArgs s1) (defBody s1) (defScope s1) .none kV dc pm an cd ct), sl⟩) (c : PySem.W.codeIn C.K cd "is_within" = true) (k : PySem.W.keepIn C.K (.ref (C.gv 1)) = true) :
    FnB C ng 1 f1 (PySem.W.fnOf "is_within" "is_within" (defArgs s1) (defBody s1) (defScope s1) .none kV dc pm an cd ct) :=
  fn_mk (st := s1) l c k tr1.1 tr1.2 (fun _ _ _ _ _ _ us hl => match us, hl with | [_, _, _], _ => rfl) (fun kV dc pm an cd ct => kb (kno 1 (by decide +kernel)))
theorem fb2 {C : G0} {oc kV dc pm cd ct : Value} {od an : Option Addr} {sl : Array (Option Value)} (l : C.K.lookup (C.gv 2) = some ⟨oc, od, .func (PySem.W.fnOf "is_long" "is_long" (defArgs s2) (defBody s2) (defScope s2) .none kV dc pm an cd ct), sl⟩) (c : PySem.W.codeIn C.K cd "is_long" = true) (k : PySem.W.keepIn C.K (.ref (C.gv 2)) = true) :
    FnB C ng 2 f2 (PySem.W.fnOf "is_long" "is_long" (defArgs s2) (defBody s2) (defScope s2) .none kV dc pm an cd ct) :=
  fn_mk (st := s2) l c k tr2.1 tr2.2 (fun _ _ _ _ _ _ us hl => match us, hl with | [_, _], _ => rfl) (fun kV dc pm an cd ct => kb (kno 2 (by decide +kernel)))
theorem fb3 {C : G0} {oc kV dc pm cd ct : Value} {od an : Option Addr} {sl : Array (Option Value)} (l : C.K.lookup (C.gv 3) = some ⟨oc, od, .func (PySem.W.fnOf "are_numbers" "are_numbers" (defArgs s3) (defBody s3) (defScope s3) .none kV dc pm an cd ct), sl⟩) (c : PySem.W.codeIn C.K cd "are_numbers" = true) (k : PySem.W.keepIn C.K (.ref (C.gv 3)) = true) :
    FnB C ng 3 f3 (PySem.W.fnOf "are_numbers" "are_numbers" (defArgs s3) (defBody s3) (defScope s3) .none kV dc pm an cd ct) :=
  fn_mk (st := s3) l c k tr3.1 tr3.2 (fun _ _ _ _ _ _ us hl => match us, hl with | [_, _], _ => rfl) (fun kV dc pm an cd ct => kb (kno 3 (by decide +kernel)))
theorem fb4 {C : G0} {oc kV dc pm cd ct : Value} {od an : Option Addr} {sl : Array (Option Value)} (l : C.K.lookup (C.gv 4) = some ⟨oc, od, .func (PySem.W.fnOf "tupled" "tupled" (defArgs s4) (defBody s4) (defScope s4) .none kV dc pm an cd ct), sl⟩) (c : PySem.W.codeIn C.K cd "tupled" = true) (k : PySem.W.keepIn C.K (.ref (C.gv 4)) = true) :
    FnB C ng 4 f4 (PySem.W.fnOf "tupled" "tupled" (defArgs s4) (defBody s4) (defScope s4) .none kV dc pm an cd ct) :=
  fn_mk (st := s4) l c k tr4.1 tr4.2 (fun _ _ _ _ _ _ us hl => match us, hl with | [_], _ => rfl) (fun kV dc pm an cd ct => kb (kno 4 (by decide +kernel)))
theorem fb5 {C : G0} {oc kV dc pm cd ct : Value} {od an : Option Addr} {sl : Array (Option Value)} (l : C.K.lookup (C.gv 5) = some ⟨oc, od, .func (PySem.W.fnOf "is_order" "is_order" (defArgs s5) (defBody s5) (defScope s5) .none kV dc pm an cd ct), sl⟩) (c : PySem.W.codeIn C.K cd "is_order" = true) (k : PySem.W.keepIn C.K (.ref (C.gv 5)) = true) :
    FnB C ng 5 f5 (PySem.W.fnOf "is_order" "is_order" (defArgs s5) (defBody s5) (defScope s5) .none kV dc pm an cd ct) :=
  fn_mk (st := s5) l c k tr5.1 tr5.2 (fun _ _ _ _ _ _ us hl => match us, hl with | [_, _], _ => rfl) (fun kV dc pm an cd ct => kb (kno 5 (by decide +kernel)))
theorem fb6 {C : G0} {oc kV dc pm cd ct : Value} {od an : Option Addr} {sl : Array (Option Value)} (l : C.K.lookup (C.gv 6) = some ⟨oc, od, .func (PySem.W.fnOf "behind" "behind" (defArgs s6) (defBody s6) (defScope s6) .none kV dc pm an cd ct), sl⟩) (c : PySem.W.codeIn C.K cd "behind" = true) (k : PySem.W.keepIn C.K (.ref (C.gv 6)) = true) :
    FnB C ng 6 f6 (PySem.W.fnOf "behind" "behind" (defArgs s6) (defBody s6) (defScope s6) .none kV dc pm an cd ct) :=
  fn_mk (st := s6) l c k tr6.1 tr6.2 (fun _ _ _ _ _ _ us hl => match us, hl with | [_, _], _ => rfl) (fun kV dc pm an cd ct => kb (kno 6 (by decide +kernel)))
theorem fb7 {C : G0} {oc kV dc pm cd ct : Value} {od an : Option Addr} {sl : Array (Option Value)} (l : C.K.lookup (C.gv 7) = some ⟨oc, od, .func (PySem.W.fnOf "rounds" "rounds" (defArgs s7) (defBody s7) (defScope s7) .none kV dc pm an cd ct), sl⟩) (c : PySem.W.codeIn C.K cd "rounds" = true) (k : PySem.W.keepIn C.K (.ref (C.gv 7)) = true) :
    FnB C ng 7 f7 (PySem.W.fnOf "rounds" "rounds" (defArgs s7) (defBody s7) (defScope s7) .none kV dc pm an cd ct) :=
  fn_mk (st := s7) l c k tr7.1 tr7.2 (fun _ _ _ _ _ _ us hl => match us, hl with | [_], _ => rfl) (fun kV dc pm an cd ct => kb (kno 7 (by decide +kernel)))
theorem fb8 {C : G0} {oc kV dc pm cd ct : Value} {od an : Option Addr} {sl : Array (Option Value)} (l : C.K.lookup (C.gv 8) = some ⟨oc, od, .func (PySem.W.fnOf "is_whole" "is_whole" (defArgs s8) (defBody s8) (defScope s8) .none kV dc pm an cd ct), sl⟩) (c : PySem.W.codeIn C.K cd "is_whole" = true) (k : PySem.W.keepIn C.K (.ref (C.gv 8)) = true) :
    FnB C ng 8 f8 (PySem.W.fnOf "is_whole" "is_whole" (defArgs s8) (defBody s8) (defScope s8) .none kV dc pm an cd ct) :=
  fn_mk (st := s8) l c k tr8.1 tr8.2 (fun _ _ _ _ _ _ us hl => match us, hl with | [_, _], _ => rfl) (fun kV dc pm an cd ct => kb (kno 8 (by decide +kernel)))
theorem fb9 {C : G0} {oc kV dc pm cd ct : Value} {od an : Option Addr} {sl : Array (Option Value)} (l : C.K.lookup (C.gv 9) = some ⟨oc, od, .func (PySem.W.fnOf "listed" "listed" (defArgs s9) (defBody s9) (defScope s9) .none kV dc pm an cd ct), sl⟩) (c : PySem.W.codeIn C.K cd "listed" = true) (k : PySem.W.keepIn C.K (.ref (C.gv 9)) = true) :
    FnB C ng 9 f9 (PySem.W.fnOf "listed" "listed" (defArgs s9) (defBody s9) (defScope s9) .none kV dc pm an cd ct) :=
  fn_mk (st := s9) l c k tr9.1 tr9.2 (fun _ _ _ _ _ _ us hl => match us, hl with | [_, _, _], _ => rfl) (fun kV dc pm an cd ct => kb (kno 9 (by decide +kernel)))
theorem fb10 {C : G0} {oc kV dc pm cd ct : Value} {od an : Option Addr} {sl : Array (Option Value)} (l : C.K.lookup (C.gv 10) = some ⟨oc, od, .func (PySem.W.fnOf "is_lot_of" "is_lot_of" (defArgs s10) (defBody s10) (defScope s10) .none kV dc pm an cd ct), sl⟩) (c : PySem.W.codeIn C.K cd "is_lot_of" = true) (k : PySem.W.keepIn C.K (.ref (C.gv 10)) = true) :
    FnB C ng 10 f10 (PySem.W.fnOf "is_lot_of" "is_lot_of" (defArgs s10) (defBody s10) (defScope s10) .none kV dc pm an cd ct) :=
  fn_mk (st := s10) l c k tr10.1 tr10.2 (fun _ _ _ _ _ _ us hl => match us, hl with | [_], _ => rfl) (fun kV dc pm an cd ct => kb (kno 10 (by decide +kernel)))
theorem fb11 {C : G0} {oc kV dc pm cd ct : Value} {od an : Option Addr} {sl : Array (Option Value)} (l : C.K.lookup (C.gv 11) = some ⟨oc, od, .func (PySem.W.fnOf "sure_lot" "sure_lot" (defArgs s11) (defBody s11) (defScope s11) .none kV dc pm an cd ct), sl⟩) (c : PySem.W.codeIn C.K cd "sure_lot" = true) (k : PySem.W.keepIn C.K (.ref (C.gv 11)) = true) :
    FnB C ng 11 f11 (PySem.W.fnOf "sure_lot" "sure_lot" (defArgs s11) (defBody s11) (defScope s11) .none kV dc pm an cd ct) :=
  fn_mk (st := s11) l c k tr11.1 tr11.2 (fun _ _ _ _ _ _ us hl => match us, hl with | [_], _ => rfl) (fun kV dc pm an cd ct => kb (kno 11 (by decide +kernel)))
theorem fb12 {C : G0} {oc kV dc pm cd ct : Value} {od an : Option Addr} {sl : Array (Option Value)} (l : C.K.lookup (C.gv 12) = some ⟨oc, od, .func (PySem.W.fnOf "step_order" "step_order" (defArgs s12) (defBody s12) (defScope s12) .none kV dc pm an cd ct), sl⟩) (c : PySem.W.codeIn C.K cd "step_order" = true) (k : PySem.W.keepIn C.K (.ref (C.gv 12)) = true) :
    FnB C ng 12 f12 (PySem.W.fnOf "step_order" "step_order" (defArgs s12) (defBody s12) (defScope s12) .none kV dc pm an cd ct) :=
  fn_mk (st := s12) l c k tr12.1 tr12.2 (fun _ _ _ _ _ _ us hl => match us, hl with | [_], _ => rfl) (fun kV dc pm an cd ct => kb (kno 12 (by decide +kernel)))
theorem fb13 {C : G0} {oc kV dc pm cd ct : Value} {od an : Option Addr} {sl : Array (Option Value)} (l : C.K.lookup (C.gv 13) = some ⟨oc, od, .func (PySem.W.fnOf "corners_in" "corners_in" (defArgs s13) (defBody s13) (defScope s13) .none kV dc pm an cd ct), sl⟩) (c : PySem.W.codeIn C.K cd "corners_in" = true) (k : PySem.W.keepIn C.K (.ref (C.gv 13)) = true) :
    FnB C ng 13 f13 (PySem.W.fnOf "corners_in" "corners_in" (defArgs s13) (defBody s13) (defScope s13) .none kV dc pm an cd ct) :=
  fn_mk (st := s13) l c k tr13.1 tr13.2 (fun _ _ _ _ _ _ us hl => match us, hl with | [_], _ => rfl) (fun kV dc pm an cd ct => kb (kno 13 (by decide +kernel)))
theorem fb14 {C : G0} {oc kV dc pm cd ct : Value} {od an : Option Addr} {sl : Array (Option Value)} (l : C.K.lookup (C.gv 14) = some ⟨oc, od, .func (PySem.W.fnOf "kept_by" "kept_by" (defArgs s14) (defBody s14) (defScope s14) .none kV dc pm an cd ct), sl⟩) (c : PySem.W.codeIn C.K cd "kept_by" = true) (k : PySem.W.keepIn C.K (.ref (C.gv 14)) = true) :
    FnB C ng 14 f14 (PySem.W.fnOf "kept_by" "kept_by" (defArgs s14) (defBody s14) (defScope s14) .none kV dc pm an cd ct) :=
  fn_mk (st := s14) l c k tr14.1 tr14.2 (fun _ _ _ _ _ _ us hl => match us, hl with | [_], _ => rfl) (fun kV dc pm an cd ct => kb (kno 14 (by decide +kernel)))
theorem fb15 {C : G0} {oc kV dc pm cd ct : Value} {od an : Option Addr} {sl : Array (Option Value)} (l : C.K.lookup (C.gv 15) = some ⟨oc, od, .func (PySem.W.fnOf "handles_in" "handles_in" (defArgs s15) (defBody s15) (defScope s15) .none kV dc pm an cd ct), sl⟩) (c : PySem.W.codeIn C.K cd "handles_in" = true) (k : PySem.W.keepIn C.K (.ref (C.gv 15)) = true) :
    FnB C ng 15 f15 (PySem.W.fnOf "handles_in" "handles_in" (defArgs s15) (defBody s15) (defScope s15) .none kV dc pm an cd ct) :=
  fn_mk (st := s15) l c k tr15.1 tr15.2 (fun _ _ _ _ _ _ us hl => match us, hl with | [_], _ => rfl) (fun kV dc pm an cd ct => kb (kno 15 (by decide +kernel)))
theorem fb16 {C : G0} {oc kV dc pm cd ct : Value} {od an : Option Addr} {sl : Array (Option Value)} (l : C.K.lookup (C.gv 16) = some ⟨oc, od, .func (PySem.W.fnOf "parts_of" "parts_of" (defArgs s16) (defBody s16) (defScope s16) .none kV dc pm an cd ct), sl⟩) (c : PySem.W.codeIn C.K cd "parts_of" = true) (k : PySem.W.keepIn C.K (.ref (C.gv 16)) = true) :
    FnB C ng 16 f16 (PySem.W.fnOf "parts_of" "parts_of" (defArgs s16) (defBody s16) (defScope s16) .none kV dc pm an cd ct) :=
  fn_mk (st := s16) l c k tr16.1 tr16.2 (fun _ _ _ _ _ _ us hl => match us, hl with | [_], _ => rfl) (fun kV dc pm an cd ct => kb (kno 16 (by decide +kernel)))
theorem fb17 {C : G0} {oc kV dc pm cd ct : Value} {od an : Option Addr} {sl : Array (Option Value)} (l : C.K.lookup (C.gv 17) = some ⟨oc, od, .func (PySem.W.fnOf "whole_forms" "whole_forms" (defArgs s17) (defBody s17) (defScope s17) .none kV dc pm an cd ct), sl⟩) (c : PySem.W.codeIn C.K cd "whole_forms" = true) (k : PySem.W.keepIn C.K (.ref (C.gv 17)) = true) :
    FnB C ng 17 f17 (PySem.W.fnOf "whole_forms" "whole_forms" (defArgs s17) (defBody s17) (defScope s17) .none kV dc pm an cd ct) :=
  fn_mk (st := s17) l c k tr17.1 tr17.2 (fun _ _ _ _ _ _ us hl => match us, hl with | [_, _], _ => rfl) (fun kV dc pm an cd ct => kb (kno 17 (by decide +kernel)))
theorem fb18 {C : G0} {oc kV dc pm cd ct : Value} {od an : Option Addr} {sl : Array (Option Value)} (l : C.K.lookup (C.gv 18) = some ⟨oc, od, .func (PySem.W.fnOf "corner_free" "corner_free" (defArgs s18) (defBody s18) (defScope s18) .none kV dc pm an cd ct), sl⟩) (c : PySem.W.codeIn C.K cd "corner_free" = true) (k : PySem.W.keepIn C.K (.ref (C.gv 18)) = true) :
    FnB C ng 18 f18 (PySem.W.fnOf "corner_free" "corner_free" (defArgs s18) (defBody s18) (defScope s18) .none kV dc pm an cd ct) :=
  fn_mk (st := s18) l c k tr18.1 tr18.2 (fun _ _ _ _ _ _ us hl => match us, hl with | [_, _], _ => rfl) (fun kV dc pm an cd ct => kb (kno 18 (by decide +kernel)))
theorem fb19 {C : G0} {oc kV dc pm cd ct : Value} {od an : Option Addr} {sl : Array (Option Value)} (l : C.K.lookup (C.gv 19) = some ⟨oc, od, .func (PySem.W.fnOf "sure_weight" "sure_weight" (defArgs s19) (defBody s19) (defScope s19) .none kV dc pm an cd ct), sl⟩) (c : PySem.W.codeIn C.K cd "sure_weight" = true) (k : PySem.W.keepIn C.K (.ref (C.gv 19)) = true) :
    FnB C ng 19 f19 (PySem.W.fnOf "sure_weight" "sure_weight" (defArgs s19) (defBody s19) (defScope s19) .none kV dc pm an cd ct) :=
  fn_mk (st := s19) l c k tr19.1 tr19.2 (fun _ _ _ _ _ _ us hl => match us, hl with | [_], _ => rfl) (fun kV dc pm an cd ct => kb (kno 19 (by decide +kernel)))
theorem fb20 {C : G0} {oc kV dc pm cd ct : Value} {od an : Option Addr} {sl : Array (Option Value)} (l : C.K.lookup (C.gv 20) = some ⟨oc, od, .func (PySem.W.fnOf "forms" "forms" (defArgs s20) (defBody s20) (defScope s20) .none kV dc pm an cd ct), sl⟩) (c : PySem.W.codeIn C.K cd "forms" = true) (k : PySem.W.keepIn C.K (.ref (C.gv 20)) = true) :
    FnB C ng 20 f20 (PySem.W.fnOf "forms" "forms" (defArgs s20) (defBody s20) (defScope s20) .none kV dc pm an cd ct) :=
  fn_mk (st := s20) l c k tr20.1 tr20.2 (fun _ _ _ _ _ _ us hl => match us, hl with | [_, _], _ => rfl) (fun kV dc pm an cd ct => fun ks np q => by
      have q := kw_of (r := [(20, ["lot", "weight"], 0)]) q (by decide +kernel)
      simp only [List.mem_cons, Prod.mk.injEq, true_and, List.not_mem_nil, or_false] at q
      obtain ⟨rfl, rfl⟩ := q
      · exact kb_mk (by decide) fun us ws h1 h2 => match us, ws, h1, h2 with | [], [_, _], _, _ => rfl
)
theorem fb21 {C : G0} {oc kV dc pm cd ct : Value} {od an : Option Addr} {sl : Array (Option Value)} (l : C.K.lookup (C.gv 21) = some ⟨oc, od, .func (PySem.W.fnOf "corner_forms" "corner_forms" (defArgs s21) (defBody s21) (defScope s21) .none kV dc pm an cd ct), sl⟩) (c : PySem.W.codeIn C.K cd "corner_forms" = true) (k : PySem.W.keepIn C.K (.ref (C.gv 21)) = true) :
    FnB C ng 21 f21 (PySem.W.fnOf "corner_forms" "corner_forms" (defArgs s21) (defBody s21) (defScope s21) .none kV dc pm an cd ct) :=
  fn_mk (st := s21) l c k tr21.1 tr21.2 (fun _ _ _ _ _ _ us hl => match us, hl with | [_, _], _ => rfl) (fun kV dc pm an cd ct => fun ks np q => by
      have q := kw_of (r := [(21, ["lot", "weight"], 0)]) q (by decide +kernel)
      simp only [List.mem_cons, Prod.mk.injEq, true_and, List.not_mem_nil, or_false] at q
      obtain ⟨rfl, rfl⟩ := q
      · exact kb_mk (by decide) fun us ws h1 h2 => match us, ws, h1, h2 with | [], [_, _], _, _ => rfl
)
theorem fb22 {C : G0} {oc kV dc pm cd ct : Value} {od an : Option Addr} {sl : Array (Option Value)} (l : C.K.lookup (C.gv 22) = some ⟨oc, od, .func (PySem.W.fnOf "growth" "growth" (defArgs s22) (defBody s22) (defScope s22) .none kV dc pm an cd ct), sl⟩) (c : PySem.W.codeIn C.K cd "growth" = true) (k : PySem.W.keepIn C.K (.ref (C.gv 22)) = true) :
    FnB C ng 22 f22 (PySem.W.fnOf "growth" "growth" (defArgs s22) (defBody s22) (defScope s22) .none kV dc pm an cd ct) :=
  fn_mk (st := s22) l c k tr22.1 tr22.2 (fun _ _ _ _ _ _ us hl => match us, hl with | [_], _ => rfl) (fun kV dc pm an cd ct => fun ks np q => by
      have q := kw_of (r := [(22, ["lot"], 0)]) q (by decide +kernel)
      simp only [List.mem_cons, Prod.mk.injEq, true_and, List.not_mem_nil, or_false] at q
      obtain ⟨rfl, rfl⟩ := q
      · exact kb_mk (by decide) fun us ws h1 h2 => match us, ws, h1, h2 with | [], [_], _, _ => rfl
)
theorem fb23 {C : G0} {oc kV dc pm cd ct : Value} {od an : Option Addr} {sl : Array (Option Value)} (l : C.K.lookup (C.gv 23) = some ⟨oc, od, .func (PySem.W.fnOf "row_of_forms" "row_of_forms" (defArgs s23) (defBody s23) (defScope s23) .none kV dc pm an cd ct), sl⟩) (c : PySem.W.codeIn C.K cd "row_of_forms" = true) (k : PySem.W.keepIn C.K (.ref (C.gv 23)) = true) :
    FnB C ng 23 f23 (PySem.W.fnOf "row_of_forms" "row_of_forms" (defArgs s23) (defBody s23) (defScope s23) .none kV dc pm an cd ct) :=
  fn_mk (st := s23) l c k tr23.1 tr23.2 (fun _ _ _ _ _ _ us hl => match us, hl with | [_, _], _ => rfl) (fun kV dc pm an cd ct => fun ks np q => by
      have q := kw_of (r := [(23, ["lot", "most"], 0)]) q (by decide +kernel)
      simp only [List.mem_cons, Prod.mk.injEq, true_and, List.not_mem_nil, or_false] at q
      obtain ⟨rfl, rfl⟩ := q
      · exact kb_mk (by decide) fun us ws h1 h2 => match us, ws, h1, h2 with | [], [_, _], _, _ => rfl
)
theorem fb24 {C : G0} {oc kV dc pm cd ct : Value} {od an : Option Addr} {sl : Array (Option Value)} (l : C.K.lookup (C.gv 24) = some ⟨oc, od, .func (PySem.W.fnOf "corner_row" "corner_row" (defArgs s24) (defBody s24) (defScope s24) .none kV dc pm an cd ct), sl⟩) (c : PySem.W.codeIn C.K cd "corner_row" = true) (k : PySem.W.keepIn C.K (.ref (C.gv 24)) = true) :
    FnB C ng 24 f24 (PySem.W.fnOf "corner_row" "corner_row" (defArgs s24) (defBody s24) (defScope s24) .none kV dc pm an cd ct) :=
  fn_mk (st := s24) l c k tr24.1 tr24.2 (fun _ _ _ _ _ _ us hl => match us, hl with | [_, _], _ => rfl) (fun kV dc pm an cd ct => fun ks np q => by
      have q := kw_of (r := [(24, ["lot", "most"], 0)]) q (by decide +kernel)
      simp only [List.mem_cons, Prod.mk.injEq, true_and, List.not_mem_nil, or_false] at q
      obtain ⟨rfl, rfl⟩ := q
      · exact kb_mk (by decide) fun us ws h1 h2 => match us, ws, h1, h2 with | [], [_, _], _, _ => rfl
)
theorem fb25 {C : G0} {oc kV dc pm cd ct : Value} {od an : Option Addr} {sl : Array (Option Value)} (l : C.K.lookup (C.gv 25) = some ⟨oc, od, .func (PySem.W.fnOf "bound" "bound" (defArgs s25) (defBody s25) (defScope s25) .none kV dc pm an cd ct), sl⟩) (c : PySem.W.codeIn C.K cd "bound" = true) (k : PySem.W.keepIn C.K (.ref (C.gv 25)) = true) :
    FnB C ng 25 f25 (PySem.W.fnOf "bound" "bound" (defArgs s25) (defBody s25) (defScope s25) .none kV dc pm an cd ct) :=
  fn_mk (st := s25) l c k tr25.1 tr25.2 (fun _ _ _ _ _ _ us hl => match us, hl with | [_, _], _ => rfl) (fun kV dc pm an cd ct => fun ks np q => by
      have q := kw_of (r := [(25, ["lot", "weight"], 0)]) q (by decide +kernel)
      simp only [List.mem_cons, Prod.mk.injEq, true_and, List.not_mem_nil, or_false] at q
      obtain ⟨rfl, rfl⟩ := q
      · exact kb_mk (by decide) fun us ws h1 h2 => match us, ws, h1, h2 with | [], [_, _], _, _ => rfl
)
theorem fb26 {C : G0} {oc kV dc pm cd ct : Value} {od an : Option Addr} {sl : Array (Option Value)} (l : C.K.lookup (C.gv 26) = some ⟨oc, od, .func (PySem.W.fnOf "edge_forms" "edge_forms" (defArgs s26) (defBody s26) (defScope s26) .none kV dc pm an cd ct), sl⟩) (c : PySem.W.codeIn C.K cd "edge_forms" = true) (k : PySem.W.keepIn C.K (.ref (C.gv 26)) = true) :
    FnB C ng 26 f26 (PySem.W.fnOf "edge_forms" "edge_forms" (defArgs s26) (defBody s26) (defScope s26) .none kV dc pm an cd ct) :=
  fn_mk (st := s26) l c k tr26.1 tr26.2 (fun _ _ _ _ _ _ us hl => match us, hl with | [_, _], _ => rfl) (fun kV dc pm an cd ct => fun ks np q => by
      have q := kw_of (r := [(26, ["lot", "weight"], 0)]) q (by decide +kernel)
      simp only [List.mem_cons, Prod.mk.injEq, true_and, List.not_mem_nil, or_false] at q
      obtain ⟨rfl, rfl⟩ := q
      · exact kb_mk (by decide) fun us ws h1 h2 => match us, ws, h1, h2 with | [], [_, _], _, _ => rfl
)
theorem fb27 {C : G0} {oc kV dc pm cd ct : Value} {od an : Option Addr} {sl : Array (Option Value)} (l : C.K.lookup (C.gv 27) = some ⟨oc, od, .func (PySem.W.fnOf "_law_box" "_law_box" (defArgs s27) (defBody s27) (defScope s27) .none kV dc pm an cd ct), sl⟩) (c : PySem.W.codeIn C.K cd "_law_box" = true) (k : PySem.W.keepIn C.K (.ref (C.gv 27)) = true) :
    FnB C ng 27 f27 (PySem.W.fnOf "_law_box" "_law_box" (defArgs s27) (defBody s27) (defScope s27) .none kV dc pm an cd ct) :=
  fn_mk (st := s27) l c k tr27.1 tr27.2 (fun _ _ _ _ _ _ us hl => match us, hl with | [_, _], _ => rfl) (fun kV dc pm an cd ct => kb (kno 27 (by decide +kernel)))
theorem fb28 {C : G0} {oc kV dc pm cd ct : Value} {od an : Option Addr} {sl : Array (Option Value)} (l : C.K.lookup (C.gv 28) = some ⟨oc, od, .func (PySem.W.fnOf "_law_take" "_law_take" (defArgs s28) (defBody s28) (defScope s28) .none kV dc pm an cd ct), sl⟩) (c : PySem.W.codeIn C.K cd "_law_take" = true) (k : PySem.W.keepIn C.K (.ref (C.gv 28)) = true) :
    FnB C ng 28 f28 (PySem.W.fnOf "_law_take" "_law_take" (defArgs s28) (defBody s28) (defScope s28) .none kV dc pm an cd ct) :=
  fn_mk (st := s28) l c k tr28.1 tr28.2 (fun _ _ _ _ _ _ us hl => match us, hl with | [_, _], _ => rfl) (fun kV dc pm an cd ct => kb (kno 28 (by decide +kernel)))
theorem fb29 {C : G0} {oc kV dc pm cd ct : Value} {od an : Option Addr} {sl : Array (Option Value)} (l : C.K.lookup (C.gv 29) = some ⟨oc, od, .func (PySem.W.fnOf "_law_cells" "_law_cells" (defArgs s29) (defBody s29) (defScope s29) .none kV dc pm an cd ct), sl⟩) (c : PySem.W.codeIn C.K cd "_law_cells" = true) (k : PySem.W.keepIn C.K (.ref (C.gv 29)) = true) :
    FnB C ng 29 f29 (PySem.W.fnOf "_law_cells" "_law_cells" (defArgs s29) (defBody s29) (defScope s29) .none kV dc pm an cd ct) :=
  fn_mk (st := s29) l c k tr29.1 tr29.2 (fun _ _ _ _ _ _ us hl => match us, hl with | [_, _], _ => rfl) (fun kV dc pm an cd ct => kb (kno 29 (by decide +kernel)))
theorem fb30 {C : G0} {oc kV dc pm cd ct : Value} {od an : Option Addr} {sl : Array (Option Value)} (l : C.K.lookup (C.gv 30) = some ⟨oc, od, .func (PySem.W.fnOf "_law_pick" "_law_pick" (defArgs s30) (defBody s30) (defScope s30) .none kV dc pm an cd ct), sl⟩) (c : PySem.W.codeIn C.K cd "_law_pick" = true) (k : PySem.W.keepIn C.K (.ref (C.gv 30)) = true) :
    FnB C ng 30 f30 (PySem.W.fnOf "_law_pick" "_law_pick" (defArgs s30) (defBody s30) (defScope s30) .none kV dc pm an cd ct) :=
  fn_mk (st := s30) l c k tr30.1 tr30.2 (fun _ _ _ _ _ _ us hl => match us, hl with | [_, _, _], _ => rfl) (fun kV dc pm an cd ct => kb (kno 30 (by decide +kernel)))
theorem fb31 {C : G0} {oc kV dc pm cd ct : Value} {od an : Option Addr} {sl : Array (Option Value)} (l : C.K.lookup (C.gv 31) = some ⟨oc, od, .func (PySem.W.fnOf "_law_lists" "_law_lists" (defArgs s31) (defBody s31) (defScope s31) .none kV dc pm an cd ct), sl⟩) (c : PySem.W.codeIn C.K cd "_law_lists" = true) (k : PySem.W.keepIn C.K (.ref (C.gv 31)) = true) :
    FnB C ng 31 f31 (PySem.W.fnOf "_law_lists" "_law_lists" (defArgs s31) (defBody s31) (defScope s31) .none kV dc pm an cd ct) :=
  fn_mk (st := s31) l c k tr31.1 tr31.2 (fun _ _ _ _ _ _ us hl => match us, hl with | [_], _ => rfl) (fun kV dc pm an cd ct => kb (kno 31 (by decide +kernel)))
theorem fb32 {C : G0} {oc kV dc pm cd ct : Value} {od an : Option Addr} {sl : Array (Option Value)} (l : C.K.lookup (C.gv 32) = some ⟨oc, od, .func (PySem.W.fnOf "_law_same" "_law_same" (defArgs s32) (defBody s32) (defScope s32) .none kV dc pm an cd ct), sl⟩) (c : PySem.W.codeIn C.K cd "_law_same" = true) (k : PySem.W.keepIn C.K (.ref (C.gv 32)) = true) :
    FnB C ng 32 f32 (PySem.W.fnOf "_law_same" "_law_same" (defArgs s32) (defBody s32) (defScope s32) .none kV dc pm an cd ct) :=
  fn_mk (st := s32) l c k tr32.1 tr32.2 (fun _ _ _ _ _ _ us hl => match us, hl with | [_, _], _ => rfl) (fun kV dc pm an cd ct => kb (kno 32 (by decide +kernel)))
theorem fb33 {C : G0} {oc kV dc pm cd ct : Value} {od an : Option Addr} {sl : Array (Option Value)} (l : C.K.lookup (C.gv 33) = some ⟨oc, od, .func (PySem.W.fnOf "_law_unmarked" "_law_unmarked" (defArgs s33) (defBody s33) (defScope s33) .none kV dc pm an cd ct), sl⟩) (c : PySem.W.codeIn C.K cd "_law_unmarked" = true) (k : PySem.W.keepIn C.K (.ref (C.gv 33)) = true) :
    FnB C ng 33 f33 (PySem.W.fnOf "_law_unmarked" "_law_unmarked" (defArgs s33) (defBody s33) (defScope s33) .none kV dc pm an cd ct) :=
  fn_mk (st := s33) l c k tr33.1 tr33.2 (fun _ _ _ _ _ _ us hl => match us, hl with | [_], _ => rfl) (fun kV dc pm an cd ct => kb (kno 33 (by decide +kernel)))
theorem fb34 {C : G0} {oc kV dc pm cd ct : Value} {od an : Option Addr} {sl : Array (Option Value)} (l : C.K.lookup (C.gv 34) = some ⟨oc, od, .func (PySem.W.fnOf "_law_call" "_law_call" (defArgs s34) (defBody s34) (defScope s34) .none kV dc pm an cd ct), sl⟩) (c : PySem.W.codeIn C.K cd "_law_call" = true) (k : PySem.W.keepIn C.K (.ref (C.gv 34)) = true) :
    FnB C ng 34 f34 (PySem.W.fnOf "_law_call" "_law_call" (defArgs s34) (defBody s34) (defScope s34) .none kV dc pm an cd ct) :=
  fn_mk (st := s34) l c k tr34.1 tr34.2 (fun _ _ _ _ _ _ us hl => match us, hl with | [_, _], _ => rfl) (fun kV dc pm an cd ct => kb (kno 34 (by decide +kernel)))
theorem fb35 {C : G0} {oc kV dc pm cd ct : Value} {od an : Option Addr} {sl : Array (Option Value)} (l : C.K.lookup (C.gv 35) = some ⟨oc, od, .func (PySem.W.fnOf "_law_then" "_law_then" (defArgs s35) (defBody s35) (defScope s35) .none kV dc pm an cd ct), sl⟩) (c : PySem.W.codeIn C.K cd "_law_then" = true) (k : PySem.W.keepIn C.K (.ref (C.gv 35)) = true) :
    FnB C ng 35 f35 (PySem.W.fnOf "_law_then" "_law_then" (defArgs s35) (defBody s35) (defScope s35) .none kV dc pm an cd ct) :=
  fn_mk (st := s35) l c k tr35.1 tr35.2 (fun _ _ _ _ _ _ us hl => match us, hl with | [_, _], _ => rfl) (fun kV dc pm an cd ct => kb (kno 35 (by decide +kernel)))
theorem fb36 {C : G0} {oc kV dc pm cd ct : Value} {od an : Option Addr} {sl : Array (Option Value)} (l : C.K.lookup (C.gv 36) = some ⟨oc, od, .func (PySem.W.fnOf "_law_rounds" "_law_rounds" (defArgs s36) (defBody s36) (defScope s36) .none kV dc pm an cd ct), sl⟩) (c : PySem.W.codeIn C.K cd "_law_rounds" = true) (k : PySem.W.keepIn C.K (.ref (C.gv 36)) = true) :
    FnB C ng 36 f36 (PySem.W.fnOf "_law_rounds" "_law_rounds" (defArgs s36) (defBody s36) (defScope s36) .none kV dc pm an cd ct) :=
  fn_mk (st := s36) l c k tr36.1 tr36.2 (fun _ _ _ _ _ _ us hl => match us, hl with | [_], _ => rfl) (fun kV dc pm an cd ct => kb (kno 36 (by decide +kernel)))
theorem fb37 {C : G0} {oc kV dc pm cd ct : Value} {od an : Option Addr} {sl : Array (Option Value)} (l : C.K.lookup (C.gv 37) = some ⟨oc, od, .func (PySem.W.fnOf "_law_is_whole" "_law_is_whole" (defArgs s37) (defBody s37) (defScope s37) .none kV dc pm an cd ct), sl⟩) (c : PySem.W.codeIn C.K cd "_law_is_whole" = true) (k : PySem.W.keepIn C.K (.ref (C.gv 37)) = true) :
    FnB C ng 37 f37 (PySem.W.fnOf "_law_is_whole" "_law_is_whole" (defArgs s37) (defBody s37) (defScope s37) .none kV dc pm an cd ct) :=
  fn_mk (st := s37) l c k tr37.1 tr37.2 (fun _ _ _ _ _ _ us hl => match us, hl with | [_, _], _ => rfl) (fun kV dc pm an cd ct => kb (kno 37 (by decide +kernel)))
theorem fb38 {C : G0} {oc kV dc pm cd ct : Value} {od an : Option Addr} {sl : Array (Option Value)} (l : C.K.lookup (C.gv 38) = some ⟨oc, od, .func (PySem.W.fnOf "_law_draw_lot" "_law_draw_lot" (defArgs s38) (defBody s38) (defScope s38) .none kV dc pm an cd ct), sl⟩) (c : PySem.W.codeIn C.K cd "_law_draw_lot" = true) (k : PySem.W.keepIn C.K (.ref (C.gv 38)) = true) :
    FnB C ng 38 f38 (PySem.W.fnOf "_law_draw_lot" "_law_draw_lot" (defArgs s38) (defBody s38) (defScope s38) .none kV dc pm an cd ct) :=
  fn_mk (st := s38) l c k tr38.1 tr38.2 (fun _ _ _ _ _ _ us hl => match us, hl with | [_, _], _ => rfl) (fun kV dc pm an cd ct => kb (kno 38 (by decide +kernel)))
theorem fb39 {C : G0} {oc kV dc pm cd ct : Value} {od an : Option Addr} {sl : Array (Option Value)} (l : C.K.lookup (C.gv 39) = some ⟨oc, od, .func (PySem.W.fnOf "_law_step" "_law_step" (defArgs s39) (defBody s39) (defScope s39) .none kV dc pm an cd ct), sl⟩) (c : PySem.W.codeIn C.K cd "_law_step" = true) (k : PySem.W.keepIn C.K (.ref (C.gv 39)) = true) :
    FnB C ng 39 f39 (PySem.W.fnOf "_law_step" "_law_step" (defArgs s39) (defBody s39) (defScope s39) .none kV dc pm an cd ct) :=
  fn_mk (st := s39) l c k tr39.1 tr39.2 (fun _ _ _ _ _ _ us hl => match us, hl with | [_], _ => rfl) (fun kV dc pm an cd ct => kb (kno 39 (by decide +kernel)))
theorem fb40 {C : G0} {oc kV dc pm cd ct : Value} {od an : Option Addr} {sl : Array (Option Value)} (l : C.K.lookup (C.gv 40) = some ⟨oc, od, .func (PySem.W.fnOf "_law_corners" "_law_corners" (defArgs s40) (defBody s40) (defScope s40) .none kV dc pm an cd ct), sl⟩) (c : PySem.W.codeIn C.K cd "_law_corners" = true) (k : PySem.W.keepIn C.K (.ref (C.gv 40)) = true) :
    FnB C ng 40 f40 (PySem.W.fnOf "_law_corners" "_law_corners" (defArgs s40) (defBody s40) (defScope s40) .none kV dc pm an cd ct) :=
  fn_mk (st := s40) l c k tr40.1 tr40.2 (fun _ _ _ _ _ _ us hl => match us, hl with | [_], _ => rfl) (fun kV dc pm an cd ct => kb (kno 40 (by decide +kernel)))
theorem fb41 {C : G0} {oc kV dc pm cd ct : Value} {od an : Option Addr} {sl : Array (Option Value)} (l : C.K.lookup (C.gv 41) = some ⟨oc, od, .func (PySem.W.fnOf "_law_kept" "_law_kept" (defArgs s41) (defBody s41) (defScope s41) .none kV dc pm an cd ct), sl⟩) (c : PySem.W.codeIn C.K cd "_law_kept" = true) (k : PySem.W.keepIn C.K (.ref (C.gv 41)) = true) :
    FnB C ng 41 f41 (PySem.W.fnOf "_law_kept" "_law_kept" (defArgs s41) (defBody s41) (defScope s41) .none kV dc pm an cd ct) :=
  fn_mk (st := s41) l c k tr41.1 tr41.2 (fun _ _ _ _ _ _ us hl => match us, hl with | [_], _ => rfl) (fun kV dc pm an cd ct => kb (kno 41 (by decide +kernel)))
theorem fb42 {C : G0} {oc kV dc pm cd ct : Value} {od an : Option Addr} {sl : Array (Option Value)} (l : C.K.lookup (C.gv 42) = some ⟨oc, od, .func (PySem.W.fnOf "_law_handles" "_law_handles" (defArgs s42) (defBody s42) (defScope s42) .none kV dc pm an cd ct), sl⟩) (c : PySem.W.codeIn C.K cd "_law_handles" = true) (k : PySem.W.keepIn C.K (.ref (C.gv 42)) = true) :
    FnB C ng 42 f42 (PySem.W.fnOf "_law_handles" "_law_handles" (defArgs s42) (defBody s42) (defScope s42) .none kV dc pm an cd ct) :=
  fn_mk (st := s42) l c k tr42.1 tr42.2 (fun _ _ _ _ _ _ us hl => match us, hl with | [_], _ => rfl) (fun kV dc pm an cd ct => kb (kno 42 (by decide +kernel)))
theorem fb43 {C : G0} {oc kV dc pm cd ct : Value} {od an : Option Addr} {sl : Array (Option Value)} (l : C.K.lookup (C.gv 43) = some ⟨oc, od, .func (PySem.W.fnOf "_law_shape" "_law_shape" (defArgs s43) (defBody s43) (defScope s43) .none kV dc pm an cd ct), sl⟩) (c : PySem.W.codeIn C.K cd "_law_shape" = true) (k : PySem.W.keepIn C.K (.ref (C.gv 43)) = true) :
    FnB C ng 43 f43 (PySem.W.fnOf "_law_shape" "_law_shape" (defArgs s43) (defBody s43) (defScope s43) .none kV dc pm an cd ct) :=
  fn_mk (st := s43) l c k tr43.1 tr43.2 (fun _ _ _ _ _ _ us hl => match us, hl with | [_], _ => rfl) (fun kV dc pm an cd ct => kb (kno 43 (by decide +kernel)))
theorem fb44 {C : G0} {oc kV dc pm cd ct : Value} {od an : Option Addr} {sl : Array (Option Value)} (l : C.K.lookup (C.gv 44) = some ⟨oc, od, .func (PySem.W.fnOf "_law_heard" "_law_heard" (defArgs s44) (defBody s44) (defScope s44) .none kV dc pm an cd ct), sl⟩) (c : PySem.W.codeIn C.K cd "_law_heard" = true) (k : PySem.W.keepIn C.K (.ref (C.gv 44)) = true) :
    FnB C ng 44 f44 (PySem.W.fnOf "_law_heard" "_law_heard" (defArgs s44) (defBody s44) (defScope s44) .none kV dc pm an cd ct) :=
  fn_mk (st := s44) l c k tr44.1 tr44.2 (fun _ _ _ _ _ _ us hl => match us, hl with | [_, _], _ => rfl) (fun kV dc pm an cd ct => kb (kno 44 (by decide +kernel)))
theorem fb45 {C : G0} {oc kV dc pm cd ct : Value} {od an : Option Addr} {sl : Array (Option Value)} (l : C.K.lookup (C.gv 45) = some ⟨oc, od, .func (PySem.W.fnOf "_law_forms" "_law_forms" (defArgs s45) (defBody s45) (defScope s45) .none kV dc pm an cd ct), sl⟩) (c : PySem.W.codeIn C.K cd "_law_forms" = true) (k : PySem.W.keepIn C.K (.ref (C.gv 45)) = true) :
    FnB C ng 45 f45 (PySem.W.fnOf "_law_forms" "_law_forms" (defArgs s45) (defBody s45) (defScope s45) .none kV dc pm an cd ct) :=
  fn_mk (st := s45) l c k tr45.1 tr45.2 (fun _ _ _ _ _ _ us hl => match us, hl with | [_, _], _ => rfl) (fun kV dc pm an cd ct => kb (kno 45 (by decide +kernel)))
theorem fb46 {C : G0} {oc kV dc pm cd ct : Value} {od an : Option Addr} {sl : Array (Option Value)} (l : C.K.lookup (C.gv 46) = some ⟨oc, od, .func (PySem.W.fnOf "_law_corner_forms" "_law_corner_forms" (defArgs s46) (defBody s46) (defScope s46) .none kV dc pm an cd ct), sl⟩) (c : PySem.W.codeIn C.K cd "_law_corner_forms" = true) (k : PySem.W.keepIn C.K (.ref (C.gv 46)) = true) :
    FnB C ng 46 f46 (PySem.W.fnOf "_law_corner_forms" "_law_corner_forms" (defArgs s46) (defBody s46) (defScope s46) .none kV dc pm an cd ct) :=
  fn_mk (st := s46) l c k tr46.1 tr46.2 (fun _ _ _ _ _ _ us hl => match us, hl with | [_, _], _ => rfl) (fun kV dc pm an cd ct => kb (kno 46 (by decide +kernel)))
theorem fb47 {C : G0} {oc kV dc pm cd ct : Value} {od an : Option Addr} {sl : Array (Option Value)} (l : C.K.lookup (C.gv 47) = some ⟨oc, od, .func (PySem.W.fnOf "law" "law" (defArgs s47) (defBody s47) (defScope s47) .none kV dc pm an cd ct), sl⟩) (c : PySem.W.codeIn C.K cd "law" = true) (k : PySem.W.keepIn C.K (.ref (C.gv 47)) = true) :
    FnB C ng 47 f47 (PySem.W.fnOf "law" "law" (defArgs s47) (defBody s47) (defScope s47) .none kV dc pm an cd ct) :=
  fn_mk (st := s47) l c k tr47.1 tr47.2 (fun _ _ _ _ _ _ us hl => match us, hl with | [_], _ => rfl) (fun kV dc pm an cd ct => kb (kno 47 (by decide +kernel)))
theorem all_mk {P : Program} {w : World} {K : PySem.W.Frag} {h : Heap} {mg : Str → Option Value} {fa : Addr} (X : K.In h) (G : h.Ns mainGlobals mg) (hfa : mg "law" = some (.ref fa))
    {g0 g1 g2 g3 g4 g5 g6 g7 g8 g9 g10 g11 g12 g13 g14 g15 g16 g17 g18 g19 g20 g21 g22 g23 g24 g25 g26 g27 g28 g29 g30 g31 g32 g33 g34 g35 g36 g37 g38 g39 g40 g41 g42 g43 g44 g45 g46 g47 p0 p1 p2 : Addr}
    {oc0 kV0 dc0 pm0 cd0 ct0 oc1 kV1 dc1 pm1 cd1 ct1 oc2 kV2 dc2 pm2 cd2 ct2 oc3 kV3 dc3 pm3 cd3 ct3 oc4 kV4 dc4 pm4 cd4 ct4 oc5 kV5 dc5 pm5 cd5 ct5 oc6 kV6 dc6 pm6 cd6 ct6 oc7 kV7 dc7 pm7 cd7 ct7 oc8 kV8 dc8 pm8 cd8 ct8 oc9 kV9 dc9 pm9 cd9 ct9 oc10 kV10 dc10 pm10 cd10 ct10 oc11 kV11 dc11 pm11 cd11 ct11 oc12 kV12 dc12 pm12 cd12 ct12 oc13 kV13 dc13 pm13 cd13 ct13 oc14 kV14 dc14 pm14 cd14 ct14 oc15 kV15 dc15 pm15 cd15 ct15 oc16 kV16 dc16 pm16 cd16 ct16 oc17 kV17 dc17 pm17 cd17 ct17 oc18 kV18 dc18 pm18 cd18 ct18 oc19 kV19 dc19 pm19 cd19 ct19 oc20 kV20 dc20 pm20 cd20 ct20 oc21 kV21 dc21 pm21 cd21 ct21 oc22 kV22 dc22 pm22 cd22 ct22 oc23 kV23 dc23 pm23 cd23 ct23 oc24 kV24 dc24 pm24 cd24 ct24 oc25 kV25 dc25 pm25 cd25 ct25 oc26 kV26 dc26 pm26 cd26 ct26 oc27 kV27 dc27 pm27 cd27 ct27 oc28 kV28 dc28 pm28 cd28 ct28 oc29 kV29 dc29 pm29 cd29 ct29 oc30 kV30 dc30 pm30 cd30 ct30 oc31 kV31 dc31 pm31 cd31 ct31 oc32 kV32 dc32 pm32 cd32 ct32 oc33 kV33 dc33 pm33 cd33 ct33 oc34 kV34 dc34 pm34 cd34 ct34 oc35 kV35 dc35 pm35 cd35 ct35 oc36 kV36 dc36 pm36 cd36 ct36 oc37 kV37 dc37 pm37 cd37 ct37 oc38 kV38 dc38 pm38 cd38 ct38 oc39 kV39 dc39 pm39 cd39 ct39 oc40 kV40 dc40 pm40 cd40 ct40 oc41 kV41 dc41 pm41 cd41 ct41 oc42 kV42 dc42 pm42 cd42 ct42 oc43 kV43 dc43 pm43 cd43 ct43 oc44 kV44 dc44 pm44 cd44 ct44 oc45 kV45 dc45 pm45 cd45 ct45 oc46 kV46 dc46 pm46 cd46 ct46 oc47 kV47 dc47 pm47 cd47 ct47 : Value}
    {od0 an0 od1 an1 od2 an2 od3 an3 od4 an4 od5 an5 od6 an6 od7 an7 od8 an8 od9 an9 od10 an10 od11 an11 od12 an12 od13 an13 od14 an14 od15 an15 od16 an16 od17 an17 od18 an18 od19 an19 od20 an20 od21 an21 od22 an22 od23 an23 od24 an24 od25 an25 od26 an26 od27 an27 od28 an28 od29 an29 od30 an30 od31 an31 od32 an32 od33 an33 od34 an34 od35 an35 od36 an36 od37 an37 od38 an38 od39 an39 od40 an40 od41 an41 od42 an42 od43 an43 od44 an44 od45 an45 od46 an46 od47 an47 : Option Addr}
    {sl0 sl1 sl2 sl3 sl4 sl5 sl6 sl7 sl8 sl9 sl10 sl11 sl12 sl13 sl14 sl15 sl16 sl17 sl18 sl19 sl20 sl21 sl22 sl23 sl24 sl25 sl26 sl27 sl28 sl29 sl30 sl31 sl32 sl33 sl34 sl35 sl36 sl37 sl38 sl39 sl40 sl41 sl42 sl43 sl44 sl45 sl46 sl47 : Array (Option Value)}
    {tk0 tk1 : Tok}
    (a0 : PySem.W.nsIn K mainGlobals "is_number" = some (some (.ref g0)))
    (l0 : K.lookup g0 = some ⟨oc0, od0, .func (PySem.W.fnOf "is_number" "is_number" (defArgs s0) (defBody s0) (defScope s0) .none kV0 dc0 pm0 an0 cd0 ct0), sl0⟩)
    (c0 : PySem.W.codeIn K cd0 "is_number" = true)
    (k0 : PySem.W.keepIn K (.ref g0) = true)
    (a1 : PySem.W.nsIn K mainGlobals "is_within" = some (some (.ref g1)))
    (l1 : K.lookup g1 = some ⟨oc1, od1, .func (PySem.W.fnOf "is_within" "is_within" (defArgs s1) (defBody s1) (defScope s1) .none kV1 dc1 pm1 an1 cd1 ct1), sl1⟩)
    (c1 : PySem.W.codeIn K cd1 "is_within" = true)
    (k1 : PySem.W.keepIn K (.ref g1) = true)
    (a2 : PySem.W.nsIn K mainGlobals "is_long" = some (some (.ref g2)))
    (l2 : K.lookup g2 = some ⟨oc2, od2, .func (PySem.W.fnOf "is_long" "is_long" (defArgs s2) (defBody s2) (defScope s2) .none kV2 dc2 pm2 an2 cd2 ct2), sl2⟩)
    (c2 : PySem.W.codeIn K cd2 "is_long" = true)
    (k2 : PySem.W.keepIn K (.ref g2) = true)
    (a3 : PySem.W.nsIn K mainGlobals "are_numbers" = some (some (.ref g3)))
    (l3 : K.lookup g3 = some ⟨oc3, od3, .func (PySem.W.fnOf "are_numbers" "are_numbers" (defArgs s3) (defBody s3) (defScope s3) .none kV3 dc3 pm3 an3 cd3 ct3), sl3⟩)
    (c3 : PySem.W.codeIn K cd3 "are_numbers" = true)
    (k3 : PySem.W.keepIn K (.ref g3) = true)
    (a4 : PySem.W.nsIn K mainGlobals "tupled" = some (some (.ref g4)))
    (l4 : K.lookup g4 = some ⟨oc4, od4, .func (PySem.W.fnOf "tupled" "tupled" (defArgs s4) (defBody s4) (defScope s4) .none kV4 dc4 pm4 an4 cd4 ct4), sl4⟩)
    (c4 : PySem.W.codeIn K cd4 "tupled" = true)
    (k4 : PySem.W.keepIn K (.ref g4) = true)
    (a5 : PySem.W.nsIn K mainGlobals "is_order" = some (some (.ref g5)))
    (l5 : K.lookup g5 = some ⟨oc5, od5, .func (PySem.W.fnOf "is_order" "is_order" (defArgs s5) (defBody s5) (defScope s5) .none kV5 dc5 pm5 an5 cd5 ct5), sl5⟩)
    (c5 : PySem.W.codeIn K cd5 "is_order" = true)
    (k5 : PySem.W.keepIn K (.ref g5) = true)
    (a6 : PySem.W.nsIn K mainGlobals "behind" = some (some (.ref g6)))
    (l6 : K.lookup g6 = some ⟨oc6, od6, .func (PySem.W.fnOf "behind" "behind" (defArgs s6) (defBody s6) (defScope s6) .none kV6 dc6 pm6 an6 cd6 ct6), sl6⟩)
    (c6 : PySem.W.codeIn K cd6 "behind" = true)
    (k6 : PySem.W.keepIn K (.ref g6) = true)
    (a7 : PySem.W.nsIn K mainGlobals "rounds" = some (some (.ref g7)))
    (l7 : K.lookup g7 = some ⟨oc7, od7, .func (PySem.W.fnOf "rounds" "rounds" (defArgs s7) (defBody s7) (defScope s7) .none kV7 dc7 pm7 an7 cd7 ct7), sl7⟩)
    (c7 : PySem.W.codeIn K cd7 "rounds" = true)
    (k7 : PySem.W.keepIn K (.ref g7) = true)
    (a8 : PySem.W.nsIn K mainGlobals "is_whole" = some (some (.ref g8)))
    (l8 : K.lookup g8 = some ⟨oc8, od8, .func (PySem.W.fnOf "is_whole" "is_whole" (defArgs s8) (defBody s8) (defScope s8) .none kV8 dc8 pm8 an8 cd8 ct8), sl8⟩)
    (c8 : PySem.W.codeIn K cd8 "is_whole" = true)
    (k8 : PySem.W.keepIn K (.ref g8) = true)
    (a9 : PySem.W.nsIn K mainGlobals "listed" = some (some (.ref g9)))
    (l9 : K.lookup g9 = some ⟨oc9, od9, .func (PySem.W.fnOf "listed" "listed" (defArgs s9) (defBody s9) (defScope s9) .none kV9 dc9 pm9 an9 cd9 ct9), sl9⟩)
    (c9 : PySem.W.codeIn K cd9 "listed" = true)
    (k9 : PySem.W.keepIn K (.ref g9) = true)
    (a10 : PySem.W.nsIn K mainGlobals "is_lot_of" = some (some (.ref g10)))
    (l10 : K.lookup g10 = some ⟨oc10, od10, .func (PySem.W.fnOf "is_lot_of" "is_lot_of" (defArgs s10) (defBody s10) (defScope s10) .none kV10 dc10 pm10 an10 cd10 ct10), sl10⟩)
    (c10 : PySem.W.codeIn K cd10 "is_lot_of" = true)
    (k10 : PySem.W.keepIn K (.ref g10) = true)
    (a11 : PySem.W.nsIn K mainGlobals "sure_lot" = some (some (.ref g11)))
    (l11 : K.lookup g11 = some ⟨oc11, od11, .func (PySem.W.fnOf "sure_lot" "sure_lot" (defArgs s11) (defBody s11) (defScope s11) .none kV11 dc11 pm11 an11 cd11 ct11), sl11⟩)
    (c11 : PySem.W.codeIn K cd11 "sure_lot" = true)
    (k11 : PySem.W.keepIn K (.ref g11) = true)
    (a12 : PySem.W.nsIn K mainGlobals "step_order" = some (some (.ref g12)))
    (l12 : K.lookup g12 = some ⟨oc12, od12, .func (PySem.W.fnOf "step_order" "step_order" (defArgs s12) (defBody s12) (defScope s12) .none kV12 dc12 pm12 an12 cd12 ct12), sl12⟩)
    (c12 : PySem.W.codeIn K cd12 "step_order" = true)
    (k12 : PySem.W.keepIn K (.ref g12) = true)
    (a13 : PySem.W.nsIn K mainGlobals "corners_in" = some (some (.ref g13)))
    (l13 : K.lookup g13 = some ⟨oc13, od13, .func (PySem.W.fnOf "corners_in" "corners_in" (defArgs s13) (defBody s13) (defScope s13) .none kV13 dc13 pm13 an13 cd13 ct13), sl13⟩)
    (c13 : PySem.W.codeIn K cd13 "corners_in" = true)
    (k13 : PySem.W.keepIn K (.ref g13) = true)
    (a14 : PySem.W.nsIn K mainGlobals "kept_by" = some (some (.ref g14)))
    (l14 : K.lookup g14 = some ⟨oc14, od14, .func (PySem.W.fnOf "kept_by" "kept_by" (defArgs s14) (defBody s14) (defScope s14) .none kV14 dc14 pm14 an14 cd14 ct14), sl14⟩)
    (c14 : PySem.W.codeIn K cd14 "kept_by" = true)
    (k14 : PySem.W.keepIn K (.ref g14) = true)
    (a15 : PySem.W.nsIn K mainGlobals "handles_in" = some (some (.ref g15)))
    (l15 : K.lookup g15 = some ⟨oc15, od15, .func (PySem.W.fnOf "handles_in" "handles_in" (defArgs s15) (defBody s15) (defScope s15) .none kV15 dc15 pm15 an15 cd15 ct15), sl15⟩)
    (c15 : PySem.W.codeIn K cd15 "handles_in" = true)
    (k15 : PySem.W.keepIn K (.ref g15) = true)
    (a16 : PySem.W.nsIn K mainGlobals "parts_of" = some (some (.ref g16)))
    (l16 : K.lookup g16 = some ⟨oc16, od16, .func (PySem.W.fnOf "parts_of" "parts_of" (defArgs s16) (defBody s16) (defScope s16) .none kV16 dc16 pm16 an16 cd16 ct16), sl16⟩)
    (c16 : PySem.W.codeIn K cd16 "parts_of" = true)
    (k16 : PySem.W.keepIn K (.ref g16) = true)
    (a17 : PySem.W.nsIn K mainGlobals "whole_forms" = some (some (.ref g17)))
    (l17 : K.lookup g17 = some ⟨oc17, od17, .func (PySem.W.fnOf "whole_forms" "whole_forms" (defArgs s17) (defBody s17) (defScope s17) .none kV17 dc17 pm17 an17 cd17 ct17), sl17⟩)
    (c17 : PySem.W.codeIn K cd17 "whole_forms" = true)
    (k17 : PySem.W.keepIn K (.ref g17) = true)
    (a18 : PySem.W.nsIn K mainGlobals "corner_free" = some (some (.ref g18)))
    (l18 : K.lookup g18 = some ⟨oc18, od18, .func (PySem.W.fnOf "corner_free" "corner_free" (defArgs s18) (defBody s18) (defScope s18) .none kV18 dc18 pm18 an18 cd18 ct18), sl18⟩)
    (c18 : PySem.W.codeIn K cd18 "corner_free" = true)
    (k18 : PySem.W.keepIn K (.ref g18) = true)
    (a19 : PySem.W.nsIn K mainGlobals "sure_weight" = some (some (.ref g19)))
    (l19 : K.lookup g19 = some ⟨oc19, od19, .func (PySem.W.fnOf "sure_weight" "sure_weight" (defArgs s19) (defBody s19) (defScope s19) .none kV19 dc19 pm19 an19 cd19 ct19), sl19⟩)
    (c19 : PySem.W.codeIn K cd19 "sure_weight" = true)
    (k19 : PySem.W.keepIn K (.ref g19) = true)
    (a20 : PySem.W.nsIn K mainGlobals "forms" = some (some (.ref g20)))
    (l20 : K.lookup g20 = some ⟨oc20, od20, .func (PySem.W.fnOf "forms" "forms" (defArgs s20) (defBody s20) (defScope s20) .none kV20 dc20 pm20 an20 cd20 ct20), sl20⟩)
    (c20 : PySem.W.codeIn K cd20 "forms" = true)
    (k20 : PySem.W.keepIn K (.ref g20) = true)
    (a21 : PySem.W.nsIn K mainGlobals "corner_forms" = some (some (.ref g21)))
    (l21 : K.lookup g21 = some ⟨oc21, od21, .func (PySem.W.fnOf "corner_forms" "corner_forms" (defArgs s21) (defBody s21) (defScope s21) .none kV21 dc21 pm21 an21 cd21 ct21), sl21⟩)
    (c21 : PySem.W.codeIn K cd21 "corner_forms" = true)
    (k21 : PySem.W.keepIn K (.ref g21) = true)
    (a22 : PySem.W.nsIn K mainGlobals "growth" = some (some (.ref g22)))
    (l22 : K.lookup g22 = some ⟨oc22, od22, .func (PySem.W.fnOf "growth" "growth" (defArgs s22) (defBody s22) (defScope s22) .none kV22 dc22 pm22 an22 cd22 ct22), sl22⟩)
    (c22 : PySem.W.codeIn K cd22 "growth" = true)
    (k22 : PySem.W.keepIn K (.ref g22) = true)
    (a23 : PySem.W.nsIn K mainGlobals "row_of_forms" = some (some (.ref g23)))
    (l23 : K.lookup g23 = some ⟨oc23, od23, .func (PySem.W.fnOf "row_of_forms" "row_of_forms" (defArgs s23) (defBody s23) (defScope s23) .none kV23 dc23 pm23 an23 cd23 ct23), sl23⟩)
    (c23 : PySem.W.codeIn K cd23 "row_of_forms" = true)
    (k23 : PySem.W.keepIn K (.ref g23) = true)
    (a24 : PySem.W.nsIn K mainGlobals "corner_row" = some (some (.ref g24)))
    (l24 : K.lookup g24 = some ⟨oc24, od24, .func (PySem.W.fnOf "corner_row" "corner_row" (defArgs s24) (defBody s24) (defScope s24) .none kV24 dc24 pm24 an24 cd24 ct24), sl24⟩)
    (c24 : PySem.W.codeIn K cd24 "corner_row" = true)
    (k24 : PySem.W.keepIn K (.ref g24) = true)
    (a25 : PySem.W.nsIn K mainGlobals "bound" = some (some (.ref g25)))
    (l25 : K.lookup g25 = some ⟨oc25, od25, .func (PySem.W.fnOf "bound" "bound" (defArgs s25) (defBody s25) (defScope s25) .none kV25 dc25 pm25 an25 cd25 ct25), sl25⟩)
    (c25 : PySem.W.codeIn K cd25 "bound" = true)
    (k25 : PySem.W.keepIn K (.ref g25) = true)
    (a26 : PySem.W.nsIn K mainGlobals "edge_forms" = some (some (.ref g26)))
    (l26 : K.lookup g26 = some ⟨oc26, od26, .func (PySem.W.fnOf "edge_forms" "edge_forms" (defArgs s26) (defBody s26) (defScope s26) .none kV26 dc26 pm26 an26 cd26 ct26), sl26⟩)
    (c26 : PySem.W.codeIn K cd26 "edge_forms" = true)
    (k26 : PySem.W.keepIn K (.ref g26) = true)
    (a27 : PySem.W.nsIn K mainGlobals "_law_box" = some (some (.ref g27)))
    (l27 : K.lookup g27 = some ⟨oc27, od27, .func (PySem.W.fnOf "_law_box" "_law_box" (defArgs s27) (defBody s27) (defScope s27) .none kV27 dc27 pm27 an27 cd27 ct27), sl27⟩)
    (c27 : PySem.W.codeIn K cd27 "_law_box" = true)
    (k27 : PySem.W.keepIn K (.ref g27) = true)
    (a28 : PySem.W.nsIn K mainGlobals "_law_take" = some (some (.ref g28)))
    (l28 : K.lookup g28 = some ⟨oc28, od28, .func (PySem.W.fnOf "_law_take" "_law_take" (defArgs s28) (defBody s28) (defScope s28) .none kV28 dc28 pm28 an28 cd28 ct28), sl28⟩)
    (c28 : PySem.W.codeIn K cd28 "_law_take" = true)
    (k28 : PySem.W.keepIn K (.ref g28) = true)
    (a29 : PySem.W.nsIn K mainGlobals "_law_cells" = some (some (.ref g29)))
    (l29 : K.lookup g29 = some ⟨oc29, od29, .func (PySem.W.fnOf "_law_cells" "_law_cells" (defArgs s29) (defBody s29) (defScope s29) .none kV29 dc29 pm29 an29 cd29 ct29), sl29⟩)
    (c29 : PySem.W.codeIn K cd29 "_law_cells" = true)
    (k29 : PySem.W.keepIn K (.ref g29) = true)
    (a30 : PySem.W.nsIn K mainGlobals "_law_pick" = some (some (.ref g30)))
    (l30 : K.lookup g30 = some ⟨oc30, od30, .func (PySem.W.fnOf "_law_pick" "_law_pick" (defArgs s30) (defBody s30) (defScope s30) .none kV30 dc30 pm30 an30 cd30 ct30), sl30⟩)
    (c30 : PySem.W.codeIn K cd30 "_law_pick" = true)
    (k30 : PySem.W.keepIn K (.ref g30) = true)
    (a31 : PySem.W.nsIn K mainGlobals "_law_lists" = some (some (.ref g31)))
    (l31 : K.lookup g31 = some ⟨oc31, od31, .func (PySem.W.fnOf "_law_lists" "_law_lists" (defArgs s31) (defBody s31) (defScope s31) .none kV31 dc31 pm31 an31 cd31 ct31), sl31⟩)
    (c31 : PySem.W.codeIn K cd31 "_law_lists" = true)
    (k31 : PySem.W.keepIn K (.ref g31) = true)
    (a32 : PySem.W.nsIn K mainGlobals "_law_same" = some (some (.ref g32)))
    (l32 : K.lookup g32 = some ⟨oc32, od32, .func (PySem.W.fnOf "_law_same" "_law_same" (defArgs s32) (defBody s32) (defScope s32) .none kV32 dc32 pm32 an32 cd32 ct32), sl32⟩)
    (c32 : PySem.W.codeIn K cd32 "_law_same" = true)
    (k32 : PySem.W.keepIn K (.ref g32) = true)
    (a33 : PySem.W.nsIn K mainGlobals "_law_unmarked" = some (some (.ref g33)))
    (l33 : K.lookup g33 = some ⟨oc33, od33, .func (PySem.W.fnOf "_law_unmarked" "_law_unmarked" (defArgs s33) (defBody s33) (defScope s33) .none kV33 dc33 pm33 an33 cd33 ct33), sl33⟩)
    (c33 : PySem.W.codeIn K cd33 "_law_unmarked" = true)
    (k33 : PySem.W.keepIn K (.ref g33) = true)
    (a34 : PySem.W.nsIn K mainGlobals "_law_call" = some (some (.ref g34)))
    (l34 : K.lookup g34 = some ⟨oc34, od34, .func (PySem.W.fnOf "_law_call" "_law_call" (defArgs s34) (defBody s34) (defScope s34) .none kV34 dc34 pm34 an34 cd34 ct34), sl34⟩)
    (c34 : PySem.W.codeIn K cd34 "_law_call" = true)
    (k34 : PySem.W.keepIn K (.ref g34) = true)
    (a35 : PySem.W.nsIn K mainGlobals "_law_then" = some (some (.ref g35)))
    (l35 : K.lookup g35 = some ⟨oc35, od35, .func (PySem.W.fnOf "_law_then" "_law_then" (defArgs s35) (defBody s35) (defScope s35) .none kV35 dc35 pm35 an35 cd35 ct35), sl35⟩)
    (c35 : PySem.W.codeIn K cd35 "_law_then" = true)
    (k35 : PySem.W.keepIn K (.ref g35) = true)
    (a36 : PySem.W.nsIn K mainGlobals "_law_rounds" = some (some (.ref g36)))
    (l36 : K.lookup g36 = some ⟨oc36, od36, .func (PySem.W.fnOf "_law_rounds" "_law_rounds" (defArgs s36) (defBody s36) (defScope s36) .none kV36 dc36 pm36 an36 cd36 ct36), sl36⟩)
    (c36 : PySem.W.codeIn K cd36 "_law_rounds" = true)
    (k36 : PySem.W.keepIn K (.ref g36) = true)
    (a37 : PySem.W.nsIn K mainGlobals "_law_is_whole" = some (some (.ref g37)))
    (l37 : K.lookup g37 = some ⟨oc37, od37, .func (PySem.W.fnOf "_law_is_whole" "_law_is_whole" (defArgs s37) (defBody s37) (defScope s37) .none kV37 dc37 pm37 an37 cd37 ct37), sl37⟩)
    (c37 : PySem.W.codeIn K cd37 "_law_is_whole" = true)
    (k37 : PySem.W.keepIn K (.ref g37) = true)
    (a38 : PySem.W.nsIn K mainGlobals "_law_draw_lot" = some (some (.ref g38)))
    (l38 : K.lookup g38 = some ⟨oc38, od38, .func (PySem.W.fnOf "_law_draw_lot" "_law_draw_lot" (defArgs s38) (defBody s38) (defScope s38) .none kV38 dc38 pm38 an38 cd38 ct38), sl38⟩)
    (c38 : PySem.W.codeIn K cd38 "_law_draw_lot" = true)
    (k38 : PySem.W.keepIn K (.ref g38) = true)
    (a39 : PySem.W.nsIn K mainGlobals "_law_step" = some (some (.ref g39)))
    (l39 : K.lookup g39 = some ⟨oc39, od39, .func (PySem.W.fnOf "_law_step" "_law_step" (defArgs s39) (defBody s39) (defScope s39) .none kV39 dc39 pm39 an39 cd39 ct39), sl39⟩)
    (c39 : PySem.W.codeIn K cd39 "_law_step" = true)
    (k39 : PySem.W.keepIn K (.ref g39) = true)
    (a40 : PySem.W.nsIn K mainGlobals "_law_corners" = some (some (.ref g40)))
    (l40 : K.lookup g40 = some ⟨oc40, od40, .func (PySem.W.fnOf "_law_corners" "_law_corners" (defArgs s40) (defBody s40) (defScope s40) .none kV40 dc40 pm40 an40 cd40 ct40), sl40⟩)
    (c40 : PySem.W.codeIn K cd40 "_law_corners" = true)
    (k40 : PySem.W.keepIn K (.ref g40) = true)
    (a41 : PySem.W.nsIn K mainGlobals "_law_kept" = some (some (.ref g41)))
    (l41 : K.lookup g41 = some ⟨oc41, od41, .func (PySem.W.fnOf "_law_kept" "_law_kept" (defArgs s41) (defBody s41) (defScope s41) .none kV41 dc41 pm41 an41 cd41 ct41), sl41⟩)
    (c41 : PySem.W.codeIn K cd41 "_law_kept" = true)
    (k41 : PySem.W.keepIn K (.ref g41) = true)
    (a42 : PySem.W.nsIn K mainGlobals "_law_handles" = some (some (.ref g42)))
    (l42 : K.lookup g42 = some ⟨oc42, od42, .func (PySem.W.fnOf "_law_handles" "_law_handles" (defArgs s42) (defBody s42) (defScope s42) .none kV42 dc42 pm42 an42 cd42 ct42), sl42⟩)
    (c42 : PySem.W.codeIn K cd42 "_law_handles" = true)
    (k42 : PySem.W.keepIn K (.ref g42) = true)
    (a43 : PySem.W.nsIn K mainGlobals "_law_shape" = some (some (.ref g43)))
    (l43 : K.lookup g43 = some ⟨oc43, od43, .func (PySem.W.fnOf "_law_shape" "_law_shape" (defArgs s43) (defBody s43) (defScope s43) .none kV43 dc43 pm43 an43 cd43 ct43), sl43⟩)
    (c43 : PySem.W.codeIn K cd43 "_law_shape" = true)
    (k43 : PySem.W.keepIn K (.ref g43) = true)
    (a44 : PySem.W.nsIn K mainGlobals "_law_heard" = some (some (.ref g44)))
    (l44 : K.lookup g44 = some ⟨oc44, od44, .func (PySem.W.fnOf "_law_heard" "_law_heard" (defArgs s44) (defBody s44) (defScope s44) .none kV44 dc44 pm44 an44 cd44 ct44), sl44⟩)
    (c44 : PySem.W.codeIn K cd44 "_law_heard" = true)
    (k44 : PySem.W.keepIn K (.ref g44) = true)
    (a45 : PySem.W.nsIn K mainGlobals "_law_forms" = some (some (.ref g45)))
    (l45 : K.lookup g45 = some ⟨oc45, od45, .func (PySem.W.fnOf "_law_forms" "_law_forms" (defArgs s45) (defBody s45) (defScope s45) .none kV45 dc45 pm45 an45 cd45 ct45), sl45⟩)
    (c45 : PySem.W.codeIn K cd45 "_law_forms" = true)
    (k45 : PySem.W.keepIn K (.ref g45) = true)
    (a46 : PySem.W.nsIn K mainGlobals "_law_corner_forms" = some (some (.ref g46)))
    (l46 : K.lookup g46 = some ⟨oc46, od46, .func (PySem.W.fnOf "_law_corner_forms" "_law_corner_forms" (defArgs s46) (defBody s46) (defScope s46) .none kV46 dc46 pm46 an46 cd46 ct46), sl46⟩)
    (c46 : PySem.W.codeIn K cd46 "_law_corner_forms" = true)
    (k46 : PySem.W.keepIn K (.ref g46) = true)
    (a47 : PySem.W.nsIn K mainGlobals "law" = some (some (.ref g47)))
    (l47 : K.lookup g47 = some ⟨oc47, od47, .func (PySem.W.fnOf "law" "law" (defArgs s47) (defBody s47) (defScope s47) .none kV47 dc47 pm47 an47 cd47 ct47), sl47⟩)
    (c47 : PySem.W.codeIn K cd47 "law" = true)
    (k47 : PySem.W.keepIn K (.ref g47) = true)
    (u0 : PySem.W.nsIn K mainGlobals "MOST_lots" = some (some (.int 240 tk0)))
    (u1 : PySem.W.nsIn K mainGlobals "MOST_weights" = some (some (.int 1000000 tk1)))
    (ca0 : PySem.W.nsIn K mainGlobals "CanNot" = some (some (.ref p0)))
    (cx0 : PySem.W.excIn K p0 [.type "ValueError", .type "Exception", .type "BaseException", .type "object"] "ValueError.__new__" = true)
    (ck0 : PySem.W.keepIn K (.ref p0) = true)
    (cb0 : PySem.W.subIn K (.ref p0) (.type "BaseException") = some true)
    (ct_0 : PySem.W.typeIn K (.ref p0) = some (.type "type"))
    (ce0 : PySem.W.findIn K (.ref p0) "__getattribute__" = some (some (.builtin "BaseException.__getattribute__")))
    (cf0 : PySem.W.findIn K (.ref p0) "__getattr__" = some none)
    (ch0 : PySem.W.hasDictIn K p0 = true)
    (ci0 : PySem.W.findIn K (.ref p0) "__class__" = some (some (.builtin "object.__class__")))
    (cm0 : PySem.W.mroIn K p0 (.type "object") = some true)
    (cv0 : PySem.W.subIn K (.ref p0) (.type "ValueError") = some true)
    (ca1 : PySem.W.nsIn K mainGlobals "TooMany" = some (some (.ref p1)))
    (cx1 : PySem.W.excIn K p1 [.type "ValueError", .type "Exception", .type "BaseException", .type "object"] "ValueError.__new__" = true)
    (ck1 : PySem.W.keepIn K (.ref p1) = true)
    (cb1 : PySem.W.subIn K (.ref p1) (.type "BaseException") = some true)
    (ct_1 : PySem.W.typeIn K (.ref p1) = some (.type "type"))
    (ce1 : PySem.W.findIn K (.ref p1) "__getattribute__" = some (some (.builtin "BaseException.__getattribute__")))
    (cf1 : PySem.W.findIn K (.ref p1) "__getattr__" = some none)
    (ch1 : PySem.W.hasDictIn K p1 = true)
    (ci1 : PySem.W.findIn K (.ref p1) "__class__" = some (some (.builtin "object.__class__")))
    (cm1 : PySem.W.mroIn K p1 (.type "object") = some true)
    (cv1 : PySem.W.subIn K (.ref p1) (.type "ValueError") = some true)
    (ca2 : PySem.W.nsIn K mainGlobals "Unfit" = some (some (.ref p2)))
    (cx2 : PySem.W.excIn K p2 [.type "ValueError", .type "Exception", .type "BaseException", .type "object"] "ValueError.__new__" = true)
    (ck2 : PySem.W.keepIn K (.ref p2) = true)
    (cb2 : PySem.W.subIn K (.ref p2) (.type "BaseException") = some true)
    (ct_2 : PySem.W.typeIn K (.ref p2) = some (.type "type"))
    (ce2 : PySem.W.findIn K (.ref p2) "__getattribute__" = some (some (.builtin "BaseException.__getattribute__")))
    (cf2 : PySem.W.findIn K (.ref p2) "__getattr__" = some none)
    (ch2 : PySem.W.hasDictIn K p2 = true)
    (ci2 : PySem.W.findIn K (.ref p2) "__class__" = some (some (.builtin "object.__class__")))
    (cm2 : PySem.W.mroIn K p2 (.type "object") = some true)
    (cv2 : PySem.W.subIn K (.ref p2) (.type "ValueError") = some true)
    (cs0_0 : PySem.W.subIn K (.ref p0) (.ref p0) = some true)
    (cs0_1 : PySem.W.subIn K (.ref p0) (.ref p1) = some false)
    (cs0_2 : PySem.W.subIn K (.ref p0) (.ref p2) = some false)
    (cs1_0 : PySem.W.subIn K (.ref p1) (.ref p0) = some false)
    (cs1_1 : PySem.W.subIn K (.ref p1) (.ref p1) = some true)
    (cs1_2 : PySem.W.subIn K (.ref p1) (.ref p2) = some false)
    (cs2_0 : PySem.W.subIn K (.ref p2) (.ref p0) = some false)
    (cs2_1 : PySem.W.subIn K (.ref p2) (.ref p1) = some false)
    (cs2_2 : PySem.W.subIn K (.ref p2) (.ref p2) = some true)
    (e5 : PySem.W.specialIn K (.builtin "object.__class__") "__get__" = some (some (.builtin "getset_descriptor.__get__")))
    (e6 : PySem.W.takesIn K (.builtin "object.__class__") = some true)
    (z0 : PySem.W.nsIn K mainGlobals "len" = some none)
    (z1 : PySem.W.nsIn K mainGlobals "abs" = some none)
    (z2 : PySem.W.nsIn K mainGlobals "tuple" = some none)
    (z3 : PySem.W.nsIn K mainGlobals "list" = some none)
    (z4 : PySem.W.nsIn K mainGlobals "int" = some none)
    (z5 : PySem.W.nsIn K mainGlobals "sum" = some none)
    (z6 : PySem.W.nsIn K mainGlobals "min" = some none)
    (z7 : PySem.W.nsIn K mainGlobals "max" = some none)
    (z8 : PySem.W.nsIn K mainGlobals "all" = some none)
    (z9 : PySem.W.nsIn K mainGlobals "any" = some none)
    (z10 : PySem.W.nsIn K mainGlobals "sorted" = some none)
    (z11 : PySem.W.nsIn K mainGlobals "isinstance" = some none)
    (z12 : PySem.W.nsIn K mainGlobals "bool" = some none)
    (z13 : PySem.W.nsIn K mainGlobals "str" = some none)
    (z14 : PySem.W.nsIn K mainGlobals "dict" = some none)
    (z15 : PySem.W.nsIn K mainGlobals "range" = some none)
    (z16 : PySem.W.nsIn K mainGlobals "enumerate" = some none)
    (z17 : PySem.W.nsIn K mainGlobals "zip" = some none)
    (z18 : PySem.W.nsIn K mainGlobals "set" = some none)
    (y0 : PySem.W.nsIn K mainGlobals "ValueError" = some none)
    (y1 : PySem.W.nsIn K mainGlobals "LookupError" = some none)
    (ok : ∀ ns : List Int, ns.length ≤ 63 → ∃ as', callF T 200 47 [.val (.scr ns)] = .ok (.v (.bl true)) as') :
    ∃ fd : FuncData, (∀ (s : Shared) (u : Value), BindsTo s fd ⟨[u], []⟩ [("script", u)]) ∧ ∀ base : Heap, K.In base → base.Ns mainGlobals mg → FnOk P w K mg base (L2.CX P w) 200 fa fd ["script"] (spLaw K) := by
  have e2 : g47 = fa := by
    have e := hfa.symm.trans (PySem.W.mg_of X G a47)
    cases e; rfl
  subst e2
  let C : G0 := mkC K [g0, g1, g2, g3, g4, g5, g6, g7, g8, g9, g10, g11, g12, g13, g14, g15, g16, g17, g18, g19, g20, g21, g22, g23, g24, g25, g26, g27, g28, g29, g30, g31, g32, g33, g34, g35, g36, g37, g38, g39, g40, g41, g42, g43, g44, g45, g46, g47] [p0, p1, p2]
  have B : Base T C ng mg :=
    { names := fun g x q => AllIx.all (P := fun g x => mg x = some (.ref (C.gv g)) ∧ g < T.fns.length) (l := ng.fn) ⟨⟨PySem.W.mg_of X G a0, by decide⟩, ⟨PySem.W.mg_of X G a1, by decide⟩, ⟨PySem.W.mg_of X G a2, by decide⟩, ⟨PySem.W.mg_of X G a3, by decide⟩, ⟨PySem.W.mg_of X G a4, by decide⟩, ⟨PySem.W.mg_of X G a5, by decide⟩, ⟨PySem.W.mg_of X G a6, by decide⟩, ⟨PySem.W.mg_of X G a7, by decide⟩, ⟨PySem.W.mg_of X G a8, by decide⟩, ⟨PySem.W.mg_of X G a9, by decide⟩, ⟨PySem.W.mg_of X G a10, by decide⟩, ⟨PySem.W.mg_of X G a11, by decide⟩, ⟨PySem.W.mg_of X G a12, by decide⟩, ⟨PySem.W.mg_of X G a13, by decide⟩, ⟨PySem.W.mg_of X G a14, by decide⟩, ⟨PySem.W.mg_of X G a15, by decide⟩, ⟨PySem.W.mg_of X G a16, by decide⟩, ⟨PySem.W.mg_of X G a17, by decide⟩, ⟨PySem.W.mg_of X G a18, by decide⟩, ⟨PySem.W.mg_of X G a19, by decide⟩, ⟨PySem.W.mg_of X G a20, by decide⟩, ⟨PySem.W.mg_of X G a21, by decide⟩, ⟨PySem.W.mg_of X G a22, by decide⟩, ⟨PySem.W.mg_of X G a23, by decide⟩, ⟨PySem.W.mg_of X G a24, by decide⟩, ⟨PySem.W.mg_of X G a25, by decide⟩, ⟨PySem.W.mg_of X G a26, by decide⟩, ⟨PySem.W.mg_of X G a27, by decide⟩, ⟨PySem.W.mg_of X G a28, by decide⟩, ⟨PySem.W.mg_of X G a29, by decide⟩, ⟨PySem.W.mg_of X G a30, by decide⟩, ⟨PySem.W.mg_of X G a31, by decide⟩, ⟨PySem.W.mg_of X G a32, by decide⟩, ⟨PySem.W.mg_of X G a33, by decide⟩, ⟨PySem.W.mg_of X G a34, by decide⟩, ⟨PySem.W.mg_of X G a35, by decide⟩, ⟨PySem.W.mg_of X G a36, by decide⟩, ⟨PySem.W.mg_of X G a37, by decide⟩, ⟨PySem.W.mg_of X G a38, by decide⟩, ⟨PySem.W.mg_of X G a39, by decide⟩, ⟨PySem.W.mg_of X G a40, by decide⟩, ⟨PySem.W.mg_of X G a41, by decide⟩, ⟨PySem.W.mg_of X G a42, by decide⟩, ⟨PySem.W.mg_of X G a43, by decide⟩, ⟨PySem.W.mg_of X G a44, by decide⟩, ⟨PySem.W.mg_of X G a45, by decide⟩, ⟨PySem.W.mg_of X G a46, by decide⟩, ⟨PySem.W.mg_of X G a47, by decide⟩, trivial⟩ g x q
      fns := fun g F q => AllIx.all (P := fun g F => ∃ fd, FnB C ng g F fd) (l := T.fns) ⟨⟨_, fb0 (C := C) l0 c0 k0⟩, ⟨_, fb1 (C := C) l1 c1 k1⟩, ⟨_, fb2 (C := C) l2 c2 k2⟩, ⟨_, fb3 (C := C) l3 c3 k3⟩, ⟨_, fb4 (C := C) l4 c4 k4⟩, ⟨_, fb5 (C := C) l5 c5 k5⟩, ⟨_, fb6 (C := C) l6 c6 k6⟩, ⟨_, fb7 (C := C) l7 c7 k7⟩, ⟨_, fb8 (C := C) l8 c8 k8⟩, ⟨_, fb9 (C := C) l9 c9 k9⟩, ⟨_, fb10 (C := C) l10 c10 k10⟩, ⟨_, fb11 (C := C) l11 c11 k11⟩, ⟨_, fb12 (C := C) l12 c12 k12⟩, ⟨_, fb13 (C := C) l13 c13 k13⟩, ⟨_, fb14 (C := C) l14 c14 k14⟩, ⟨_, fb15 (C := C) l15 c15 k15⟩, ⟨_, fb16 (C := C) l16 c16 k16⟩, ⟨_, fb17 (C := C) l17 c17 k17⟩, ⟨_, fb18 (C := C) l18 c18 k18⟩, ⟨_, fb19 (C := C) l19 c19 k19⟩, ⟨_, fb20 (C := C) l20 c20 k20⟩, ⟨_, fb21 (C := C) l21 c21 k21⟩, ⟨_, fb22 (C := C) l22 c22 k22⟩, ⟨_, fb23 (C := C) l23 c23 k23⟩, ⟨_, fb24 (C := C) l24 c24 k24⟩, ⟨_, fb25 (C := C) l25 c25 k25⟩, ⟨_, fb26 (C := C) l26 c26 k26⟩, ⟨_, fb27 (C := C) l27 c27 k27⟩, ⟨_, fb28 (C := C) l28 c28 k28⟩, ⟨_, fb29 (C := C) l29 c29 k29⟩, ⟨_, fb30 (C := C) l30 c30 k30⟩, ⟨_, fb31 (C := C) l31 c31 k31⟩, ⟨_, fb32 (C := C) l32 c32 k32⟩, ⟨_, fb33 (C := C) l33 c33 k33⟩, ⟨_, fb34 (C := C) l34 c34 k34⟩, ⟨_, fb35 (C := C) l35 c35 k35⟩, ⟨_, fb36 (C := C) l36 c36 k36⟩, ⟨_, fb37 (C := C) l37 c37 k37⟩, ⟨_, fb38 (C := C) l38 c38 k38⟩, ⟨_, fb39 (C := C) l39 c39 k39⟩, ⟨_, fb40 (C := C) l40 c40 k40⟩, ⟨_, fb41 (C := C) l41 c41 k41⟩, ⟨_, fb42 (C := C) l42 c42 k42⟩, ⟨_, fb43 (C := C) l43 c43 k43⟩, ⟨_, fb44 (C := C) l44 c44 k44⟩, ⟨_, fb45 (C := C) l45 c45 k45⟩, ⟨_, fb46 (C := C) l46 c46 k46⟩, ⟨_, fb47 (C := C) l47 c47 k47⟩, trivial⟩ g F q
      cons := fun k x d q1 q2 => AllIx.all (P := fun k x => ∀ d, T.cons[k]? = some d → ∃ v u, mg x = some u ∧ RelV v u ∧ ∀ H, Rep C H d v) (l := ng.cn) ⟨fun d q => by cases q; obtain ⟨v, r1, r2⟩ := krep (C := C) (.int 240) (.int 240 tk0) ⟨_, rfl⟩; exact ⟨v, _, PySem.W.mg_of X G u0, r1, r2⟩, fun d q => by cases q; obtain ⟨v, r1, r2⟩ := krep (C := C) (.int 1000000) (.int 1000000 tk1) ⟨_, rfl⟩; exact ⟨v, _, PySem.W.mg_of X G u1, r1, r2⟩, trivial⟩ k x q1 d q2
      dcs := fun k x p q1 q2 => by cases q1
      bi := bi_mk X G ⟨z0, z1, z2, z3, z4, z5, z6, z7, z8, z9, z10, z11, z12, z13, z14, z15, z16, z17, z18, trivial⟩
      gcd := fun q => absurd q (by decide)
      en := fun k x q => AllIx.all (P := fun k x => mg x = some (.ref (C.cv k)) ∧ ExK C.K (C.cv k)) (l := ng.en) ⟨⟨PySem.W.mg_of X G ca0, exk_mk PySem.F.excBase_ValueError cx0 ck0 cb0 ct_0 ce0 cf0 ch0 ci0 e5 e6 cm0⟩, ⟨PySem.W.mg_of X G ca1, exk_mk PySem.F.excBase_ValueError cx1 ck1 cb1 ct_1 ce1 cf1 ch1 ci1 e5 e6 cm1⟩, ⟨PySem.W.mg_of X G ca2, exk_mk PySem.F.excBase_ValueError cx2 ck2 cb2 ct_2 ce2 cf2 ch2 ci2 e5 e6 cm2⟩, trivial⟩ k x q
      exm := fun k k2 x q1 q2 => AllIx.all (P := fun k2 x => ∀ k, k < T.nex → PySem.W.exmOne C.K (.ref (C.cv k)) (.ref (C.cv k2)) = some (decide (k = k2))) (l := ng.en) ⟨fun k q => match k, q with | 0, _ => PySem.W.exm_ref cb0 ch0 ct_0 cs0_0 | 1, _ => PySem.W.exm_ref cb0 ch0 ct_0 cs1_0 | 2, _ => PySem.W.exm_ref cb0 ch0 ct_0 cs2_0, fun k q => match k, q with | 0, _ => PySem.W.exm_ref cb1 ch1 ct_1 cs0_1 | 1, _ => PySem.W.exm_ref cb1 ch1 ct_1 cs1_1 | 2, _ => PySem.W.exm_ref cb1 ch1 ct_1 cs2_1, fun k q => match k, q with | 0, _ => PySem.W.exm_ref cb2 ch2 ct_2 cs0_2 | 1, _ => PySem.W.exm_ref cb2 ch2 ct_2 cs1_2 | 2, _ => PySem.W.exm_ref cb2 ch2 ct_2 cs2_2, trivial⟩ k2 x q2 k q1
      isx := fun p q => by
        simp only [ng, List.mem_cons, List.not_mem_nil, or_false] at q
        rcases q with rfl | rfl | rfl
        · exact kit_sub cv0 (by decide +kernel)
        · exact kit_sub cv1 (by decide +kernel)
        · exact kit_sub cv2 (by decide +kernel)
      mgx := fun s q => by
        simp only [List.mem_cons, List.not_mem_nil, or_false] at q
        rcases q with rfl | rfl
        · exact PySem.W.mg_none_of X G y0
        · exact PySem.W.mg_none_of X G y1 }
  refine ⟨PySem.W.fnOf "law" "law" (defArgs s47) (defBody s47) (defScope s47) .none kV47 dc47 pm47 an47 cd47 ct47, fun s u => .of_eq rfl, fun base _ _ => ?_⟩
  exact (fn_all B 200 47 f47 _ rfl (fb47 (C := C) l47 c47 k47)).imp fun vs H Q E q => law_sp (C := C) ok q
end PL.K20
end

section
namespace PL.K20
open PL PL.K00 PySem PySem.Spec L2

def md (m : M) : D := .tup [.int m.1, .int m.2.1, .int m.2.2.1, .int m.2.2.2]
def ml (m : M) : D := .lst [.int m.1, .int m.2.1, .int m.2.2.1, .int m.2.2.2]
theorem md_one : md one1 = .tup [.int 1, .int 0, .int 0, .int 1] := rfl
theorem sp0i (n : Nat) (i : Int) : callF T (n+1) 0 [.val (.int i)] = .ok (.v (.bl true)) [.val (.int i)] := by
  rw [x_callF T n 0 _ (F := f0) rfl rfl]
  simp [f0, tyOk, isTy]
theorem sp2 (n : Nat) (m : M) : callF T (n+1) 2 [.val (md m), .val (.int 4)] = .ok (.v (.bl true)) [.val (md m), .val (.int 4)] := by
  rw [x_callF T n 2 _ (F := f2) rfl rfl]
  simp [f2, md, tyOk, isTy]
theorem sp3 (n : Nat) (m : M) : callF T (n+2) 3 [.val (md m), .val (.int 4)] = .ok (.v (.bl true)) [.val (md m), .val (.int 4)] := by
  rw [x_callF T (n+1) 3 _ (F := f3) rfl rfl]
  have e2 := sp2 n m
  simp [md] at e2
  simp [f3, md, e2, sp0i]
theorem sp4i (n : Nat) (i : Int) : callF T (n+1) 4 [.val (.int i)] = .ok (.v (.int i)) [.val (.int i)] := by
  rw [x_callF T n 4 _ (F := f4) rfl rfl]
  simp [f4, tyOk, isTy]
theorem sp4 (n : Nat) (m : M) : callF T (n+2) 4 [.val (md m)] = .ok (.v (md m)) [.val (md m)] := by
  rw [x_callF T (n+1) 4 _ (F := f4) rfl rfl]
  simp [f4, md, tyOk, isTy, sp4i]
theorem sp4l (n : Nat) (m : M) : callF T (n+2) 4 [.val (ml m)] = .ok (.v (md m)) [.val (ml m)] := by
  rw [x_callF T (n+1) 4 _ (F := f4) rfl rfl]
  simp [f4, md, ml, tyOk, isTy, sp4i]
theorem sp4ms (n : Nat) (x y z : M) : callF T (n+3) 4 [.val (.lst [ml x, md y, md z])] = .ok (.v (.tup [md x, md y, md z])) [.val (.lst [ml x, md y, md z])] := by
  rw [x_callF T (n+2) 4 _ (F := f4) rfl rfl]
  simp [f4, tyOk, isTy, sp4, sp4l]
def goodB (m : M) : Bool := decide (det m = 1) && (decide (0 < m.2.2.1) || (decide (m.2.2.1 = 0) && decide (m.2.2.2 = 1)))
theorem goodB_of {m : M} (h : good m) : goodB m = true := by
  unfold goodB
  obtain ⟨h1, h2 | ⟨h2, h3⟩⟩ := h
  · simp [h1, h2]
  · simp [h1, h2, h3]
def absI (i : Int) : Int := if i < 0 then -i else i
theorem eqD_md (x y : M) : eqD (md x) (md y) = some (decide (x = y)) := by
  have := eqD_ints [x.1, x.2.1, x.2.2.1, x.2.2.2] [y.1, y.2.1, y.2.2.1, y.2.2.2]
  show eqD (.tup (List.map D.int [x.1, x.2.1, x.2.2.1, x.2.2.2])) (.tup (List.map D.int [y.1, y.2.1, y.2.2.1, y.2.2.2])) = _
  rw [this]
  congr 1
  obtain ⟨a, b, c, d⟩ := x
  obtain ⟨e, f, g, h⟩ := y
  simp
def kindS (m : M) : Str := if m = one1 then "still" else if absI (m.1 + m.2.2.2) = 0 then "two" else if absI (m.1 + m.2.2.2) = 1 then "three" else if absI (m.1 + m.2.2.2) = 2 then "step" else "far"
theorem sp31i (n : Nat) (i : Int) : callF T (n+1) 31 [.val (.int i)] = .ok (.v (.int i)) [.val (.int i)] := by
  rw [x_callF T n 31 _ (F := f31) rfl rfl]
  simp [f31, tyOk, isTy]
theorem sp31 (n : Nat) (m : M) : callF T (n+2) 31 [.val (md m)] = .ok (.t (ml m)) [.val (md m)] := by
  rw [x_callF T (n+1) 31 _ (F := f31) rfl rfl]
  simp [f31, md, ml, tyOk, isTy, sp31i]
theorem sp2l (n : Nat) (m : M) : callF T (n+1) 2 [.val (ml m), .val (.int 4)] = .ok (.v (.bl false)) [.val (ml m), .val (.int 4)] := by
  rw [x_callF T n 2 _ (F := f2) rfl rfl]
  simp [f2, ml, tyOk, isTy]
theorem sp3l (n : Nat) (m : M) : callF T (n+2) 3 [.val (ml m), .val (.int 4)] = .ok (.v (.bl false)) [.val (ml m), .val (.int 4)] := by
  rw [x_callF T (n+1) 3 _ (F := f3) rfl rfl]
  simp [f3, sp2l]
def oftS (k : Str) : D := (dlook ([Sum.inr "still", Sum.inr "two", Sum.inr "three"] : List Key) [.int 1, .int 2, .int 3] (Sum.inr k)).getD .non
theorem sp1 (n : Nat) (k : Int) (h1 : -1000 ≤ k) (h2 : k ≤ 1000) : callF T (n+2) 1 [.val (.int k), .val (.int (-1000)), .val (.int 1000)] = .ok (.v (.bl true)) [.val (.int k), .val (.int (-1000)), .val (.int 1000)] := by
  rw [x_callF T (n+1) 1 _ (F := f1) rfl rfl]
  simp [f1, sp0i, h1, h2]
/-! ### powers -/
theorem dv2 : divOk 2 = true := by decide
theorem good_one : good one1 := ⟨by decide, .inr ⟨rfl, rfl⟩⟩
theorem bd_one : BdM 1 one1 := by unfold BdM Bd; decide
theorem rngD_one (n : Int) (h1 : -(2 ^ 62) ≤ n) (h2 : n < 2 ^ 62) : rngD [.int n] = some ((List.range n.toNat).map fun (k : Nat) => .int (0 + (k : Int))) := by
  have e : (decide (-(2 ^ 62) ≤ n) && decide (n < 2 ^ 62)) = true := by rw [decide_eq_true h1, decide_eq_true h2]; rfl
  show (if (decide (-(2 ^ 62) ≤ n) && decide (n < 2 ^ 62)) = true then _ else _) = _
  rw [if_pos e]
def tinD (x y z : Int) : D := .lst [.int x, .int y, .int z]
theorem mulOk_r {i j : Int} (h : j.natAbs < 2 ^ 64) : mulOk i j = true := by
  unfold mulOk
  rw [decide_eq_true h, Bool.or_true, Bool.true_or]
theorem mulOk_l {i j : Int} (h : i.natAbs < 2 ^ 64) : mulOk i j = true := by
  unfold mulOk
  rw [decide_eq_true h, Bool.true_or, Bool.true_or]
theorem sp28 (n : Nat) (x y z b : Int) (hb : 0 < b) (hb' : b ≤ 4000) (hz0 : 0 ≤ z) (hz : z ≤ 1000) :
    ∃ r x' z', 0 ≤ r ∧ r < b ∧ 0 ≤ z' ∧ z' ≤ z + 1 ∧ callF T (n+1) 28 [.bor (tinD x y z), .val (.int b)] = .ok (.v (.int r)) [.bor (tinD x' y z'), .val (.int b)] := by
  rw [x_callF T n 28 _ (F := f28) rfl rfl]
  have dv : divOk b = true := by
    have : b.natAbs.log2 < 9000 := Nat.lt_of_lt_of_le ((Nat.log2_lt (by omega)).mpr (show b.natAbs < 2 ^ 12 by omega)) (by decide)
    unfold divOk
    rw [decide_eq_true hb, decide_eq_true this]; rfl
  by_cases h : 0 < x
  · refine ⟨x % b, x / b, z, Int.emod_nonneg _ (by omega), Int.emod_lt_of_pos _ hb, hz0, by omega, ?_⟩
    simp [f28, h, tinD, hb, dv, lstAt, mineD, sixE, upS, intD, ixN]
  · have d1 : divOk 1000003 = true := by decide +kernel
    have d2 : divOk 64 = true := by decide +kernel
    have m1 : mulOk 48271 (z + 1) = true := mulOk_l (by decide)
    have m2 : mulOk (y + 48271 * (z + 1)) (39373 + (z + 1)) = true := mulOk_r (by omega)
    generalize ho : (y + 48271 * (z + 1)) * (39373 + (z + 1)) % 2147483647 = o
    have o1 : 0 ≤ o := by rw [← ho]; exact Int.emod_nonneg _ (by decide)
    have m3 : mulOk (o + (z + 1) + y / 1000003) (o % 40009 + 7) = true := mulOk_r (by omega)
    generalize ht : (o + (z + 1) + y / 1000003) * (o % 40009 + 7) % 2147483629 = t
    have m4 : mulOk t 48271 = true := mulOk_r (by decide)
    refine ⟨((t * 48271 + o) % 2147483587 / 64) % b, x, z + 1, Int.emod_nonneg _ (by omega), Int.emod_lt_of_pos _ hb, by omega, by omega, ?_⟩
    simp [f28, h, tinD, hb, dv, lstAt, mineD, sixE, upS, intD, ixN, m1, m2, ho, d1, d2, m3, ht, m4]
theorem sp27 (n : Nat) (c : Int) : ∃ x y, callF T (n+1) 27 [.val (.lst [.int c]), .val (.int 0)] = .ok (.t (tinD x y 0)) [.val (.lst [.int c]), .val (.int 0)] := by
  rw [x_callF T n 27 _ (F := f27) rfl rfl]
  have p1 : powOk 10 18 = true := by decide +kernel
  have m1 : ∀ i : Int, mulOk i 1 = true ∧ mulOk i 0 = true := fun i => ⟨mulOk_r (by decide), mulOk_r (by decide)⟩
  have m2 : mulOk 39373 0 = true := by decide +kernel
  have e1 : (10 : Int) ^ 18 = 1000000000000000000 := by decide +kernel
  generalize ha : (if c < 0 then -c else c) = a
  by_cases h : 1000000000000000000 ≤ a
  · refine ⟨a * 1, c % 2305843009213693951 + 39373 * 0 + 9284020, ?_⟩
    simp [f27, p1, m1, m2, tinD, ha, e1, h]
  · refine ⟨a * 0, c % 2305843009213693951 + 39373 * 0 + 9284020, ?_⟩
    simp [f27, p1, m1, m2, tinD, ha, e1, h]
def body29 : List S := [.set 5 (.bin .mod (.bi .int1 [.var 3]) (.var 1)), .six 2 (.var 5) (.bin .add (.ix (.var 2) (.var 5)) (.bin .mul (.var 4) (.bin .add (.var 3) (.int 2))))]
theorem lp29 (n : Nat) (s0 : SV) : ∀ (ds : List D) (c : Int) (s3 s4 s5 : SV), Fre s3 → Fre s4 → Fre s5 → (∀ d ∈ ds, ∃ k v : Int, d = .tup [.int k, .int v] ∧ 0 ≤ k ∧ k ≤ 100) →
    ∃ c' s3' s4' s5', forL (fun d e => opt (asg (.tp [3, 4]) d e) fun e1 => exB T (callF T n) body29 e1) ds [s0, .val (.int 1), .own (.lst [.int c]), s3, s4, s5] = .ok .next [s0, .val (.int 1), .own (.lst [.int c']), s3', s4', s5']
  | [], c, s3, s4, s5, _, _, _, _ => ⟨c, s3, s4, s5, rfl⟩
  | d :: ds, c, s3, s4, s5, h3, h4, h5, hd => by
    obtain ⟨k, v, rfl, k0, k1⟩ := hd _ (List.mem_cons_self ..)
    have m1 : mulOk v (k + 2) = true := mulOk_r (by omega)
    have e1 : k % 1 = 0 := Int.emod_one k
    obtain ⟨c', s3', s4', s5', h⟩ := lp29 n s0 ds (c + v * (k + 2)) (.val (.int k)) (.val (.int v)) (.val (.int 0)) (.val _) (.val _) (.val _) (fun d hm => hd d (List.mem_cons_of_mem _ hm))
    refine ⟨c', s3', s4', s5', ?_⟩
    rw [forL_cons]
    have : (opt (asg (.tp [3, 4]) (.tup [.int k, .int v]) [s0, .val (.int 1), .own (.lst [.int c]), s3, s4, s5]) fun e1 => exB T (callF T n) body29 e1) = .ok .next [s0, .val (.int 1), .own (.lst [.int (c + v * (k + 2))]), .val (.int k), .val (.int v), .val (.int 0)] := by
      have q3 := h3.ok
      have q4 := h4.ok
      have q5 := h5.ok
      rcases h3 with rfl | ⟨_, rfl⟩ | ⟨_, rfl⟩ <;> rcases h4 with rfl | ⟨_, rfl⟩ | ⟨_, rfl⟩ <;> rcases h5 with rfl | ⟨_, rfl⟩ | ⟨_, rfl⟩ <;> simp [body29, asg, setVals, e1, m1, lstAt, mineD, sixE, upS, intD, ixN]
    rw [this]
    simp only [bd_ok]
    exact h
theorem enum_ints (l : List Int) (h : l.length ≤ 100) : ∀ d ∈ enumD (l.map D.int), ∃ k v : Int, d = .tup [.int k, .int v] ∧ 0 ≤ k ∧ k ≤ 100 := by
  intro d hd
  obtain ⟨i, hi, rfl⟩ := List.getElem_of_mem hd
  unfold enumD at hi ⊢
  simp only [List.length_zipWith, List.length_range, List.length_map, Nat.min_self] at hi
  rw [List.getElem_zipWith]
  simp
  omega
theorem sp29 (n : Nat) (ns : List Int) (hn : ns.length ≤ 63) : ∃ c, callF T (n+1) 29 [.val (.scr ns), .val (.int 1)] = .ok (.t (.lst [.int c])) [.val (.scr ns), .val (.int 1)] := by
  rw [x_callF T n 29 _ (F := f29) rfl rfl]
  show ∃ c, fin [.val (.scr ns), .val (.int 1)] (exB T (callF T n) [.set 2 (.andor false [.bi .list [.sl (.var 0) none (some (.var 1))], .lst [.int 0]]), .for_ (.tp [3, 4]) (.enum (.sl (.var 0) (some (.var 1)) (some (.int 63)))) body29, .ret (.var 2)] [.val (.scr ns), .val (.int 1), .un, .un, .un, .un]) = _
  have h1 : ∃ c0, exS T (callF T n) (.set 2 (.andor false [.bi .list [.sl (.var 0) none (some (.var 1))], .lst [.int 0]])) [.val (.scr ns), .val (.int 1), .un, .un, .un, .un] = .ok .next [.val (.scr ns), .val (.int 1), .own (.lst [.int c0]), .un, .un, .un] := by
    cases ns with
    | nil => exact ⟨0, by simp [sliceD, cutD, HT.sIx, intD, biF, fzR, setR]⟩
    | cons a r => exact ⟨a, by simp [sliceD, cutD, HT.sIx, intD, biF, fzR, setR]⟩
  obtain ⟨c0, h1⟩ := h1
  have h2 : ∃ l : List Int, l.length ≤ 63 ∧ evI T (callF T n) (.enum (.sl (.var 0) (some (.var 1)) (some (.int 63)))) [.val (.scr ns), .val (.int 1), .own (.lst [.int c0]), .un, .un, .un] = .ok (enumD (l.map D.int)) [.val (.scr ns), .val (.int 1), .own (.lst [.int c0]), .un, .un, .un] := by
    refine ⟨cutD ns (some 1) (some 63), by unfold cutD; simp; omega, ?_⟩
    simp [sliceD, seqL, intD, frz]
  obtain ⟨l, hl, h2⟩ := h2
  obtain ⟨c', s3', s4', s5', h3⟩ := lp29 n (.val (.scr ns)) (enumD (l.map D.int)) c0 .un .un .un .un .un .un (enum_ints l (by omega))
  refine ⟨c', ?_⟩
  rw [x_b1, h1]
  simp only [bd_ok]
  rw [x_b1, x_for, h2]
  simp only [bd_ok]
  rw [h3]
  simp [retR, outs]
@[simp] theorem intD_int (i : Int) : intD (.int i) = some i := rfl
@[simp] theorem seqD_lst (xs : List D) : seqD (.lst xs) = some xs := rfl
/-- entries of a length -/
def Le (j : Nat) (m : M) : Prop := m.1.natAbs ≤ 2 ^ j ∧ m.2.1.natAbs ≤ 2 ^ j ∧ m.2.2.1.natAbs ≤ 2 ^ j ∧ m.2.2.2.natAbs ≤ 2 ^ j
theorem Le.bd {j : Nat} {m : M} (h : Le j m) : BdM (j + 1) m := by
  have : 2 ^ j < 2 ^ (j + 1) := Nat.pow_lt_pow_right (by decide) (by omega)
  exact ⟨Nat.lt_of_le_of_lt h.1 this, Nat.lt_of_le_of_lt h.2.1 this, Nat.lt_of_le_of_lt h.2.2.1 this, Nat.lt_of_le_of_lt h.2.2.2 this⟩
theorem Le.mono {i j : Nat} {m : M} (h : Le i m) (k : i ≤ j) : Le j m := by
  have : 2 ^ i ≤ 2 ^ j := Nat.pow_le_pow_right (by decide) k
  exact ⟨Nat.le_trans h.1 this, Nat.le_trans h.2.1 this, Nat.le_trans h.2.2.1 this, Nat.le_trans h.2.2.2 this⟩
theorem Le.sg {j : Nat} {m : M} (h : Le j m) : Le j (PL.K00.sg m) := by
  rcases sg_or m with e | e <;> rw [e]
  · exact h
  · simpa [Le, ngM] using h
def lt (r : Int) : M := if r = 0 then (0, -1, 1, 0) else if r = 1 then (0, -1, 1, 1) else (-1, -1, 1, 0)
theorem Le.letter {j : Nat} {m : M} (h : Le j m) (r : Int) : Le (j + 1) (P m (lt r)) := by
  unfold P
  apply Le.sg
  obtain ⟨h1, h2, h3, h4⟩ := h
  have e : 2 ^ (j + 1) = 2 ^ j + 2 ^ j := by rw [Nat.pow_succ]; omega
  generalize 2 ^ j = q at *
  unfold lt
  split <;> (try split) <;> simp [Le, mulM] <;> omega
theorem det_lt (r : Int) : det (lt r) = 1 := by
  unfold lt
  split <;> (try split) <;> decide
theorem bd_lt (r : Int) : BdM 1 (lt r) := by
  unfold lt
  split <;> (try split) <;> (unfold BdM Bd; decide)
@[simp] theorem nex_T : T.nex = 3 := rfl
theorem sp33t (n : Nat) (ds : List D) : callF T (n+1) 33 [.val (.tup ds)] = .ok (.v (.tup ds)) [.val (.tup ds)] := by
  rw [x_callF T n 33 _ (F := f33) rfl rfl]
  simp [f33, tyOk, isTy, retR, outs]
theorem sp34 (n g : Nat) (a : D) (r : D) (hg : g < T.fns.length) (h : callF T n g [.val a] = .ok (.v r) [.val a]) :
    callF T (n+1) 34 [.val (.fn g), .val (.tup [a])] = .ok (.v r) [.val (.fn g), .val (.tup [a])] := by
  rw [x_callF T n 34 _ (F := f34) rfl rfl]
  simp [f34, h, hg, retR, outs, biF]
theorem sp34x (n g c : Nat) (a : D) (hg : g < T.fns.length) (h : callF T n g [.val a] = .exc c [] [.val a]) :
    callF T (n+1) 34 [.val (.fn g), .val (.tup [a])] = .exc c [] [.val (.fn g), .val (.tup [a])] := by
  rw [x_callF T n 34 _ (F := f34) rfl rfl]
  simp [f34, h, hg, retR, outs, biF]
theorem sp44t (n g : Nat) (a : D) (ds : List D) (hg : g < T.fns.length) (h : callF T (n+1) g [.val a] = .ok (.v (.tup ds)) [.val a]) :
    callF T (n+3) 44 [.val (.fn g), .val (.tup [a])] = .ok (.v (.tup ds)) [.val (.fn g), .val (.tup [a])] := by
  rw [x_callF T (n+2) 44 _ (F := f44) rfl rfl]
  have e34 := sp34 (n+1) g a (.tup ds) hg h
  have e33 := sp33t (n+1) ds
  simp [f44, e34, e33, retR, outs, fzR, setR, frzs, frz, setVals, isNon]
theorem sp44x (n g : Nat) (a : D) (hg : g < T.fns.length) (h : callF T (n+1) g [.val a] = .exc 0 [] [.val a]) :
    callF T (n+3) 44 [.val (.fn g), .val (.tup [a])] = .ok (.t (.lst [.str "cannot", .bl true])) [.val (.fn g), .val (.tup [a])] := by
  rw [x_callF T (n+2) 44 _ (F := f44) rfl rfl]
  have e34 := sp34x (n+1) g 0 a hg h
  simp [f44, e34, retR, outs, fzR, setR, frzs, frz, setVals, exH, isNon]
def flat0 : D → Bool
  | .non => true
  | .bl _ => true
  | .int _ => true
  | .str x => PyData.strOk x
  | _ => false
def dp : Nat → D → Prop
  | 0, d => flat0 d = true
  | k + 1, d => flat0 d = true ∨ ∃ ds, (d = .tup ds ∨ d = .lst ds) ∧ ds.length ≤ 1000 ∧ ∀ x ∈ ds, dp k x
theorem eqD_strr (x : Str) (h : PyData.strOk x = true) : eqD (.str x) (.str x) = some true := by
  simp [h, eqD, toPy, SeqAt.shaped, PyData.canLay0, PyData.depth, PyData.eqv]
def aft : SV → SV
  | .bor d => if flat0 d then .bor d else .fro d
  | s => s
theorem frz_v (e : EV) (d : D) : frz e (.v d) = some (d, e) := rfl
theorem frz_h (e : EV) (i : Nat) : frz e (.h i) = (match e[i]? with
    | some (.own d) => some (d, e.set i (.val d))
    | some (.bor d) => some (d, e.set i (.fro d))
    | some (.val d) => some (d, e)
    | some (.fro d) => some (d, e)
    | _ => none) := rfl
theorem sp32f (n : Nat) (d : D) (s0 s1 : SV) (hd : flat0 d = true) (h0 : s0 = .val d ∨ s0 = .bor d) (h1 : s1 = .val d ∨ s1 = .bor d) :
    callF T (n+1) 32 [s0, s1] = .ok (.v (.bl true)) [aft s0, aft s1] := by
  rw [x_callF T n 32 _ (F := f32) rfl rfl]
  rcases h0 with rfl | rfl <;> rcases h1 with rfl | rfl <;> cases d <;> simp [flat0] at hd <;> simp [f32, tyOk, isTy, isNon, retR, outs, eqD_strr, hd, aft, flat0]
theorem sp32 : ∀ (k n : Nat) (d : D) (s0 s1 : SV), dp k d → (s0 = .val d ∨ s0 = .bor d) → (s1 = .val d ∨ s1 = .bor d) → callF T (n + k + 1) 32 [s0, s1] = .ok (.v (.bl true)) [aft s0, aft s1]
  | 0, n, d, s0, s1, hd, h0, h1 => sp32f n d s0 s1 hd h0 h1
  | k + 1, n, d, s0, s1, hd, h0, h1 => by
    rcases hd with hd | ⟨ds, hd, hl, hx⟩
    · exact sp32f (n + (k + 1)) d s0 s1 hd h0 h1
    · rw [x_callF T (n + (k + 1)) 32 _ (F := f32) rfl rfl]
      have hc : ∀ t0 t1, compL (fun d e => opt (asg (.tp [2, 3]) d e) fun e1 => (evC T (callF T (n + (k + 1))) none e1).bd fun k' e2 => if k' then (evE T (callF T (n + (k + 1))) false (.call 32 [.var 2, .var 3]) e2).bd fun r e3 => opt (frz e3 r) fun (x, e4) => .ok (some x) e4 else .ok none e2) [2, 3] (zipD ds ds) [t0, t1, .un, .un] [] = .ok ((zipD ds ds).map fun _ => .bl true) [t0, t1, .un, .un] := by
        intro t0 t1
        have := compL_map (f := fun d e => opt (asg (.tp [2, 3]) d e) fun e1 => (evC T (callF T (n + (k + 1))) none e1).bd fun k' e2 => if k' then (evE T (callF T (n + (k + 1))) false (.call 32 [.var 2, .var 3]) e2).bd fun r e3 => opt (frz e3 r) fun (x, e4) => .ok (some x) e4 else .ok none e2) (own := [2, 3]) (e0 := [t0, t1, .un, .un]) (fun _ => .bl true) (zipD ds ds) [] (by
          intro d hm
          obtain ⟨i, hi, rfl⟩ := List.getElem_of_mem hm
          have hi' : i < ds.length := by simpa [zipD] using hi
          have e : (zipD ds ds)[i] = .tup [ds[i], ds[i]] := by simp [zipD]
          have h := sp32 k n (ds[i]) (.val ds[i]) (.val ds[i]) (hx _ (List.getElem_mem _)) (.inl rfl) (.inl rfl)
          rw [e]
          refine ⟨[t0, t1, .val ds[i], .val ds[i]], ?_, by simp [wipeE]⟩
          have h' : callF T (n + (k + 1)) 32 [.val ds[i], .val ds[i]] = _ := h
          simp [asg, setVals, h', frz]) (by simp [zipD, sizeL]; omega)
        simpa using this
      have hb : blsD ((zipD ds ds).map fun _ => D.bl true) = some ((zipD ds ds).map fun _ => true) := by
        rw [show ((zipD ds ds).map fun _ => D.bl true) = ((zipD ds ds).map fun _ => true).map D.bl from by rw [List.map_map]; rfl]
        exact blsD_map _
      have ha : ((zipD ds ds).map fun _ => true).all id = true := by simp
      simp at hc
      rcases hd with rfl | rfl <;> rcases h0 with rfl | rfl <;> rcases h1 with rfl | rfl <;> simp [f32, tyOk, isTy, isNon, retR, outs, seqL, frz_v, frz_h, frzs, wipeE, hc, unwipe, hb, aft, flat0]
end PL.K20
end

section
set_option exponentiation.threshold 5000
namespace PL.K20
open PL PL.K00 PL.PM PySem PySem.Spec L2

/-! orders as data -/
def nD (k : Nat) : D := .int (k : Int)
def ot (p : List Nat) : D := .tup (p.map nD)
def ol (p : List Nat) : D := .lst (p.map nD)
def nt (two three : List Nat) : D := .tup [ot two, ot three]
def nl (two three : List Nat) : D := .lst [ol two, ol three]
def ap (p : List Nat) : Nat → Nat := fun i => p.getD i i
theorem map_nD (p : List Nat) : p.map nD = (p.map fun (k : Nat) => (k : Int)).map D.int := by
  rw [List.map_map]; rfl
theorem intsD_nD (p : List Nat) : intsD (p.map nD) = some (p.map fun (k : Nat) => (k : Int)) := by
  rw [map_nD, intsD_mapI]
theorem item_ot {p : List Nat} {k : Nat} (h : k < p.length) : item (ot p) (.int (k : Int)) = some (nD (ap p k)) := by
  show atI (p.map nD) (k : Int) = _
  rw [atI_nat, List.getElem?_map, List.getElem?_eq_getElem h]
  simp [ap, h]
theorem item_ol {p : List Nat} {k : Nat} (h : k < p.length) : item (ol p) (.int (k : Int)) = some (nD (ap p k)) := by
  show atI (p.map nD) (k : Int) = _
  rw [atI_nat, List.getElem?_map, List.getElem?_eq_getElem h]
  simp [ap, h]
theorem item_nt0 (a b : List Nat) : item (nt a b) (.int 0) = some (ot a) := rfl
theorem item_nt1 (a b : List Nat) : item (nt a b) (.int 1) = some (ot b) := rfl
theorem len_ot (p : List Nat) : biF .len [ot p] = some (.v (.int (p.length : Nat))) := by
  show some (RV.v (.int ((p.map nD).length : Nat))) = _
  rw [List.length_map]
theorem len_ol (p : List Nat) : biF .len [ol p] = some (.v (.int (p.length : Nat))) := by
  show some (RV.v (.int ((p.map nD).length : Nat))) = _
  rw [List.length_map]
/-! plain checks -/
theorem sp2t (n : Nat) (ds : List D) (k : Int) (h : (ds.length : Int) = k) : callF T (n+1) 2 [.val (.tup ds), .val (.int k)] = .ok (.v (.bl true)) [.val (.tup ds), .val (.int k)] := by
  rw [x_callF T n 2 _ (F := f2) rfl rfl]
  simp [f2, tyOk, isTy, h]
theorem sp3t (n : Nat) (p : List Nat) (k : Int) (h : (p.length : Int) = k) (hl : p.length ≤ 300) : callF T (n+2) 3 [.val (ot p), .val (.int k)] = .ok (.v (.bl true)) [.val (ot p), .val (.int k)] := by
  rw [x_callF T (n+1) 3 _ (F := f3) rfl rfl]
  have e2 := sp2t n (p.map nD) k (by simpa using h)
  have hc := ev_comp (T := T) (cf := callF T (n+1)) (e := [.val (ot p), .val (.int k), .un]) (e1 := [.val (ot p), .val (.int k), .un]) (i := 2) (it := .e (.var 0)) (cond := none) (elt := .call 0 [.var 2]) (ds := p.map nD) (s := .un) (fun _ => true) (fun _ => .bl true) (by simp [ot, frz]) rfl (by simp; omega) (by
    intro d hd
    obtain ⟨j, _, rfl⟩ := List.mem_map.mp hd
    exact ⟨by simp, fun _ => .inl (by simp [nD, sp0i n])⟩)
  rw [List.filter_eq_self.mpr (fun _ _ => rfl)] at hc
  show fin [.val (ot p), .val (.int k)] (exB T (callF T (n+1)) [.ret (.andor true [.call 2 [.var 0, .var 1], .bi .all [.comp [2] (.e (.var 0)) (.nm 2) none (.call 0 [.var 2])]])] [.val (ot p), .val (.int k), .un]) = _
  have c1 : evE T (callF T (n+1)) false (.call 2 [.var 0, .var 1]) [.val (ot p), .val (.int k), .un] = .ok (.v (.bl true)) [.val (ot p), .val (.int k), .un] :=
    ev_f2 (.inl (vaT rfl)) (.inl (vaT rfl)) e2
  rw [x_b1, x_ret, x_andor, andFt c1, x_v1, ev_b1 (.inr hc) (all_tr _)]
  simp [retR, outs]
theorem sp4o (n : Nat) (p : List Nat) (hl : p.length ≤ 300) (d : D) (hd : d = ot p ∨ d = ol p) : callF T (n+2) 4 [.val d] = .ok (.v (ot p)) [.val d] := by
  rw [x_callF T (n+1) 4 _ (F := f4) rfl rfl]
  have hi : evI T (callF T (n+1)) (.e (.var 0)) [.val d, .un] = .ok (p.map nD) [.val d, .un] := by
    rcases hd with rfl | rfl <;> simp [ot, ol, frz]
  have hc := ev_comp (T := T) (cf := callF T (n+1)) (e := [.val d, .un]) (e1 := [.val d, .un]) (i := 1) (it := .e (.var 0)) (cond := none) (elt := .call 4 [.var 1]) (ds := p.map nD) (s := .un) (fun _ => true) (fun d => d) hi rfl (by simp; omega) (by
    intro d hd
    obtain ⟨m, _, rfl⟩ := List.mem_map.mp hd
    exact ⟨by simp, fun _ => .inl (by simp [nD, sp4i n (m : Int)])⟩)
  rw [List.filter_eq_self.mpr (fun _ _ => rfl), List.map_id'] at hc
  show fin [.val d] (exB T (callF T (n+1)) [.ret (.ite (.isi (.var 0) ["list", "tuple"]) (.bi .tuple [.comp [1] (.e (.var 0)) (.nm 1) none (.call 4 [.var 1])]) (.var 0))] [.val d, .un]) = _
  rw [x_b1, x_ret, x_ite]
  have h1 : toB (evE T (callF T (n+1)) true (.isi (.var 0) ["list", "tuple"]) [.val d, .un]) = .ok true [.val d, .un] := by
    rcases hd with rfl | rfl <;> simp [ot, ol, tyOk, isTy, toB, tst, truth, opt]
  rw [h1]
  simp only [bd_ok, if_true]
  rw [x_bi, x_a1, hc]
  simp [retR, outs, ot]
theorem sp4n (n : Nat) (a b : List Nat) (ha : a.length ≤ 300) (hb : b.length ≤ 300) (d : D) (hd : d = nt a b ∨ d = nl a b) : callF T (n+3) 4 [.val d] = .ok (.v (nt a b)) [.val d] := by
  rw [x_callF T (n+2) 4 _ (F := f4) rfl rfl]
  rcases hd with rfl | rfl
  · have e1 := sp4o n a ha _ (.inl rfl)
    have e2 := sp4o n b hb _ (.inl rfl)
    have : nt a b = .tup [ot a, ot b] := rfl
    rw [this]
    generalize ot a = x at *
    generalize ot b = y at *
    simp [f4, tyOk, isTy, toB, tst, truth, opt, frz, compL, wipeE, unwipe, e1, e2, sizeL, retR, outs]
  · have e1 := sp4o n a ha _ (.inr rfl)
    have e2 := sp4o n b hb _ (.inr rfl)
    have h1 : nt a b = .tup [ot a, ot b] := rfl
    have h2 : nl a b = .lst [ol a, ol b] := rfl
    rw [h1, h2]
    generalize ot a = x at *
    generalize ot b = y at *
    generalize ol a = x2 at *
    generalize ol b = y2 at *
    simp [f4, tyOk, isTy, toB, tst, truth, opt, frz, compL, wipeE, unwipe, e1, e2, sizeL, retR, outs]
/-! sorted -/
theorem ins_perm (x : Int) : ∀ l : List Int, (isort.ins x l).Perm (x :: l)
  | [] => List.Perm.refl _
  | y :: ys => by
    unfold isort.ins
    split
    · exact List.Perm.refl _
    · exact ((ins_perm x ys).cons y).trans (List.Perm.swap x y ys)
theorem isort_perm : ∀ l : List Int, (isort l).Perm l
  | [] => List.Perm.refl _
  | x :: l => (ins_perm x _).trans ((isort_perm l).cons x)
theorem ins_sorted (x : Int) : ∀ l : List Int, l.Pairwise (· ≤ ·) → (isort.ins x l).Pairwise (· ≤ ·)
  | [], _ => List.pairwise_singleton _ _
  | y :: ys, h => by
    rw [List.pairwise_cons] at h
    unfold isort.ins
    split
    · next hxy => exact List.pairwise_cons.mpr ⟨fun z hz => by
        rcases List.mem_cons.mp hz with rfl | hz
        · exact hxy
        · have := h.1 z hz; omega, List.pairwise_cons.mpr h⟩
    · next hxy => exact List.pairwise_cons.mpr ⟨fun z hz => by
        rcases List.mem_cons.mp ((ins_perm x ys).mem_iff.mp hz) with rfl | hz
        · omega
        · exact h.1 z hz, ins_sorted x ys h.2⟩
theorem isort_sorted : ∀ l : List Int, (isort l).Pairwise (· ≤ ·)
  | [] => .nil
  | x :: l => ins_sorted x _ (isort_sorted l)
theorem strict_len : ∀ (l : List Int) (x y : Int), l.Pairwise (· < ·) → (∀ z ∈ l, x ≤ z ∧ z < y) → (l.length : Int) ≤ max 0 (y - x)
  | [], x, y, _, _ => by simp; omega
  | a :: l, x, y, h, hb => by
    rw [List.pairwise_cons] at h
    have ha := hb a (by simp)
    have := strict_len l (a + 1) y h.2 (fun z hz => ⟨by have := h.1 z hz; omega, (hb z (by simp [hz])).2⟩)
    simp only [List.length_cons]
    omega
theorem strict_eq : ∀ (l : List Int) (x : Int), l.Pairwise (· < ·) → (∀ z ∈ l, x ≤ z ∧ z < x + l.length) → l = (List.range l.length).map fun (k : Nat) => x + (k : Int)
  | [], _, _, _ => rfl
  | a :: l, x, h, hb => by
    rw [List.pairwise_cons] at h
    have ha := hb a (by simp)
    have sl := strict_len l (a + 1) (x + (a :: l).length) h.2 (fun z hz => ⟨by have := h.1 z hz; omega, (hb z (by simp [hz])).2⟩)
    simp only [List.length_cons] at ha sl hb ⊢
    have e : a = x := by omega
    subst e
    have ih := strict_eq l (a + 1) h.2 (fun z hz => ⟨by have := h.1 z hz; omega, by have := (hb z (by simp [hz])).2; omega⟩)
    rw [List.range_succ_eq_map, List.map_cons, List.map_map, Int.natCast_zero, Int.add_zero]
    congr 1
    conv => lhs; rw [ih]
    apply List.map_congr_left
    intro k _
    show a + 1 + (k : Int) = a + ((k + 1 : Nat) : Int)
    omega
def Ord (n : Nat) (p : List Nat) : Prop := p.length = n ∧ (∀ x ∈ p, x < n) ∧ p.Nodup
theorem Ord.sorted {n : Nat} {p : List Nat} (h : Ord n p) : isort (p.map fun (k : Nat) => (k : Int)) = (List.range n).map fun (k : Nat) => 0 + (k : Int) := by
  have hp := isort_perm (p.map fun (k : Nat) => (k : Int))
  have hs := isort_sorted (p.map fun (k : Nat) => (k : Int))
  have hl := isort_len (p.map fun (k : Nat) => (k : Int))
  rw [List.length_map, h.1] at hl
  have nd : (p.map fun (k : Nat) => (k : Int)).Nodup := by
    rw [List.nodup_iff_pairwise_ne, List.pairwise_map]
    exact (List.nodup_iff_pairwise_ne.mp h.2.2).imp fun hab e => hab (by omega)
  have nd2 := hp.nodup_iff.mpr nd
  have st : (isort (p.map fun (k : Nat) => (k : Int))).Pairwise (· < ·) := by
    have := List.nodup_iff_pairwise_ne.mp nd2
    exact (hs.and this).imp fun ⟨h1, h2⟩ => by omega
  have := strict_eq _ 0 st (fun z hz => by
    obtain ⟨k, hk, rfl⟩ := List.mem_map.mp (hp.mem_iff.mp hz)
    have := h.2.1 k hk
    omega)
  rw [hl] at this
  exact this
end PL.K20
end

section
set_option exponentiation.threshold 5000
namespace PL.K20
open PL PL.K00 PL.PM PySem PySem.Spec L2

/-! orders: what is one, done one behind the other, what it keeps -/
theorem rgI_nat (n : Nat) : rgI (n : Int) = ((List.range n).map fun (k : Nat) => 0 + (k : Int)).map D.int := by
  unfold rgI
  rw [Int.toNat_natCast, List.map_map]; rfl
theorem ev_lrg {T : GT} {cf : Nat → List SV → CO} {e e1 : EV} {a : E} {n : Nat} (h : evE T cf false a e = .ok (.v (.int (n : Int))) e1) (hn : n ≤ 100000) : evE T cf false (.lrg false a) e = .ok (.t (.lst (((List.range n).map fun (k : Nat) => 0 + (k : Int)).map D.int))) e1 := by
  rw [x_lrg, h]
  have h1 : decide (-(2 ^ 62) ≤ (n : Int)) = true := decide_eq_true (by omega)
  have h2 : decide ((n : Int) ≤ 16777216) = true := decide_eq_true (by omega)
  simp only [tst_false, bd_ok, x_cont_v, Option.bind, intD, opt, h1, h2, Bool.and_true, if_true, Bool.false_eq_true, if_false, rgI_nat]
theorem sp5 (m n : Nat) (p : List Nat) (h : Ord n p) (hn : n ≤ 300) : callF T (m+3) 5 [.val (ot p), .val (.int n)] = .ok (.v (.bl true)) [.val (ot p), .val (.int n)] := by
  rw [x_callF T (m+2) 5 _ (F := f5) rfl rfl]
  have e3 := sp3t m p n (by rw [h.1]) (by have := h.1; omega)
  have c1 : evE T (callF T (m+2)) false (.call 3 [.var 0, .var 1]) [.val (ot p), .val (.int n)] = .ok (.v (.bl true)) [.val (ot p), .val (.int n)] := ev_f2 (.inl (vaT rfl)) (.inl (vaT rfl)) e3
  have c2 : evE T (callF T (m+2)) false (.bi .sorted [.var 0]) [.val (ot p), .val (.int n)] = .ok (.t (.lst (((List.range n).map fun (k : Nat) => 0 + (k : Int)).map D.int))) [.val (ot p), .val (.int n)] := by
    refine ev_b1 (.inl (vaT rfl)) ?_
    show (intsD (p.map nD)).map _ = _
    rw [intsD_nD, Option.map_some, h.sorted]
  have c3 := ev_lrg (T := T) (cf := callF T (m+2)) (e := [.val (ot p), .val (.int n)]) (a := .var 1) (vaT rfl) (show n ≤ 100000 by omega)
  show fin [.val (ot p), .val (.int n)] (exB T (callF T (m+2)) [.ret (.andor true [.call 3 [.var 0, .var 1], .cmp .Eq (.bi .sorted [.var 0]) (.lrg false (.var 1))])] [.val (ot p), .val (.int n)]) = _
  rw [x_b1, x_ret, x_andor, andFt c1, x_v1, x_cmp, c2]
  simp only [bd_ok]
  rw [c3]
  generalize (List.range n).map (fun (k : Nat) => 0 + (k : Int)) = L
  have := eqD_li L L
  simp [cmpop, this, retR, outs]
def cmp2 (a b : List Nat) : List Nat := a.map (ap b)
theorem sp6 (m : Nat) (a b : List Nat) (h : ∀ x ∈ a, x < b.length) (ha : a.length ≤ 300) : callF T (m+1) 6 [.val (ot a), .val (ot b)] = .ok (.v (ot (cmp2 a b))) [.val (ot a), .val (ot b)] := by
  rw [x_callF T m 6 _ (F := f6) rfl rfl]
  have hc := ev_comp (T := T) (cf := callF T m) (e := [.val (ot a), .val (ot b), .un]) (e1 := [.val (ot a), .val (ot b), .un]) (i := 2) (it := .e (.var 0)) (cond := none) (elt := .ix (.var 1) (.var 2)) (ds := a.map nD) (s := .un) (fun _ => true) (fun d => match d with | .int k => nD (ap b k.toNat) | _ => .non) (by simp [ot, frz]) rfl (by simp; omega) (by
    intro d hd
    obtain ⟨k, hk, rfl⟩ := List.mem_map.mp hd
    have hi := item_ot (h k hk)
    refine ⟨x_c0 .., fun _ => .inl ?_⟩
    have e1 : (nD k) = .int (k : Int) := rfl
    generalize ot b = B at *
    simp [nD] at hi ⊢
    simp [hi])
  have hm : ((a.map nD).filter fun _ => true).map (fun d => match d with | .int k => nD (ap b k.toNat) | _ => .non) = (cmp2 a b).map nD := by
    rw [List.filter_eq_self.mpr (fun _ _ => rfl), List.map_map, cmp2, List.map_map]; rfl
  rw [hm] at hc
  show fin [.val (ot a), .val (ot b)] (exB T (callF T m) [.ret (.bi .tuple [.comp [2] (.e (.var 0)) (.nm 2) none (.ix (.var 1) (.var 2))])] [.val (ot a), .val (ot b), .un]) = _
  rw [x_b1, x_ret, x_bi, x_a1, hc]
  simp [retR, outs, ot]
theorem sp35 (m : Nat) (a b : List Nat) (h : ∀ x ∈ a, x < b.length) (ha : a.length ≤ 300) : callF T (m+1) 35 [.val (ot a), .val (ot b)] = .ok (.v (ot (cmp2 a b))) [.val (ot a), .val (ot b)] := by
  have := sp6 m a b h ha
  rw [x_callF T m 6 _ (F := f6) rfl rfl] at this
  rw [x_callF T m 35 _ (F := f35) rfl rfl]
  exact this
def fixp (p : List Nat) : List Nat := (List.range p.length).filter fun i => decide (ap p i = i)
theorem enum_ot (p : List Nat) : enumD (p.map nD) = (List.range p.length).map fun (k : Nat) => .tup [.int (k : Int), nD (ap p k)] := by
  unfold enumD
  rw [List.length_map]
  apply List.ext_getElem
  · simp
  · intro i h1 h2
    simp [nD, ap]
    have : i < p.length := by simpa using h2
    simp [this]
theorem sp14 (m : Nat) (p : List Nat) (hp : p.length ≤ 300) : callF T (m+1) 14 [.val (ot p)] = .ok (.t (ol (fixp p))) [.val (ot p)] := by
  rw [x_callF T m 14 _ (F := f14) rfl rfl]
  have hi : evI T (callF T m) (.enum (.var 0)) [.val (ot p), .un, .un] = .ok ((List.range p.length).map fun (k : Nat) => .tup [.int (k : Int), nD (ap p k)]) [.val (ot p), .un, .un] := by
    rw [← enum_ot]; simp [ot, frz]
  have hc := ev_comp2n (T := T) (cf := callF T m) (e := [.val (ot p), .un, .un]) (e1 := [.val (ot p), .un, .un]) (i := 1) (j := 2) (by decide) (cond := some (.cmp .Eq (.var 2) (.var 1))) (elt := .var 1) (s := .un) (t := .un)
    (fun d => match d with | .tup [a, _] => a | _ => .non) (fun d => match d with | .tup [_, b] => b | _ => .non) (fun d => match d with | .tup [a, _] => a | _ => .non) (fun d => match d with | .tup [.int a, .int b] => decide (b = a) | _ => false) hi rfl rfl (by simp; omega) (by
    intro d hd
    obtain ⟨k, _, rfl⟩ := List.mem_map.mp hd
    refine ⟨rfl, ?_, fun _ => ?_⟩
    · simp [nD, eqD_int, toB, tst, truth, opt]
    · simp [nD])
  have hm : (((List.range p.length).map fun (k : Nat) => D.tup [.int (k : Int), nD (ap p k)]).filter (fun d => match d with | .tup [.int a, .int b] => decide (b = a) | _ => false)).map (fun d => match d with | .tup [a, _] => a | _ => .non) = (fixp p).map nD := by
    rw [List.filter_map, List.map_map, fixp]
    have : ((fun d => match d with | D.tup [.int a, .int b] => decide (b = a) | _ => false) ∘ fun (k : Nat) => D.tup [.int (k : Int), nD (ap p k)]) = fun i => decide (ap p i = i) := by
      funext k
      show decide (((ap p k : Nat) : Int) = (k : Int)) = decide (ap p k = k)
      by_cases h : ap p k = k
      · simp [h]
      · have : ¬ ((ap p k : Nat) : Int) = (k : Int) := by omega
        simp [h, this]
    rw [this]
    rfl
  rw [hm] at hc
  show fin [.val (ot p)] (exB T (callF T m) [.ret (.comp [1, 2] (.enum (.var 0)) (.tp [1, 2]) (some (.cmp .Eq (.var 2) (.var 1))) (.var 1))] [.val (ot p), .un, .un]) = _
  rw [x_b1, x_ret, hc]
  simp [retR, outs, ol]
theorem sp41 (m : Nat) (p : List Nat) (hp : p.length ≤ 300) : callF T (m+1) 41 [.val (ot p)] = .ok (.t (ol (fixp p))) [.val (ot p)] := by
  have := sp14 m p hp
  rw [x_callF T m 14 _ (F := f14) rfl rfl] at this
  rw [x_callF T m 41 _ (F := f41) rfl rfl]
  exact this
/-! rounds, with a dict of what is gone -/
def kI (k : Nat) : Key := .inl (k : Int)
def gk (G : List Nat) : D := .dk (G.map kI) (G.map fun _ => .bl true)
theorem dlook_gk : ∀ (G : List Nat) (k : Nat), (dlook (G.map kI) (G.map fun _ => D.bl true) (kI k)).isSome = decide (k ∈ G)
  | [], k => rfl
  | g :: G, k => by
    rw [List.map_cons, List.map_cons, dlook]
    by_cases h : g = k
    · subst h; rw [if_pos rfl]; simp
    · have : ¬ kI g = kI k := fun e => h (by
        have : (g : Int) = (k : Int) := Sum.inl.inj e
        omega)
      rw [if_neg this, dlook_gk G k]
      have h2 : ¬ k = g := fun e => h e.symm
      simp [h2]
theorem notin_gk (G : List Nat) (k : Nat) : cmpop .NotIn (nD k) (gk G) = some (decide (k ∉ G)) := by
  unfold gk nD
  simp only [cmpop, keyOf, Option.map_some]
  have := dlook_gk G k
  rw [show (Sum.inl (k : Int) : Key) = kI k from rfl, this]
  simp
theorem put_gk {G : List Nat} {k : Nat} (h : k ∉ G) : dput (G.map kI) (G.map fun _ => D.bl true) (kI k) (.bl true) = ((G ++ [k]).map kI, (G ++ [k]).map fun _ => .bl true) := by
  unfold dput
  have : kI k ∉ G.map kI := fun m => by
    obtain ⟨g, hg, e⟩ := List.mem_map.mp m
    have : (g : Int) = (k : Int) := Sum.inl.inj e
    have : g = k := by omega
    exact h (this ▸ hg)
  rw [if_neg this]
  simp
def b7 : List S := [.six 1 (.var 5) (.bl true), .ex (.app 4 (.var 5)), .set 5 (.ix (.var 0) (.var 5))]
theorem st7 (m : Nat) {p : List Nat} (F S3 : SV) (G L : List Nat) (h : Nat) (hp : h < p.length) (hG : h ∉ G) (lG : G.length ≤ 1000000) (lL : L.length ≤ 1000000) :
    exB T (callF T m) b7 [.val (ot p), .own (gk G), F, S3, .own (ol L), .val (nD h)] = .ok .next [.val (ot p), .own (gk (G ++ [h])), F, S3, .own (ol (L ++ [h])), .val (nD (ap p h))] := by
  have hi := item_ot hp
  have pg := put_gk hG
  have l1 : G.length < 16777216 := by omega
  have l2 : L.length < 16777216 := by omega
  have s1 : exS T (callF T m) (.six 1 (.var 5) (.bl true)) [.val (ot p), .own (gk G), F, S3, .own (ol L), .val (nD h)] = .ok .next [.val (ot p), .own (gk (G ++ [h])), F, S3, .own (ol L), .val (nD h)] := by
    have hk : keyOf (nD h) = some (kI h) := rfl
    have h6 : sixE [.val (ot p), .own (gk G), F, S3, .own (ol L), .val (nD h)] 1 (nD h) (.bl true) = some [.val (ot p), .own (gk (G ++ [h])), F, S3, .own (ol L), .val (nD h)] := by
      show (keyOf (nD h)).bind (fun z => if (G.map kI).length < sizeL then some (upS [.val (ot p), .own (gk G), F, S3, .own (ol L), .val (nD h)] 1 (.dk (dput (G.map kI) (G.map fun _ => .bl true) z (.bl true)).1 (dput (G.map kI) (G.map fun _ => .bl true) z (.bl true)).2)) else none) = _
      rw [hk]
      simp only [Option.bind, List.length_map, sizeL, l1, if_true, pg]
      rfl
    rw [x_six]
    have hdk : (lstAt [.val (ot p), .own (gk G), F, S3, .own (ol L), .val (nD h)] 1 || dkAt [.val (ot p), .own (gk G), F, S3, .own (ol L), .val (nD h)] 1) = true := rfl
    generalize nD h = d at *
    generalize ol L = dl at *
    generalize ot p = dp at *
    rw [x_bl]
    simp only [tst_false, bd_ok, frz, opt, hdk, if_true]
    rw [x_var]
    simp only [List.getElem?_cons_succ, List.getElem?_cons_zero, tst_false, bd_ok, x_cont_v, opt, h6]
  have s2 : exS T (callF T m) (.ex (.app 4 (.var 5))) [.val (ot p), .own (gk (G ++ [h])), F, S3, .own (ol L), .val (nD h)] = .ok .next [.val (ot p), .own (gk (G ++ [h])), F, S3, .own (ol (L ++ [h])), .val (nD h)] := by
    have : ol (L ++ [h]) = .lst (L.map nD ++ [nD h]) := by simp [ol]
    rw [this]
    have : ol L = .lst (L.map nD) := rfl
    rw [this]
    have l3 : (L.map nD).length < 16777216 := by simpa using l2
    generalize L.map nD = M at *
    generalize gk (G ++ [h]) = g at *
    generalize nD h = d at *
    simp [lstAt, mineD, upS, sizeL, l3, frz_v]
  have s3 : exS T (callF T m) (.set 5 (.ix (.var 0) (.var 5))) [.val (ot p), .own (gk (G ++ [h])), F, S3, .own (ol (L ++ [h])), .val (nD h)] = .ok .next [.val (ot p), .own (gk (G ++ [h])), F, S3, .own (ol (L ++ [h])), .val (nD (ap p h))] := by
    have hi : item (ot p) (nD h) = some (nD (ap p h)) := hi
    generalize gk (G ++ [h]) = g at *
    generalize ol (L ++ [h]) = M at *
    generalize nD h = d at *
    generalize ot p = dp at *
    simp [hi]
  rw [b7, x_b1, s1]
  simp only [bd_ok]
  rw [x_b1, s2]
  simp only [bd_ok]
  rw [x_b1, s3]
  simp
def orb (f : Nat → Nat) (k j : Nat) : List Nat := (List.range j).map fun i => it f i k
theorem orb_s (f : Nat → Nat) (k j : Nat) : orb f k (j + 1) = orb f k j ++ [it f j k] := by
  unfold orb
  rw [List.range_succ, List.map_append]; rfl
theorem mem_orb {f : Nat → Nat} {k j x : Nat} : x ∈ orb f k j ↔ ∃ i, i < j ∧ it f i k = x := by
  unfold orb
  simp [List.mem_map]
def c7 : E := .cmp .NotIn (.var 5) (.var 1)
theorem cv7 (m : Nat) (a F S3 s4 : SV) (G : List Nat) (h : Nat) : toB (evE T (callF T m) true c7 [a, .own (gk G), F, S3, s4, .val (nD h)]) = .ok (decide (h ∉ G)) [a, .own (gk G), F, S3, s4, .val (nD h)] := by
  have := notin_gk G h
  generalize gk G = g at *
  generalize nD h = d at *
  simp [c7, this, toB, tst, truth, opt]
theorem lp7 (m n w : Nat) {p : List Nat} (hp : p.length = n) (hb : Bij n (ap p)) {k P : Nat} (hk : k < n) (F S3 : SV) (G0 : List Nat) (hG : ∀ i, it (ap p) i k ∉ G0) (p0 : 0 < P) (p1 : it (ap p) P k = k) (dis : ∀ i j, i < j → j < P → it (ap p) i k ≠ it (ap p) j k) (lG : G0.length + P ≤ 900000) :
    ∀ (r j : Nat), j + r = P → whL (fun e => toB (evE T (callF T m) true c7 e)) (fun e => exB T (callF T m) b7 e) (r + (w + 1)) [.val (ot p), .own (gk (G0 ++ orb (ap p) k j)), F, S3, .own (ol (orb (ap p) k j)), .val (nD (it (ap p) j k))] = .ok .next [.val (ot p), .own (gk (G0 ++ orb (ap p) k P)), F, S3, .own (ol (orb (ap p) k P)), .val (nD k)]
  | 0, j, hj => by
    have : j = P := by omega
    subst this
    rw [p1, show 0 + (w + 1) = w + 1 from Nat.zero_add _, wh_end (e1 := [.val (ot p), .own (gk (G0 ++ orb (ap p) k j)), F, S3, .own (ol (orb (ap p) k j)), .val (nD k)])]
    rw [cv7, decide_eq_false]
    intro z
    exact z (List.mem_append_right _ (mem_orb.mpr ⟨0, p0, rfl⟩))
  | r + 1, j, hj => by
    have hlt : it (ap p) j k < n := it_lt hb j hk
    have nin : it (ap p) j k ∉ G0 ++ orb (ap p) k j := by
      intro z
      rcases List.mem_append.mp z with z | z
      · exact hG j z
      · obtain ⟨i, hi, e⟩ := mem_orb.mp z
        exact dis i j hi (by omega) e
    have ll : (orb (ap p) k j).length = j := by simp [orb]
    rw [show r + 1 + (w + 1) = (r + (w + 1)) + 1 from by omega, wh_step (by rw [cv7, decide_eq_true nin]) (st7 m F S3 _ _ _ (by omega) nin (by simp [ll]; omega) (by omega))]
    have e1 : G0 ++ orb (ap p) k j ++ [it (ap p) j k] = G0 ++ orb (ap p) k (j + 1) := by rw [orb_s, List.append_assoc]
    rw [e1, ← orb_s, ← it_succ (ap p) j k]
    exact lp7 m n w hp hb hk F S3 G0 hG p0 p1 dis lG r (j + 1) (by omega)
end PL.K20
end

section
set_option exponentiation.threshold 5000
namespace PL.K20
open PL PL.K00 PL.PM PySem PySem.Spec L2

theorem rng_nD (n : Nat) (h : n ≤ 100000) : rngD [.int (n : Int)] = some ((List.range n).map nD) := by
  have := rngD_one (n : Int) (by omega) (by omega)
  rw [Int.toNat_natCast] at this
  have e : (fun (k : Nat) => D.int (0 + (k : Int))) = nD := by
    funext k
    show D.int (0 + (k : Int)) = D.int (k : Int)
    rw [Int.zero_add]
  rw [e] at this
  exact this
theorem x_dnewF {T : GT} {cf : Nat → List SV → CO} {e : EV} : evE T cf false (.dnew false) e = .ok (.t (.dk [] [])) e := by first | (rw [evE]; done) | (rw [evE]; rfl)
theorem ev_rlen {T : GT} {cf : Nat → List SV → CO} {e : EV} {i : Nat} {w : D} {q : Int} {ds : List D} (hv : e[i]? = some (.val w)) (hb1 : biF .len [w] = some (.v (.int q))) (hr : rngD [.int q] = some ds) : evI T cf (.rng [.bi .len [.var i]]) e = .ok ds e := by
  rw [x_ir, x_a1, ev_b1 (.inl (vaT hv)) hb1]
  simp only [bd_ok, x_a0, x_conts1, x_conts0, x_cont_v, Option.bind, Option.map, opt, hr]
def B7 : List S := [.if_ (.cmp .NotIn (.var 3) (.var 1)) [.par [4, 5] [.lst [], .var 3], .wh c7 b7, .ex (.app 2 (.bi .tuple [.var 4]))] []]
def rowsOk (L : List D) : Prop := ∀ d ∈ L, ∃ xs : List D, d = .tup xs ∧ xs.length ≤ 300
theorem in7 (m n : Nat) {p : List Nat} (hp : p.length = n) (hn : n ≤ 240) (hb : Bij n (ap p)) {k : Nat} (hk : k < n) (L : List D) (G : List Nat) (s4 s5 : SV) (k4 : Fre s4) (k5 : Fre s5) (hG : ∀ x, x ∈ G ↔ Bef n (ap p) k x) (nk : ¬ Bef n (ap p) k k) (lG : G.length ≤ 800000) (lL : L.length ≤ 300) :
    ∃ P s4' s5', P ≤ n ∧ Fre s4' ∧ Fre s5' ∧ (∀ x, x ∈ G ++ orb (ap p) k P ↔ Bef n (ap p) (k + 1) x) ∧
      exB T (callF T m) [.par [4, 5] [.lst [], .var 3], .wh c7 b7, .ex (.app 2 (.bi .tuple [.var 4]))] [.val (ot p), .own (gk G), .own (.lst L), .val (nD k), s4, s5] = .ok .next [.val (ot p), .own (gk (G ++ orb (ap p) k P)), .own (.lst (L ++ [ot (orb (ap p) k P)])), .val (nD k), s4', s5'] := by
  obtain ⟨P, p0, pn, p1, dis, cl⟩ := round_of hb hk
  have hl := lp7 m n (99999 - P) hp hb hk (.own (.lst L)) (.val (nD k)) G (fun i z => nk (bef_cl ((hG _).mp z) (.sy (it_cl hb i hk)))) p0 p1 dis (by omega) P 0 (by omega)
  rw [show P + (99999 - P + 1) = T.wf from by show P + (99999 - P + 1) = 100000; omega] at hl
  have o0 : orb (ap p) k 0 = [] := rfl
  rw [o0, List.append_nil] at hl
  have i0 : it (ap p) 0 k = k := rfl
  rw [i0] at hl
  refine ⟨P, .own (ol (orb (ap p) k P)), .val (nD k), pn, Fre.own _, Fre.val _, fun x => ?_, ?_⟩
  · rw [List.mem_append, hG, bef_succ, cl, mem_orb]
  · have h1 : exS T (callF T m) (.par [4, 5] [.lst [], .var 3]) [.val (ot p), .own (gk G), .own (.lst L), .val (nD k), s4, s5] = .ok .next [.val (ot p), .own (gk G), .own (.lst L), .val (nD k), .own (ol []), .val (nD k)] := by
      have : ol [] = .lst [] := rfl
      rw [this]
      generalize gk G = g at *
      generalize nD k = d at *
      generalize ot p = dp at *
      rcases k4 with rfl | ⟨_, rfl⟩ | ⟨_, rfl⟩ <;> rcases k5 with rfl | ⟨_, rfl⟩ | ⟨_, rfl⟩ <;> simp [fzRs, fzR, setRs, setR, frzs, sizeL]
    rw [x_b1, h1]
    simp only [bd_ok]
    rw [x_b1, x_wh, hl]
    simp only [bd_ok]
    have e1 : ol (orb (ap p) k P) = .lst ((orb (ap p) k P).map nD) := rfl
    have e2 : ot (orb (ap p) k P) = .tup ((orb (ap p) k P).map nD) := rfl
    rw [e1, e2]
    have l3 : L.length < 16777216 := by omega
    generalize (orb (ap p) k P).map nD = M at *
    generalize gk (G ++ orb (ap p) k P) = g at *
    generalize nD k = d at *
    generalize ot p = dp at *
    simp [lstAt, mineD, upS, sizeL, l3, frz_v]
theorem lo7 (m n : Nat) {p : List Nat} (hp : p.length = n) (hn : n ≤ 240) (hb : Bij n (ap p)) : ∀ (r k : Nat) (G : List Nat) (L : List D) (s3 s4 s5 : SV), k + r = n → (∀ x, x ∈ G ↔ Bef n (ap p) k x) → L.length = cto n (ap p) k → rowsOk L → G.length ≤ k * n → Fre s3 → Fre s4 → Fre s5 →
    ∃ G' L' s3' s4' s5', forL (fun d e => opt (asg (.nm 3) d e) fun e1 => exB T (callF T m) B7 e1) ((List.range' k r).map nD) [.val (ot p), .own (gk G), .own (.lst L), s3, s4, s5] = .ok .next [.val (ot p), .own (gk G'), .own (.lst L'), s3', s4', s5'] ∧ L'.length = cto n (ap p) n ∧ rowsOk L'
  | 0, k, G, L, s3, s4, s5, hk, hG, hL, hr, _, _, _, _ => by
    have : k = n := by omega
    subst this
    exact ⟨G, L, s3, s4, s5, rfl, hL, hr⟩
  | r + 1, k, G, L, s3, s4, s5, hk, hG, hL, hr, lG, k3, k4, k5 => by
    have kn : k < n := by omega
    have cs := cto_s n (ap p) k
    have cl : cto n (ap p) k ≤ k := by
      unfold cto
      have := List.length_filter_le (fun i => @decide (Lst (Cl n (ap p)) i) (Classical.propDecidable _)) (List.range k)
      rw [List.length_range] at this
      exact this
    have mulb : k * n ≤ 240 * 240 := Nat.mul_le_mul (by omega) hn
    have ha : asg (.nm 3) (nD k) [.val (ot p), .own (gk G), .own (.lst L), s3, s4, s5] = some [.val (ot p), .own (gk G), .own (.lst L), .val (nD k), s4, s5] := by
      rcases k3 with rfl | ⟨_, rfl⟩ | ⟨_, rfl⟩ <;> simp
    have hcond : toB (evE T (callF T m) true (.cmp .NotIn (.var 3) (.var 1)) [.val (ot p), .own (gk G), .own (.lst L), .val (nD k), s4, s5]) = .ok (decide (k ∉ G)) [.val (ot p), .own (gk G), .own (.lst L), .val (nD k), s4, s5] := by
      have := notin_gk G k
      generalize gk G = g at *
      generalize nD k = d at *
      simp [this, toB, tst, truth, opt]
    rw [List.range'_succ, List.map_cons, forL_cons, ha]
    simp only [opt]
    rw [B7, x_b1, x_if, hcond]
    simp only [bd_ok]
    by_cases hin : Bef n (ap p) k k
    · have hg : k ∈ G := (hG k).mpr hin
      rw [decide_eq_false (fun z => z hg), if_pos hin] at *
      simp only [Bool.false_eq_true, if_false, x_b0, bd_ok]
      obtain ⟨G', L', t3, t4, t5, i1, i2, i3⟩ := lo7 m n hp hn hb r (k + 1) G L (.val (nD k)) s4 s5 (by omega) (fun x => by
        rw [hG, bef_succ]
        exact ⟨.inl, fun q => q.elim id fun c => bef_cl hin c⟩) (by rw [hL, cs]; rfl) hr (by rw [Nat.succ_mul]; omega) (Fre.val _) k4 k5
      exact ⟨G', L', t3, t4, t5, i1, i2, i3⟩
    · have hg : k ∉ G := fun z => hin ((hG k).mp z)
      obtain ⟨P, t4, t5, pn, f4, f5, g1, g2⟩ := in7 m n hp hn hb kn L G s4 s5 k4 k5 hG hin (by omega) (by omega)
      rw [decide_eq_true hg, if_neg hin] at *
      simp only [if_true]
      rw [g2]
      simp only [bd_ok, x_b0]
      have lo : (orb (ap p) k P).length = P := by simp [orb]
      obtain ⟨G', L', t3', t4', t5', i1, i2, i3⟩ := lo7 m n hp hn hb r (k + 1) (G ++ orb (ap p) k P) (L ++ [ot (orb (ap p) k P)]) (.val (nD k)) t4 t5 (by omega) g1 (by simp [hL, cs]) (by
        intro d hd
        rcases List.mem_append.mp hd with z | z
        · exact hr d z
        · have : d = ot (orb (ap p) k P) := by simpa using z
          exact ⟨_, this, by simp [lo]; omega⟩) (by rw [List.length_append, lo, Nat.succ_mul]; omega) (Fre.val _) f4 f5
      exact ⟨G', L', t3', t4', t5', i1, i2, i3⟩
theorem q71 (m : Nat) (d : D) : exS T (callF T m) (.par [1, 2] [.dnew false, .lst []]) [.val d, .un, .un, .un, .un, .un] = .ok .next [.val d, .own (gk []), .own (.lst []), .un, .un, .un] := by
  have : gk [] = .dk [] [] := rfl
  rw [this]
  simp [x_dnewF, fzRs, fzR, setRs, setR, frzs, sizeL]
theorem q73 (m : Nat) (d : D) (R : List D) (e1 : EV) (g' : SV) (L : List D) (e2 : EV) (h1 : exS T (callF T m) (.par [1, 2] [.dnew false, .lst []]) [.val d, .un, .un, .un, .un, .un] = .ok .next e1) (hi : evI T (callF T m) (.rng [.bi .len [.var 0]]) e1 = .ok R e1) (h : forL (fun d e => opt (asg (.nm 3) d e) fun e1 => exB T (callF T m) B7 e1) R e1 = .ok .next (.val d :: g' :: .own (.lst L) :: e2)) : callF T (m+1) 7 [.val d] = .ok (.t (.lst L)) [.val d] := by
  rw [x_callF T m 7 _ (F := f7) rfl rfl]
  show fin [.val d] (exB T (callF T m) [.par [1, 2] [.dnew false, .lst []], .for_ (.nm 3) (.rng [.bi .len [.var 0]]) B7, .ret (.var 2)] [.val d, .un, .un, .un, .un, .un]) = _
  rw [x_b1, h1]
  simp only [bd_ok]
  rw [x_b1, x_for, hi]
  simp only [bd_ok]
  rw [h]
  simp [retR, outs]
theorem sp7 (m n : Nat) {p : List Nat} (hp : p.length = n) (hn : n ≤ 240) (hb : Bij n (ap p)) :
    ∃ L, callF T (m+1) 7 [.val (ot p)] = .ok (.t (.lst L)) [.val (ot p)] ∧ L.length = cnt n (Cl n (ap p)) ∧ rowsOk L := by
  obtain ⟨G', L', t3, t4, t5, h, h2, h3⟩ := lo7 m n hp hn hb n 0 [] [] .un .un .un (by omega) (fun x => by simp [Bef]) (by rw [cto_z]; rfl) (fun d hd => by cases hd) (by simp) Fre.un Fre.un Fre.un
  have hi := ev_rlen (T := T) (cf := callF T m) (e := [.val (ot p), .own (gk []), .own (.lst []), .un, .un, .un]) (i := 0) rfl (hp ▸ len_ot p) (rng_nD n (by omega))
  rw [List.range_eq_range'] at hi
  exact ⟨L', q73 m (ot p) _ _ _ L' _ (q71 m (ot p)) hi h, h2, h3⟩
/-! the law's own rounds -/
def b36 : List S := [.ex (.app 4 (.var 5)), .set 5 (.ix (.var 0) (.var 5))]
def c36 : E := .cmp .NotIn (.var 5) (.var 4)
theorem inD_nD (k : Nat) : ∀ G : List Nat, inD (nD k) (G.map nD) = some (decide (k ∈ G)) := by
  intro G
  have hf : (G.map nD).all flatD = true := by
    rw [List.all_eq_true]
    intro x hx
    obtain ⟨g, _, rfl⟩ := List.mem_map.mp hx
    rfl
  unfold inD
  rw [hf]
  have hk : flatD (nD k) = true := rfl
  rw [hk]
  simp only [Bool.and_self, if_true]
  rw [List.any_map]
  congr 1
  clear hf
  induction G with
  | nil => rfl
  | cons g G ih =>
    rw [List.any_cons, ih]
    show ((g : Int) == (k : Int) || decide (k ∈ G)) = _
    by_cases e : g = k
    · subst e; simp
    · have e1 : ((g : Int) == (k : Int)) = false := by
        apply beq_eq_false_iff_ne.mpr
        omega
      have e2 : ¬ k = g := fun z => e z.symm
      simp [e1, e2]
theorem notin_ol (G : List Nat) (k : Nat) : cmpop .NotIn (nD k) (ol G) = some (decide (k ∉ G)) := by
  unfold ol
  have := inD_nD k G
  unfold nD at this ⊢
  simp only [cmpop, this, Option.map_some]
  simp
theorem st36 (m : Nat) {p : List Nat} (F G3 S3 : SV) (L : List Nat) (h : Nat) (hp : h < p.length) (lL : L.length ≤ 1000000) :
    exB T (callF T m) b36 [.val (ot p), F, G3, S3, .own (ol L), .val (nD h)] = .ok .next [.val (ot p), F, G3, S3, .own (ol (L ++ [h])), .val (nD (ap p h))] := by
  have hi := item_ot hp
  have hi : item (ot p) (nD h) = some (nD (ap p h)) := hi
  have l2 : L.length < 16777216 := by omega
  have : ol (L ++ [h]) = .lst (L.map nD ++ [nD h]) := by simp [ol]
  rw [this]
  have : ol L = .lst (L.map nD) := rfl
  rw [this]
  have l3 : (L.map nD).length < 16777216 := by simpa using l2
  generalize L.map nD = M at *
  generalize nD h = d at *
  generalize ot p = dp at *
  simp [b36, lstAt, mineD, upS, sizeL, l3, frz_v, hi]
theorem cv36 (m : Nat) (a F G3 S3 : SV) (L : List Nat) (h : Nat) : toB (evE T (callF T m) true c36 [a, F, G3, S3, .own (ol L), .val (nD h)]) = .ok (decide (h ∉ L)) [a, F, G3, S3, .own (ol L), .val (nD h)] := by
  have := notin_ol L h
  generalize ol L = g at *
  generalize nD h = d at *
  simp [c36, this, toB, tst, truth, opt]
theorem lp36 (m n w : Nat) {p : List Nat} (hp : p.length = n) (hb : Bij n (ap p)) {k P : Nat} (hk : k < n) (F G3 S3 : SV) (p0 : 0 < P) (p1 : it (ap p) P k = k) (dis : ∀ i j, i < j → j < P → it (ap p) i k ≠ it (ap p) j k) (lP : P ≤ 900000) :
    ∀ (r j : Nat), j + r = P → whL (fun e => toB (evE T (callF T m) true c36 e)) (fun e => exB T (callF T m) b36 e) (r + (w + 1)) [.val (ot p), F, G3, S3, .own (ol (orb (ap p) k j)), .val (nD (it (ap p) j k))] = .ok .next [.val (ot p), F, G3, S3, .own (ol (orb (ap p) k P)), .val (nD k)]
  | 0, j, hj => by
    have : j = P := by omega
    subst this
    rw [p1, show 0 + (w + 1) = w + 1 from Nat.zero_add _, wh_end (e1 := [.val (ot p), F, G3, S3, .own (ol (orb (ap p) k j)), .val (nD k)])]
    rw [cv36, decide_eq_false]
    intro z
    exact z (mem_orb.mpr ⟨0, p0, rfl⟩)
  | r + 1, j, hj => by
    have hlt : it (ap p) j k < n := it_lt hb j hk
    have nin : it (ap p) j k ∉ orb (ap p) k j := by
      intro z
      obtain ⟨i, hi, e⟩ := mem_orb.mp z
      exact dis i j hi (by omega) e
    have ll : (orb (ap p) k j).length = j := by simp [orb]
    rw [show r + 1 + (w + 1) = (r + (w + 1)) + 1 from by omega, wh_step (by rw [cv36, decide_eq_true nin]) (st36 m F G3 S3 _ _ (by omega) (by omega)), ← orb_s, ← it_succ (ap p) j k]
    exact lp36 m n w hp hb hk F G3 S3 p0 p1 dis lP r (j + 1) (by omega)
def B36 : List S := [.if_ (.cmp .NotIn (.var 3) (.var 2)) [.par [4, 5] [.lst [], .var 3], .wh c36 b36, .ex (.ext 2 (.var 4)), .ex (.app 1 (.bi .tuple [.var 4]))] []]
theorem in36 (m n : Nat) {p : List Nat} (hp : p.length = n) (hn : n ≤ 240) (hb : Bij n (ap p)) {k : Nat} (hk : k < n) (L : List D) (G : List Nat) (s4 s5 : SV) (k4 : Fre s4) (k5 : Fre s5) (hG : ∀ x, x ∈ G ↔ Bef n (ap p) k x) (lG : G.length ≤ 800000) (lL : L.length ≤ 300) :
    ∃ P s4' s5', P ≤ n ∧ Fre s4' ∧ Fre s5' ∧ (∀ x, x ∈ G ++ orb (ap p) k P ↔ Bef n (ap p) (k + 1) x) ∧
      exB T (callF T m) [.par [4, 5] [.lst [], .var 3], .wh c36 b36, .ex (.ext 2 (.var 4)), .ex (.app 1 (.bi .tuple [.var 4]))] [.val (ot p), .own (.lst L), .own (ol G), .val (nD k), s4, s5] = .ok .next [.val (ot p), .own (.lst (L ++ [ot (orb (ap p) k P)])), .own (ol (G ++ orb (ap p) k P)), .val (nD k), s4', s5'] := by
  obtain ⟨P, p0, pn, p1, dis, cl⟩ := round_of hb hk
  have hl := lp36 m n (99999 - P) hp hb hk (.own (.lst L)) (.own (ol G)) (.val (nD k)) p0 p1 dis (by omega) P 0 (by omega)
  rw [show P + (99999 - P + 1) = T.wf from by show P + (99999 - P + 1) = 100000; omega] at hl
  have o0 : orb (ap p) k 0 = [] := rfl
  rw [o0] at hl
  have i0 : it (ap p) 0 k = k := rfl
  rw [i0] at hl
  have lo : (orb (ap p) k P).length = P := by simp [orb]
  refine ⟨P, .own (ol (orb (ap p) k P)), .val (nD k), pn, Fre.own _, Fre.val _, fun x => ?_, ?_⟩
  · rw [List.mem_append, hG, bef_succ, cl, mem_orb]
  · have h1 : exS T (callF T m) (.par [4, 5] [.lst [], .var 3]) [.val (ot p), .own (.lst L), .own (ol G), .val (nD k), s4, s5] = .ok .next [.val (ot p), .own (.lst L), .own (ol G), .val (nD k), .own (ol []), .val (nD k)] := by
      have : ol [] = .lst [] := rfl
      rw [this]
      generalize ol G = g at *
      generalize nD k = d at *
      generalize ot p = dp at *
      rcases k4 with rfl | ⟨_, rfl⟩ | ⟨_, rfl⟩ <;> rcases k5 with rfl | ⟨_, rfl⟩ | ⟨_, rfl⟩ <;> simp [fzRs, fzR, setRs, setR, frzs, sizeL]
    rw [x_b1, h1]
    simp only [bd_ok]
    rw [x_b1, x_wh, hl]
    simp only [bd_ok]
    have e1 : ol (orb (ap p) k P) = .lst ((orb (ap p) k P).map nD) := rfl
    have e2 : ot (orb (ap p) k P) = .tup ((orb (ap p) k P).map nD) := rfl
    have e3 : ol (G ++ orb (ap p) k P) = .lst (G.map nD ++ (orb (ap p) k P).map nD) := by simp [ol]
    have e4 : ol G = .lst (G.map nD) := rfl
    rw [e1, e2, e3, e4]
    have l3 : L.length < 16777216 := by omega
    have l4 : (G.map nD).length + ((orb (ap p) k P).map nD).length ≤ 16777216 := by rw [List.length_map, List.length_map, lo]; omega
    generalize (orb (ap p) k P).map nD = M at *
    generalize G.map nD = g at *
    generalize nD k = d at *
    generalize ot p = dp at *
    simp [lstAt, mineD, upS, sizeL, l3, l4, frz_v]
theorem lo36 (m n : Nat) {p : List Nat} (hp : p.length = n) (hn : n ≤ 240) (hb : Bij n (ap p)) : ∀ (r k : Nat) (G : List Nat) (L : List D) (s3 s4 s5 : SV), k + r = n → (∀ x, x ∈ G ↔ Bef n (ap p) k x) → L.length = cto n (ap p) k → rowsOk L → G.length ≤ k * n → Fre s3 → Fre s4 → Fre s5 →
    ∃ G' L' s3' s4' s5', forL (fun d e => opt (asg (.nm 3) d e) fun e1 => exB T (callF T m) B36 e1) ((List.range' k r).map nD) [.val (ot p), .own (.lst L), .own (ol G), s3, s4, s5] = .ok .next [.val (ot p), .own (.lst L'), .own (ol G'), s3', s4', s5'] ∧ L'.length = cto n (ap p) n ∧ rowsOk L'
  | 0, k, G, L, s3, s4, s5, hk, hG, hL, hr, _, _, _, _ => by
    have : k = n := by omega
    subst this
    exact ⟨G, L, s3, s4, s5, rfl, hL, hr⟩
  | r + 1, k, G, L, s3, s4, s5, hk, hG, hL, hr, lG, k3, k4, k5 => by
    have kn : k < n := by omega
    have cs := cto_s n (ap p) k
    have cl : cto n (ap p) k ≤ k := by
      unfold cto
      have := List.length_filter_le (fun i => @decide (Lst (Cl n (ap p)) i) (Classical.propDecidable _)) (List.range k)
      rw [List.length_range] at this
      exact this
    have mulb : k * n ≤ 240 * 240 := Nat.mul_le_mul (by omega) hn
    have ha : asg (.nm 3) (nD k) [.val (ot p), .own (.lst L), .own (ol G), s3, s4, s5] = some [.val (ot p), .own (.lst L), .own (ol G), .val (nD k), s4, s5] := by
      rcases k3 with rfl | ⟨_, rfl⟩ | ⟨_, rfl⟩ <;> simp
    have hcond : toB (evE T (callF T m) true (.cmp .NotIn (.var 3) (.var 2)) [.val (ot p), .own (.lst L), .own (ol G), .val (nD k), s4, s5]) = .ok (decide (k ∉ G)) [.val (ot p), .own (.lst L), .own (ol G), .val (nD k), s4, s5] := by
      have := notin_ol G k
      generalize ol G = g at *
      generalize nD k = d at *
      simp [this, toB, tst, truth, opt]
    rw [List.range'_succ, List.map_cons, forL_cons, ha]
    simp only [opt]
    rw [B36, x_b1, x_if, hcond]
    simp only [bd_ok]
    by_cases hin : Bef n (ap p) k k
    · have hg : k ∈ G := (hG k).mpr hin
      rw [decide_eq_false (fun z => z hg), if_pos hin] at *
      simp only [Bool.false_eq_true, if_false, x_b0, bd_ok]
      obtain ⟨G', L', t3, t4, t5, i1, i2, i3⟩ := lo36 m n hp hn hb r (k + 1) G L (.val (nD k)) s4 s5 (by omega) (fun x => by
        rw [hG, bef_succ]
        exact ⟨.inl, fun q => q.elim id fun c => bef_cl hin c⟩) (by rw [hL, cs]; rfl) hr (by rw [Nat.succ_mul]; omega) (Fre.val _) k4 k5
      exact ⟨G', L', t3, t4, t5, i1, i2, i3⟩
    · have hg : k ∉ G := fun z => hin ((hG k).mp z)
      obtain ⟨P, t4, t5, pn, f4, f5, g1, g2⟩ := in36 m n hp hn hb kn L G s4 s5 k4 k5 hG (by omega) (by omega)
      rw [decide_eq_true hg, if_neg hin] at *
      simp only [if_true]
      rw [g2]
      simp only [bd_ok, x_b0]
      have lo : (orb (ap p) k P).length = P := by simp [orb]
      obtain ⟨G', L', t3', t4', t5', i1, i2, i3⟩ := lo36 m n hp hn hb r (k + 1) (G ++ orb (ap p) k P) (L ++ [ot (orb (ap p) k P)]) (.val (nD k)) t4 t5 (by omega) g1 (by simp [hL, cs]) (by
        intro d hd
        rcases List.mem_append.mp hd with z | z
        · exact hr d z
        · have : d = ot (orb (ap p) k P) := by simpa using z
          exact ⟨_, this, by simp [lo]; omega⟩) (by rw [List.length_append, lo, Nat.succ_mul]; omega) (Fre.val _) f4 f5
      exact ⟨G', L', t3', t4', t5', i1, i2, i3⟩
theorem q361 (m : Nat) (d : D) : exS T (callF T m) (.par [1, 2] [.lst [], .lst []]) [.val d, .un, .un, .un, .un, .un] = .ok .next [.val d, .own (.lst []), .own (ol []), .un, .un, .un] := by
  have : ol [] = .lst [] := rfl
  rw [this]
  simp [fzRs, fzR, setRs, setR, frzs, sizeL]
theorem q363 (m : Nat) (d : D) (R : List D) (e1 : EV) (L : List D) (e2 : EV) (h1 : exS T (callF T m) (.par [1, 2] [.lst [], .lst []]) [.val d, .un, .un, .un, .un, .un] = .ok .next e1) (hi : evI T (callF T m) (.rng [.bi .len [.var 0]]) e1 = .ok R e1) (h : forL (fun d e => opt (asg (.nm 3) d e) fun e1 => exB T (callF T m) B36 e1) R e1 = .ok .next (.val d :: .own (.lst L) :: e2)) : callF T (m+1) 36 [.val d] = .ok (.t (.lst L)) [.val d] := by
  rw [x_callF T m 36 _ (F := f36) rfl rfl]
  show fin [.val d] (exB T (callF T m) [.par [1, 2] [.lst [], .lst []], .for_ (.nm 3) (.rng [.bi .len [.var 0]]) B36, .ret (.var 1)] [.val d, .un, .un, .un, .un, .un]) = _
  rw [x_b1, h1]
  simp only [bd_ok]
  rw [x_b1, x_for, hi]
  simp only [bd_ok]
  rw [h]
  simp [retR, outs]
theorem sp36 (m n : Nat) {p : List Nat} (hp : p.length = n) (hn : n ≤ 240) (hb : Bij n (ap p)) :
    ∃ L, callF T (m+1) 36 [.val (ot p)] = .ok (.t (.lst L)) [.val (ot p)] ∧ L.length = cnt n (Cl n (ap p)) ∧ rowsOk L := by
  obtain ⟨G', L', t3, t4, t5, h, h2, h3⟩ := lo36 m n hp hn hb n 0 [] [] .un .un .un (by omega) (fun x => by simp [Bef]) (by rw [cto_z]; rfl) (fun d hd => by cases hd) (by simp) Fre.un Fre.un Fre.un
  have hi := ev_rlen (T := T) (cf := callF T m) (e := [.val (ot p), .own (.lst []), .own (ol []), .un, .un, .un]) (i := 0) rfl (hp ▸ len_ot p) (rng_nD n (by omega))
  rw [List.range_eq_range'] at hi
  exact ⟨L', q363 m (ot p) _ _ L' _ (q361 m (ot p)) hi h, h2, h3⟩
end PL.K20
end

section
set_option exponentiation.threshold 5000
namespace PL.K20
open PL PL.K00 PL.PM PySem PySem.Spec L2

/-! all sides that come from side 0 on -/
def addN (F : List Nat) (y : Nat) : List Nat := if y ∈ F then F else F ++ [y]
structure LI (n : Nat) (f g : Nat → Nat) (F : List Nat) (q : Nat) : Prop where
  nd : F.Nodup
  lt : ∀ x ∈ F, x < n
  z : 0 ∈ F
  cl : ∀ j, j < q → ∀ x, F[j]? = some x → f x ∈ F ∧ g x ∈ F
  le : q ≤ F.length
theorem addN_ok {n : Nat} {F : List Nat} {y : Nat} (nd : F.Nodup) (lt : ∀ x ∈ F, x < n) (hy : y < n) : (addN F y).Nodup ∧ (∀ x ∈ addN F y, x < n) ∧ y ∈ addN F y ∧ (∀ x ∈ F, x ∈ addN F y) ∧ F.length ≤ (addN F y).length ∧ ∀ (j x : Nat), F[j]? = some x → (addN F y)[j]? = some x := by
  unfold addN
  by_cases h : y ∈ F
  · rw [if_pos h]
    exact ⟨nd, lt, h, fun _ h => h, Nat.le_refl _, fun _ _ h => h⟩
  · rw [if_neg h]
    refine ⟨?_, fun x hx => ?_, by simp, fun x hx => by simp [hx], by simp, fun j x hj => ?_⟩
    · rw [List.nodup_append]
      exact ⟨nd, by simp, fun a ha b hb => by
        have : b = y := by simpa using hb
        subst this
        exact fun e => h (e ▸ ha)⟩
    · rcases List.mem_append.mp hx with q | q
      · exact lt x q
      · have : x = y := by simpa using q
        subst this; exact hy
    · have := (List.getElem?_eq_some_iff.mp hj).1
      rw [List.getElem?_append_left this]; exact hj
theorem LI.step {n : Nat} {f g : Nat → Nat} {F : List Nat} {q x : Nat} (h : LI n f g F q) (hf : ∀ i, i < n → f i < n) (hg : ∀ i, i < n → g i < n) (hx : F[q]? = some x) : LI n f g (addN (addN F (f x)) (g x)) (q + 1) := by
  have xm : x ∈ F := List.mem_of_getElem? hx
  have ql := (List.getElem?_eq_some_iff.mp hx).1
  obtain ⟨a1, a2, a3, a4, a5, a6⟩ := addN_ok h.nd h.lt (hf x (h.lt x xm))
  obtain ⟨b1, b2, b3, b4, b5, b6⟩ := addN_ok a1 a2 (hg x (h.lt x xm))
  refine ⟨b1, b2, b4 _ (a4 _ h.z), fun j hj y hy => ?_, by omega⟩
  rcases Nat.lt_or_ge j q with z | z
  · have hjl : j < F.length := by omega
    have e : F[j]? = some F[j] := List.getElem?_eq_getElem hjl
    have e2 := b6 j _ (a6 j _ e)
    rw [e2] at hy
    cases hy
    obtain ⟨c1, c2⟩ := h.cl j z _ e
    exact ⟨b4 _ (a4 _ c1), b4 _ (a4 _ c2)⟩
  · have : j = q := by omega
    subst this
    have e2 := b6 j _ (a6 j _ hx)
    rw [e2] at hy
    cases hy
    exact ⟨b4 _ a3, b3⟩
theorem LI.all {n : Nat} {f g : Nat → Nat} {F : List Nat} (h : LI n f g F F.length) (w : ∀ i, i < n → Rch n f g i) : F.length = n := by
  have cl : ∀ x ∈ F, f x ∈ F ∧ g x ∈ F := fun x hx => by
    obtain ⟨j, hj, e⟩ := List.getElem_of_mem hx
    exact h.cl j hj x (by rw [List.getElem?_eq_getElem hj, e])
  have r : ∀ i, Rch n f g i → i ∈ F := fun i q => by
    induction q with
    | z => exact h.z
    | f _ ih => exact (cl _ ih).1
    | g _ ih => exact (cl _ ih).2
  have s := stay_len n F h.nd h.lt
  rw [List.filter_eq_nil_iff.mpr (fun i hi => by
    have := r i (w i (List.mem_range.mp hi))
    simp [this])] at s
  simpa using s
def b9 : List S := [.set 7 (.ix (.var 6) (.ix (.var 3) (.var 5))), .if_ (.cmp .NotIn (.var 7) (.var 4)) [.six 4 (.var 7) (.bl true), .ex (.app 3 (.var 7))] []]
theorem st9 (m : Nat) {p : List Nat} (A B S2 s7 : SV) (F : List Nat) (q x : Nat) (k7 : Fre s7) (hx : F[q]? = some x) (hp : x < p.length) (lF : F.length ≤ 100000) :
    exB T (callF T m) b9 [A, B, S2, .own (ol F), .own (gk F), .val (nD q), .val (ot p), s7] = .ok .next [A, B, S2, .own (ol (addN F (ap p x))), .own (gk (addN F (ap p x))), .val (nD q), .val (ot p), .val (nD (ap p x))] := by
  have ql := (List.getElem?_eq_some_iff.mp hx).1
  have hi1 : item (ol F) (nD q) = some (nD x) := by
    have := item_ol ql
    have e : ap F q = x := by
      unfold ap
      rw [List.getD_eq_getElem?_getD, hx]; rfl
    rw [e] at this
    exact this
  have hi2 : item (ot p) (nD x) = some (nD (ap p x)) := item_ot hp
  have s1 : exS T (callF T m) (.set 7 (.ix (.var 6) (.ix (.var 3) (.var 5)))) [A, B, S2, .own (ol F), .own (gk F), .val (nD q), .val (ot p), s7] = .ok .next [A, B, S2, .own (ol F), .own (gk F), .val (nD q), .val (ot p), .val (nD (ap p x))] := by
    generalize nD (ap p x) = y at *
    generalize nD x = dx at *
    generalize nD q = dq at *
    generalize gk F = g at *
    generalize ol F = l at *
    generalize ot p = dp at *
    rcases k7 with rfl | ⟨_, rfl⟩ | ⟨_, rfl⟩ <;> simp [hi1, hi2]
  have hcond : toB (evE T (callF T m) true (.cmp .NotIn (.var 7) (.var 4)) [A, B, S2, .own (ol F), .own (gk F), .val (nD q), .val (ot p), .val (nD (ap p x))]) = .ok (decide (ap p x ∉ F)) [A, B, S2, .own (ol F), .own (gk F), .val (nD q), .val (ot p), .val (nD (ap p x))] := by
    have := notin_gk F (ap p x)
    generalize gk F = g at *
    generalize ol F = l at *
    generalize nD (ap p x) = d at *
    simp [this, toB, tst, truth, opt]
  rw [b9, x_b1, s1]
  simp only [bd_ok]
  rw [x_b1, x_if, hcond]
  simp only [bd_ok]
  unfold addN
  by_cases h : ap p x ∈ F
  · rw [decide_eq_false (fun z => z h), if_pos h]
    simp
  · rw [decide_eq_true h, if_neg h]
    simp only [if_true]
    have l1 : F.length < 16777216 := by omega
    have pg := put_gk h
    have hk : keyOf (nD (ap p x)) = some (kI (ap p x)) := rfl
    have h6 : sixE [A, B, S2, .own (ol F), .own (gk F), .val (nD q), .val (ot p), .val (nD (ap p x))] 4 (nD (ap p x)) (.bl true) = some [A, B, S2, .own (ol F), .own (gk (F ++ [ap p x])), .val (nD q), .val (ot p), .val (nD (ap p x))] := by
      show (keyOf (nD (ap p x))).bind (fun z => if (F.map kI).length < sizeL then some (upS [A, B, S2, .own (ol F), .own (gk F), .val (nD q), .val (ot p), .val (nD (ap p x))] 4 (.dk (dput (F.map kI) (F.map fun _ => .bl true) z (.bl true)).1 (dput (F.map kI) (F.map fun _ => .bl true) z (.bl true)).2)) else none) = _
      rw [hk]
      simp only [Option.bind, List.length_map, sizeL, l1, if_true, pg]
      rfl
    have hdk : (lstAt [A, B, S2, .own (ol F), .own (gk F), .val (nD q), .val (ot p), .val (nD (ap p x))] 4 || dkAt [A, B, S2, .own (ol F), .own (gk F), .val (nD q), .val (ot p), .val (nD (ap p x))] 4) = true := rfl
    have t1 : exS T (callF T m) (.six 4 (.var 7) (.bl true)) [A, B, S2, .own (ol F), .own (gk F), .val (nD q), .val (ot p), .val (nD (ap p x))] = .ok .next [A, B, S2, .own (ol F), .own (gk (F ++ [ap p x])), .val (nD q), .val (ot p), .val (nD (ap p x))] := by
      generalize nD (ap p x) = d at *
      generalize ol F = dl at *
      generalize ot p = dp at *
      rw [x_six, x_bl]
      simp only [tst_false, bd_ok, frz, opt, hdk, if_true]
      rw [x_var]
      simp only [List.getElem?_cons_succ, List.getElem?_cons_zero, tst_false, bd_ok, x_cont_v, opt, h6]
    have t2 : exS T (callF T m) (.ex (.app 3 (.var 7))) [A, B, S2, .own (ol F), .own (gk (F ++ [ap p x])), .val (nD q), .val (ot p), .val (nD (ap p x))] = .ok .next [A, B, S2, .own (ol (F ++ [ap p x])), .own (gk (F ++ [ap p x])), .val (nD q), .val (ot p), .val (nD (ap p x))] := by
      have : ol (F ++ [ap p x]) = .lst (F.map nD ++ [nD (ap p x)]) := by simp [ol]
      rw [this]
      have : ol F = .lst (F.map nD) := rfl
      rw [this]
      have l3 : (F.map nD).length < 16777216 := by simpa using l1
      generalize F.map nD = M at *
      generalize gk (F ++ [ap p x]) = g at *
      generalize nD (ap p x) = d at *
      simp [lstAt, mineD, upS, sizeL, l3, frz_v]
    rw [x_b1, t1]
    simp only [bd_ok]
    rw [x_b1, t2]
    simp
theorem x_augV {T : GT} {cf : Nat → List SV → CO} {e : EV} {i : Nat} {o : Bop} {a : E} {x : D} (h : e[i]? = some (.val x)) : exS T cf (.aug i o a) e = (evE T cf false a e).bd fun r e1 => opt (cont e1 r) fun y => opt (augop o x y) fun z => opt (setR i (.v z) e1) fun e2 => .ok .next e2 := by
  rw [exS]
  simp only [h]
def c9 : E := .cmp .Lt (.var 5) (.bi .len [.var 3])
def B9 : List S := [.for_ (.nm 6) (.e (.tup [.var 0, .var 1])) b9, .aug 5 .add (.int 1)]
theorem cv9 (m : Nat) (A B S2 s6 s7 : SV) (F : List Nat) (gg : D) (q : Nat) : toB (evE T (callF T m) true c9 [A, B, S2, .own (ol F), .own gg, .val (nD q), s6, s7]) = .ok (decide (q < F.length)) [A, B, S2, .own (ol F), .own gg, .val (nD q), s6, s7] := by
  have hl := len_ol F
  have hc : cmpop .Lt (nD q) (.int (F.length : Nat)) = some (decide (q < F.length)) := by
    show some (decide ((q : Int) < (F.length : Int))) = _
    by_cases h : q < F.length
    · have : (q : Int) < (F.length : Int) := by omega
      simp [h, this]
    · have : ¬ (q : Int) < (F.length : Int) := by omega
      simp [h, this]
  generalize ol F = l at *
  generalize nD q = d at *
  rw [c9, x_cmp, x_var]
  simp only [List.getElem?_cons_succ, List.getElem?_cons_zero, tst_false, bd_ok]
  rw [x_bi, x_a1, x_var]
  simp only [List.getElem?_cons_succ, List.getElem?_cons_zero, tst_false, bd_ok, x_a0]
  simp [hl, hc, toB, tst, truth, opt]
theorem sT9 (m n : Nat) {a b : List Nat} (la : a.length = n) (lb : b.length = n) (hn : n ≤ 300) (S2 s6 s7 : SV) (F : List Nat) (q x : Nat) (k6 : Fre s6) (k7 : Fre s7) (hx : F[q]? = some x) (xn : x < n) (lF : F.length ≤ 90000) :
    ∃ s7', Fre s7' ∧ exB T (callF T m) B9 [.val (ot a), .val (ot b), S2, .own (ol F), .own (gk F), .val (nD q), s6, s7] = .ok .next [.val (ot a), .val (ot b), S2, .own (ol (addN (addN F (ap a x)) (ap b x))), .own (gk (addN (addN F (ap a x)) (ap b x))), .val (nD (q + 1)), .val (ot b), s7'] := by
  have e1 := st9 m (p := a) (.val (ot a)) (.val (ot b)) S2 s7 F q x k7 hx (by omega) (by omega)
  have l2 : (addN F (ap a x)).length ≤ F.length + 1 := by unfold addN; split <;> simp
  have hx2 : (addN F (ap a x))[q]? = some x := by
    have := (List.getElem?_eq_some_iff.mp hx).1
    unfold addN
    split
    · exact hx
    · rw [List.getElem?_append_left this]; exact hx
  have e2 := st9 m (p := b) (.val (ot a)) (.val (ot b)) S2 (.val (nD (ap a x))) (addN F (ap a x)) q x (Fre.val _) hx2 (by omega) (by omega)
  refine ⟨.val (nD (ap b x)), Fre.val _, ?_⟩
  have hi : evI T (callF T m) (.e (.tup [.var 0, .var 1])) [.val (ot a), .val (ot b), S2, .own (ol F), .own (gk F), .val (nD q), s6, s7] = .ok [ot a, ot b] [.val (ot a), .val (ot b), S2, .own (ol F), .own (gk F), .val (nD q), s6, s7] := by
    generalize ol F = l at *
    generalize gk F = g at *
    generalize ot a = x1 at *
    generalize ot b = x2 at *
    simp [frzs, frz_v, frz, sizeL]
  have a1 : asg (.nm 6) (ot a) [.val (ot a), .val (ot b), S2, .own (ol F), .own (gk F), .val (nD q), s6, s7] = some [.val (ot a), .val (ot b), S2, .own (ol F), .own (gk F), .val (nD q), .val (ot a), s7] := by
    rcases k6 with rfl | ⟨_, rfl⟩ | ⟨_, rfl⟩ <;> simp
  have s1 : exS T (callF T m) (.for_ (.nm 6) (.e (.tup [.var 0, .var 1])) b9) [.val (ot a), .val (ot b), S2, .own (ol F), .own (gk F), .val (nD q), s6, s7] = .ok .next [.val (ot a), .val (ot b), S2, .own (ol (addN (addN F (ap a x)) (ap b x))), .own (gk (addN (addN F (ap a x)) (ap b x))), .val (nD q), .val (ot b), .val (nD (ap b x))] := by
    rw [x_for, hi]
    simp only [bd_ok]
    rw [forL_cons, a1]
    simp only [opt, e1, bd_ok]
    have a2 : asg (.nm 6) (ot b) [.val (ot a), .val (ot b), S2, .own (ol (addN F (ap a x))), .own (gk (addN F (ap a x))), .val (nD q), .val (ot a), .val (nD (ap a x))] = some [.val (ot a), .val (ot b), S2, .own (ol (addN F (ap a x))), .own (gk (addN F (ap a x))), .val (nD q), .val (ot b), .val (nD (ap a x))] := by simp
    rw [forL_cons, a2]
    simp only [opt, e2, bd_ok]
    rfl
  rw [B9, x_b1, s1]
  simp only [bd_ok]
  have e3 : nD (q + 1) = .int ((q : Int) + 1) := by unfold nD; rw [Int.natCast_add]; rfl
  have e4 : nD q = .int (q : Int) := rfl
  rw [e3, e4]
  generalize ol (addN (addN F (ap a x)) (ap b x)) = l at *
  generalize gk (addN (addN F (ap a x)) (ap b x)) = g at *
  generalize ot a = x1 at *
  generalize ot b = x2 at *
  rw [x_b1, x_augV rfl]
  simp [augop]
theorem lp9 (m n w : Nat) {a b : List Nat} (la : a.length = n) (lb : b.length = n) (hn : n ≤ 300) (ha : ∀ i, i < n → ap a i < n) (hb : ∀ i, i < n → ap b i < n) (S2 : SV) :
    ∀ (r q : Nat) (F : List Nat) (s6 s7 : SV), q + r = n → LI n (ap a) (ap b) F q → Fre s6 → Fre s7 → ∃ F' s6' s7', LI n (ap a) (ap b) F' F'.length ∧
      whL (fun e => toB (evE T (callF T m) true c9 e)) (fun e => exB T (callF T m) B9 e) (r + (w + 1)) [.val (ot a), .val (ot b), S2, .own (ol F), .own (gk F), .val (nD q), s6, s7] = .ok .next [.val (ot a), .val (ot b), S2, .own (ol F'), .own (gk F'), .val (nD F'.length), s6', s7']
  | 0, q, F, s6, s7, hq, h, k6, k7 => by
    have hl := nodup_le n F h.nd h.lt
    have hle := h.le
    have : q = F.length := by omega
    subst this
    refine ⟨F, s6, s7, h, ?_⟩
    rw [show 0 + (w + 1) = w + 1 from Nat.zero_add _, wh_end]
    rw [cv9, decide_eq_false (Nat.lt_irrefl _)]
  | r + 1, q, F, s6, s7, hq, h, k6, k7 => by
    have hl := nodup_le n F h.nd h.lt
    have hle := h.le
    rw [show r + 1 + (w + 1) = (r + (w + 1)) + 1 from by omega]
    by_cases hlt : q < F.length
    · have hx : F[q]? = some F[q] := List.getElem?_eq_getElem hlt
      obtain ⟨s7', f7, e⟩ := sT9 m n la lb hn S2 s6 s7 F q F[q] k6 k7 hx (h.lt _ (List.getElem_mem _)) (by omega)
      rw [wh_step (by rw [cv9, decide_eq_true hlt]) e]
      exact lp9 m n w la lb hn ha hb S2 r (q + 1) _ (.val (ot b)) s7' (by omega) (h.step ha hb hx) (Fre.val _) f7
    · have : q = F.length := by omega
      subst this
      refine ⟨F, s6, s7, h, ?_⟩
      rw [wh_end]
      rw [cv9, decide_eq_false (Nat.lt_irrefl _)]
theorem q91 (m : Nat) (x1 x2 : D) : exS T (callF T m) (.par [3, 4, 5] [.lst [.var 2], .dd1 (.var 2) (.bl true), .int 0]) [.val x1, .val x2, .val (.int 0), .un, .un, .un, .un, .un] = .ok .next [.val x1, .val x2, .val (.int 0), .own (ol [0]), .own (gk [0]), .val (nD 0), .un, .un] := by
  have : ol [0] = .lst [.int 0] := rfl
  rw [this]
  have : gk [0] = .dk [.inl 0] [.bl true] := rfl
  rw [this]
  have : nD 0 = .int 0 := rfl
  rw [this]
  simp [fzRs, fzR, setRs, setR, frzs, frz_v, sizeL, keyOf]
theorem q93 (m : Nat) (x1 x2 l : D) (e1 : EV) (t3 t4 t5 t6 t7 : SV) (h1 : exS T (callF T m) (.par [3, 4, 5] [.lst [.var 2], .dd1 (.var 2) (.bl true), .int 0]) [.val x1, .val x2, .val (.int 0), .un, .un, .un, .un, .un] = .ok .next e1)
    (h : whL (fun e => toB (evE T (callF T m) true c9 e)) (fun e => exB T (callF T m) B9 e) T.wf e1 = .ok .next [.val x1, .val x2, .val (.int 0), .own l, t4, t5, t6, t7]) : callF T (m+1) 9 [.val x1, .val x2, .val (.int 0)] = .ok (.t l) [.val x1, .val x2, .val (.int 0)] := by
  rw [x_callF T m 9 _ (F := f9) rfl rfl]
  show fin [.val x1, .val x2, .val (.int 0)] (exB T (callF T m) [.par [3, 4, 5] [.lst [.var 2], .dd1 (.var 2) (.bl true), .int 0], .wh c9 B9, .ret (.var 3)] [.val x1, .val x2, .val (.int 0), .un, .un, .un, .un, .un]) = _
  rw [x_b1, h1]
  simp only [bd_ok]
  rw [x_b1, x_wh, h]
  simp [retR, outs]
/-! nets -/
structure Nt (n : Nat) (a b : List Nat) : Prop where
  la : a.length = n
  lb : b.length = n
  le : n ≤ 240
  net : ∃ ps ts, Net n (ap a) (ap b) ps ts
  w : ∀ i, i < n → Rch n (ap a) (ap b) i
section
variable {n : Nat} {a b : List Nat}
theorem Nt.pos (h : Nt n a b) : 0 < n := by obtain ⟨ps, ts, k⟩ := h.net; exact k.pos
theorem Nt.a_lt (h : Nt n a b) {i : Nat} (hi : i < n) : ap a i < n := by obtain ⟨ps, ts, k⟩ := h.net; exact k.f_lt hi
theorem Nt.b_lt (h : Nt n a b) {i : Nat} (hi : i < n) : ap b i < n := by obtain ⟨ps, ts, k⟩ := h.net; exact k.g_lt hi
theorem Nt.aa (h : Nt n a b) (i : Nat) : ap a (ap a i) = i := by obtain ⟨ps, ts, k⟩ := h.net; exact k.ff i
theorem Nt.bbb (h : Nt n a b) (i : Nat) : ap b (ap b (ap b i)) = i := by obtain ⟨ps, ts, k⟩ := h.net; exact k.ggg i
theorem ap_map (p : List Nat) : p = (List.range p.length).map (ap p) := by
  apply List.ext_getElem
  · simp
  · intro i h1 h2
    simp [ap, h1]
theorem ord_of {p : List Nat} (hl : p.length = n) (h1 : ∀ i, i < n → ap p i < n) (h2 : ∀ i j, i < n → j < n → ap p i = ap p j → i = j) : Ord n p := by
  refine ⟨hl, fun x hx => ?_, ?_⟩
  · rw [ap_map p, hl] at hx
    obtain ⟨i, hi, rfl⟩ := List.mem_map.mp hx
    exact h1 i (List.mem_range.mp hi)
  · rw [ap_map p, hl, List.nodup_iff_pairwise_ne, List.pairwise_map]
    refine List.Pairwise.imp_of_mem (fun {x y} hx hy hxy e => ?_) List.pairwise_lt_range
    have := h2 x y (List.mem_range.mp hx) (List.mem_range.mp hy) e
    omega
theorem Nt.oa (h : Nt n a b) : Ord n a := ord_of h.la (fun i hi => h.a_lt hi) fun i j _ _ e => by rw [← h.aa i, ← h.aa j, e]
theorem Nt.ob (h : Nt n a b) : Ord n b := ord_of h.lb (fun i hi => h.b_lt hi) fun i j _ _ e => by rw [← h.bbb i, ← h.bbb j, e]
theorem Nt.sp9 (h : Nt n a b) (m : Nat) : ∃ F, F.length = n ∧ callF T (m+1) 9 [.val (ot a), .val (ot b), .val (.int 0)] = .ok (.t (ol F)) [.val (ot a), .val (ot b), .val (.int 0)] := by
  have hle := h.le
  obtain ⟨F, t6, t7, hF, hw⟩ := lp9 m n (99999 - n) h.la h.lb (by omega) (fun i hi => h.a_lt hi) (fun i hi => h.b_lt hi) (.val (.int 0)) n 0 [0] .un .un (by omega)
    ⟨by simp, fun x hx => by
      have : x = 0 := by simpa using hx
      subst this; exact h.pos, by simp, fun j hj => by omega, by simp⟩ Fre.un Fre.un
  rw [show n + (99999 - n + 1) = T.wf from by show n + (99999 - n + 1) = 100000; omega] at hw
  exact ⟨F, hF.all h.w, q93 m _ _ _ _ .un _ _ _ _ (q91 m _ _) hw⟩
theorem Nt.sp8 (h : Nt n a b) (m : Nat) : callF T (m+2) 8 [.val (ot a), .val (ot b)] = .ok (.v (.bl true)) [.val (ot a), .val (ot b)] := by
  rw [x_callF T (m+1) 8 _ (F := f8) rfl rfl]
  obtain ⟨F, hF, e9⟩ := h.sp9 m
  have c1 : evE T (callF T (m+1)) false (.call 9 [.var 0, .var 1, .int 0]) [.val (ot a), .val (ot b)] = .ok (.t (ol F)) [.val (ot a), .val (ot b)] :=
    ev_call (rs := [.v (ot a), .v (ot b), .v (.int 0)]) (by simp) rfl rfl e9
  have c2 := ev_b1 (.inr c1) (len_ol F)
  have c3 : evE T (callF T (m+1)) false (.bi .len [.var 0]) [.val (ot a), .val (ot b)] = .ok (.v (.int (a.length : Nat))) [.val (ot a), .val (ot b)] := ev_b1 (.inl (vaT rfl)) (len_ot a)
  show fin [.val (ot a), .val (ot b)] (exB T (callF T (m+1)) [.ret (.cmp .Eq (.bi .len [.call 9 [.var 0, .var 1, .int 0]]) (.bi .len [.var 0]))] [.val (ot a), .val (ot b)]) = _
  rw [x_b1, x_ret, x_cmp, c2]
  simp only [bd_ok]
  rw [c3, hF, h.la]
  simp [cmpop, eqD_int, retR, outs]
end
end PL.K20
end

section
set_option exponentiation.threshold 5000
namespace PL.K20
open PL PL.K00 PL.PM PySem PySem.Spec L2

theorem ev_elt10 {T : GT} {cf : Nat → List SV → CO} {E : EV} {A B d d1 d2 d3 : D} (h2 : E[2]? = some (.val A)) (h3 : E[3]? = some (.val B)) (h4 : E[4]? = some (.val d)) (a1 : item A d = some d1) (a2 : item A d1 = some d) (b1 : item B d = some d2) (b2 : item B d2 = some d3) (b3 : item B d3 = some d) (he : eqD d d = some true) :
    evE T cf false (.andor true [.cmp .Eq (.ix (.var 2) (.ix (.var 2) (.var 4))) (.var 4), .cmp .Eq (.ix (.var 3) (.ix (.var 3) (.ix (.var 3) (.var 4)))) (.var 4)]) E = .ok (.v (.bl true)) E := by
  have c1 : evE T cf false (.cmp .Eq (.ix (.var 2) (.ix (.var 2) (.var 4))) (.var 4)) E = .ok (.v (.bl true)) E := by
    simp [h2, h4, a1, a2, he]
  have c2 : evE T cf false (.cmp .Eq (.ix (.var 3) (.ix (.var 3) (.ix (.var 3) (.var 4)))) (.var 4)) E = .ok (.v (.bl true)) E := by
    simp [h3, h4, b1, b2, b3, he]
  rw [x_andor, andFt c1, x_v1, c2]
theorem ev_rvar {T : GT} {cf : Nat → List SV → CO} {e : EV} {i : Nat} {w : D} {ds : List D} (hv : e[i]? = some (.val w)) (hr : rngD [w] = some ds) : evI T cf (.rng [.var i]) e = .ok ds e := by
  rw [x_ir, x_a1, vaT hv]
  simp only [bd_ok, x_a0, x_conts1, x_conts0, x_cont_v, Option.bind, Option.map, opt, hr]
abbrev P10a : S := .if_ (.andor false [.not_ (.call 2 [.var 0, .int 2]), .not_ (.isi (.ix (.var 0) (.int 0)) ["tuple"]), .not_ (.chain .LtE .LtE (.int 1) (.bi .len [.ix (.var 0) (.int 0)]) (.con 0))]) [.ret (.bl false)] []
abbrev P10b : S := .if_ (.andor false [.not_ (.call 5 [.ix (.var 0) (.int 0), .var 1]), .not_ (.call 5 [.ix (.var 0) (.int 1), .var 1])]) [.ret (.bl false)] []
abbrev E10 : E := .andor true [.cmp .Eq (.ix (.var 2) (.ix (.var 2) (.var 4))) (.var 4), .cmp .Eq (.ix (.var 3) (.ix (.var 3) (.ix (.var 3) (.var 4)))) (.var 4)]
abbrev P10c : S := .if_ (.not_ (.bi .all [.comp [4] (.rng [.var 1]) (.nm 4) none E10])) [.ret (.bl false)] []
theorem con0 : T.cons[0]? = some (.int 240) := rfl
theorem con1 : T.cons[1]? = some (.int 1000000) := rfl
section
variable {m : Nat} {dn x1 x2 : D} {n : Nat}
theorem ixD {e : EV} {i : Int} {x : D} (h : e[0]? = some (.val dn)) (hi : item dn (.int i) = some x) : evE T (callF T m) false (.ix (.var 0) (.int i)) e = .ok (.v x) e := by
  simp [h, hi]
theorem tru {x : E} {e e1 : EV} {b : Bool} {g : Nat} {as : List E} (hx : evE T (callF T m) false (.call g as) e = .ok (.v (.bl b)) e1) : evE T (callF T m) true (.call g as) e = .ok (.v (.bl b)) e1 := by
  rw [x_call] at hx ⊢
  rw [tst_false] at hx
  rw [hx]
  simp [tst, truth, opt]
theorem r10a {e : EV} (h0 : e[0]? = some (.val dn)) (i0 : item dn (.int 0) = some x1) (la : biF .len [x1] = some (.v (.int (n : Int)))) (ty : tyNm x1 = some "tuple") (n1 : 1 ≤ n) (n2 : n ≤ 240) {as : List SV} (e2 : callF T m 2 [.val dn, .val (.int 2)] = .ok (.v (.bl true)) as) : exS T (callF T m) P10a e = .ok .next e := by
  refine st_or ?_
  have c0 : evE T (callF T m) false (.ix (.var 0) (.int 0)) e = .ok (.v x1) e := ixD h0 i0
  have c1 : evE T (callF T m) false (.call 2 [.var 0, .int 2]) e = .ok (.v (.bl true)) e := ev_f2 (.inl (vaT h0)) (.inl (by simp)) e2
  have c2 : evE T (callF T m) true (.isi (.ix (.var 0) (.int 0)) ["tuple"]) e = .ok (.v (.bl true)) e := by
    rw [x_isi, c0]
    simp [ty, tyOk, isTy, tst, truth, opt]
  have c3 : evE T (callF T m) false (.bi .len [.ix (.var 0) (.int 0)]) e = .ok (.v (.int (n : Int))) e := ev_b1 (.inl c0) la
  rw [or1 (ntrue (b := true) (tru (x := .non) c1)), or1 (ntrue (b := true) c2), x_v1]
  refine ntrue (b := true) ?_
  rw [x_chain, x_int]
  simp only [tst_false, bd_ok]
  rw [c3]
  have h1 : (1 : Int) ≤ (n : Int) := by omega
  have h2 : (n : Int) ≤ 240 := by omega
  simp [con0, h1, h2, tst, truth, opt]
theorem r10b {e : EV} (h0 : e[0]? = some (.val dn)) (h1 : e[1]? = some (.val (.int (n : Int)))) (i0 : item dn (.int 0) = some x1) (i1 : item dn (.int 1) = some x2) {as bs : List SV} (e5a : callF T m 5 [.val x1, .val (.int (n : Int))] = .ok (.v (.bl true)) as) (e5b : callF T m 5 [.val x2, .val (.int (n : Int))] = .ok (.v (.bl true)) bs) : exS T (callF T m) P10b e = .ok .next e := by
  refine st_or ?_
  have c1 := ev_f2 (T := T) (cf := callF T m) (g := 5) (.inl (ixD h0 i0)) (.inl (vaT h1)) e5a
  have c2 := ev_f2 (T := T) (cf := callF T m) (g := 5) (.inl (ixD h0 i1)) (.inl (vaT h1)) e5b
  rw [or1 (ntrue (b := true) (tru (x := .non) c1)), x_v1]
  exact ntrue (b := true) (tru (x := .non) c2)
theorem r10c {e : EV} {s : SV} {w : D} {ds : List D} (hds : ds.length ≤ 1000) (hr : rngD [w] = some ds) (h1 : e[1]? = some (.val w)) (h2 : e[2]? = some (.val x1)) (h3 : e[3]? = some (.val x2)) (h4 : e[4]? = some s)
    (it : ∀ k ∈ ds, ∃ d1 d2 d3, eqD k k = some true ∧ item x1 k = some d1 ∧ item x1 d1 = some k ∧ item x2 k = some d2 ∧ item x2 d2 = some d3 ∧ item x2 d3 = some k) : exS T (callF T m) P10c e = .ok .next e := by
  have hc : evE T (callF T m) false (.comp [4] (.rng [.var 1]) (.nm 4) none E10) e = .ok (.t (.lst ((ds.filter fun _ => true).map fun _ => .bl true))) e := by
    refine ev_comp (T := T) (cf := callF T m) (e := e) (i := 4) (cond := none) (elt := E10) (fun _ => true) (fun _ => .bl true) (ev_rvar h1 hr) h4 hds ?_
    intro d hd
    obtain ⟨d1, d2, d3, a0, a1, a2, b1, b2, b3⟩ := it d hd
    refine ⟨x_c0 .., fun _ => .inl (ev_elt10 (A := x1) (B := x2) (d := d) ?_ ?_ (get_set _ (lt_of_get h4)) a1 a2 b1 b2 b3 a0)⟩
    · rw [get_ne _ _ _ _ (by decide)]; exact h2
    · rw [get_ne _ _ _ _ (by decide)]; exact h3
  refine st_ifn ?_
  rw [List.filter_eq_self.mpr (fun _ _ => rfl)] at hc
  rw [x_bi, x_a1, hc]
  simp only [bd_ok, x_a0, x_conts1, x_conts0, x_cont_t, Option.bind, Option.map, opt, all_tr]
  simp [tst, truth, opt]
theorem q10 (m : Nat) (dn x1 x2 : D) (n : Nat) (ds : List D) (hds : ds.length ≤ 1000) (hr : rngD [.int (n : Int)] = some ds) (hdn : dn = .tup [x1, x2]) (la : biF .len [x1] = some (.v (.int (n : Int)))) (ty : tyNm x1 = some "tuple") (n1 : 1 ≤ n) (n2 : n ≤ 240) {a1 a2 a3 a4 : List SV} (e2 : callF T m 2 [.val dn, .val (.int 2)] = .ok (.v (.bl true)) a1)
    (e5a : callF T m 5 [.val x1, .val (.int (n : Int))] = .ok (.v (.bl true)) a2) (e5b : callF T m 5 [.val x2, .val (.int (n : Int))] = .ok (.v (.bl true)) a3) (e8 : callF T m 8 [.val x1, .val x2] = .ok (.v (.bl true)) a4)
    (it : ∀ k ∈ ds, ∃ d1 d2 d3, eqD k k = some true ∧ item x1 k = some d1 ∧ item x1 d1 = some k ∧ item x2 k = some d2 ∧ item x2 d2 = some d3 ∧ item x2 d3 = some k) :
    callF T (m+1) 10 [.val dn] = .ok (.v (.bl true)) [.val dn] := by
  have i0 : item dn (.int 0) = some x1 := by rw [hdn]; rfl
  have i1 : item dn (.int 1) = some x2 := by rw [hdn]; rfl
  rw [x_callF T m 10 _ (F := f10) rfl rfl]
  show fin [.val dn] (exB T (callF T m) [P10a, .set 1 (.bi .len [.ix (.var 0) (.int 0)]), P10b, .unp [2, 3] (.var 0), P10c, .ret (.call 8 [.var 2, .var 3])] [.val dn, .un, .un, .un, .un]) = _
  have t1 := r10a (m := m) (e := [.val dn, .un, .un, .un, .un]) rfl i0 la ty n1 n2 e2
  have t2 : exS T (callF T m) (.set 1 (.bi .len [.ix (.var 0) (.int 0)])) [.val dn, .un, .un, .un, .un] = .ok .next [.val dn, .val (.int (n : Int)), .un, .un, .un] := by
    rw [st_v (ev_b1 (.inl (ixD (e := [.val dn, .un, .un, .un, .un]) rfl i0)) la) rfl]; rfl
  have t3 := r10b (m := m) (e := [.val dn, .val (.int (n : Int)), .un, .un, .un]) rfl rfl i0 i1 e5a e5b
  have t4 : exS T (callF T m) (.unp [2, 3] (.var 0)) [.val dn, .val (.int (n : Int)), .un, .un, .un] = .ok .next [.val dn, .val (.int (n : Int)), .val x1, .val x2, .un] := by
    rw [hdn]
    simp [setVals]
  have t5 := r10c (m := m) (e := [.val dn, .val (.int (n : Int)), .val x1, .val x2, .un]) hds hr rfl rfl rfl rfl it
  have t6 := ev_f2 (T := T) (cf := callF T m) (e := [.val dn, .val (.int (n : Int)), .val x1, .val x2, .un]) (a := .var 2) (b := .var 3) (.inl (vaT rfl)) (.inl (vaT rfl)) e8
  rw [bN t1, bN t2, bN t3, bN t4, bN t5, bR (st_ret t6)]
  rfl
end
section
variable {n : Nat} {a b : List Nat}
theorem Nt.item_a (h : Nt n a b) {k : Nat} (hk : k < n) : item (ot a) (nD k) = some (nD (ap a k)) := item_ot (by rw [h.la]; exact hk)
theorem Nt.item_b (h : Nt n a b) {k : Nat} (hk : k < n) : item (ot b) (nD k) = some (nD (ap b k)) := item_ot (by rw [h.lb]; exact hk)
theorem Nt.sp10 (h : Nt n a b) (m : Nat) : callF T (m+4) 10 [.val (nt a b)] = .ok (.v (.bl true)) [.val (nt a b)] := by
  have hle := h.le
  have la := len_ot a
  rw [h.la] at la
  refine q10 (m+3) (nt a b) (ot a) (ot b) n ((List.range n).map nD) (by simp; omega) (rng_nD n (by omega)) rfl la rfl h.pos hle (sp2t (m+2) [ot a, ot b] 2 rfl) (sp5 m n a h.oa (by omega)) (sp5 m n b h.ob (by omega)) (h.sp8 (m+1)) fun d hd => ?_
  obtain ⟨k, hk, rfl⟩ := List.mem_map.mp hd
  have hk := List.mem_range.mp hk
  exact ⟨nD (ap a k), nD (ap b k), nD (ap b (ap b k)), by show eqD (.int (k : Int)) (.int (k : Int)) = _; rw [eqD_int]; simp, h.item_a hk, by rw [h.item_a (h.a_lt hk), h.aa], h.item_b hk, h.item_b (h.b_lt hk), by rw [h.item_b (h.b_lt (h.b_lt hk)), h.bbb]⟩
theorem Nt.sp11 (h : Nt n a b) (m : Nat) (d : D) (hd : d = nt a b ∨ d = nl a b) : callF T (m+5) 11 [.val d] = .ok (.v (nt a b)) [.val d] := by
  rw [x_callF T (m+4) 11 _ (F := f11) rfl rfl]
  have hle := h.le
  have e4 := sp4n (m+1) a b (by rw [h.la]; omega) (by rw [h.lb]; omega) d hd
  have e10 := h.sp10 m
  generalize nt a b = dn at *
  simp [f11, e4, e10]
/-! corners, handles -/
def stp (a b : List Nat) : List Nat := cmp2 a b
theorem Nt.a_mem (h : Nt n a b) : ∀ x ∈ a, x < b.length := fun x hx => by
  rw [h.lb]; exact h.oa.2.1 x hx
theorem Nt.ap_stp (h : Nt n a b) {i : Nat} (hi : i < n) : ap (stp a b) i = ap b (ap a i) := by
  have : i < a.length := by rw [h.la]; exact hi
  unfold stp cmp2 ap
  simp [this]
theorem Nt.ls (h : Nt n a b) : (stp a b).length = n := by simp [stp, cmp2, h.la]
theorem Nt.bs (h : Nt n a b) : Bij n (ap (stp a b)) := by
  obtain ⟨ps, ts, k⟩ := h.net
  have := k.bij
  refine ⟨fun i hi => by rw [h.ap_stp hi]; exact this.1 i hi, fun i j hi hj e => ?_⟩
  rw [h.ap_stp hi, h.ap_stp hj] at e
  exact this.2 i j hi hj e
theorem Nt.cs (h : Nt n a b) : cnt n (Cl n (ap (stp a b))) = cnt n (Cl n fun i => ap b (ap a i)) := cnt_congr fun i j => by
  constructor
  · intro q
    refine Cl.sub (Cl.eqv n _) (fun x hx => ?_) q
    rw [h.ap_stp hx]
    exact Cl.st (f := fun i => ap b (ap a i)) x hx
  · intro q
    refine Cl.sub (Cl.eqv n _) (fun x hx => ?_) q
    rw [← h.ap_stp hx]
    exact Cl.st x hx
theorem Nt.sp12 (h : Nt n a b) (m : Nat) : callF T (m+2) 12 [.val (nt a b)] = .ok (.v (ot (stp a b))) [.val (nt a b)] := by
  rw [x_callF T (m+1) 12 _ (F := f12) rfl rfl]
  have hle := h.le
  have e6 := sp6 m a b h.a_mem (by rw [h.la]; omega)
  have i0 := item_nt0 a b
  have i1 := item_nt1 a b
  show fin _ (exB T (callF T (m+1)) [.ret (.call 6 [.ix (.var 0) (.int 0), .ix (.var 0) (.int 1)])] [.val (nt a b)]) = _
  have c1 : evE T (callF T (m+1)) false (.ix (.var 0) (.int 0)) [.val (nt a b)] = .ok (.v (ot a)) [.val (nt a b)] := by
    generalize nt a b = dn at *
    simp [i0]
  have c2 : evE T (callF T (m+1)) false (.ix (.var 0) (.int 1)) [.val (nt a b)] = .ok (.v (ot b)) [.val (nt a b)] := by
    generalize nt a b = dn at *
    simp [i1]
  rw [x_b1, x_ret, ev_f2 (.inl c1) (.inl c2) e6]
  simp [retR, outs, stp]
theorem Nt.sp39 (h : Nt n a b) (m : Nat) : callF T (m+2) 39 [.val (nt a b)] = .ok (.v (ot (stp a b))) [.val (nt a b)] := by
  rw [x_callF T (m+1) 39 _ (F := f39) rfl rfl]
  have hle := h.le
  have e6 := sp35 m a b h.a_mem (by rw [h.la]; omega)
  have i0 := item_nt0 a b
  have i1 := item_nt1 a b
  show fin _ (exB T (callF T (m+1)) [.ret (.call 35 [.ix (.var 0) (.int 0), .ix (.var 0) (.int 1)])] [.val (nt a b)]) = _
  have c1 : evE T (callF T (m+1)) false (.ix (.var 0) (.int 0)) [.val (nt a b)] = .ok (.v (ot a)) [.val (nt a b)] := by
    generalize nt a b = dn at *
    simp [i0]
  have c2 : evE T (callF T (m+1)) false (.ix (.var 0) (.int 1)) [.val (nt a b)] = .ok (.v (ot b)) [.val (nt a b)] := by
    generalize nt a b = dn at *
    simp [i1]
  rw [x_b1, x_ret, ev_f2 (.inl c1) (.inl c2) e6]
  simp [retR, outs, stp]
noncomputable def cc (n : Nat) (a b : List Nat) : Nat := cnt n (Cl n fun i => ap b (ap a i))
theorem Nt.sp13 (h : Nt n a b) (m : Nat) : ∃ L, callF T (m+3) 13 [.val (nt a b)] = .ok (.t (.lst L)) [.val (nt a b)] ∧ L.length = PL.K20.cc n a b ∧ rowsOk L := by
  rw [x_callF T (m+2) 13 _ (F := f13) rfl rfl]
  obtain ⟨L, e7, hl, hr⟩ := sp7 (m+1) n h.ls h.le h.bs
  refine ⟨L, ?_, by rw [hl, h.cs]; rfl, hr⟩
  show fin _ (exB T (callF T (m+2)) [.ret (.call 7 [.call 12 [.var 0]])] [.val (nt a b)]) = _
  rw [x_b1, x_ret, ev_f1 (.inl (ev_f1 (.inl (vaT rfl)) (h.sp12 m))) e7]
  simp [retR, outs]
theorem Nt.sp40 (h : Nt n a b) (m : Nat) : ∃ L, callF T (m+3) 40 [.val (nt a b)] = .ok (.t (.lst L)) [.val (nt a b)] ∧ L.length = PL.K20.cc n a b ∧ rowsOk L := by
  rw [x_callF T (m+2) 40 _ (F := f40) rfl rfl]
  obtain ⟨L, e7, hl, hr⟩ := sp36 (m+1) n h.ls h.le h.bs
  refine ⟨L, ?_, by rw [hl, h.cs]; rfl, hr⟩
  show fin _ (exB T (callF T (m+2)) [.ret (.call 36 [.call 39 [.var 0]])] [.val (nt a b)]) = _
  rw [x_b1, x_ret, ev_f1 (.inl (ev_f1 (.inl (vaT rfl)) (h.sp39 m))) e7]
  simp [retR, outs]
noncomputable def hh (n : Nat) (a b : List Nat) : Int := (12 + n - 3 * ((fixp a).length : Int) - 4 * ((fixp b).length : Int) - 6 * (PL.K20.cc n a b : Int)) / 12
theorem fixp_len {p : List Nat} (h : p.length = n) : (fixp p).length = ((List.range n).filter fun i => decide (ap p i = i)).length := by
  unfold fixp; rw [h]
theorem Nt.shape (h : Nt n a b) : 0 ≤ hh n a b ∧ 12 * hh n a b = 12 + n - 3 * ((fixp a).length : Int) - 4 * ((fixp b).length : Int) - 6 * (PL.K20.cc n a b : Int) := by
  obtain ⟨ps, ts, k⟩ := h.net
  obtain ⟨j, hj⟩ := k.shape h.w
  rw [← fixp_len h.la, ← fixp_len h.lb] at hj
  have : PL.K20.cc n a b = cnt n (Cl n fun i => ap b (ap a i)) := rfl
  rw [← this] at hj
  unfold hh
  rw [← hj]
  omega
end
end PL.K20
end

section
set_option exponentiation.threshold 5000
namespace PL.K20
open PL PL.K00 PL.PM PySem PySem.Spec L2

/-! sums of the shape -/
def hI (n e2 e3 c : Int) : Int := (12 + n - 3 * e2 - 4 * e3 - 6 * c) / 12
def gf (h e2 e3 c w : Int) : Int := (w - 1) * (h - 1) + w / 4 * e2 + w / 3 * e3 + w / 2 * c
def fW (h e2 e3 c w : Int) : Int := if w ≤ 0 then (if w = 0 then 1 else 0) else if w = 2 then h + c - 1 else gf h e2 e3 c w
def cW (h e2 e3 c w : Int) : Int := if w ≤ 0 then 0 else if w = 2 then h else fW h e2 e3 c w - c
theorem dvs : divOk 12 = true ∧ divOk 2 = true ∧ divOk 3 = true ∧ divOk 4 = true := by decide
section
variable {cf : Nat → List SV → CO} {e : EV}
theorem ev_hh {A B C F : E} {n e2 e3 c : Int} (hA : evE T cf false A e = .ok (.v (.int n)) e) (hB : evE T cf false B e = .ok (.v (.int e2)) e) (hC : evE T cf false C e = .ok (.v (.int e3)) e) (hF : evE T cf false F e = .ok (.v (.int c)) e) :
    evE T cf false (.bin .fdiv (.bin .sub (.bin .sub (.bin .sub (.bin .add (.int 12) A) (.bin .mul (.int 3) B)) (.bin .mul (.int 4) C)) (.bin .mul (.int 6) F)) (.int 12)) e = .ok (.v (.int (hI n e2 e3 c))) e :=
  ev_div dvs.1 (ev_sub (ev_sub (ev_sub (ev_add iT hA) (ev_mul (mulL (by decide)) iT hB)) (ev_mul (mulL (by decide)) iT hC)) (ev_mul (mulL (by decide)) iT hF)) iT
/-- the sum for a weight above 2; the numbers of the shape by names -/
theorem ev_gf {W H A B C K : E} {h e2 e3 c w : Int} (hw : w.natAbs < 2 ^ 60) (hW : evE T cf false W e = .ok (.v (.int w)) e) (hH : evE T cf false H e = .ok (.v (.int h)) e) (hA : evE T cf false A e = .ok (.v (.int e2)) e) (hB : evE T cf false B e = .ok (.v (.int e3)) e) (hC : evE T cf false C e = .ok (.v (.int c)) e) (hK : evE T cf false K e = .ok (.v (.int (w / 2))) e) :
    evE T cf false (.bin .add (.bin .add (.bin .add (.bin .mul (.bin .sub W (.int 1)) (.bin .sub H (.int 1))) (.bin .mul (.bin .fdiv W (.int 4)) A)) (.bin .mul (.bin .fdiv W (.int 3)) B)) (.bin .mul K C)) e = .ok (.v (.int (gf h e2 e3 c w))) e := by
  have w1 : (w - 1).natAbs < 2 ^ 64 := by omega
  have w4 : (w / 4).natAbs < 2 ^ 64 := by omega
  have w3 : (w / 3).natAbs < 2 ^ 64 := by omega
  have w2 : (w / 2).natAbs < 2 ^ 64 := by omega
  exact ev_add (ev_add (ev_add (ev_mul (mulL w1) (ev_sub hW iT) (ev_sub hH iT)) (ev_mul (mulL w4) (ev_div dvs.2.2.2 hW iT) hA)) (ev_mul (mulL w3) (ev_div dvs.2.2.1 hW iT) hB)) (ev_mul (mulL w2) hK hC)
end
section
variable {m : Nat} {dn x1 x2 l1 l2 l3 : D} {n e2 e3 c : Int}
theorem q15 (i0 : item dn (.int 0) = some x1) (i1 : item dn (.int 1) = some x2) (la : biF .len [x1] = some (.v (.int n))) {a1 a2 a3 : List SV} (k1 : callF T m 14 [.val x1] = .ok (.t l1) a1) (k2 : callF T m 14 [.val x2] = .ok (.t l2) a2) (k3 : callF T m 13 [.val dn] = .ok (.t l3) a3)
    (b1 : biF .len [l1] = some (.v (.int e2))) (b2 : biF .len [l2] = some (.v (.int e3))) (b3 : biF .len [l3] = some (.v (.int c))) :
    callF T (m+1) 15 [.val dn] = .ok (.v (.int (hI n e2 e3 c))) [.val dn] := by
  have e0 := ixD (m := m) (e := [.val dn]) (i := 0) rfl i0
  have e1 := ixD (m := m) (e := [.val dn]) (i := 1) rfl i1
  refine fnR (T := T) (F := f15) rfl rfl (bR (st_ret (ev_hh (ev_b1 (.inl e0) la) (ev_b1 (.inr (ev_f1 (.inl e0) k1)) b1) (ev_b1 (.inr (ev_f1 (.inl e1) k2)) b2) (ev_b1 (.inr (ev_f1 (.inl (vaT rfl)) k3)) b3))))
theorem q42 (i0 : item dn (.int 0) = some x1) (i1 : item dn (.int 1) = some x2) (la : biF .len [x1] = some (.v (.int n))) {a1 a2 a3 : List SV} (k1 : callF T m 41 [.val x1] = .ok (.t l1) a1) (k2 : callF T m 41 [.val x2] = .ok (.t l2) a2) (k3 : callF T m 40 [.val dn] = .ok (.t l3) a3)
    (b1 : biF .len [l1] = some (.v (.int e2))) (b2 : biF .len [l2] = some (.v (.int e3))) (b3 : biF .len [l3] = some (.v (.int c))) :
    callF T (m+1) 42 [.val dn] = .ok (.v (.int (hI n e2 e3 c))) [.val dn] := by
  have e0 := ixD (m := m) (e := [.val dn]) (i := 0) rfl i0
  have e1 := ixD (m := m) (e := [.val dn]) (i := 1) rfl i1
  refine fnR (T := T) (F := f42) rfl rfl (bR (st_ret (ev_hh (ev_b1 (.inl e0) la) (ev_b1 (.inr (ev_f1 (.inl e0) k1)) b1) (ev_b1 (.inr (ev_f1 (.inl e1) k2)) b2) (ev_b1 (.inr (ev_f1 (.inl (vaT rfl)) k3)) b3))))
theorem q16 {h : Int} (i0 : item dn (.int 0) = some x1) (i1 : item dn (.int 1) = some x2) {a1 a2 a3 a4 : List SV} (k0 : callF T m 15 [.val dn] = .ok (.v (.int h)) a4) (k1 : callF T m 14 [.val x1] = .ok (.t l1) a1) (k2 : callF T m 14 [.val x2] = .ok (.t l2) a2) (k3 : callF T m 13 [.val dn] = .ok (.t l3) a3)
    (b1 : biF .len [l1] = some (.v (.int e2))) (b2 : biF .len [l2] = some (.v (.int e3))) (b3 : biF .len [l3] = some (.v (.int c))) :
    callF T (m+1) 16 [.val dn] = .ok (.v (.tup [.int h, .int e2, .int e3, .int c])) [.val dn] := by
  have e0 := ixD (m := m) (e := [.val dn]) (i := 0) rfl i0
  have e1 := ixD (m := m) (e := [.val dn]) (i := 1) rfl i1
  refine fnR (T := T) (F := f16) rfl rfl (bR (st_ret (ev_tup (ds := [.int h, .int e2, .int e3, .int c]) (eA1 (ev_f1 (.inl (vaT rfl)) k0) (eA1 (ev_b1 (.inr (ev_f1 (.inl e0) k1)) b1) (eA1 (ev_b1 (.inr (ev_f1 (.inl e1) k2)) b2) (eA1 (ev_b1 (.inr (ev_f1 (.inl (vaT rfl)) k3)) b3) eA0)))) (by simp))))
theorem q17 {h w : Int} {as : List SV} (k : callF T m 16 [.val dn] = .ok (.v (.tup [.int h, .int e2, .int e3, .int c])) as) (hw : w.natAbs < 2 ^ 60) :
    callF T (m+1) 17 [.val dn, .val (.int w)] = .ok (.v (.int (fW h e2 e3 c w))) [.val dn, .val (.int w)] := by
  have t1 : exS T (callF T m) (.unp [2, 3, 4, 5] (.call 16 [.var 0])) [.val dn, .val (.int w), .un, .un, .un, .un, .un] = .ok .next [.val dn, .val (.int w), .val (.int h), .val (.int e2), .val (.int e3), .val (.int c), .un] :=
    st_unp (ev_f1 (.inl (vaT rfl)) k) rfl
  have c1 := ev_le (T := T) (cf := callF T m) (e := [.val dn, .val (.int w), .val (.int h), .val (.int e2), .val (.int e3), .val (.int c), .un]) (x := .var 1) (y := .int 0) (vaT rfl) iT true
  have c2 := ev_eqi (T := T) (cf := callF T m) (e := [.val dn, .val (.int w), .val (.int h), .val (.int e2), .val (.int e3), .val (.int c), .un]) (x := .var 1) (y := .int 0) (vaT rfl) iT true
  have c3 := ev_eqi (T := T) (cf := callF T m) (e := [.val dn, .val (.int w), .val (.int h), .val (.int e2), .val (.int e3), .val (.int c), .un]) (x := .var 1) (y := .int 2) (vaT rfl) iT true
  unfold fW
  by_cases h0 : w ≤ 0
  · rw [decide_eq_true h0] at c1
    rw [if_pos h0]
    by_cases hz : w = 0
    · rw [decide_eq_true hz] at c2
      rw [if_pos hz]
      refine fnR (T := T) (F := f17) (as := [.val dn, .val (.int w)]) rfl rfl ((bN t1).trans (bR ((st_ifT c1).trans (bR (st_ret ((ev_ite c2).trans (iT (T := T) (cf := callF T m))))))))
    · rw [decide_eq_false hz] at c2
      rw [if_neg hz]
      refine fnR (T := T) (F := f17) (as := [.val dn, .val (.int w)]) rfl rfl ((bN t1).trans (bR ((st_ifT c1).trans (bR (st_ret ((ev_ite c2).trans (iT (T := T) (cf := callF T m))))))))
  · rw [decide_eq_false h0] at c1
    rw [if_neg h0]
    by_cases h2 : w = 2
    · rw [decide_eq_true h2] at c3
      rw [if_pos h2]
      refine fnR (T := T) (F := f17) (as := [.val dn, .val (.int w)]) rfl rfl ((bN t1).trans ((bN ((st_ifF c1).trans (x_b0 ..))).trans (bR ((st_ifT c3).trans (bR (st_ret (ev_sub (ev_add (vaT rfl) (vaT rfl)) iT)))))))
    · rw [decide_eq_false h2] at c3
      rw [if_neg h2]
      have t6 : exS T (callF T m) (.set 6 (.bin .fdiv (.var 1) (.int 2))) [.val dn, .val (.int w), .val (.int h), .val (.int e2), .val (.int e3), .val (.int c), .un] = .ok .next [.val dn, .val (.int w), .val (.int h), .val (.int e2), .val (.int e3), .val (.int c), .val (.int (w / 2))] :=
        st_v (ev_div dvs.2.1 (vaT rfl) iT) rfl
      refine fnR (T := T) (F := f17) (as := [.val dn, .val (.int w)]) rfl rfl ((bN t1).trans ((bN ((st_ifF c1).trans (x_b0 ..))).trans ((bN ((st_ifF c3).trans (x_b0 ..))).trans ((bN t6).trans (bR (st_ret (ev_gf hw (vaT rfl) (vaT rfl) (vaT rfl) (vaT rfl) (vaT rfl) (vaT rfl))))))))
theorem q18 {h w : Int} {as bs : List SV} (k : callF T m 16 [.val dn] = .ok (.v (.tup [.int h, .int e2, .int e3, .int c])) as) (k7 : callF T m 17 [.val dn, .val (.int w)] = .ok (.v (.int (fW h e2 e3 c w))) bs) :
    callF T (m+1) 18 [.val dn, .val (.int w)] = .ok (.v (.int (cW h e2 e3 c w))) [.val dn, .val (.int w)] := by
  have t1 : exS T (callF T m) (.unp [2, 3, 4, 5] (.call 16 [.var 0])) [.val dn, .val (.int w), .un, .un, .un, .un] = .ok .next [.val dn, .val (.int w), .val (.int h), .val (.int e2), .val (.int e3), .val (.int c)] :=
    st_unp (ev_f1 (.inl (vaT rfl)) k) rfl
  have c1 := ev_le (T := T) (cf := callF T m) (e := [.val dn, .val (.int w), .val (.int h), .val (.int e2), .val (.int e3), .val (.int c)]) (x := .var 1) (y := .int 0) (vaT rfl) iT true
  have c3 := ev_eqi (T := T) (cf := callF T m) (e := [.val dn, .val (.int w), .val (.int h), .val (.int e2), .val (.int e3), .val (.int c)]) (x := .var 1) (y := .int 2) (vaT rfl) iT true
  unfold cW
  generalize fW h e2 e3 c w = f at *
  by_cases h0 : w ≤ 0
  · rw [decide_eq_true h0] at c1
    rw [if_pos h0]
    refine fnR (T := T) (F := f18) (as := [.val dn, .val (.int w)]) rfl rfl ((bN t1).trans (bR ((st_ifT c1).trans (bR (st_ret (iT (T := T) (cf := callF T m)))))))
  · rw [decide_eq_false h0] at c1
    rw [if_neg h0]
    by_cases h2 : w = 2
    · rw [decide_eq_true h2] at c3
      rw [if_pos h2]
      refine fnR (T := T) (F := f18) (as := [.val dn, .val (.int w)]) rfl rfl ((bN t1).trans ((bN ((st_ifF c1).trans (x_b0 ..))).trans (bR ((st_ifT c3).trans (bR (st_ret (vaT rfl)))))))
    · rw [decide_eq_false h2] at c3
      rw [if_neg h2]
      refine fnR (T := T) (F := f18) (as := [.val dn, .val (.int w)]) rfl rfl ((bN t1).trans ((bN ((st_ifF c1).trans (x_b0 ..))).trans ((bN ((st_ifF c3).trans (x_b0 ..))).trans (bR (st_ret (ev_sub (ev_f2 (.inl (vaT rfl)) (.inl (vaT rfl)) k7) (vaT rfl)))))))
end
theorem sp1w (m : Nat) (k lo hi : Int) (h1 : lo ≤ k) (h2 : k ≤ hi) : callF T (m+2) 1 [.val (.int k), .val (.int lo), .val (.int hi)] = .ok (.v (.bl true)) [.val (.int k), .val (.int lo), .val (.int hi)] := by
  rw [x_callF T (m+1) 1 _ (F := f1) rfl rfl]
  simp [f1, sp0i, h1, h2]
theorem sp19 (m : Nat) (w : Int) (h1 : -1000000 ≤ w) (h2 : w ≤ 1000000) (h3 : w % 2 = 0) : callF T (m+3) 19 [.val (.int w)] = .ok (.v (.int w)) [.val (.int w)] := by
  have k := sp1w m w (0 - 1000000) 1000000 (by omega) h2
  have hv : evE T (callF T (m+2)) false (.var 0) [.val (.int w)] = .ok (.v (.int w)) [.val (.int w)] := vaT rfl
  have c1 : evE T (callF T (m+2)) false (.call 1 [.var 0, .bin .sub (.int 0) (.con 1), .con 1]) [.val (.int w)] = .ok (.v (.bl true)) [.val (.int w)] := by
    have hcon : evE T (callF T (m+2)) false (.con 1) [.val (.int w)] = .ok (.v (.int 1000000)) [.val (.int w)] := by
      rw [x_con, con1]; rfl
    exact ev_call (eA1 hv (eA1 (ev_sub iT hcon) (eA1 hcon eA0))) rfl rfl k
  have c2 := ev_eqi (T := T) (cf := callF T (m+2)) (e := [.val (.int w)]) (x := .bin .mod (.var 0) (.int 2)) (y := .int 1) (ev_mod (i := w) (j := 2) (e1 := [.val (.int w)]) (by decide) (vaT rfl) iT) iT true
  rw [h3] at c2
  have o : exS T (callF T (m+2)) (.if_ (.andor false [.not_ (.call 1 [.var 0, .bin .sub (.int 0) (.con 1), .con 1]), .cmp .Eq (.bin .mod (.var 0) (.int 2)) (.int 1)]) [.raise_ 2] []) [.val (.int w)] = .ok .next [.val (.int w)] := st_or (by
    rw [or1 (ntrue (b := true) (tru (x := .non) c1)), x_v1]
    exact c2)
  exact fnR (T := T) (F := f19) (as := [.val (.int w)]) rfl rfl ((bN o).trans (bR (st_ret hv)))
end PL.K20
end

section
set_option exponentiation.threshold 5000
namespace PL.K20
open PL PL.K00 PL.PM PySem PySem.Spec L2

theorem mapI (v : D) (l : List D) : (v :: l).map RV.v = .v v :: l.map RV.v := rfl
theorem rng3 (q : Int) (h0 : 0 ≤ q) (h1 : q ≤ 1000) : ∃ ds, rngD [.int 0, .int (q + 1), .int 2] = some ds ∧ ds.length ≤ 1000 ∧ ∀ d ∈ ds, ∃ w : Int, d = .int w ∧ 0 ≤ w ∧ w ≤ 3000 ∧ w % 2 = 0 := by
  have hs : Builtin.Range.rangeSize 0 (q + 1) 2 = q / 2 + 1 := by
    unfold Builtin.Range.rangeSize
    rw [if_pos (by decide), if_pos (by omega)]
    omega
  have e : (decide ((0 : Int) < 2) && decide ((2 : Int) < 1073741824) && decide (-(2 ^ 62) ≤ (0 : Int)) && decide ((0 : Int) < 2 ^ 62) && decide (-(2 ^ 62) ≤ q + 1) && decide (q + 1 < 2 ^ 62) && Builtin.Range.small 0 (q + 1) 2 && decide (0 ≤ Builtin.Range.rangeSize 0 (q + 1) 2)) = true := by
    have a1 : decide (-(2 ^ 62) ≤ q + 1) = true := decide_eq_true (by omega)
    have a2 : decide (q + 1 < 2 ^ 62) = true := decide_eq_true (by omega)
    have a3 : Builtin.Range.small 0 (q + 1) 2 = true := by
      unfold Builtin.Range.small
      have ft : ∀ x : Int, -4000 ≤ x → x ≤ 4000 → Builtin.Range.rangeFitsLong x = true := by
        intro x g1 g2
        unfold Builtin.Range.rangeFitsLong
        simp
        omega
      rw [hs, ft 0 (by decide) (by decide), ft (q + 1) (by omega) (by omega), ft 2 (by decide) (by decide), ft (q / 2 + 1) (by omega) (by omega), if_pos (by decide), ft (q + 1 + (2 - 1)) (by omega) (by omega)]
      simp
    have a4 : decide (0 ≤ Builtin.Range.rangeSize 0 (q + 1) 2) = true := decide_eq_true (by rw [hs]; omega)
    rw [a1, a2, a3, a4]; rfl
  refine ⟨(List.range (q / 2 + 1).toNat).map fun (k : Nat) => .int (0 + (k : Int) * 2), ?_, ?_, ?_⟩
  · show (if (decide ((0 : Int) < 2) && decide ((2 : Int) < 1073741824) && decide (-(2 ^ 62) ≤ (0 : Int)) && decide ((0 : Int) < 2 ^ 62) && decide (-(2 ^ 62) ≤ q + 1) && decide (q + 1 < 2 ^ 62) && Builtin.Range.small 0 (q + 1) 2 && decide (0 ≤ Builtin.Range.rangeSize 0 (q + 1) 2)) = true then _ else _) = _
    rw [if_pos e, hs]
  · rw [List.length_map, List.length_range]; omega
  · intro d hd
    obtain ⟨k, hk, rfl⟩ := List.mem_map.mp hd
    have := List.mem_range.mp hk
    exact ⟨_, rfl, by omega, by omega, by omega⟩
section
variable {m : Nat} {d dn x1 : D} {a1 a2 a3 a4 : List SV} {w : Int}
theorem q20 {r : Int} (k11 : callF T m 11 [.val d] = .ok (.v dn) a1) (k19 : callF T m 19 [.val (.int w)] = .ok (.v (.int w)) a2) (k17 : callF T m 17 [.val dn, .val (.int w)] = .ok (.v (.int r)) a3) :
    callF T (m+1) 20 [.val d, .val (.int w)] = .ok (.v (.int r)) [.val d, .val (.int w)] := by
  have t1 : exS T (callF T m) (.set 2 (.call 11 [.var 0])) [.val d, .val (.int w), .un] = .ok .next [.val d, .val (.int w), .val dn] := st_v (ev_f1 (.inl (vaT rfl)) k11) rfl
  have c : evE T (callF T m) false (.call 17 [.var 2, .call 19 [.var 1]]) [.val d, .val (.int w), .val dn] = .ok (.v (.int r)) [.val d, .val (.int w), .val dn] :=
    ev_f2 (.inl (vaT rfl)) (.inl (ev_f1 (.inl (vaT rfl)) k19)) k17
  exact fnR (T := T) (F := f20) (as := [.val d, .val (.int w)]) rfl rfl ((bN t1).trans (bR (st_ret c)))
theorem q21 {r : Int} (k11 : callF T m 11 [.val d] = .ok (.v dn) a1) (k19 : callF T m 19 [.val (.int w)] = .ok (.v (.int w)) a2) (k17 : callF T m 18 [.val dn, .val (.int w)] = .ok (.v (.int r)) a3) :
    callF T (m+1) 21 [.val d, .val (.int w)] = .ok (.v (.int r)) [.val d, .val (.int w)] := by
  have t1 : exS T (callF T m) (.set 2 (.call 11 [.var 0])) [.val d, .val (.int w), .un] = .ok .next [.val d, .val (.int w), .val dn] := st_v (ev_f1 (.inl (vaT rfl)) k11) rfl
  have c : evE T (callF T m) false (.call 18 [.var 2, .call 19 [.var 1]]) [.val d, .val (.int w), .val dn] = .ok (.v (.int r)) [.val d, .val (.int w), .val dn] :=
    ev_f2 (.inl (vaT rfl)) (.inl (ev_f1 (.inl (vaT rfl)) k19)) k17
  exact fnR (T := T) (F := f21) (as := [.val d, .val (.int w)]) rfl rfl ((bN t1).trans (bR (st_ret c)))
theorem q22 {n : Int} (k11 : callF T m 11 [.val d] = .ok (.v dn) a1) (i0 : item dn (.int 0) = some x1) (la : biF .len [x1] = some (.v (.int n))) :
    callF T (m+1) 22 [.val d] = .ok (.v (.tup [.int n, .int 4])) [.val d] := by
  have t1 : exS T (callF T m) (.set 1 (.call 11 [.var 0])) [.val d, .un] = .ok .next [.val d, .val dn] := st_v (ev_f1 (.inl (vaT rfl)) k11) rfl
  have hv : evE T (callF T m) false (.var 1) [.val d, .val dn] = .ok (.v dn) [.val d, .val dn] := vaT rfl
  have c : evE T (callF T m) false (.tup [.bi .len [.ix (.var 1) (.int 0)], .int 4]) [.val d, .val dn] = .ok (.v (.tup [.int n, .int 4])) [.val d, .val dn] :=
    ev_tup (ds := [.int n, .int 4]) (eA1 (ev_b1 (.inl (ev_ix hv iT i0)) la) (eA1 iT eA0)) (by simp)
  exact fnR (T := T) (F := f22) (as := [.val d]) rfl rfl ((bN t1).trans (bR (st_ret c)))
theorem q25 {n : Int} (hw : w.natAbs < 2 ^ 64) (k11 : callF T m 11 [.val d] = .ok (.v dn) a1) (k19 : callF T m 19 [.val (.int w)] = .ok (.v (.int w)) a2) (i0 : item dn (.int 0) = some x1) (la : biF .len [x1] = some (.v (.int n))) :
    callF T (m+1) 25 [.val d, .val (.int w)] = .ok (.v (.int (w * n / 12))) [.val d, .val (.int w)] := by
  have t1 : exS T (callF T m) (.set 2 (.call 11 [.var 0])) [.val d, .val (.int w), .un] = .ok .next [.val d, .val (.int w), .val dn] := st_v (ev_f1 (.inl (vaT rfl)) k11) rfl
  have hv : evE T (callF T m) false (.var 2) [.val d, .val (.int w), .val dn] = .ok (.v dn) [.val d, .val (.int w), .val dn] := vaT rfl
  have c : evE T (callF T m) false (.bin .fdiv (.bin .mul (.call 19 [.var 1]) (.bi .len [.ix (.var 2) (.int 0)])) (.int 12)) [.val d, .val (.int w), .val dn] = .ok (.v (.int (w * n / 12))) [.val d, .val (.int w), .val dn] :=
    ev_div dvs.1 (ev_mul (mulL hw) (ev_f1 (.inl (vaT rfl)) k19) (ev_b1 (.inl (ev_ix hv iT i0)) la)) iT
  exact fnR (T := T) (F := f25) (as := [.val d, .val (.int w)]) rfl rfl ((bN t1).trans (bR (st_ret c)))
theorem q26 {r s : Int} (k11 : callF T m 11 [.val d] = .ok (.v dn) a1) (k19 : callF T m 19 [.val (.int w)] = .ok (.v (.int w)) a2) (k17 : callF T m 17 [.val dn, .val (.int w)] = .ok (.v (.int r)) a3) (k18 : callF T m 18 [.val dn, .val (.int w)] = .ok (.v (.int s)) a4) :
    callF T (m+1) 26 [.val d, .val (.int w)] = .ok (.v (.int (r - s))) [.val d, .val (.int w)] := by
  have t1 : exS T (callF T m) (.par [2, 3] [.call 11 [.var 0], .call 19 [.var 1]]) [.val d, .val (.int w), .un, .un] = .ok .next [.val d, .val (.int w), .val dn, .val (.int w)] := by
    rw [x_par, eA1 (ev_f1 (.inl (vaT rfl)) k11) (eA1 (ev_f1 (.inl (vaT rfl)) k19) eA0)]
    rfl
  have c : evE T (callF T m) false (.bin .sub (.call 17 [.var 2, .var 3]) (.call 18 [.var 2, .var 3])) [.val d, .val (.int w), .val dn, .val (.int w)] = .ok (.v (.int (r - s))) [.val d, .val (.int w), .val dn, .val (.int w)] :=
    ev_sub (ev_f2 (.inl (vaT rfl)) (.inl (vaT rfl)) k17) (ev_f2 (.inl (vaT rfl)) (.inl (vaT rfl)) k18)
  exact fnR (T := T) (F := f26) (as := [.val d, .val (.int w)]) rfl rfl ((bN t1).trans (bR (st_ret c)))
theorem q23 {q : Int} {ds : List D} (r : D → D) (k11 : callF T m 11 [.val d] = .ok (.v dn) a1) (k1 : callF T m 1 [.val (.int q), .val (.int 0), .val (.int 1000)] = .ok (.v (.bl true)) a2) (hr : rngD [.int 0, .int (q + 1), .int 2] = some ds) (hl : ds.length ≤ 1000)
    (hf : ∀ x ∈ ds, ∃ as, callF T m 17 [.val dn, .val x] = .ok (.v (r x)) as) : callF T (m+1) 23 [.val d, .val (.int q)] = .ok (.v (.tup (ds.map r))) [.val d, .val (.int q)] := by
  have t1 : exS T (callF T m) (.set 2 (.call 11 [.var 0])) [.val d, .val (.int q), .un, .un] = .ok .next [.val d, .val (.int q), .val dn, .un] := st_v (ev_f1 (.inl (vaT rfl)) k11) rfl
  have hv : evE T (callF T m) false (.var 1) [.val d, .val (.int q), .val dn, .un] = .ok (.v (.int q)) [.val d, .val (.int q), .val dn, .un] := vaT rfl
  have c1 : evE T (callF T m) false (.call 1 [.var 1, .int 0, .int 1000]) [.val d, .val (.int q), .val dn, .un] = .ok (.v (.bl true)) [.val d, .val (.int q), .val dn, .un] := ev_call (eA1 hv (eA1 iT (eA1 iT eA0))) rfl rfl k1
  have t2 : exS T (callF T m) (.if_ (.not_ (.call 1 [.var 1, .int 0, .int 1000])) [.raise_ 2] []) [.val d, .val (.int q), .val dn, .un] = .ok .next [.val d, .val (.int q), .val dn, .un] :=
    (st_ifF (ntrue (b := true) (tru (x := .non) c1))).trans (x_b0 ..)
  have hi : evI T (callF T m) (.rng [.int 0, .bin .add (.var 1) (.int 1), .int 2]) [.val d, .val (.int q), .val dn, .un] = .ok ds [.val d, .val (.int q), .val dn, .un] :=
    ev_rngV (vs := [.int 0, .int (q + 1), .int 2]) (eA1 iT (eA1 (ev_add hv iT) (eA1 iT eA0))) hr
  have hc := ev_compf (T := T) (cf := callF T m) (i := 3) (elt := .call 17 [.var 2, .var 3]) r hi (s := .un) rfl hl (fun x hx => by
    obtain ⟨as, k⟩ := hf x hx
    exact ev_f2 (e1 := [.val d, .val (.int q), .val dn, .val x]) (.inl (vaT rfl)) (.inl (vaT rfl)) k)
  exact fnR (T := T) (F := f23) (as := [.val d, .val (.int q)]) rfl rfl ((bN t1).trans ((bN t2).trans (bR (st_ret (ev_b1 (.inr hc) rfl)))))
theorem q24 {q : Int} {ds : List D} (r : D → D) (k11 : callF T m 11 [.val d] = .ok (.v dn) a1) (k1 : callF T m 1 [.val (.int q), .val (.int 0), .val (.int 1000)] = .ok (.v (.bl true)) a2) (hr : rngD [.int 0, .int (q + 1), .int 2] = some ds) (hl : ds.length ≤ 1000)
    (hf : ∀ x ∈ ds, ∃ as, callF T m 18 [.val dn, .val x] = .ok (.v (r x)) as) : callF T (m+1) 24 [.val d, .val (.int q)] = .ok (.v (.tup (ds.map r))) [.val d, .val (.int q)] := by
  have t1 : exS T (callF T m) (.set 2 (.call 11 [.var 0])) [.val d, .val (.int q), .un, .un] = .ok .next [.val d, .val (.int q), .val dn, .un] := st_v (ev_f1 (.inl (vaT rfl)) k11) rfl
  have hv : evE T (callF T m) false (.var 1) [.val d, .val (.int q), .val dn, .un] = .ok (.v (.int q)) [.val d, .val (.int q), .val dn, .un] := vaT rfl
  have c1 : evE T (callF T m) false (.call 1 [.var 1, .int 0, .int 1000]) [.val d, .val (.int q), .val dn, .un] = .ok (.v (.bl true)) [.val d, .val (.int q), .val dn, .un] := ev_call (eA1 hv (eA1 iT (eA1 iT eA0))) rfl rfl k1
  have t2 : exS T (callF T m) (.if_ (.not_ (.call 1 [.var 1, .int 0, .int 1000])) [.raise_ 2] []) [.val d, .val (.int q), .val dn, .un] = .ok .next [.val d, .val (.int q), .val dn, .un] :=
    (st_ifF (ntrue (b := true) (tru (x := .non) c1))).trans (x_b0 ..)
  have hi : evI T (callF T m) (.rng [.int 0, .bin .add (.var 1) (.int 1), .int 2]) [.val d, .val (.int q), .val dn, .un] = .ok ds [.val d, .val (.int q), .val dn, .un] :=
    ev_rngV (vs := [.int 0, .int (q + 1), .int 2]) (eA1 iT (eA1 (ev_add hv iT) (eA1 iT eA0))) hr
  have hc := ev_compf (T := T) (cf := callF T m) (i := 3) (elt := .call 18 [.var 2, .var 3]) r hi (s := .un) rfl hl (fun x hx => by
    obtain ⟨as, k⟩ := hf x hx
    exact ev_f2 (e1 := [.val d, .val (.int q), .val dn, .val x]) (.inl (vaT rfl)) (.inl (vaT rfl)) k)
  exact fnR (T := T) (F := f24) (as := [.val d, .val (.int q)]) rfl rfl ((bN t1).trans ((bN t2).trans (bR (st_ret (ev_b1 (.inr hc) rfl)))))
/-! the law's own sums -/
theorem q45 {n e2 e3 c h : Int} {wide : D} (b : biF .len [wide] = some (.v (.int c))) (hw : w.natAbs < 2 ^ 60) (he : w % 2 = 0) :
    callF T (m+1) 45 [.val (.tup [.int n, .int e2, .int e3, wide, .int h]), .val (.int w)] = .ok (.v (.int (fW h e2 e3 c w))) [.val (.tup [.int n, .int e2, .int e3, wide, .int h]), .val (.int w)] := by
  have t1 : exS T (callF T m) (.unp [2, 3, 4, 5, 6] (.var 0)) [.val (.tup [.int n, .int e2, .int e3, wide, .int h]), .val (.int w), .un, .un, .un, .un, .un] = .ok .next [.val (.tup [.int n, .int e2, .int e3, wide, .int h]), .val (.int w), .val (.int n), .val (.int e2), .val (.int e3), .val wide, .val (.int h)] :=
    st_unp (vaT rfl) rfl
  have hd : ∃ sh, sh = D.tup [.int n, .int e2, .int e3, wide, .int h] := ⟨_, rfl⟩
  obtain ⟨sh, hd⟩ := hd
  rw [← hd] at t1 ⊢
  have c1 := ev_lt (T := T) (cf := callF T m) (e := [.val sh, .val (.int w), .val (.int n), .val (.int e2), .val (.int e3), .val wide, .val (.int h)]) (x := .var 1) (y := .int 3) (vaT rfl) iT true
  have c2 := ev_lt (T := T) (cf := callF T m) (e := [.val sh, .val (.int w), .val (.int n), .val (.int e2), .val (.int e3), .val wide, .val (.int h)]) (x := .var 1) (y := .int 0) (vaT rfl) iT true
  have c3 := ev_eqi (T := T) (cf := callF T m) (e := [.val sh, .val (.int w), .val (.int n), .val (.int e2), .val (.int e3), .val wide, .val (.int h)]) (x := .var 1) (y := .int 0) (vaT rfl) iT true
  have hl : evE T (callF T m) false (.bi .len [.var 5]) [.val sh, .val (.int w), .val (.int n), .val (.int e2), .val (.int e3), .val wide, .val (.int h)] = .ok (.v (.int c)) [.val sh, .val (.int w), .val (.int n), .val (.int e2), .val (.int e3), .val wide, .val (.int h)] := ev_b1 (.inl (vaT rfl)) b
  unfold fW
  by_cases h3 : w < 3
  · rw [decide_eq_true h3] at c1
    have fin1 : ∀ r : Int, evE T (callF T m) false (.ite (.cmp .Lt (.var 1) (.int 0)) (.int 0) (.ite (.cmp .Eq (.var 1) (.int 0)) (.int 1) (.bin .sub (.bin .add (.var 6) (.bi .len [.var 5])) (.int 1)))) [.val sh, .val (.int w), .val (.int n), .val (.int e2), .val (.int e3), .val wide, .val (.int h)] = .ok (.v (.int r)) [.val sh, .val (.int w), .val (.int n), .val (.int e2), .val (.int e3), .val wide, .val (.int h)] →
        callF T (m+1) 45 [.val sh, .val (.int w)] = .ok (.v (.int r)) [.val sh, .val (.int w)] := fun r hr =>
      fnR (T := T) (F := f45) (as := [.val sh, .val (.int w)]) rfl rfl ((bN t1).trans (bR ((st_ifT c1).trans (bR (st_ret hr)))))
    by_cases h0 : w < 0
    · rw [if_pos (by omega), if_neg (by omega)]
      rw [decide_eq_true h0] at c2
      exact fin1 _ ((ev_ite c2).trans (iT (T := T) (cf := callF T m)))
    · rw [decide_eq_false h0] at c2
      by_cases hz : w = 0
      · rw [if_pos (by omega), if_pos hz]
        rw [decide_eq_true hz] at c3
        exact fin1 _ ((ev_ite c2).trans ((ev_ite c3).trans (iT (T := T) (cf := callF T m))))
      · rw [if_neg (by omega), if_pos (by omega)]
        rw [decide_eq_false hz] at c3
        exact fin1 _ ((ev_ite c2).trans ((ev_ite c3).trans (ev_sub (ev_add (vaT rfl) hl) iT)))
  · rw [decide_eq_false h3] at c1
    rw [if_neg (by omega), if_neg (by omega)]
    exact fnR (T := T) (F := f45) (as := [.val sh, .val (.int w)]) rfl rfl ((bN t1).trans ((bN ((st_ifF c1).trans (x_b0 ..))).trans (bR (st_ret (ev_gf hw (vaT rfl) (vaT rfl) (vaT rfl) (vaT rfl) hl (ev_div dvs.2.1 (vaT rfl) iT))))))
theorem q46 {e2 e3 c h : Int} {wide sh : D} (i4 : item sh (.int 4) = some (.int h)) (i3 : item sh (.int 3) = some wide) (b : biF .len [wide] = some (.v (.int c))) (he : w % 2 = 0) (k : callF T m 45 [.val sh, .val (.int w)] = .ok (.v (.int (fW h e2 e3 c w))) a1) :
    callF T (m+1) 46 [.val sh, .val (.int w)] = .ok (.v (.int (cW h e2 e3 c w))) [.val sh, .val (.int w)] := by
  have hs : evE T (callF T m) false (.var 0) [.val sh, .val (.int w)] = .ok (.v sh) [.val sh, .val (.int w)] := vaT rfl
  have hv : evE T (callF T m) false (.var 1) [.val sh, .val (.int w)] = .ok (.v (.int w)) [.val sh, .val (.int w)] := vaT rfl
  have c1 := ev_lt (y := .int 3) hv iT true
  have c2 := ev_lt (y := .int 2) hv iT true
  unfold cW
  generalize fW h e2 e3 c w = f at *
  by_cases h3 : w < 3
  · rw [decide_eq_true h3] at c1
    by_cases h2 : w < 2
    · rw [if_pos (by omega)]
      rw [decide_eq_true h2] at c2
      exact fnR (T := T) (F := f46) (as := [.val sh, .val (.int w)]) rfl rfl (bR ((st_ifT c1).trans (bR (st_ret ((ev_ite c2).trans (iT (T := T) (cf := callF T m)))))))
    · rw [if_neg (by omega), if_pos (by omega)]
      rw [decide_eq_false h2] at c2
      exact fnR (T := T) (F := f46) (as := [.val sh, .val (.int w)]) rfl rfl (bR ((st_ifT c1).trans (bR (st_ret ((ev_ite c2).trans (ev_ix hs iT i4))))))
  · rw [decide_eq_false h3] at c1
    rw [if_neg (by omega), if_neg (by omega)]
    exact fnR (T := T) (F := f46) (as := [.val sh, .val (.int w)]) rfl rfl ((bN ((st_ifF c1).trans (x_b0 ..))).trans (bR (st_ret (ev_sub (ev_f2 (.inl hs) (.inl hv) k) (ev_b1 (.inl (ev_ix hs iT i3)) b)))))
end
end PL.K20
end

section
set_option exponentiation.threshold 5000
namespace PL.K20
open PL PL.K00 PL.PM PySem PySem.Spec L2

def lenN : D → Nat
  | .tup xs => xs.length
  | _ => 0
theorem q43 {m : Nat} {dn x1 x2 l2 l3 : D} {n e2 e3 h : Int} {L : List D} {a1 a2 a3 a4 : List SV} (hL : rowsOk L) (hl : L.length ≤ 1000) (i0 : item dn (.int 0) = some x1) (i1 : item dn (.int 1) = some x2) (la : biF .len [x1] = some (.v (.int n)))
    (k1 : callF T m 41 [.val x1] = .ok (.t l2) a1) (k2 : callF T m 41 [.val x2] = .ok (.t l3) a2) (k3 : callF T m 40 [.val dn] = .ok (.t (.lst L)) a3) (k4 : callF T m 42 [.val dn] = .ok (.v (.int h)) a4)
    (b1 : biF .len [l2] = some (.v (.int e2))) (b2 : biF .len [l3] = some (.v (.int e3))) :
    ∃ wide, biF .len [wide] = some (.v (.int (L.length : Nat))) ∧ callF T (m+1) 43 [.val dn] = .ok (.v (.tup [.int n, .int e2, .int e3, wide, .int h])) [.val dn] := by
  have hi : evI T (callF T m) (.e (.call 40 [.var 0])) [.val dn, .un, .un] = .ok L [.val dn, .un, .un] := by
    rw [x_ie, ev_f1 (.inl (vaT rfl)) k3]; rfl
  have hc := ev_compf (T := T) (cf := callF T m) (i := 2) (elt := .bi .len [.var 2]) (fun d => D.int (lenN d)) hi (s := .un) rfl hl (fun x hx => by
    obtain ⟨xs, rfl, _⟩ := hL x hx
    exact ev_b1 (.inl (vaT rfl)) rfl)
  have hm : (L.map fun d => D.int (lenN d)) = (L.map fun d => (lenN d : Int)).map D.int := by rw [List.map_map]; rfl
  rw [hm] at hc
  generalize hk : (L.map fun d => (lenN d : Int)) = ks at hc
  have hkl : ks.length = L.length := by rw [← hk]; simp
  have hs : biF .sorted [.lst (ks.map D.int)] = some (.t (.lst ((isort ks).map D.int))) := by
    show (intsD _).map _ = _
    rw [intsD_mapI]; rfl
  have c2 := ev_b1 (.inr hc) hs
  have c3 : evE T (callF T m) false (.rev (.bi .sorted [.comp [2] (.e (.call 40 [.var 0])) (.nm 2) none (.bi .len [.var 2])])) [.val dn, .un, .un] = .ok (.t (.lst ((isort ks).map D.int).reverse)) [.val dn, .un, .un] := by
    rw [x_rev, c2]; rfl
  have c4 := ev_b1 (b := .tuple) (.inr c3) rfl
  have hw : biF .len [.tup ((isort ks).map D.int).reverse] = some (.v (.int (L.length : Nat))) := by
    show some (RV.v (.int ((((isort ks).map D.int).reverse).length : Nat))) = _
    rw [List.length_reverse, List.length_map, isort_len, hkl]
  generalize D.tup ((isort ks).map D.int).reverse = wide at c4 hw
  refine ⟨wide, hw, ?_⟩
  have t1 : exS T (callF T m) (.set 1 (.bi .tuple [.rev (.bi .sorted [.comp [2] (.e (.call 40 [.var 0])) (.nm 2) none (.bi .len [.var 2])])])) [.val dn, .un, .un] = .ok .next [.val dn, .val wide, .un] := st_v c4 rfl
  have e0 := ixD (m := m) (e := [.val dn, .val wide, .un]) (i := 0) rfl i0
  have e1 := ixD (m := m) (e := [.val dn, .val wide, .un]) (i := 1) rfl i1
  exact fnR (T := T) (F := f43) (as := [.val dn]) rfl rfl ((bN t1).trans (bR (st_ret (ev_tup (ds := [.int n, .int e2, .int e3, wide, .int h]) (eA1 (ev_b1 (.inl e0) la) (eA1 (ev_b1 (.inr (ev_f1 (.inl e0) k1)) b1) (eA1 (ev_b1 (.inr (ev_f1 (.inl e1) k2)) b2) (eA1 (vaT rfl) (eA1 (ev_f1 (.inl (vaT rfl)) k4) eA0))))) (by simp)))))
/-! at nets -/
def E2 (a : List Nat) : Int := ((fixp a).length : Nat)
noncomputable def CC (n : Nat) (a b : List Nat) : Int := (PL.K20.cc n a b : Nat)
noncomputable def nF (n : Nat) (a b : List Nat) (w : Int) : Int := fW (hh n a b) (E2 a) (E2 b) (CC n a b) w
noncomputable def nC (n : Nat) (a b : List Nat) (w : Int) : Int := cW (hh n a b) (E2 a) (E2 b) (CC n a b) w
theorem hh_eq (n : Nat) (a b : List Nat) : hh n a b = hI n (E2 a) (E2 b) (CC n a b) := rfl
theorem len_lst (L : List D) : biF .len [.lst L] = some (.v (.int (L.length : Nat))) := rfl
section
variable {n : Nat} {a b : List Nat}
theorem Nt.la' (h : Nt n a b) : biF .len [ot a] = some (.v (.int (n : Nat))) := by
  have := len_ot a
  rwa [h.la] at this
theorem Nt.s15 (h : Nt n a b) (m : Nat) : callF T (m+4) 15 [.val (nt a b)] = .ok (.v (.int (hh n a b))) [.val (nt a b)] := by
  have hle := h.le
  obtain ⟨L, k3, hl, _⟩ := h.sp13 m
  rw [hh_eq]
  exact q15 (item_nt0 a b) (item_nt1 a b) h.la' (sp14 (m+2) a (by rw [h.la]; omega)) (sp14 (m+2) b (by rw [h.lb]; omega)) k3 (len_ol _) (len_ol _) (by rw [len_lst, hl]; rfl)
theorem Nt.s42 (h : Nt n a b) (m : Nat) : callF T (m+4) 42 [.val (nt a b)] = .ok (.v (.int (hh n a b))) [.val (nt a b)] := by
  have hle := h.le
  obtain ⟨L, k3, hl, _⟩ := h.sp40 m
  rw [hh_eq]
  exact q42 (item_nt0 a b) (item_nt1 a b) h.la' (sp41 (m+2) a (by rw [h.la]; omega)) (sp41 (m+2) b (by rw [h.lb]; omega)) k3 (len_ol _) (len_ol _) (by rw [len_lst, hl]; rfl)
theorem Nt.s16 (h : Nt n a b) (m : Nat) : callF T (m+5) 16 [.val (nt a b)] = .ok (.v (.tup [.int (hh n a b), .int (E2 a), .int (E2 b), .int (CC n a b)])) [.val (nt a b)] := by
  have hle := h.le
  obtain ⟨L, k3, hl, _⟩ := h.sp13 (m+1)
  exact q16 (item_nt0 a b) (item_nt1 a b) (h.s15 m) (sp14 (m+3) a (by rw [h.la]; omega)) (sp14 (m+3) b (by rw [h.lb]; omega)) k3 (len_ol _) (len_ol _) (by rw [len_lst, hl]; rfl)
theorem Nt.s17 (h : Nt n a b) (m : Nat) (w : Int) (hw : w.natAbs < 2 ^ 60) : callF T (m+6) 17 [.val (nt a b), .val (.int w)] = .ok (.v (.int (nF n a b w))) [.val (nt a b), .val (.int w)] := q17 (h.s16 m) hw
theorem Nt.s18 (h : Nt n a b) (m : Nat) (w : Int) (hw : w.natAbs < 2 ^ 60) : callF T (m+7) 18 [.val (nt a b), .val (.int w)] = .ok (.v (.int (nC n a b w))) [.val (nt a b), .val (.int w)] := q18 (h.s16 (m+1)) (h.s17 m w hw)
theorem Nt.s20 (h : Nt n a b) (m : Nat) (d : D) (hd : d = nt a b ∨ d = nl a b) (w : Int) (h1 : -1000000 ≤ w) (h2 : w ≤ 1000000) (h3 : w % 2 = 0) : callF T (m+7) 20 [.val d, .val (.int w)] = .ok (.v (.int (nF n a b w))) [.val d, .val (.int w)] :=
  q20 (h.sp11 (m+1) d hd) (sp19 (m+3) w h1 h2 h3) (h.s17 m w (by omega))
theorem Nt.s21 (h : Nt n a b) (m : Nat) (d : D) (hd : d = nt a b ∨ d = nl a b) (w : Int) (h1 : -1000000 ≤ w) (h2 : w ≤ 1000000) (h3 : w % 2 = 0) : callF T (m+8) 21 [.val d, .val (.int w)] = .ok (.v (.int (nC n a b w))) [.val d, .val (.int w)] :=
  q21 (h.sp11 (m+2) d hd) (sp19 (m+4) w h1 h2 h3) (h.s18 m w (by omega))
theorem Nt.s26 (h : Nt n a b) (m : Nat) (d : D) (hd : d = nt a b ∨ d = nl a b) (w : Int) (h1 : -1000000 ≤ w) (h2 : w ≤ 1000000) (h3 : w % 2 = 0) : callF T (m+8) 26 [.val d, .val (.int w)] = .ok (.v (.int (nF n a b w - nC n a b w))) [.val d, .val (.int w)] :=
  q26 (h.sp11 (m+2) d hd) (sp19 (m+4) w h1 h2 h3) (h.s17 (m+1) w (by omega)) (h.s18 m w (by omega))
theorem Nt.s25 (h : Nt n a b) (m : Nat) (d : D) (hd : d = nt a b ∨ d = nl a b) (w : Int) (h1 : -1000000 ≤ w) (h2 : w ≤ 1000000) (h3 : w % 2 = 0) : callF T (m+6) 25 [.val d, .val (.int w)] = .ok (.v (.int (w * (n : Int) / 12))) [.val d, .val (.int w)] :=
  q25 (by omega) (h.sp11 m d hd) (sp19 (m+2) w h1 h2 h3) (item_nt0 a b) h.la'
theorem Nt.s22 (h : Nt n a b) (m : Nat) (d : D) (hd : d = nt a b ∨ d = nl a b) : callF T (m+6) 22 [.val d] = .ok (.v (.tup [.int (n : Int), .int 4])) [.val d] :=
  q22 (h.sp11 m d hd) (item_nt0 a b) h.la'
noncomputable def rF (n : Nat) (a b : List Nat) : D → D
  | .int w => .int (nF n a b w)
  | d => d
noncomputable def rC (n : Nat) (a b : List Nat) : D → D
  | .int w => .int (nC n a b w)
  | d => d
theorem Nt.s23 (h : Nt n a b) (m : Nat) (d : D) (hd : d = nt a b ∨ d = nl a b) (q : Int) (h1 : 0 ≤ q) (h2 : q ≤ 1000) {ds : List D} (hr : rngD [.int 0, .int (q + 1), .int 2] = some ds) (hl : ds.length ≤ 1000) (hx : ∀ d ∈ ds, ∃ w : Int, d = .int w ∧ 0 ≤ w ∧ w ≤ 3000) : callF T (m+7) 23 [.val d, .val (.int q)] = .ok (.v (.tup (ds.map (rF n a b)))) [.val d, .val (.int q)] :=
  q23 (rF n a b) (h.sp11 (m+1) d hd) (sp1w (m+4) q 0 1000 h1 h2) hr hl fun x hm => by
    obtain ⟨w, rfl, w1, w2⟩ := hx x hm
    exact ⟨_, h.s17 m w (by omega)⟩
theorem Nt.s24 (h : Nt n a b) (m : Nat) (d : D) (hd : d = nt a b ∨ d = nl a b) (q : Int) (h1 : 0 ≤ q) (h2 : q ≤ 1000) {ds : List D} (hr : rngD [.int 0, .int (q + 1), .int 2] = some ds) (hl : ds.length ≤ 1000) (hx : ∀ d ∈ ds, ∃ w : Int, d = .int w ∧ 0 ≤ w ∧ w ≤ 3000) : callF T (m+8) 24 [.val d, .val (.int q)] = .ok (.v (.tup (ds.map (rC n a b)))) [.val d, .val (.int q)] :=
  q24 (rC n a b) (h.sp11 (m+2) d hd) (sp1w (m+5) q 0 1000 h1 h2) hr hl fun x hm => by
    obtain ⟨w, rfl, w1, w2⟩ := hx x hm
    exact ⟨_, h.s18 m w (by omega)⟩
/-- the law's own shape of a net -/
theorem Nt.s43 (h : Nt n a b) (m : Nat) : ∃ wide, biF .len [wide] = some (.v (.int (CC n a b))) ∧ callF T (m+5) 43 [.val (nt a b)] = .ok (.v (.tup [.int (n : Int), .int (E2 a), .int (E2 b), wide, .int (hh n a b)])) [.val (nt a b)] := by
  have hle := h.le
  obtain ⟨L, k3, hl, hr⟩ := h.sp40 (m+1)
  have hb : cnt n (Cl n fun i => ap b (ap a i)) ≤ n := cnt_le
  have hb : PL.K20.cc n a b ≤ n := hb
  obtain ⟨wide, hw, k⟩ := q43 (m := m + 4) hr (by omega) (item_nt0 a b) (item_nt1 a b) h.la' (sp41 (m+3) a (by rw [h.la]; omega)) (sp41 (m+3) b (by rw [h.lb]; omega)) k3 (h.s42 m) (len_ol _) (len_ol _)
  exact ⟨wide, by rw [hw, hl]; rfl, k⟩
/-! what the sums come to -/
theorem Nt.eq12 (h : Nt n a b) : 0 ≤ hh n a b ∧ 12 * hh n a b = 12 + n - 3 * E2 a - 4 * E2 b - 6 * CC n a b := h.shape
theorem Nt.c_pos (h : Nt n a b) : 1 ≤ CC n a b := by
  have hp := h.pos
  have : 1 ≤ cnt n (Cl n fun i => ap b (ap a i)) := by
    unfold cnt
    exact List.length_pos_of_mem (a := 0) (by
      rw [List.mem_filter]
      refine ⟨List.mem_range.mpr hp, ?_⟩
      simp only [decide_eq_true_eq]
      exact fun j hj => absurd hj (by omega))
  show 1 ≤ ((PL.K20.cc n a b : Nat) : Int)
  have : 1 ≤ PL.K20.cc n a b := this
  omega
theorem E2_pos (a : List Nat) : 0 ≤ E2 a := by unfold E2; omega
end
theorem gf_step (h e2 e3 c w : Int) : gf h e2 e3 c (w + 12) = gf h e2 e3 c w + (12 * h - 12 + 3 * e2 + 4 * e3 + 6 * c) := by
  unfold gf
  have a1 : (w + 12) / 4 = w / 4 + 3 := by omega
  have a2 : (w + 12) / 3 = w / 3 + 4 := by omega
  have a3 : (w + 12) / 2 = w / 2 + 6 := by omega
  have a4 : w + 12 - 1 = (w - 1) + 12 := by omega
  rw [a1, a2, a3, a4, Int.add_mul, Int.add_mul, Int.add_mul, Int.add_mul]
  omega
/-- weights above 2 -/
theorem gf_all {n h e2 e3 c : Int} (hn : 1 ≤ n) (h0 : 0 ≤ h) (e20 : 0 ≤ e2) (e30 : 0 ≤ e3) (c1 : 1 ≤ c) (hs : 12 * h = 12 + n - 3 * e2 - 4 * e3 - 6 * c) :
    ∀ (k : Nat) (w : Int), 4 ≤ w → w % 2 = 0 → w ≤ 14 + 12 * (k : Int) → 0 ≤ gf h e2 e3 c w ∧ 0 ≤ gf h e2 e3 c w - c ∧ gf h e2 e3 c w ≤ w * n / 12 + 1
  | 0, w, h4, he, hk => by
    have : w = 4 ∨ w = 6 ∨ w = 8 ∨ w = 10 ∨ w = 12 ∨ w = 14 := by omega
    rcases this with rfl | rfl | rfl | rfl | rfl | rfl <;> (unfold gf; omega)
  | k + 1, w, h4, he, hk => by
    by_cases hw : w ≤ 14
    · exact gf_all hn h0 e20 e30 c1 hs 0 w h4 he (by omega)
    · obtain ⟨i1, i2, i3⟩ := gf_all hn h0 e20 e30 c1 hs k (w - 12) (by omega) (by omega) (by omega)
      have st := gf_step h e2 e3 c (w - 12)
      rw [show w - 12 + 12 = w from by omega] at st
      have e : w * n / 12 = (w - 12) * n / 12 + n := by
        have : w * n = (w - 12) * n + n * 12 := by
          rw [Int.sub_mul]; omega
        rw [this, Int.add_mul_ediv_right _ _ (by decide)]
      rw [st, e]
      generalize gf h e2 e3 c (w - 12) = g at *
      generalize (w - 12) * n / 12 = z at *
      omega
section
variable {n : Nat} {a b : List Nat}
theorem Nt.laws (h : Nt n a b) (w : Int) (he : w % 2 = 0) : 0 ≤ nF n a b w ∧ 0 ≤ nC n a b w ∧ (3 < w → nF n a b (w + 12) - nF n a b w = (n : Int) ∧ nF n a b w ≤ w * (n : Int) / 12 + 1) := by
  obtain ⟨h0, hs⟩ := h.eq12
  have c1 := h.c_pos
  have hp := h.pos
  have e1 := E2_pos a
  have e3 := E2_pos b
  unfold nF nC cW fW
  by_cases w0 : w ≤ 0
  · rw [if_pos w0, if_pos w0]
    refine ⟨by split <;> omega, by omega, fun _ => by omega⟩
  · rw [if_neg w0, if_neg w0]
    by_cases w2 : w = 2
    · rw [if_pos w2, if_pos w2]
      exact ⟨by omega, h0, fun _ => by omega⟩
    · rw [if_neg w2, if_neg w2, if_neg (by omega), if_neg (by omega)]
      obtain ⟨g1, g2, g3⟩ := gf_all (n := (n : Int)) (by omega) h0 e1 e3 c1 hs w.toNat w (by omega) he (by omega)
      refine ⟨g1, g2, fun _ => ⟨?_, g3⟩⟩
      rw [gf_step]
      generalize gf (hh n a b) (E2 a) (E2 b) (CC n a b) w = g at *
      omega
end
end PL.K20
end

section
set_option exponentiation.threshold 5000
namespace PL.K20
open PL PL.K00 PL.PM PySem PySem.Spec L2

theorem ol_app (F : List Nat) (y : Nat) : ol (F ++ [y]) = .lst (F.map nD ++ [nD y]) := by simp [ol]
/-! what is whole -/
def b37 : List S := [.if_ (.cmp .NotIn (.var 5) (.var 2)) [.ex (.app 2 (.var 5)), .ex (.app 3 (.var 5))] []]
def c37 : E := .cmp .NotEq (.var 3) (.lst [])
def B37 : List S := [.set 4 (.pop 3), .for_ (.nm 5) (.e (.tup [.ix (.var 0) (.var 4), .ix (.var 1) (.var 4)])) b37]
def adL (F L : List Nat) (y : Nat) : List Nat := if y ∈ F then L else L ++ [y]
section
variable {m : Nat} {A B s4 s5 : SV}
theorem st37 (F L : List Nat) (y : Nat) (lF : F.length ≤ 900000) (lL : L.length ≤ 900000) : exB T (callF T m) b37 [A, B, .own (ol F), .own (ol L), s4, .val (nD y)] = .ok .next [A, B, .own (ol (addN F y)), .own (ol (adL F L y)), s4, .val (nD y)] := by
  have c := ev_cmpC (T := T) (cf := callF T m) (e := [A, B, .own (ol F), .own (ol L), s4, .val (nD y)]) (o := .NotIn) (x := .var 5) (y := .var 2) (CV.v (vaT rfl)) (CV.own rfl) (notin_ol F y) true
  unfold addN adL
  by_cases h : y ∈ F
  · rw [decide_eq_false (fun z => z h)] at c
    rw [if_pos h, if_pos h]
    exact (bN ((st_ifF c).trans (x_b0 ..))).trans (x_b0 ..)
  · rw [decide_eq_true h] at c
    rw [if_neg h, if_neg h, ol_app, ol_app]
    have t1 : exS T (callF T m) (.ex (.app 2 (.var 5))) [A, B, .own (ol F), .own (ol L), s4, .val (nD y)] = .ok .next [A, B, .own (.lst (F.map nD ++ [nD y])), .own (ol L), s4, .val (nD y)] := st_app (xs := F.map nD) rfl (vaT rfl) (by rw [List.length_map]; omega)
    have t2 : exS T (callF T m) (.ex (.app 3 (.var 5))) [A, B, .own (.lst (F.map nD ++ [nD y])), .own (ol L), s4, .val (nD y)] = .ok .next [A, B, .own (.lst (F.map nD ++ [nD y])), .own (.lst (L.map nD ++ [nD y])), s4, .val (nD y)] := st_app (xs := L.map nD) rfl (vaT rfl) (by rw [List.length_map]; omega)
    exact (bN ((st_ifT c).trans ((bN t1).trans ((bN t2).trans (x_b0 ..))))).trans (x_b0 ..)
theorem fo37 (F L : List Nat) (y : Nat) (lF : F.length ≤ 900000) (lL : L.length ≤ 900000) (k5 : Fre s5) :
    (opt (asg (.nm 5) (nD y) [A, B, .own (ol F), .own (ol L), s4, s5]) fun e1 => exB T (callF T m) b37 e1) = .ok .next [A, B, .own (ol (addN F y)), .own (ol (adL F L y)), s4, .val (nD y)] := by
  have ha : asg (.nm 5) (nD y) [A, B, .own (ol F), .own (ol L), s4, s5] = some [A, B, .own (ol F), .own (ol L), s4, .val (nD y)] := by
    rcases k5 with rfl | ⟨_, rfl⟩ | ⟨_, rfl⟩ <;> rfl
  rw [ha]
  exact st37 F L y lF lL
end
section
variable {m n : Nat} {a b : List Nat}
structure W37 (n : Nat) (f g : Nat → Nat) (F L : List Nat) : Prop where
  nd : F.Nodup
  lt : ∀ x ∈ F, x < n
  rc : ∀ x ∈ F, Rch n f g x
  sb : ∀ x ∈ L, x ∈ F
theorem W37.add {f g : Nat → Nat} {F L : List Nat} {y : Nat} (h : W37 n f g F L) (hy : y < n) (hr : Rch n f g y) : W37 n f g (addN F y) (adL F L y) ∧ 2 * (n - (addN F y).length) + (adL F L y).length ≤ 2 * (n - F.length) + L.length ∧ ∀ x ∈ F, x ∈ addN F y := by
  obtain ⟨b1, b2, b3, b4, b5, b6⟩ := addN_ok h.nd h.lt hy
  have bl := nodup_le n _ b1 b2
  unfold adL
  by_cases q : y ∈ F
  · have : addN F y = F := by unfold addN; rw [if_pos q]
    rw [this, if_pos q]
    exact ⟨h, Nat.le_refl _, fun _ z => z⟩
  · have e : addN F y = F ++ [y] := by unfold addN; rw [if_neg q]
    rw [if_neg q]
    refine ⟨⟨b1, b2, fun x hx => ?_, fun x hx => ?_⟩, ?_, b4⟩
    · rw [e] at hx
      rcases List.mem_append.mp hx with z | z
      · exact h.rc x z
      · have : x = y := by simpa using z
        rw [this]; exact hr
    · rcases List.mem_append.mp hx with z | z
      · exact b4 _ (h.sb x z)
      · have : x = y := by simpa using z
        rw [this]; exact b3
    · rw [e] at bl ⊢
      simp at bl ⊢
      omega
theorem lp37 (ha : a.length = n) (hb : b.length = n) (fa : ∀ i, i < n → ap a i < n) (fb : ∀ i, i < n → ap b i < n) (hn : n ≤ 240) (w : Nat) :
    ∀ (M : Nat) (F L : List Nat) (s4 s5 : SV), M ≤ 1000 → W37 n (ap a) (ap b) F L → 2 * (n - F.length) + L.length ≤ M → Fre s4 → Fre s5 →
      ∃ F' s4' s5', W37 n (ap a) (ap b) F' [] ∧ whL (fun e => toB (evE T (callF T m) true c37 e)) (fun e => exB T (callF T m) B37 e) (M + (w + 1)) [.bor (ol a), .bor (ol b), .own (ol F), .own (ol L), s4, s5] = .ok .next [.bor (ol a), .bor (ol b), .own (ol F'), .own (ol []), s4', s5'] := by
  intro M
  induction M with
  | zero =>
    intro F L s4 s5 _ hw hm k4 k5
    have hL : L = [] := List.length_eq_zero_iff.mp (by omega)
    subst hL
    refine ⟨F, s4, s5, hw, ?_⟩
    rw [Nat.zero_add]
    refine wh_end (toB_v (b := false) ?_)
    refine ev_cmpC (CV.own rfl) (CV.t (ev_lst (ds := []) eA0 (by simp))) ?_ true
    show (eqD (.lst []) (.lst [])).map not = _
    rfl
  | succ M ih =>
    intro F L s4 s5 hM hw hm k4 k5
    by_cases hL : L = []
    · subst hL
      refine ⟨F, s4, s5, hw, ?_⟩
      rw [show M + 1 + (w + 1) = (M + 1 + w) + 1 from by omega]
      refine wh_end (toB_v (b := false) ?_)
      refine ev_cmpC (CV.own rfl) (CV.t (ev_lst (ds := []) eA0 (by simp))) ?_ true
      show (eqD (.lst []) (.lst [])).map not = _
      rfl
    · obtain ⟨L0, x, rfl⟩ : ∃ L0 x, L = L0 ++ [x] := ⟨L.dropLast, L.getLast hL, (List.dropLast_concat_getLast hL).symm⟩
      have xF : x ∈ F := hw.sb x (by simp)
      have xn := hw.lt x xF
      have xr := hw.rc x xF
      have h0 : W37 n (ap a) (ap b) F L0 := ⟨hw.nd, hw.lt, hw.rc, fun y hy => hw.sb y (by simp [hy])⟩
      obtain ⟨h1, m1, u1⟩ := h0.add (fa x xn) (Rch.f xr)
      obtain ⟨h2, m2, u2⟩ := h1.add (fb x xn) (Rch.g xr)
      have lF := nodup_le n F hw.nd hw.lt
      have l1 := nodup_le n _ h1.nd h1.lt
      have hl : (L0 ++ [x]).length = L0.length + 1 := by simp
      obtain ⟨F', s4', s5', hF', hr⟩ := ih (addN (addN F (ap a x)) (ap b x)) (adL (addN F (ap a x)) (adL F L0 (ap a x)) (ap b x)) (.val (nD x)) (.val (nD (ap b x))) (by omega) h2 (by omega) (Fre.val _) (Fre.val _)
      refine ⟨F', s4', s5', hF', ?_⟩
      rw [← hr, show M + 1 + (w + 1) = (M + (w + 1)) + 1 from by omega]
      refine wh_step (toB_v (b := true) (ev_cmpC (CV.own rfl) (CV.t (ev_lst (ds := []) eA0 (by simp))) ?_ true)) ?_
      · show (eqD (ol (L0 ++ [x])) (.lst [])).map not = _
        have : ol (L0 ++ [x]) = .lst (((L0 ++ [x]).map fun (k : Nat) => (k : Int)).map D.int) := by unfold ol; rw [map_nD]
        rw [this, show D.lst [] = .lst (([] : List Int).map D.int) from rfl, eqD_li]
        simp
      · have t1 : exS T (callF T m) (.set 4 (.pop 3)) [.bor (ol a), .bor (ol b), .own (ol F), .own (ol (L0 ++ [x])), s4, s5] = .ok .next [.bor (ol a), .bor (ol b), .own (ol F), .own (ol L0), .val (nD x), s5] := by
          rw [st_v (ev_pop (xs := L0.map nD) (d := nD x) (by rw [ol_app]; rfl)) (setOk_fre (i := 4) rfl k4)]
          rfl
        have i1 : item (ol a) (nD x) = some (nD (ap a x)) := item_ol (by omega)
        have i2 : item (ol b) (nD x) = some (nD (ap b x)) := item_ol (by omega)
        have g1 := ev_ixC (T := T) (cf := callF T m) (e := [.bor (ol a), .bor (ol b), .own (ol F), .own (ol L0), .val (nD x), s5]) (x := .var 0) (i := .var 4) (CV.bor rfl) (CV.v (vaT rfl)) i1
        have g2 := ev_ixC (T := T) (cf := callF T m) (e := [.bor (ol a), .bor (ol b), .own (ol F), .own (ol L0), .val (nD x), s5]) (x := .var 1) (i := .var 4) (CV.bor rfl) (CV.v (vaT rfl)) i2
        have hi : evI T (callF T m) (.e (.tup [.ix (.var 0) (.var 4), .ix (.var 1) (.var 4)])) [.bor (ol a), .bor (ol b), .own (ol F), .own (ol L0), .val (nD x), s5] = .ok [nD (ap a x), nD (ap b x)] [.bor (ol a), .bor (ol b), .own (ol F), .own (ol L0), .val (nD x), s5] := by
          rw [x_ie, ev_tup (ds := [nD (ap a x), nD (ap b x)]) (eA1 g1 (eA1 g2 eA0)) (by simp)]
          rfl
        have f1 := fo37 (m := m) (A := .bor (ol a)) (B := .bor (ol b)) (s4 := .val (nD x)) F L0 (ap a x) (by omega) (by omega) k5
        have f2 := fo37 (m := m) (A := .bor (ol a)) (B := .bor (ol b)) (s4 := .val (nD x)) (addN F (ap a x)) (adL F L0 (ap a x)) (ap b x) (by omega) (by omega) (Fre.val (nD (ap a x)))
        have t2 : exS T (callF T m) (.for_ (.nm 5) (.e (.tup [.ix (.var 0) (.var 4), .ix (.var 1) (.var 4)])) b37) [.bor (ol a), .bor (ol b), .own (ol F), .own (ol L0), .val (nD x), s5] = .ok .next [.bor (ol a), .bor (ol b), .own (ol (addN (addN F (ap a x)) (ap b x))), .own (ol (adL (addN F (ap a x)) (adL F L0 (ap a x)) (ap b x))), .val (nD x), .val (nD (ap b x))] := by
          rw [x_for, hi]
          simp only [bd_ok]
          rw [forL_cons, f1]
          simp only [bd_ok]
          rw [forL_cons, f2]
          simp only [bd_ok, forL_nil]
        exact (bN t1).trans ((bN t2).trans (x_b0 ..))
theorem sp37 (ha : a.length = n) (hb : b.length = n) (fa : ∀ i, i < n → ap a i < n) (fb : ∀ i, i < n → ap b i < n) (hn : n ≤ 240) (hp : 0 < n) (m : Nat) :
    ∃ k : Bool, (k = true → ∀ i, i < n → Rch n (ap a) (ap b) i) ∧ callF T (m+1) 37 [.bor (ol a), .bor (ol b)] = .ok (.v (.bl k)) [.bor (ol a), .bor (ol b)] := by
  have h0 : W37 n (ap a) (ap b) [0] [0] := ⟨by simp, fun x hx => by have : x = 0 := by simpa using hx
                                                                    omega, fun x hx => by have : x = 0 := by simpa using hx
                                                                                          rw [this]; exact .z, fun x hx => hx⟩
  obtain ⟨F, s4, s5, hF, hw⟩ := lp37 (m := m) ha hb fa fb hn (99999 - 500) 500 [0] [0] .un .un (by omega) h0 (by simp; omega) Fre.un Fre.un
  have t1 : exS T (callF T m) (.par [2, 3] [.lst [.int 0], .lst [.int 0]]) [.bor (ol a), .bor (ol b), .un, .un, .un, .un] = .ok .next [.bor (ol a), .bor (ol b), .own (ol [0]), .own (ol [0]), .un, .un] := by
    refine st_par (eA1 (ev_lst (ds := [.int 0]) (eA1 iT eA0) (by simp)) (eA1 (ev_lst (ds := [.int 0]) (eA1 iT eA0) (by simp)) eA0)) rfl rfl
  have t2 : exS T (callF T m) (.wh c37 B37) [.bor (ol a), .bor (ol b), .own (ol [0]), .own (ol [0]), .un, .un] = .ok .next [.bor (ol a), .bor (ol b), .own (ol F), .own (ol []), s4, s5] := by
    rw [x_wh]; exact hw
  have lF : biF .len [ol F] = some (.v (.int (F.length : Nat))) := len_ol F
  have lA : biF .len [ol a] = some (.v (.int (a.length : Nat))) := len_ol a
  have c := ev_eqi (T := T) (cf := callF T m) (e := [.bor (ol a), .bor (ol b), .own (ol F), .own (ol []), s4, s5]) (ev_biC (CV.own (i := 2) rfl) lF) (ev_biC (CV.bor (i := 0) rfl) lA) false
  refine ⟨decide ((F.length : Int) = (a.length : Int)), fun hk i hi => ?_, fnR (T := T) (F := f37) (as := [.bor (ol a), .bor (ol b)]) rfl rfl ((bN t1).trans ((bN t2).trans (bR (st_ret c))))⟩
  have e := of_decide_eq_true hk
  have s := stay_len n F hF.nd hF.lt
  have : i ∈ F := Classical.byContradiction fun q => by
    have m1 : i ∈ (List.range n).filter fun i => decide (i ∉ F) := by
      rw [List.mem_filter]; exact ⟨List.mem_range.mpr hi, decide_eq_true q⟩
    have := List.length_pos_of_mem m1
    omega
  exact hF.rc i this
end
end PL.K20
end

section
set_option exponentiation.threshold 5000
namespace PL.K20
open PL PL.K00 PL.PM PySem PySem.Spec L2

theorem sp28w (n : Nat) (x y z b : Int) (hb : 0 < b) (hb' : b ≤ 4000) (hz0 : 0 ≤ z) (hz : z ≤ 1000000) :
    ∃ r x' z', 0 ≤ r ∧ r < b ∧ 0 ≤ z' ∧ z' ≤ z + 1 ∧ callF T (n+1) 28 [.bor (tinD x y z), .val (.int b)] = .ok (.v (.int r)) [.bor (tinD x' y z'), .val (.int b)] := by
  rw [x_callF T n 28 _ (F := f28) rfl rfl]
  have dv : divOk b = true := by
    have : b.natAbs.log2 < 9000 := Nat.lt_of_lt_of_le ((Nat.log2_lt (by omega)).mpr (show b.natAbs < 2 ^ 12 by omega)) (by decide)
    unfold divOk
    rw [decide_eq_true hb, decide_eq_true this]; rfl
  by_cases h : 0 < x
  · refine ⟨x % b, x / b, z, Int.emod_nonneg _ (by omega), Int.emod_lt_of_pos _ hb, hz0, by omega, ?_⟩
    simp [f28, h, tinD, hb, dv, lstAt, mineD, sixE, upS, intD, ixN]
  · have d1 : divOk 1000003 = true := by decide +kernel
    have d2 : divOk 64 = true := by decide +kernel
    have m1 : mulOk 48271 (z + 1) = true := mulOk_l (by decide)
    have m2 : mulOk (y + 48271 * (z + 1)) (39373 + (z + 1)) = true := mulOk_r (by omega)
    generalize ho : (y + 48271 * (z + 1)) * (39373 + (z + 1)) % 2147483647 = o
    have o1 : 0 ≤ o := by rw [← ho]; exact Int.emod_nonneg _ (by decide)
    have m3 : mulOk (o + (z + 1) + y / 1000003) (o % 40009 + 7) = true := mulOk_r (by omega)
    generalize ht : (o + (z + 1) + y / 1000003) * (o % 40009 + 7) % 2147483629 = t
    have m4 : mulOk t 48271 = true := mulOk_r (by decide)
    refine ⟨((t * 48271 + o) % 2147483587 / 64) % b, x, z + 1, Int.emod_nonneg _ (by omega), Int.emod_lt_of_pos _ hb, by omega, by omega, ?_⟩
    simp [f28, h, tinD, hb, dv, lstAt, mineD, sixE, upS, intD, ixN, m1, m2, ho, d1, d2, m3, ht, m4]
/-! picked ones -/
def b30 : S := .ex (.app 4 (.popat 3 (.call 28 [.var 0, .bi .len [.var 3]])))
theorem ev_popat {T : GT} {cf : Nat → List SV → CO} {e e1 : EV} {i : Nat} {a : E} {xs : List D} {k : Nat} {d : D} (hl : lstAt e i = true) (ha : evE T cf false a e = .ok (.v (.int (k : Int))) e1) (h : e1[i]? = some (.own (.lst xs))) (hk : k < xs.length) (hb : k < 1000000) (hd : xs[k]? = some d) :
    evE T cf false (.popat i a) e = .ok (.v d) (e1.set i (.own (.lst (xs.eraseIdx k)))) := by
  rw [evE]
  rw [if_pos hl, ha]
  have e1' : (decide (-(2 ^ 63) ≤ (k : Int)) && decide ((k : Int) < 2 ^ 63)) = true := by
    rw [decide_eq_true (by omega), decide_eq_true (by omega)]; rfl
  have e2' : ixN xs.length (k : Int) = some k := by
    unfold ixN
    simp
    omega
  simp only [bd_ok, x_cont_v, Option.bind, intD, opt, mine_own' h]
  rw [if_pos e1']
  simp only [e2', hd, tst_false]
  rw [upS_own h]
theorem st_app2 {T : GT} {cf : Nat → List SV → CO} {e e1 : EV} {i : Nat} {a : E} {d : D} {xs : List D} (hL : lstAt e i = true) (ha : evE T cf false a e = .ok (.v d) e1) (h : e1[i]? = some (.own (.lst xs))) (hl : xs.length < 1000000) : exS T cf (.ex (.app i a)) e = .ok .next (e1.set i (.own (.lst (xs ++ [d])))) := by
  rw [x_ex, x_app, hL, if_pos rfl, ha]
  simp only [bd_ok, x_frz_v, opt, mine_own' h]
  rw [if_pos (show xs.length < sizeL by unfold sizeL; omega), tst_false, upS_own h]
  rfl
theorem perm_erase : ∀ (P : List Nat) (k : Nat) (h : k < P.length), (P[k] :: P.eraseIdx k).Perm P
  | p :: P, 0, h => List.Perm.refl _
  | p :: P, k + 1, h => by
    have h' : k < P.length := by simpa using h
    show (P[k] :: p :: P.eraseIdx k).Perm (p :: P)
    exact (List.Perm.swap p P[k] _).trans (List.Perm.cons p (perm_erase P k h'))
theorem erase_map (f : Nat → D) : ∀ (P : List Nat) (k : Nat), (P.eraseIdx k).map f = (P.map f).eraseIdx k
  | [], _ => rfl
  | p :: P, 0 => rfl
  | p :: P, k + 1 => by
    show f p :: (P.eraseIdx k).map f = f p :: (P.map f).eraseIdx k
    rw [erase_map f P k]
theorem pick_step {F P P0 : List Nat} {k : Nat} (h : (F ++ P).Perm P0) (hk : k < P.length) : ((F ++ [P[k]]) ++ P.eraseIdx k).Perm P0 := by
  rw [List.append_assoc]
  exact (List.Perm.append_left F (perm_erase P k hk)).trans h
section
variable {m : Nat}
theorem st30 (x y z : Int) (g c s5 : SV) (F P : List Nat) (hz0 : 0 ≤ z) (hz : z ≤ 1000000) (hP : 0 < P.length) (lP : P.length ≤ 300) (lF : F.length ≤ 300) :
    ∃ k x' z', ∃ hk : k < P.length, 0 ≤ z' ∧ z' ≤ z + 1 ∧ exS T (callF T (m+1)) b30 [.bor (tinD x y z), g, c, .own (ol P), .own (ol F), s5] = .ok .next [.bor (tinD x' y z'), g, c, .own (ol (P.eraseIdx k)), .own (ol (F ++ [P[k]])), s5] := by
  obtain ⟨r, x', z', r0, r1, z0, z1, h28⟩ := sp28w m x y z (P.length : Nat) (by omega) (by omega) hz0 hz
  obtain ⟨k, rfl⟩ : ∃ k : Nat, r = k := ⟨r.toNat, by omega⟩
  have hk : k < P.length := by omega
  refine ⟨k, x', z', hk, z0, z1, ?_⟩
  have lp : biF .len [ol P] = some (.v (.int (P.length : Nat))) := len_ol P
  have hl := ev_biC (T := T) (cf := callF T (m+1)) (e := [.bor (tinD x y z), g, c, .own (ol P), .own (ol F), s5]) (b := .len) (CV.own (i := 3) rfl) lp
  have hc := ev_chb (T := T) (cf := callF T (m+1)) (e := [.bor (tinD x y z), g, c, .own (ol P), .own (ol F), s5]) (i := 0) rfl (eA1 hl eA0) rfl rfl h28
  have hp := ev_popat (T := T) (cf := callF T (m+1)) (i := 3) (xs := P.map nD) (d := nD P[k]) rfl hc rfl (by rw [List.length_map]; exact hk) (by omega) (by rw [List.getElem?_map, List.getElem?_eq_getElem hk]; rfl)
  have h := st_app2 (T := T) (cf := callF T (m+1)) (i := 4) (xs := F.map nD) rfl hp rfl (by rw [List.length_map]; omega)
  refine h.trans ?_
  rw [ol_app]
  have : ol (P.eraseIdx k) = .lst ((P.map nD).eraseIdx k) := by unfold ol; rw [erase_map]
  rw [this]
  rfl
theorem lp30 {y : Int} {P0 : List Nat} (g c : SV) (l0 : P0.length ≤ 300) : ∀ (ds : List D) (x z : Int) (F P : List Nat) (s5 : SV), P.length = ds.length → (F ++ P).Perm P0 → 0 ≤ z → z + ds.length ≤ 1000000 → Fre s5 →
    ∃ L x' z' s5', L.Perm P0 ∧ 0 ≤ z' ∧ z' ≤ z + ds.length ∧ forL (fun d e => opt (asg (.nm 5) d e) fun e1 => exB T (callF T (m+1)) [b30] e1) ds [.bor (tinD x y z), g, c, .own (ol P), .own (ol F), s5] = .ok .next [.bor (tinD x' y z'), g, c, .own (ol []), .own (ol L), s5']
  | [], x, z, F, P, s5, hl, hp, z0, hz, k5 => by
    have : P = [] := List.length_eq_zero_iff.mp (by simpa using hl)
    subst this
    rw [List.append_nil] at hp
    exact ⟨F, x, z, s5, hp, z0, by simp, rfl⟩
  | d :: ds, x, z, F, P, s5, hl, hp, z0, hz, k5 => by
    have hlen := hp.length_eq
    rw [List.length_append] at hlen
    rw [List.length_cons] at hl hz
    obtain ⟨k, x1, z1, hk, a0, a1, hs⟩ := st30 (m := m) x y z g c (.val d) F P z0 (by omega) (by omega) (by omega) (by omega)
    obtain ⟨L, x2, z2, s5', hL, b0, b1, hr⟩ := lp30 g c l0 ds x1 z1 (F ++ [P[k]]) (P.eraseIdx k) (.val d) (by rw [List.length_eraseIdx, if_pos hk]; omega) (pick_step hp hk) a0 (by omega) (Fre.val d)
    refine ⟨L, x2, z2, s5', hL, b0, by rw [List.length_cons]; omega, ?_⟩
    have ha : asg (.nm 5) d [.bor (tinD x y z), g, c, .own (ol P), .own (ol F), s5] = some [.bor (tinD x y z), g, c, .own (ol P), .own (ol F), .val d] := by
      rcases k5 with rfl | ⟨_, rfl⟩ | ⟨_, rfl⟩ <;> rfl
    rw [forL_cons, ha]
    simp only [opt]
    rw [bN hs, x_b0]
    simp only [bd_ok]
    exact hr
theorem sp30 (m : Nat) (x y z : Int) (P0 : List Nat) (n : Nat) (hn : P0.length = n) (l0 : n ≤ 300) (hz0 : 0 ≤ z) (hz : z ≤ 900000) :
    ∃ L x' z', L.Perm P0 ∧ 0 ≤ z' ∧ z' ≤ z + n ∧ callF T (m+2) 30 [.bor (tinD x y z), .val (ol P0), .val (.int n)] = .ok (.t (ol L)) [.bor (tinD x' y z'), .val (ol P0), .val (.int n)] := by
  obtain ⟨L, x', z', s5, hL, a0, a1, hw⟩ := lp30 (m := m) (y := y) (P0 := P0) (.val (ol P0)) (.val (.int n)) (by omega) ((List.range n).map nD) x z [] P0 .un (by simp [hn]) (List.Perm.refl _) hz0 (by simp; omega) Fre.un
  rw [List.length_map, List.length_range] at a1
  refine ⟨L, x', z', hL, a0, a1, ?_⟩
  have c1 := ev_b1 (T := T) (cf := callF T (m+1)) (e := [.bor (tinD x y z), .val (ol P0), .val (.int n), .un, .un, .un]) (b := .list) (a := .var 1) (r := .t (ol P0)) (.inl (vaT rfl)) rfl
  have t1 : exS T (callF T (m+1)) (.par [3, 4] [.bi .list [.var 1], .lst []]) [.bor (tinD x y z), .val (ol P0), .val (.int n), .un, .un, .un] = .ok .next [.bor (tinD x y z), .val (ol P0), .val (.int n), .own (ol P0), .own (ol []), .un] :=
    st_par (eA1 c1 (eA1 (ev_lst (ds := []) eA0 (by simp)) eA0)) rfl rfl
  have lp : biF .len [ol P0] = some (.v (.int (n : Int))) := by rw [len_ol, hn]
  have c2 := ev_b1 (T := T) (cf := callF T (m+1)) (e := [.bor (tinD x y z), .val (ol P0), .val (.int n), .own (ol P0), .own (ol []), .un]) (b := .int1) (a := .var 2) (r := .v (.int n)) (.inl (vaT rfl)) rfl
  have c3 := ev_biC (T := T) (cf := callF T (m+1)) (e := [.bor (tinD x y z), .val (ol P0), .val (.int n), .own (ol P0), .own (ol []), .un]) (b := .len) (CV.own (i := 3) rfl) lp
  have c4 : evE T (callF T (m+1)) false (.bi .min2 [.bi .int1 [.var 2], .bi .len [.var 3]]) [.bor (tinD x y z), .val (ol P0), .val (.int n), .own (ol P0), .own (ol []), .un] = .ok (.v (.int n)) [.bor (tinD x y z), .val (ol P0), .val (.int n), .own (ol P0), .own (ol []), .un] := by
    rw [x_bi, eA1 c2 (eA1 c3 eA0)]
    simp only [bd_ok, x_conts1, x_conts0, x_cont_v, Option.bind, Option.map, opt, tst_false]
    have hb : biF .min2 [.int (n : Int), .int (n : Int)] = some (.v (.int n)) := by
      show some (RV.v (.int (if (n : Int) < (n : Int) then (n : Int) else (n : Int)))) = _
      simp
    simp only [hb]
  have hi := ev_rngV (T := T) (cf := callF T (m+1)) (vs := [.int n]) (eA1 c4 eA0) (rng_nD n (by omega))
  have t2 : exS T (callF T (m+1)) (.for_ (.nm 5) (.rng [.bi .min2 [.bi .int1 [.var 2], .bi .len [.var 3]]]) [b30]) [.bor (tinD x y z), .val (ol P0), .val (.int n), .own (ol P0), .own (ol []), .un] = .ok .next [.bor (tinD x' y z'), .val (ol P0), .val (.int n), .own (ol []), .own (ol L), s5] := by
    rw [x_for, hi]
    simp only [bd_ok]
    exact hw
  have t3 : exS T (callF T (m+1)) (.ret (.var 4)) [.bor (tinD x' y z'), .val (ol P0), .val (.int n), .own (ol []), .own (ol L), s5] = .ok (.ret (.t (ol L))) [.bor (tinD x' y z'), .val (ol P0), .val (.int n), .own (ol []), .un, s5] := by
    rw [x_ret, vaO (d := ol L) rfl]; rfl
  exact fnRt (T := T) (F := f30) (as := [.bor (tinD x y z), .val (ol P0), .val (.int n)]) rfl rfl ((bN t1).trans ((bN t2).trans (bR t3)))
end
end PL.K20
end

section
set_option exponentiation.threshold 5000
namespace PL.K20
open PL PL.K00 PL.PM PySem PySem.Spec L2

/-! stores -/
theorem six_ol {e : EV} {i : Nat} {A : List Nat} {x : Nat} (y : Nat) (h : e[i]? = some (.own (ol A))) (hx : x < A.length) : sixE e i (nD x) (nD y) = some (e.set i (.own (ol (A.set x y)))) := by
  unfold sixE
  rw [mine_own' h]
  have e2 : ixN (A.map nD).length (x : Int) = some x := by
    unfold ixN
    simp
    omega
  have e3 : (A.map nD).set x (nD y) = (A.set x y).map nD := by rw [List.map_set]
  show ((intD (nD x)).bind fun z => (ixN (A.map nD).length z).map fun j => upS e i (.lst ((A.map nD).set j (nD y)))) = _
  show ((ixN (A.map nD).length (x : Int)).map fun j => upS e i (.lst ((A.map nD).set j (nD y)))) = _
  rw [e2]
  show some (upS e i (.lst ((A.map nD).set x (nD y)))) = _
  rw [e3, upS_own h]; rfl
theorem lst_own' {e : EV} {i : Nat} {A : List Nat} (h : e[i]? = some (.own (ol A))) : (lstAt e i || dkAt e i) = true := by
  have : lstAt e i = true := by unfold lstAt; rw [mine_own' h]; rfl
  rw [this]; rfl
theorem ap_set {A : List Nat} {x y : Nat} (hx : x < A.length) (i : Nat) : ap (A.set x y) i = if i = x then y else ap A i := by
  unfold ap
  rw [List.getD_eq_getElem?_getD, List.getD_eq_getElem?_getD, List.getElem?_set]
  by_cases h : x = i
  · subst h; simp [hx]
  · rw [if_neg h, if_neg (fun z => h z.symm)]
/-! pairs -/
structure I2 (n : Nat) (A L : List Nat) (ps : List (Nat × Nat)) : Prop where
  la : A.length = n
  nd : (flat2 ps ++ L).Nodup
  lt : ∀ x ∈ flat2 ps ++ L, x < n
  ef : ap A = fms ps fun i => i
theorem flat2_app (ps qs : List (Nat × Nat)) : flat2 (ps ++ qs) = flat2 ps ++ flat2 qs := by unfold flat2; rw [List.flatMap_append]
theorem I2.drop {n : Nat} {A L : List Nat} {x y : Nat} {ps : List (Nat × Nat)} (h : I2 n A (x :: y :: L) ps) : I2 n A L ps := by
  have sl : (flat2 ps ++ L).Sublist (flat2 ps ++ x :: y :: L) := List.Sublist.append_left (((List.Sublist.refl L).cons y).cons x) _
  exact ⟨h.la, h.nd.sublist sl, fun z hz => h.lt z (sl.subset hz), h.ef⟩
theorem I2.swap {n : Nat} {A L : List Nat} {x y : Nat} {ps : List (Nat × Nat)} (h : I2 n A (x :: y :: L) ps) : I2 n ((A.set x y).set y x) L (ps ++ [(x, y)]) := by
  have e : flat2 (ps ++ [(x, y)]) ++ L = flat2 ps ++ x :: y :: L := by rw [flat2_app, List.append_assoc]; rfl
  have xn : x < n := h.lt x (by simp)
  have yn : y < n := h.lt y (by simp)
  have nd := h.nd
  rw [List.nodup_append] at nd
  obtain ⟨n1, n2, n3⟩ := nd
  have xy : x ≠ y := fun q => by
    subst q
    simp at n2
  have fx := (two_at ps (fun i => i) n1 fun _ _ => rfl).1 x (fun q => n3 x q x (by simp) rfl)
  have fy := (two_at ps (fun i => i) n1 fun _ _ => rfl).1 y (fun q => n3 y q y (by simp) rfl)
  refine ⟨by simp [h.la], by rw [e]; exact h.nd, fun z hz => h.lt z (by rwa [e] at hz), ?_⟩
  funext i
  rw [ap_set (by rw [List.length_set, h.la]; exact yn), ap_set (by rw [h.la]; exact xn), fms_app, h.ef]
  show _ = sw x y (fms ps fun i => i) i
  unfold sw
  by_cases i1 : i = x
  · subst i1
    rw [if_neg xy, if_pos rfl, if_pos rfl, fy]
  · by_cases i2 : i = y
    · subst i2
      rw [if_pos rfl, if_neg i1, if_pos rfl, fx]
    · rw [if_neg i2, if_neg i1, if_neg i1, if_neg i2]
/-! threes -/
structure I3 (n : Nat) (A L : List Nat) (ts : List (Nat × Nat × Nat)) : Prop where
  la : A.length = n
  nd : (flat3 ts ++ L).Nodup
  lt : ∀ x ∈ flat3 ts ++ L, x < n
  ef : ap A = fms (ms3 ts) fun i => i
theorem flat3_app (ps qs : List (Nat × Nat × Nat)) : flat3 (ps ++ qs) = flat3 ps ++ flat3 qs := by unfold flat3; rw [List.flatMap_append]
theorem ms3_app (ps qs : List (Nat × Nat × Nat)) : ms3 (ps ++ qs) = ms3 ps ++ ms3 qs := by unfold ms3; rw [List.flatMap_append]
theorem I3.drop {n : Nat} {A L : List Nat} {x y z : Nat} {ts : List (Nat × Nat × Nat)} (h : I3 n A (x :: y :: z :: L) ts) : I3 n A L ts := by
  have sl : (flat3 ts ++ L).Sublist (flat3 ts ++ x :: y :: z :: L) := List.Sublist.append_left ((((List.Sublist.refl L).cons z).cons y).cons x) _
  exact ⟨h.la, h.nd.sublist sl, fun z hz => h.lt z (sl.subset hz), h.ef⟩
theorem I3.turn {n : Nat} {A L : List Nat} {x y z : Nat} {ts : List (Nat × Nat × Nat)} (h : I3 n A (x :: y :: z :: L) ts) : I3 n (((A.set x y).set y z).set z x) L (ts ++ [(x, y, z)]) := by
  have e : flat3 (ts ++ [(x, y, z)]) ++ L = flat3 ts ++ x :: y :: z :: L := by rw [flat3_app, List.append_assoc]; rfl
  have xn : x < n := h.lt x (by simp)
  have yn : y < n := h.lt y (by simp)
  have zn : z < n := h.lt z (by simp)
  have nd := h.nd
  rw [List.nodup_append] at nd
  obtain ⟨n1, n2, n3⟩ := nd
  rw [List.nodup_cons, List.nodup_cons] at n2
  have xy : x ≠ y := fun q => n2.1 (by simp [q])
  have xz : x ≠ z := fun q => n2.1 (by simp [q])
  have yz : y ≠ z := fun q => n2.2.1 (by simp [q])
  have ft := (three_at ts (fun i => i) n1 fun _ _ => rfl).1
  have fx := ft x (fun q => n3 x q x (by simp) rfl)
  have fy := ft y (fun q => n3 y q y (by simp) rfl)
  have fz := ft z (fun q => n3 z q z (by simp) rfl)
  refine ⟨by simp [h.la], by rw [e]; exact h.nd, fun z hz => h.lt z (by rwa [e] at hz), ?_⟩
  funext i
  rw [ap_set (by rw [List.length_set, List.length_set, h.la]; exact zn), ap_set (by rw [List.length_set, h.la]; exact yn), ap_set (by rw [h.la]; exact xn), ms3_app, fms_app, h.ef]
  show _ = sw x y (sw x z (fms (ms3 ts) fun i => i)) i
  unfold sw
  by_cases i1 : i = x
  · subst i1
    rw [if_neg xz, if_neg xy, if_pos rfl, if_pos rfl, if_neg (Ne.symm xy), if_neg yz, fy]
  · by_cases i2 : i = y
    · subst i2
      rw [if_neg yz, if_pos rfl, if_neg i1, if_pos rfl, if_pos rfl, fz]
    · by_cases i3 : i = z
      · subst i3
        rw [if_pos rfl, if_neg i1, if_neg i2, if_neg i1, if_pos rfl, fx]
      · rw [if_neg i3, if_neg i2, if_neg i1, if_neg i1, if_neg i2, if_neg i1, if_neg i3]
/-! the loop of pairs -/
abbrev EN (t s2 : SV) (n : Nat) (A B L : List Nat) (s7 s8 s9 : SV) : EV := [t, .val (.int 18), s2, .val (nD n), .own (ol A), .own (ol B), .own (ol L), s7, s8, s9]
def c2 : E := .cmp .Gt (.bi .len [.var 6]) (.int 1)
def i2 : S := .if_ (.cmp .Gt (.call 28 [.var 0, .int 5]) (.int 0)) [.unpx [(4, .var 7), (4, .var 8)] (.tup [.var 8, .var 7])] []
def B2 : List S := [.par [7, 8, 6] [.ix (.var 6) (.int 0), .ix (.var 6) (.int 1), .sl (.var 6) (some (.int 2)) none], i2]
def c3 : E := .cmp .Gt (.bi .len [.var 6]) (.int 2)
def i3 : S := .if_ (.cmp .Gt (.call 28 [.var 0, .int 6]) (.int 0)) [.unpx [(5, .var 7), (5, .var 8), (5, .var 9)] (.tup [.var 8, .var 9, .var 7])] []
def B3 : List S := [.par [7, 8, 9, 6] [.ix (.var 6) (.int 0), .ix (.var 6) (.int 1), .ix (.var 6) (.int 2), .sl (.var 6) (some (.int 3)) none], i3]
theorem sl_ol (L : List Nat) (k : Nat) : sliceD (ol L) (some (k : Int)) none = some (.t (ol (L.drop k))) := by
  show some (RV.t (.lst (cutD (L.map nD) (some (k : Int)) none))) = _
  rw [cut_fromN, ← List.map_drop]; rfl
section
variable {m n : Nat} {s2 s7 s8 s9 t : SV} {A B L : List Nat}
theorem len6 (k : Int) : evE T (callF T m) true (.cmp .Gt (.bi .len [.var 6]) (.int k)) (EN t s2 n A B L s7 s8 s9) = .ok (.v (.bl (decide (k < (L.length : Int))))) (EN t s2 n A B L s7 s8 s9) :=
  ev_gt (ev_biC (CV.own rfl) (len_ol L)) iT true
theorem pa2 {x y : Nat} (k7 : Fre s7) (k8 : Fre s8) : exS T (callF T m) (.par [7, 8, 6] [.ix (.var 6) (.int 0), .ix (.var 6) (.int 1), .sl (.var 6) (some (.int 2)) none]) (EN t s2 n A B (x :: y :: L) s7 s8 s9) = .ok .next (EN t s2 n A B L (.val (nD x)) (.val (nD y)) s9) := by
  have h0 := ev_ixC (T := T) (cf := callF T m) (e := EN t s2 n A B (x :: y :: L) s7 s8 s9) (x := .var 6) (i := .int 0) (r := nD x) (CV.own rfl) (CV.v iT) (by
    have := item_ol (p := x :: y :: L) (k := 0) (by simp)
    exact this)
  have h1 := ev_ixC (T := T) (cf := callF T m) (e := EN t s2 n A B (x :: y :: L) s7 s8 s9) (x := .var 6) (i := .int 1) (r := nD y) (CV.own rfl) (CV.v iT) (by
    have := item_ol (p := x :: y :: L) (k := 1) (by simp)
    exact this)
  have h2 := ev_slC (T := T) (cf := callF T m) (e := EN t s2 n A B (x :: y :: L) s7 s8 s9) (x := .var 6) (k := 2) (CV.own rfl) (sl_ol _ 2)
  refine st_par (eA1 h0 (eA1 h1 (eA1 h2 eA0))) rfl ?_
  rcases k7 with rfl | ⟨_, rfl⟩ | ⟨_, rfl⟩ <;> rcases k8 with rfl | ⟨_, rfl⟩ | ⟨_, rfl⟩ <;> rfl
theorem un2 {x y : Nat} (hx : x < A.length) (hy : y < A.length) : exS T (callF T m) (.unpx [(4, .var 7), (4, .var 8)] (.tup [.var 8, .var 7])) (EN t s2 n A B L (.val (nD x)) (.val (nD y)) s9) = .ok .next (EN t s2 n ((A.set x y).set y x) B L (.val (nD x)) (.val (nD y)) s9) := by
  rw [x_unpx, ev_tup (ds := [nD y, nD x]) (eA1 (vaT rfl) (eA1 (vaT rfl) eA0)) (by simp)]
  simp only [bd_ok, x_cont_v, opt]
  rw [if_pos (show [nD y, nD x].length = [((4 : Nat), E.var 7), (4, E.var 8)].length from rfl), x_stX1, lst_own' (A := A) rfl, if_pos rfl, vaT (d := nD x) rfl]
  simp only [bd_ok, x_cont_v, opt]
  rw [six_ol (A := A) y rfl hx]
  simp only []
  rw [x_stX1, lst_own' (A := A.set x y) rfl, if_pos rfl, vaT (d := nD y) rfl]
  simp only [bd_ok, x_cont_v, opt]
  rw [six_ol (A := A.set x y) x rfl (by rw [List.length_set]; exact hy)]
  rfl
theorem pa3 {x y z : Nat} (k7 : Fre s7) (k8 : Fre s8) (k9 : Fre s9) : exS T (callF T m) (.par [7, 8, 9, 6] [.ix (.var 6) (.int 0), .ix (.var 6) (.int 1), .ix (.var 6) (.int 2), .sl (.var 6) (some (.int 3)) none]) (EN t s2 n A B (x :: y :: z :: L) s7 s8 s9) = .ok .next (EN t s2 n A B L (.val (nD x)) (.val (nD y)) (.val (nD z))) := by
  have h0 := ev_ixC (T := T) (cf := callF T m) (e := EN t s2 n A B (x :: y :: z :: L) s7 s8 s9) (x := .var 6) (i := .int 0) (r := nD x) (CV.own rfl) (CV.v iT) (by
    have := item_ol (p := x :: y :: z :: L) (k := 0) (by simp)
    exact this)
  have h1 := ev_ixC (T := T) (cf := callF T m) (e := EN t s2 n A B (x :: y :: z :: L) s7 s8 s9) (x := .var 6) (i := .int 1) (r := nD y) (CV.own rfl) (CV.v iT) (by
    have := item_ol (p := x :: y :: z :: L) (k := 1) (by simp)
    exact this)
  have h1' := ev_ixC (T := T) (cf := callF T m) (e := EN t s2 n A B (x :: y :: z :: L) s7 s8 s9) (x := .var 6) (i := .int 2) (r := nD z) (CV.own rfl) (CV.v iT) (by
    have := item_ol (p := x :: y :: z :: L) (k := 2) (by simp)
    exact this)
  have h2 := ev_slC (T := T) (cf := callF T m) (e := EN t s2 n A B (x :: y :: z :: L) s7 s8 s9) (x := .var 6) (k := 3) (CV.own rfl) (sl_ol _ 3)
  refine st_par (eA1 h0 (eA1 h1 (eA1 h1' (eA1 h2 eA0)))) rfl ?_
  rcases k7 with rfl | ⟨_, rfl⟩ | ⟨_, rfl⟩ <;> rcases k8 with rfl | ⟨_, rfl⟩ | ⟨_, rfl⟩ <;> rcases k9 with rfl | ⟨_, rfl⟩ | ⟨_, rfl⟩ <;> rfl
theorem un3 {x y z : Nat} (hx : x < B.length) (hy : y < B.length) (hz : z < B.length) : exS T (callF T m) (.unpx [(5, .var 7), (5, .var 8), (5, .var 9)] (.tup [.var 8, .var 9, .var 7])) (EN t s2 n A B L (.val (nD x)) (.val (nD y)) (.val (nD z))) = .ok .next (EN t s2 n A (((B.set x y).set y z).set z x) L (.val (nD x)) (.val (nD y)) (.val (nD z))) := by
  rw [x_unpx, ev_tup (ds := [nD y, nD z, nD x]) (eA1 (vaT rfl) (eA1 (vaT rfl) (eA1 (vaT rfl) eA0))) (by simp)]
  simp only [bd_ok, x_cont_v, opt]
  rw [if_pos (show [nD y, nD z, nD x].length = [((5 : Nat), E.var 7), (5, E.var 8), (5, E.var 9)].length from rfl), x_stX1, lst_own' (A := B) rfl, if_pos rfl, vaT (d := nD x) rfl]
  simp only [bd_ok, x_cont_v, opt]
  rw [six_ol (A := B) y rfl hx]
  simp only []
  rw [x_stX1, lst_own' (A := B.set x y) rfl, if_pos rfl, vaT (d := nD y) rfl]
  simp only [bd_ok, x_cont_v, opt]
  rw [six_ol (A := B.set x y) z rfl (by rw [List.length_set]; exact hy)]
  simp only []
  rw [x_stX1, lst_own' (A := (B.set x y).set y z) rfl, if_pos rfl, vaT (d := nD z) rfl]
  simp only [bd_ok, x_cont_v, opt]
  rw [six_ol (A := (B.set x y).set y z) x rfl (by rw [List.length_set, List.length_set]; exact hz)]
  rfl
end
section
variable {m n : Nat} {s2 : SV} {y : Int}
theorem lp2 (w : Nat) {B : List Nat} {s9 : SV} : ∀ (N : Nat) (A L : List Nat) (ps : List (Nat × Nat)) (x z : Int) (s7 s8 : SV), L.length ≤ N → I2 n A L ps → 0 ≤ z → z + L.length ≤ 1000000 → Fre s7 → Fre s8 →
    ∃ A' L' ps' x' z' s7' s8', I2 n A' L' ps' ∧ 0 ≤ z' ∧ z' ≤ z + L.length ∧ Fre s7' ∧ Fre s8' ∧
      whL (fun e => toB (evE T (callF T (m+1)) true c2 e)) (fun e => exB T (callF T (m+1)) B2 e) (N + (w + 1)) (EN (.bor (tinD x y z)) s2 n A B L s7 s8 s9) = .ok .next (EN (.bor (tinD x' y z')) s2 n A' B L' s7' s8' s9) := by
  intro N
  induction N with
  | zero =>
    intro A L ps x z s7 s8 hN h z0 hz k7 k8
    refine ⟨A, L, ps, x, z, s7, s8, h, z0, by omega, k7, k8, ?_⟩
    rw [Nat.zero_add]
    have c := len6 (m := m + 1) (n := n) (s2 := s2) (s7 := s7) (s8 := s8) (s9 := s9) (t := .bor (tinD x y z)) (A := A) (B := B) (L := L) 1
    rw [decide_eq_false (by omega)] at c
    exact wh_end (toB_v (b := false) c)
  | succ N ih =>
    intro A L ps x z s7 s8 hN h z0 hz k7 k8
    have c := len6 (m := m + 1) (n := n) (s2 := s2) (s7 := s7) (s8 := s8) (s9 := s9) (t := .bor (tinD x y z)) (A := A) (B := B) (L := L) 1
    match L, h, c, hN, hz with
    | [], h, c, hN, hz =>
      refine ⟨A, [], ps, x, z, s7, s8, h, z0, by simp, k7, k8, ?_⟩
      rw [show N + 1 + (w + 1) = (N + 1 + w) + 1 from by omega]
      exact wh_end (toB_v (b := false) c)
    | [a], h, c, hN, hz =>
      refine ⟨A, [a], ps, x, z, s7, s8, h, z0, by simp; omega, k7, k8, ?_⟩
      rw [show N + 1 + (w + 1) = (N + 1 + w) + 1 from by omega]
      exact wh_end (toB_v (b := false) c)
    | a :: b :: L, h, c, hN, hz =>
      simp only [List.length_cons] at hN hz
      rw [decide_eq_true (by simp only [List.length_cons]; omega)] at c
      obtain ⟨r, x1, z1, r0, r1, a0, a1, h28⟩ := sp28w m x y z 5 (by decide) (by decide) z0 (by omega)
      have t1 := pa2 (m := m + 1) (n := n) (s2 := s2) (s9 := s9) (t := .bor (tinD x y z)) (A := A) (B := B) (L := L) (x := a) (y := b) k7 k8
      have hg := ev_gt (T := T) (cf := callF T (m+1)) (ev_chb (e := EN (.bor (tinD x y z)) s2 n A B L (.val (nD a)) (.val (nD b)) s9) (i := 0) (g := 28) (es := [.int 5]) rfl (eA1 iT eA0) rfl rfl h28) (iT (i := 0)) true
      by_cases hr : 0 < r
      · rw [decide_eq_true hr] at hg
        obtain ⟨A', L', ps', x', z', s7', s8', g1, g2, g3, g4, g5, g6⟩ := ih ((A.set a b).set b a) L (ps ++ [(a, b)]) x1 z1 (.val (nD a)) (.val (nD b)) (by omega) h.swap a0 (by omega) (Fre.val _) (Fre.val _)
        refine ⟨A', L', ps', x', z', s7', s8', g1, g2, by simp only [List.length_cons]; omega, g4, g5, ?_⟩
        rw [← g6, show N + 1 + (w + 1) = (N + (w + 1)) + 1 from by omega]
        refine wh_step (toB_v (b := true) c) ((bN t1).trans ((bN (s := i2) ((st_ifT hg).trans ((bN (un2 (m := m + 1) ?_ ?_)).trans (x_b0 ..)))).trans (x_b0 ..)))
        · rw [h.la]; exact h.lt a (by simp)
        · rw [h.la]; exact h.lt b (by simp)
      · rw [decide_eq_false hr] at hg
        obtain ⟨A', L', ps', x', z', s7', s8', g1, g2, g3, g4, g5, g6⟩ := ih A L ps x1 z1 (.val (nD a)) (.val (nD b)) (by omega) h.drop a0 (by omega) (Fre.val _) (Fre.val _)
        refine ⟨A', L', ps', x', z', s7', s8', g1, g2, by simp only [List.length_cons]; omega, g4, g5, ?_⟩
        rw [← g6, show N + 1 + (w + 1) = (N + (w + 1)) + 1 from by omega]
        exact wh_step (toB_v (b := true) c) ((bN t1).trans ((bN (s := i2) ((st_ifF hg).trans (x_b0 ..))).trans (x_b0 ..)))
theorem lp3 (w : Nat) {A : List Nat} : ∀ (N : Nat) (B L : List Nat) (ts : List (Nat × Nat × Nat)) (x z : Int) (s7 s8 s9 : SV), L.length ≤ N → I3 n B L ts → 0 ≤ z → z + L.length ≤ 1000000 → Fre s7 → Fre s8 → Fre s9 →
    ∃ B' L' ts' x' z' s7' s8' s9', I3 n B' L' ts' ∧ 0 ≤ z' ∧ z' ≤ z + L.length ∧ Fre s7' ∧ Fre s8' ∧ Fre s9' ∧
      whL (fun e => toB (evE T (callF T (m+1)) true c3 e)) (fun e => exB T (callF T (m+1)) B3 e) (N + (w + 1)) (EN (.bor (tinD x y z)) s2 n A B L s7 s8 s9) = .ok .next (EN (.bor (tinD x' y z')) s2 n A B' L' s7' s8' s9') := by
  intro N
  induction N with
  | zero =>
    intro B L ts x z s7 s8 s9 hN h z0 hz k7 k8 k9
    refine ⟨B, L, ts, x, z, s7, s8, s9, h, z0, by omega, k7, k8, k9, ?_⟩
    rw [Nat.zero_add]
    have c := len6 (m := m + 1) (n := n) (s2 := s2) (s7 := s7) (s8 := s8) (s9 := s9) (t := .bor (tinD x y z)) (A := A) (B := B) (L := L) 2
    rw [decide_eq_false (by omega)] at c
    exact wh_end (toB_v (b := false) c)
  | succ N ih =>
    intro B L ts x z s7 s8 s9 hN h z0 hz k7 k8 k9
    have c := len6 (m := m + 1) (n := n) (s2 := s2) (s7 := s7) (s8 := s8) (s9 := s9) (t := .bor (tinD x y z)) (A := A) (B := B) (L := L) 2
    match L, h, c, hN, hz with
    | [], h, c, hN, hz =>
      refine ⟨B, [], ts, x, z, s7, s8, s9, h, z0, by simp, k7, k8, k9, ?_⟩
      rw [show N + 1 + (w + 1) = (N + 1 + w) + 1 from by omega]
      exact wh_end (toB_v (b := false) c)
    | [a], h, c, hN, hz =>
      refine ⟨B, [a], ts, x, z, s7, s8, s9, h, z0, by simp; omega, k7, k8, k9, ?_⟩
      rw [show N + 1 + (w + 1) = (N + 1 + w) + 1 from by omega]
      exact wh_end (toB_v (b := false) c)
    | [a, b], h, c, hN, hz =>
      refine ⟨B, [a, b], ts, x, z, s7, s8, s9, h, z0, by simp; omega, k7, k8, k9, ?_⟩
      rw [show N + 1 + (w + 1) = (N + 1 + w) + 1 from by omega]
      exact wh_end (toB_v (b := false) c)
    | a :: b :: d :: L, h, c, hN, hz =>
      simp only [List.length_cons] at hN hz
      rw [decide_eq_true (by simp only [List.length_cons]; omega)] at c
      obtain ⟨r, x1, z1, r0, r1, a0, a1, h28⟩ := sp28w m x y z 6 (by decide) (by decide) z0 (by omega)
      have t1 := pa3 (m := m + 1) (n := n) (s2 := s2) (t := .bor (tinD x y z)) (A := A) (B := B) (L := L) (x := a) (y := b) (z := d) k7 k8 k9
      have hg := ev_gt (T := T) (cf := callF T (m+1)) (ev_chb (e := EN (.bor (tinD x y z)) s2 n A B L (.val (nD a)) (.val (nD b)) (.val (nD d))) (i := 0) (g := 28) (es := [.int 6]) rfl (eA1 iT eA0) rfl rfl h28) (iT (i := 0)) true
      by_cases hr : 0 < r
      · rw [decide_eq_true hr] at hg
        obtain ⟨B', L', ts', x', z', s7', s8', s9', g1, g2, g3, g4, g5, g6, g7⟩ := ih (((B.set a b).set b d).set d a) L (ts ++ [(a, b, d)]) x1 z1 (.val (nD a)) (.val (nD b)) (.val (nD d)) (by omega) h.turn a0 (by omega) (Fre.val _) (Fre.val _) (Fre.val _)
        refine ⟨B', L', ts', x', z', s7', s8', s9', g1, g2, by simp only [List.length_cons]; omega, g4, g5, g6, ?_⟩
        rw [← g7, show N + 1 + (w + 1) = (N + (w + 1)) + 1 from by omega]
        refine wh_step (toB_v (b := true) c) ((bN t1).trans ((bN (s := i3) ((st_ifT hg).trans ((bN (un3 (m := m + 1) ?_ ?_ ?_)).trans (x_b0 ..)))).trans (x_b0 ..)))
        · rw [h.la]; exact h.lt a (by simp)
        · rw [h.la]; exact h.lt b (by simp)
        · rw [h.la]; exact h.lt d (by simp)
      · rw [decide_eq_false hr] at hg
        obtain ⟨B', L', ts', x', z', s7', s8', s9', g1, g2, g3, g4, g5, g6, g7⟩ := ih B L ts x1 z1 (.val (nD a)) (.val (nD b)) (.val (nD d)) (by omega) h.drop a0 (by omega) (Fre.val _) (Fre.val _) (Fre.val _)
        refine ⟨B', L', ts', x', z', s7', s8', s9', g1, g2, by simp only [List.length_cons]; omega, g4, g5, g6, ?_⟩
        rw [← g7, show N + 1 + (w + 1) = (N + (w + 1)) + 1 from by omega]
        exact wh_step (toB_v (b := true) c) ((bN t1).trans ((bN (s := i3) ((st_ifF hg).trans (x_b0 ..))).trans (x_b0 ..)))
end
end PL.K20
end

section
set_option exponentiation.threshold 5000
namespace PL.K20
open PL PL.K00 PL.PM PySem PySem.Spec L2

def b38 : List S := [.set 3 (.bin .add (.int 1) (.call 28 [.var 0, .var 1])), .par [4, 5] [.lrg false (.var 3), .lrg false (.var 3)], .set 6 (.call 30 [.var 0, .lrg false (.var 3), .var 3]), .wh c2 B2, .set 6 (.call 30 [.var 0, .lrg false (.var 3), .var 3]), .wh c3 B3, .if_ (.call 37 [.var 4, .var 5]) [.ret (.tup [.bi .tuple [.var 4], .bi .tuple [.var 5]])] []]
abbrev E38 (t s2 s3 s4 s5 s6 s7 s8 s9 : SV) : EV := [t, .val (.int 18), s2, s3, s4, s5, s6, s7, s8, s9]
def St (y z : Int) (e : EV) : Prop := ∃ x s2 s3 s4 s5 s6 s7 s8 s9, e = E38 (.bor (tinD x y z)) s2 s3 s4 s5 s6 s7 s8 s9 ∧ Fre s2 ∧ Fre s3 ∧ Fre s4 ∧ Fre s5 ∧ Fre s6 ∧ Fre s7 ∧ Fre s8 ∧ Fre s9
theorem rgI_nD (n : Nat) : D.lst (rgI (n : Int)) = ol (List.range n) := by
  unfold rgI ol
  rw [Int.toNat_natCast]
  congr 1
  apply List.map_congr_left
  intro k _
  show D.int (0 + (k : Int)) = .int (k : Int)
  rw [Int.zero_add]
theorem evLrg {cf : Nat → List SV → CO} {e : EV} {n i : Nat} (h : e[i]? = some (.val (nD n))) (hn : n ≤ 1000) : evE T cf false (.lrg false (.var i)) e = .ok (.t (ol (List.range n))) e := by
  rw [x_lrg, vaT h]
  simp only [bd_ok, x_cont_v, Option.bind, opt, tst_false]
  show (if (decide (-(2 ^ 62) ≤ (n : Int)) && decide ((n : Int) ≤ 16777216)) = true then _ else _) = _
  rw [if_pos (by rw [decide_eq_true (by omega), decide_eq_true (by omega)]; rfl), rgI_nD]
  rfl
theorem ap_range (n : Nat) : ap (List.range n) = fun i => i := by
  funext i
  unfold ap
  rw [List.getD_eq_getElem?_getD]
  by_cases h : i < n
  · rw [List.getElem?_range h]; rfl
  · rw [List.getElem?_eq_none (by rw [List.length_range]; omega)]; rfl
section
variable {m n : Nat} {y : Int} {s2 s7 s8 s9 : SV} {A B L : List Nat}
theorem pick38 (x z : Int) {s6 : SV} (k6 : Fre s6) (hn : n ≤ 300) (hz0 : 0 ≤ z) (hz : z ≤ 900000) : ∃ L x' z', L.Perm (List.range n) ∧ 0 ≤ z' ∧ z' ≤ z + n ∧
    exS T (callF T (m+2)) (.set 6 (.call 30 [.var 0, .lrg false (.var 3), .var 3])) (E38 (.bor (tinD x y z)) s2 (.val (nD n)) (.own (ol A)) (.own (ol B)) s6 s7 s8 s9) = .ok .next (EN (.bor (tinD x' y z')) s2 n A B L s7 s8 s9) := by
  obtain ⟨L, x', z', hL, a0, a1, h30⟩ := sp30 m x y z (List.range n) n (by simp) hn hz0 hz
  refine ⟨L, x', z', hL, a0, a1, ?_⟩
  have hc := ev_chb (T := T) (cf := callF T (m+2)) (e := E38 (.bor (tinD x y z)) s2 (.val (nD n)) (.own (ol A)) (.own (ol B)) s6 s7 s8 s9) (i := 0) (g := 30) (es := [.lrg false (.var 3), .var 3]) rfl (eA1 (evLrg rfl (by omega)) (eA1 (vaT rfl) eA0)) rfl rfl h30
  rw [st_t hc (setOk_fre (s := s6) rfl k6)]
  rfl
theorem perm_range (h : L.Perm (List.range n)) : L.Nodup ∧ (∀ x ∈ L, x < n) ∧ L.length = n := by
  refine ⟨h.nodup_iff.mpr List.nodup_range, fun x hx => List.mem_range.mp (h.mem_iff.mp hx), ?_⟩
  have := h.length_eq
  rwa [List.length_range] at this
theorem nt_of {ps : List (Nat × Nat)} {ts : List (Nat × Nat × Nat)} {L M : List Nat} (hp : 0 < n) (h2 : I2 n A L ps) (h3 : I3 n B M ts) : Net n (ap A) (ap B) ps ts where
  pos := hp
  nd2 := (List.nodup_append.mp h2.nd).1
  nd3 := (List.nodup_append.mp h3.nd).1
  lt2 := fun x hx => h2.lt x (by simp [hx])
  lt3 := fun x hx => h3.lt x (by simp [hx])
  ef := h2.ef
  eg := h3.ef
end
theorem lap38 (m : Nat) {y z : Int} {e : EV} (he : St y z e) (z0 : 0 ≤ z) (hz : z ≤ 800000) :
    ∃ z' e', 0 ≤ z' ∧ z' ≤ z + 100 ∧ St y z' e' ∧ (exB T (callF T (m+2)) b38 e = .ok .next e' ∨ ∃ n A B, Nt n A B ∧ n ≤ 18 ∧ exB T (callF T (m+2)) b38 e = .ok (.ret (.v (nt A B))) e') := by
  obtain ⟨x, s2, s3, s4, s5, s6, s7, s8, s9, rfl, k2, k3, k4, k5, k6, k7, k8, k9⟩ := he
  obtain ⟨r, x1, z1, r0, r1, a0, a1, h28⟩ := sp28w (m+1) x y z 18 (by decide) (by decide) z0 (by omega)
  obtain ⟨n, hn⟩ : ∃ n : Nat, D.int (1 + r) = nD n ∧ 0 < n ∧ n ≤ 18 := ⟨(1 + r).toNat, by unfold nD; congr 1; omega, by omega, by omega⟩
  obtain ⟨hn, n0, n18⟩ := hn
  have t1 : exS T (callF T (m+2)) (.set 3 (.bin .add (.int 1) (.call 28 [.var 0, .var 1]))) (E38 (.bor (tinD x y z)) s2 s3 s4 s5 s6 s7 s8 s9) = .ok .next (E38 (.bor (tinD x1 y z1)) s2 (.val (nD n)) s4 s5 s6 s7 s8 s9) := by
    rw [st_v (ev_add iT (ev_chb (T := T) (cf := callF T (m+2)) (e := E38 (.bor (tinD x y z)) s2 s3 s4 s5 s6 s7 s8 s9) (i := 0) (g := 28) (es := [.var 1]) rfl (eA1 (vaT rfl) eA0) rfl rfl h28)) (setOk_fre (s := s3) rfl k3), hn]
    rfl
  have t2 : exS T (callF T (m+2)) (.par [4, 5] [.lrg false (.var 3), .lrg false (.var 3)]) (E38 (.bor (tinD x1 y z1)) s2 (.val (nD n)) s4 s5 s6 s7 s8 s9) = .ok .next (E38 (.bor (tinD x1 y z1)) s2 (.val (nD n)) (.own (ol (List.range n))) (.own (ol (List.range n))) s6 s7 s8 s9) := by
    refine st_par (eA1 (evLrg rfl (by omega)) (eA1 (evLrg rfl (by omega)) eA0)) rfl ?_
    rcases k4 with rfl | ⟨_, rfl⟩ | ⟨_, rfl⟩ <;> rcases k5 with rfl | ⟨_, rfl⟩ | ⟨_, rfl⟩ <;> rfl
  obtain ⟨L, x2, z2, hL, b0, b1, t3⟩ := pick38 (m := m) (n := n) (y := y) (s2 := s2) (s7 := s7) (s8 := s8) (s9 := s9) (A := List.range n) (B := List.range n) x1 z1 k6 (by omega) a0 (by omega)
  obtain ⟨l1, l2, l3⟩ := perm_range hL
  have hI2 : I2 n (List.range n) L [] := ⟨by simp, by simpa [flat2] using l1, fun x hx => l2 x (by simpa [flat2] using hx), ap_range n⟩
  obtain ⟨A, L', ps, x3, z3, q7, q8, hA, c0, c1, j7, j8, hw2⟩ := lp2 (m := m+1) (n := n) (s2 := s2) (y := y) 99981 (B := List.range n) (s9 := s9) 18 (List.range n) L [] x2 z2 s7 s8 (by omega) hI2 b0 (by omega) k7 k8
  have t4 : exS T (callF T (m+2)) (.wh c2 B2) (EN (.bor (tinD x2 y z2)) s2 n (List.range n) (List.range n) L s7 s8 s9) = .ok .next (EN (.bor (tinD x3 y z3)) s2 n A (List.range n) L' q7 q8 s9) := by
    rw [x_wh]; exact hw2
  obtain ⟨M, x4, z4, hM, d0, d1, t5⟩ := pick38 (m := m) (n := n) (y := y) (s2 := s2) (s7 := q7) (s8 := q8) (s9 := s9) (A := A) (B := List.range n) x3 z3 (s6 := .own (ol L')) (Fre.own _) (by omega) c0 (by omega)
  obtain ⟨m1, m2, m3⟩ := perm_range hM
  have hI3 : I3 n (List.range n) M [] := ⟨by simp, by simpa [flat3] using m1, fun x hx => m2 x (by simpa [flat3] using hx), ap_range n⟩
  obtain ⟨B, M', ts, x5, z5, p7, p8, p9, hB, e0, e1, g7, g8, g9, hw3⟩ := lp3 (m := m+1) (n := n) (s2 := s2) (y := y) 99981 (A := A) 18 (List.range n) M [] x4 z4 q7 q8 s9 (by omega) hI3 d0 (by omega) j7 j8 k9
  have t6 : exS T (callF T (m+2)) (.wh c3 B3) (EN (.bor (tinD x4 y z4)) s2 n A (List.range n) M q7 q8 s9) = .ok .next (EN (.bor (tinD x5 y z5)) s2 n A B M' p7 p8 p9) := by
    rw [x_wh]; exact hw3
  have hnet := nt_of n0 hA hB
  obtain ⟨k, hk, h37⟩ := sp37 hA.la hB.la (fun i hi => hnet.f_lt hi) (fun i hi => hnet.g_lt hi) (by omega) n0 (m+1)
  have c7 := ev_cho2 (T := T) (cf := callF T (m+2)) (e := EN (.bor (tinD x5 y z5)) s2 n A B M' p7 p8 p9) (i := 4) (j := 5) (g := 37) (by decide) rfl rfl h37
  have c7 : evE T (callF T (m+2)) false (.call 37 [.var 4, .var 5]) (EN (.bor (tinD x5 y z5)) s2 n A B M' p7 p8 p9) = .ok (.v (.bl k)) (EN (.bor (tinD x5 y z5)) s2 n A B M' p7 p8 p9) := c7
  have c7 := tru (x := .non) c7
  have pre : exB T (callF T (m+2)) b38 (E38 (.bor (tinD x y z)) s2 s3 s4 s5 s6 s7 s8 s9) = exB T (callF T (m+2)) [.if_ (.call 37 [.var 4, .var 5]) [.ret (.tup [.bi .tuple [.var 4], .bi .tuple [.var 5]])] []] (EN (.bor (tinD x5 y z5)) s2 n A B M' p7 p8 p9) :=
    (bN t1).trans ((bN t2).trans ((bN t3).trans ((bN t4).trans ((bN t5).trans (bN t6)))))
  refine ⟨z5, EN (.bor (tinD x5 y z5)) s2 n A B M' p7 p8 p9, e0, by omega, ⟨x5, s2, _, _, _, _, p7, p8, p9, rfl, k2, Fre.val _, Fre.own _, Fre.own _, Fre.own _, g7, g8, g9⟩, ?_⟩
  rw [pre]
  cases k with
  | false => exact .inl ((bN ((st_ifF c7).trans (x_b0 ..))).trans (x_b0 ..))
  | true =>
    refine .inr ⟨n, A, B, ⟨hA.la, hB.la, by omega, ⟨ps, ts, hnet⟩, hk rfl⟩, n18, ?_⟩
    have v1 := ev_biC (T := T) (cf := callF T (m+2)) (e := EN (.bor (tinD x5 y z5)) s2 n A B M' p7 p8 p9) (b := .tuple) (r := .v (ot A)) (CV.own (i := 4) rfl) rfl
    have v2 := ev_biC (T := T) (cf := callF T (m+2)) (e := EN (.bor (tinD x5 y z5)) s2 n A B M' p7 p8 p9) (b := .tuple) (r := .v (ot B)) (CV.own (i := 5) rfl) rfl
    exact bR ((st_ifT c7).trans (bR (st_ret (ev_tup (ds := [ot A, ot B]) (eA1 v1 (eA1 v2 eA0)) (by simp)))))
theorem St.set2 {y z : Int} {e : EV} (h : St y z e) (d : D) : ∃ e', asg (.nm 2) d e = some e' ∧ St y z e' := by
  obtain ⟨x, s2, s3, s4, s5, s6, s7, s8, s9, rfl, k2, k⟩ := h
  refine ⟨E38 (.bor (tinD x y z)) (.val d) s3 s4 s5 s6 s7 s8 s9, ?_, ⟨x, .val d, s3, s4, s5, s6, s7, s8, s9, rfl, Fre.val d, k⟩⟩
  rcases k2 with rfl | ⟨_, rfl⟩ | ⟨_, rfl⟩ <;> rfl
theorem laps38 (m : Nat) {y : Int} : ∀ (ds : List D) (z : Int) (e : EV), St y z e → 0 ≤ z → z + 100 * ds.length ≤ 800000 →
    ∃ z' e', 0 ≤ z' ∧ z' ≤ z + 100 * ds.length ∧ St y z' e' ∧ (forL (fun d e => opt (asg (.nm 2) d e) fun e1 => exB T (callF T (m+2)) b38 e1) ds e = .ok .next e' ∨ ∃ n A B, Nt n A B ∧ n ≤ 18 ∧ forL (fun d e => opt (asg (.nm 2) d e) fun e1 => exB T (callF T (m+2)) b38 e1) ds e = .ok (.ret (.v (nt A B))) e')
  | [], z, e, he, z0, hz => ⟨z, e, z0, by simp, he, .inl rfl⟩
  | d :: ds, z, e, he, z0, hz => by
    rw [List.length_cons] at hz
    obtain ⟨e1, ha, he1⟩ := he.set2 d
    obtain ⟨z2, e2, a0, a1, he2, hr⟩ := lap38 m he1 z0 (by omega)
    rw [forL_cons, ha]
    simp only [opt]
    rcases hr with hr | ⟨n, A, B, hN, hn, hr⟩
    · rw [hr]
      simp only [bd_ok]
      obtain ⟨z3, e3, b0, b1, he3, hq⟩ := laps38 m ds z2 e2 he2 a0 (by omega)
      exact ⟨z3, e3, b0, by rw [List.length_cons]; omega, he3, hq⟩
    · rw [hr]
      simp only [bd_ok]
      exact ⟨z2, e2, a0, by rw [List.length_cons]; omega, he2, .inr ⟨n, A, B, hN, hn, rfl⟩⟩
theorem nt3 : Nt 3 [1, 0, 2] [1, 2, 0] := by
  have hnet : Net 3 (ap [1, 0, 2]) (ap [1, 2, 0]) [(0, 1)] [(0, 1, 2)] := by
    refine ⟨by decide, by decide, by decide, by decide, by decide, ?_, ?_⟩
    · funext i
      match i with
      | 0 => rfl
      | 1 => rfl
      | 2 => rfl
      | i + 3 => simp [ap, fms, sw]
    · funext i
      match i with
      | 0 => rfl
      | 1 => rfl
      | 2 => rfl
      | i + 3 => simp [ap, fms, ms3, sw]
  refine ⟨rfl, rfl, by decide, ⟨_, _, hnet⟩, fun i hi => ?_⟩
  have r0 : Rch 3 (ap [1, 0, 2]) (ap [1, 2, 0]) 0 := .z
  have r1 : Rch 3 (ap [1, 0, 2]) (ap [1, 2, 0]) 1 := r0.f
  have r2 : Rch 3 (ap [1, 0, 2]) (ap [1, 2, 0]) 2 := r1.g
  match i, hi with
  | 0, _ => exact r0
  | 1, _ => exact r1
  | 2, _ => exact r2
theorem sp38 (m : Nat) (x y z : Int) (z0 : 0 ≤ z) (hz : z ≤ 700000) : ∃ n A B x' z', Nt n A B ∧ n ≤ 18 ∧ 0 ≤ z' ∧ z' ≤ z + 1200 ∧
    callF T (m+3) 38 [.bor (tinD x y z), .val (.int 18)] = .ok (.v (nt A B)) [.bor (tinD x' y z'), .val (.int 18)] := by
  have h0 : St y z (E38 (.bor (tinD x y z)) .un .un .un .un .un .un .un .un) := ⟨x, .un, .un, .un, .un, .un, .un, .un, .un, rfl, Fre.un, Fre.un, Fre.un, Fre.un, Fre.un, Fre.un, Fre.un, Fre.un⟩
  obtain ⟨z', e', a0, a1, he', hr⟩ := laps38 m ((List.range 12).map nD) z _ h0 z0 (by simp; omega)
  rw [List.length_map, List.length_range] at a1
  have hi : evI T (callF T (m+2)) (.rng [.int 12]) (E38 (.bor (tinD x y z)) .un .un .un .un .un .un .un .un) = .ok ((List.range 12).map nD) (E38 (.bor (tinD x y z)) .un .un .un .un .un .un .un .un) :=
    ev_rngV (vs := [.int 12]) (eA1 iT eA0) (rng_nD 12 (by omega))
  have hf : exS T (callF T (m+2)) (.for_ (.nm 2) (.rng [.int 12]) b38) (E38 (.bor (tinD x y z)) .un .un .un .un .un .un .un .un) = forL (fun d e => opt (asg (.nm 2) d e) fun e1 => exB T (callF T (m+2)) b38 e1) ((List.range 12).map nD) (E38 (.bor (tinD x y z)) .un .un .un .un .un .un .un .un) := by
    rw [x_for, hi]; rfl
  obtain ⟨x', s2, s3, s4, s5, s6, s7, s8, s9, rfl, k⟩ := he'
  rcases hr with hr | ⟨n, A, B, hN, hn, hr⟩
  · refine ⟨3, [1, 0, 2], [1, 2, 0], x', z', nt3, by decide, a0, by omega, ?_⟩
    have t2 : evE T (callF T (m+2)) false (.tup [.tup [.int 1, .int 0, .int 2], .tup [.int 1, .int 2, .int 0]]) (E38 (.bor (tinD x' y z')) s2 s3 s4 s5 s6 s7 s8 s9) = .ok (.v (nt [1, 0, 2] [1, 2, 0])) (E38 (.bor (tinD x' y z')) s2 s3 s4 s5 s6 s7 s8 s9) :=
      ev_tup (ds := [ot [1, 0, 2], ot [1, 2, 0]]) (eA1 (ev_tup (ds := [.int 1, .int 0, .int 2]) (eA1 iT (eA1 iT (eA1 iT eA0))) (by simp)) (eA1 (ev_tup (ds := [.int 1, .int 2, .int 0]) (eA1 iT (eA1 iT (eA1 iT eA0))) (by simp)) eA0)) (by simp)
    exact fnR (T := T) (F := f38) (as := [.bor (tinD x y z), .val (.int 18)]) rfl rfl ((bN (hf.trans hr)).trans (bR (st_ret t2)))
  · exact ⟨n, A, B, x', z', hN, hn, a0, by omega, fnR (T := T) (F := f38) (as := [.bor (tinD x y z), .val (.int 18)]) rfl rfl (bR (hf.trans hr))⟩
end PL.K20
end

section
set_option exponentiation.threshold 5000
namespace PL.K20
open PL PL.K00 PL.PM PySem PySem.Spec L2

/-! lists for tuples -/
theorem ty_ot (p : List Nat) : tyNm (ot p) = some "tuple" := rfl
theorem sp31o (m : Nat) (p : List Nat) (hl : p.length ≤ 300) : callF T (m+2) 31 [.val (ot p)] = .ok (.t (ol p)) [.val (ot p)] := by
  have hi : evI T (callF T (m+1)) (.e (.var 0)) [.val (ot p), .un] = .ok (p.map nD) [.val (ot p), .un] := by
    rw [x_ie, vaT (d := ot p) rfl]; rfl
  have hc := ev_compf (T := T) (cf := callF T (m+1)) (i := 1) (elt := .call 31 [.var 1]) (fun d => d) hi (s := .un) rfl (by simp; omega) (fun d hd => by
    obtain ⟨k, _, rfl⟩ := List.mem_map.mp hd
    exact ev_f1 (.inl (vaT rfl)) (sp31i m (k : Int)))
  rw [List.map_id'] at hc
  have hc : evE T (callF T (m+1)) false (.comp [1] (.e (.var 0)) (.nm 1) none (.call 31 [.var 1])) [.val (ot p), .un] = .ok (.t (ol p)) [.val (ot p), .un] := hc
  have ht : evE T (callF T (m+1)) true (.isi (.var 0) ["list", "tuple"]) [.val (ot p), .un] = .ok (.v (.bl true)) [.val (ot p), .un] := by
    rw [x_isi, vaT (d := ot p) rfl]
    simp [ty_ot, tyOk, isTy, tst, truth, opt]
  exact fnRt (T := T) (F := f31) (as := [.val (ot p)]) rfl rfl (bR (st_rett ((ev_ite ht).trans hc)))
theorem sp31n (m : Nat) (a b : List Nat) (ha : a.length ≤ 300) (hb : b.length ≤ 300) : callF T (m+3) 31 [.val (nt a b)] = .ok (.t (nl a b)) [.val (nt a b)] := by
  have hi : evI T (callF T (m+2)) (.e (.var 0)) [.val (nt a b), .un] = .ok [ot a, ot b] [.val (nt a b), .un] := by
    rw [x_ie, vaT (d := nt a b) rfl]; rfl
  have hc := ev_comp (T := T) (cf := callF T (m+2)) (i := 1) (cond := none) (elt := .call 31 [.var 1]) (fun _ => true) (fun d => match d with | .tup xs => .lst xs | d => d) hi (s := .un) rfl (by simp) (fun d hd => ⟨x_c0 .., fun _ => .inr (by
    simp only [List.mem_cons, List.not_mem_nil, or_false] at hd
    rcases hd with rfl | rfl
    · exact ev_f1 (.inl (vaT rfl)) (sp31o m a ha)
    · exact ev_f1 (.inl (vaT rfl)) (sp31o m b hb))⟩)
  have hc : evE T (callF T (m+2)) false (.comp [1] (.e (.var 0)) (.nm 1) none (.call 31 [.var 1])) [.val (nt a b), .un] = .ok (.t (nl a b)) [.val (nt a b), .un] := hc
  have ht : evE T (callF T (m+2)) true (.isi (.var 0) ["list", "tuple"]) [.val (nt a b), .un] = .ok (.v (.bl true)) [.val (nt a b), .un] := by
    rw [x_isi, vaT (d := nt a b) rfl]
    have : tyNm (nt a b) = some "tuple" := rfl
    simp [this, tyOk, isTy, tst, truth, opt]
  exact fnRt (T := T) (F := f31) (as := [.val (nt a b)]) rfl rfl (bR (st_rett ((ev_ite ht).trans hc)))
/-- two slots lent that come back shared -/
theorem ev_cho2f {T : GT} {cf : Nat → List SV → CO} {e : EV} {i j g : Nat} {x y x' y' : D} {r : RV} (hij : i ≠ j) (hx : e[i]? = some (.own x)) (hy : e[j]? = some (.own y)) (hc : cf g [.bor x, .bor y] = .ok r [.fro x', .fro y']) :
    evE T cf false (.call g [.var i, .var j]) e = .ok r ((e.set i (.val x')).set j (.val y')) := by
  rw [x_call, x_a1, vaO hx]
  simp only [bd_ok]
  rw [x_a1, vaO hy]
  simp only [bd_ok, x_a0, x_do, hands_h, hands_nil, argsOf_cons, argsOf_nil, argOf_h, hx, hy, Option.bind, Option.map]
  rw [if_pos (by simp [hij]), hc]
  simp only [tst_false, pb_cons, pb_nil, pb_hf, hx]
  rw [get_ne _ _ _ _ hij, hy]
section
variable {n : Nat} {a b : List Nat}
theorem Nt.shp (h : Nt n a b) (m : Nat) : ∃ sh, callF T (m+5) 43 [.val (nt a b)] = .ok (.v sh) [.val (nt a b)] ∧
    (∀ (k : Nat) (w : Int), w.natAbs < 2 ^ 60 → w % 2 = 0 → callF T (k+1) 45 [.val sh, .val (.int w)] = .ok (.v (.int (nF n a b w))) [.val sh, .val (.int w)]) ∧
    (∀ (k : Nat) (w : Int), w.natAbs < 2 ^ 60 → w % 2 = 0 → callF T (k+2) 46 [.val sh, .val (.int w)] = .ok (.v (.int (nC n a b w))) [.val sh, .val (.int w)]) := by
  obtain ⟨wide, hw, h43⟩ := h.s43 m
  exact ⟨_, h43, fun k w h1 h2 => q45 hw h1 h2, fun k w h1 h2 => q46 rfl rfl hw h2 (q45 hw h1 h2)⟩
end
/-! the law's lap -/
abbrev cL : Nat → List SV → CO := callF T 199
abbrev EL (s0 s1 s2 s3 s4 s5 s6 s7 s8 s9 s10 s11 s12 : SV) : EV := [s0, s1, s2, s3, s4, s5, s6, s7, s8, s9, s10, s11, s12]
def A1 : S := .set 3 (.call 38 [.var 1, .int 18])
def A2 : S := .set 4 (.call 43 [.var 3])
def A3 : S := .set 5 (.bin .mul (.int 2) (.bin .sub (.call 28 [.var 1, .int 61]) (.int 10)))
def A4 : S := .set 6 (.call 28 [.var 1, .int 60])
def A5 : S := .par [7, 8] [.call 45 [.var 4, .var 5], .call 46 [.var 4, .var 5]]
def G6 : List E := [.callk 20 [] ["lot", "weight"] [.var 3, .var 5], .callk 21 [] ["lot", "weight"] [.call 31 [.var 3], .var 5], .callk 26 [] ["lot", "weight"] [.var 3, .var 5], .callk 25 [] ["lot", "weight"] [.var 3, .var 5], .callk 22 [] ["lot"] [.var 3], .callk 23 [] ["lot", "most"] [.var 3, .var 6], .callk 24 [] ["lot", "most"] [.var 3, .var 6]]
def A6 : S := .set 9 (.lst G6)
def G7 : List E := [.var 7, .var 8, .bin .sub (.var 7) (.var 8), .bin .fdiv (.bin .mul (.var 5) (.bi .len [.ix (.var 3) (.int 0)])) (.int 12), .tup [.bi .len [.ix (.var 3) (.int 0)], .int 4], .bi .tuple [.comp [11] (.rng [.int 0, .bin .add (.var 6) (.int 1), .int 2]) (.nm 11) none (.call 45 [.var 4, .var 11])], .bi .tuple [.comp [11] (.rng [.int 0, .bin .add (.var 6) (.int 1), .int 2]) (.nm 11) none (.call 46 [.var 4, .var 11])]]
def A7 : S := .set 10 (.lst G7)
def A8 : S := .if_ (.andor false [.not_ (.call 32 [.var 9, .var 10]), .cmp .Lt (.var 7) (.int 0), .cmp .Lt (.var 8) (.int 0)]) [.ret (.bl false)] []
def A9 : S := .if_ (.andor false [.andor true [.cmp .Gt (.var 5) (.int 3), .cmp .NotEq (.bin .sub (.call 20 [.var 3, .bin .add (.var 5) (.int 12)]) (.var 7)) (.bi .len [.ix (.var 3) (.int 0)])], .andor true [.cmp .Gt (.var 5) (.int 3), .cmp .Gt (.var 7) (.bin .add (.bin .fdiv (.bin .mul (.var 5) (.bi .len [.ix (.var 3) (.int 0)])) (.int 12)) (.int 1))]]) [.ret (.bl false)] []
def lapB : List S := [A1, A2, A3, A4, A5, A6, A7, A8, A9]
theorem fn20 : T.fns[20]? = some f20 := rfl
theorem fn21 : T.fns[21]? = some f21 := rfl
theorem fn22 : T.fns[22]? = some f22 := rfl
theorem fn23 : T.fns[23]? = some f23 := rfl
theorem fn24 : T.fns[24]? = some f24 := rfl
theorem fn25 : T.fns[25]? = some f25 := rfl
theorem fn26 : T.fns[26]? = some f26 := rfl
theorem kw20 (r s : RV) : kwSort f20.ps ["lot", "weight"] [] [r, s] = [r, s] := rfl
theorem kw21 (r s : RV) : kwSort f21.ps ["lot", "weight"] [] [r, s] = [r, s] := rfl
theorem kw22 (r : RV) : kwSort f22.ps ["lot"] [] [r] = [r] := rfl
theorem kw23 (r s : RV) : kwSort f23.ps ["lot", "most"] [] [r, s] = [r, s] := rfl
theorem kw24 (r s : RV) : kwSort f24.ps ["lot", "most"] [] [r, s] = [r, s] := rfl
theorem kw25 (r s : RV) : kwSort f25.ps ["lot", "weight"] [] [r, s] = [r, s] := rfl
theorem kw26 (r s : RV) : kwSort f26.ps ["lot", "weight"] [] [r, s] = [r, s] := rfl
noncomputable def gotL (n : Nat) (a b : List Nat) (w : Int) (ds : List D) : List D := [.int (nF n a b w), .int (nC n a b w), .int (nF n a b w - nC n a b w), .int (w * (n : Int) / 12), .tup [.int (n : Int), .int 4], .tup (ds.map (rF n a b)), .tup (ds.map (rC n a b))]
theorem dp_got (n : Nat) (a b : List Nat) (w : Int) {ds : List D} (hl : ds.length ≤ 1000) (hx : ∀ d ∈ ds, ∃ w : Int, d = .int w ∧ 0 ≤ w ∧ w ≤ 3000 ∧ w % 2 = 0) : dp 2 (.lst (gotL n a b w ds)) := by
  refine .inr ⟨_, .inr rfl, by simp [gotL], fun x hm => ?_⟩
  have di : ∀ i : Int, dp 1 (.int i) := fun i => .inl rfl
  simp only [gotL, List.mem_cons, List.not_mem_nil, or_false] at hm
  rcases hm with rfl | rfl | rfl | rfl | rfl | rfl | rfl
  · exact di _
  · exact di _
  · exact di _
  · exact di _
  · exact .inr ⟨_, .inl rfl, by simp, fun y hy => by
      simp only [List.mem_cons, List.not_mem_nil, or_false] at hy
      rcases hy with rfl | rfl <;> rfl⟩
  · exact .inr ⟨_, .inl rfl, by simpa using hl, fun y hy => by
      obtain ⟨d, hd, rfl⟩ := List.mem_map.mp hy
      obtain ⟨w, rfl, _⟩ := hx d hd
      rfl⟩
  · exact .inr ⟨_, .inl rfl, by simpa using hl, fun y hy => by
      obtain ⟨d, hd, rfl⟩ := List.mem_map.mp hy
      obtain ⟨w, rfl, _⟩ := hx d hd
      rfl⟩
section
variable {n : Nat} {a b : List Nat} {w q : Int} {ds : List D} {dn sh : D} {s0 s1 s2 s3 s4 s5 s6 s7 s8 s9 s10 s11 s12 : SV}
theorem la6 (h : Nt n a b) (hn : n ≤ 18) (w1 : -1000000 ≤ w) (w2 : w ≤ 1000000) (w3 : w % 2 = 0) (q1 : 0 ≤ q) (q2 : q ≤ 1000) (hr : rngD [.int 0, .int (q + 1), .int 2] = some ds) (hl : ds.length ≤ 1000) (hx : ∀ d ∈ ds, ∃ w : Int, d = .int w ∧ 0 ≤ w ∧ w ≤ 3000 ∧ w % 2 = 0) (k9 : Fre s9) :
    exS T cL A6 (EL s0 s1 s2 (.val (nt a b)) s4 (.val (.int w)) (.val (.int q)) s7 s8 s9 s10 s11 s12) = .ok .next (EL s0 s1 s2 (.val (nt a b)) s4 (.val (.int w)) (.val (.int q)) s7 s8 (.own (.lst (gotL n a b w ds))) s10 s11 s12) := by
  have hx' : ∀ d ∈ ds, ∃ w : Int, d = .int w ∧ 0 ≤ w ∧ w ≤ 3000 := fun d hd => by
    obtain ⟨w, e, w1, w2, _⟩ := hx d hd
    exact ⟨w, e, w1, w2⟩
  have h20 : cL 20 [.val (nt a b), .val (.int w)] = _ := h.s20 192 (nt a b) (.inl rfl) w w1 w2 w3
  have h21 : cL 21 [.val (nl a b), .val (.int w)] = _ := h.s21 191 (nl a b) (.inr rfl) w w1 w2 w3
  have h26 : cL 26 [.val (nt a b), .val (.int w)] = _ := h.s26 191 (nt a b) (.inl rfl) w w1 w2 w3
  have h25 : cL 25 [.val (nt a b), .val (.int w)] = _ := h.s25 193 (nt a b) (.inl rfl) w w1 w2 w3
  have h22 : cL 22 [.val (nt a b)] = _ := h.s22 193 (nt a b) (.inl rfl)
  have h23 : cL 23 [.val (nt a b), .val (.int q)] = _ := h.s23 192 (nt a b) (.inl rfl) q q1 q2 hr hl hx'
  have h24 : cL 24 [.val (nt a b), .val (.int q)] = _ := h.s24 191 (nt a b) (.inl rfl) q q1 q2 hr hl hx'
  have h31 : cL 31 [.val (nt a b)] = _ := sp31n 196 a b (by rw [h.la]; omega) (by rw [h.lb]; omega)
  have v3 : evE T cL false (.var 3) (EL s0 s1 s2 (.val (nt a b)) s4 (.val (.int w)) (.val (.int q)) s7 s8 s9 s10 s11 s12) = .ok (.v (nt a b)) _ := vaT rfl
  have v5 : evE T cL false (.var 5) (EL s0 s1 s2 (.val (nt a b)) s4 (.val (.int w)) (.val (.int q)) s7 s8 s9 s10 s11 s12) = .ok (.v (.int w)) _ := vaT rfl
  have v6 : evE T cL false (.var 6) (EL s0 s1 s2 (.val (nt a b)) s4 (.val (.int w)) (.val (.int q)) s7 s8 s9 s10 s11 s12) = .ok (.v (.int q)) _ := vaT rfl
  have c20 := ev_kw2 fn20 kw20 (.inl v3) (.inl v5) h20
  have c21 := ev_kw2 fn21 kw21 (.inr (ev_f1 (.inl v3) h31)) (.inl v5) h21
  have c26 := ev_kw2 fn26 kw26 (.inl v3) (.inl v5) h26
  have c25 := ev_kw2 fn25 kw25 (.inl v3) (.inl v5) h25
  have c22 := ev_kw1 fn22 kw22 (.inl v3) h22
  have c23 := ev_kw2 fn23 kw23 (.inl v3) (.inl v6) h23
  have c24 := ev_kw2 fn24 kw24 (.inl v3) (.inl v6) h24
  have hA := ev_lst (ds := gotL n a b w ds) (eA1 c20 (eA1 c21 (eA1 c26 (eA1 c25 (eA1 c22 (eA1 c23 (eA1 c24 eA0))))))) (by simp [gotL])
  unfold A6
  rw [show G6 = [.callk 20 [] ["lot", "weight"] [.var 3, .var 5], .callk 21 [] ["lot", "weight"] [.call 31 [.var 3], .var 5], .callk 26 [] ["lot", "weight"] [.var 3, .var 5], .callk 25 [] ["lot", "weight"] [.var 3, .var 5], .callk 22 [] ["lot"] [.var 3], .callk 23 [] ["lot", "most"] [.var 3, .var 6], .callk 24 [] ["lot", "most"] [.var 3, .var 6]] from rfl, st_t hA (setOk_fre (s := s9) rfl k9)]
  rfl
theorem la7 (h45 : ∀ (k : Nat) (w : Int), w.natAbs < 2 ^ 60 → w % 2 = 0 → callF T (k+1) 45 [.val sh, .val (.int w)] = .ok (.v (.int (nF n a b w))) [.val sh, .val (.int w)])
    (h46 : ∀ (k : Nat) (w : Int), w.natAbs < 2 ^ 60 → w % 2 = 0 → callF T (k+2) 46 [.val sh, .val (.int w)] = .ok (.v (.int (nC n a b w))) [.val sh, .val (.int w)])
    (h : Nt n a b) (w1 : w.natAbs < 2 ^ 60) (hr : rngD [.int 0, .int (q + 1), .int 2] = some ds) (hl : ds.length ≤ 1000) (hx : ∀ d ∈ ds, ∃ w : Int, d = .int w ∧ 0 ≤ w ∧ w ≤ 3000 ∧ w % 2 = 0) (k10 : Fre s10) :
    exS T cL A7 (EL s0 s1 s2 (.val (nt a b)) (.val sh) (.val (.int w)) (.val (.int q)) (.val (.int (nF n a b w))) (.val (.int (nC n a b w))) s9 s10 s11 s12) = .ok .next (EL s0 s1 s2 (.val (nt a b)) (.val sh) (.val (.int w)) (.val (.int q)) (.val (.int (nF n a b w))) (.val (.int (nC n a b w))) s9 (.own (.lst (gotL n a b w ds))) s11 s12) := by
  have i0 := item_nt0 a b
  have la := h.la'
  unfold gotL
  generalize nF n a b w = f at *
  generalize nC n a b w = g at *
  generalize nt a b = dn at *
  generalize ot a = x1 at *
  have v3 : evE T cL false (.var 3) (EL s0 s1 s2 (.val dn) (.val sh) (.val (.int w)) (.val (.int q)) (.val (.int f)) (.val (.int g)) s9 s10 s11 s12) = .ok (.v dn) _ := vaT rfl
  have v5 : evE T cL false (.var 5) (EL s0 s1 s2 (.val dn) (.val sh) (.val (.int w)) (.val (.int q)) (.val (.int f)) (.val (.int g)) s9 s10 s11 s12) = .ok (.v (.int w)) _ := vaT rfl
  have v6 : evE T cL false (.var 6) (EL s0 s1 s2 (.val dn) (.val sh) (.val (.int w)) (.val (.int q)) (.val (.int f)) (.val (.int g)) s9 s10 s11 s12) = .ok (.v (.int q)) _ := vaT rfl
  have v7 : evE T cL false (.var 7) (EL s0 s1 s2 (.val dn) (.val sh) (.val (.int w)) (.val (.int q)) (.val (.int f)) (.val (.int g)) s9 s10 s11 s12) = .ok (.v (.int f)) _ := vaT rfl
  have v8 : evE T cL false (.var 8) (EL s0 s1 s2 (.val dn) (.val sh) (.val (.int w)) (.val (.int q)) (.val (.int f)) (.val (.int g)) s9 s10 s11 s12) = .ok (.v (.int g)) _ := vaT rfl
  have cl := ev_b1 (.inl (ev_ix v3 iT i0)) la
  have hi := ev_rngV (vs := [.int 0, .int (q + 1), .int 2]) (eA1 iT (eA1 (ev_add v6 iT) (eA1 iT eA0))) hr
  have hc45 := ev_compf (T := T) (cf := cL) (i := 11) (elt := .call 45 [.var 4, .var 11]) (rF n a b) hi (s := s11) rfl hl (fun x hm => by
    obtain ⟨w', rfl, w1, w2, w3⟩ := hx x hm
    exact ev_f2 (e1 := EL s0 s1 s2 (.val dn) (.val sh) (.val (.int w)) (.val (.int q)) (.val (.int f)) (.val (.int g)) s9 s10 (.val (.int w')) s12) (.inl (vaT rfl)) (.inl (vaT rfl)) (h45 198 w' (by omega) w3))
  have hc46 := ev_compf (T := T) (cf := cL) (i := 11) (elt := .call 46 [.var 4, .var 11]) (rC n a b) hi (s := s11) rfl hl (fun x hm => by
    obtain ⟨w', rfl, w1, w2, w3⟩ := hx x hm
    exact ev_f2 (e1 := EL s0 s1 s2 (.val dn) (.val sh) (.val (.int w)) (.val (.int q)) (.val (.int f)) (.val (.int g)) s9 s10 (.val (.int w')) s12) (.inl (vaT rfl)) (.inl (vaT rfl)) (h46 197 w' (by omega) w3))
  have c1 := ev_sub v7 v8
  have c2 := ev_div dvs.1 (ev_mul (mulL (i := w) (by omega)) v5 cl) iT
  have c3 := ev_tup (ds := [.int (n : Int), .int 4]) (eA1 cl (eA1 iT eA0)) (by simp)
  have c4 := ev_b1 (b := .tuple) (r := .v (.tup (ds.map (rF n a b)))) (.inr hc45) rfl
  have c5 := ev_b1 (b := .tuple) (r := .v (.tup (ds.map (rC n a b)))) (.inr hc46) rfl
  have hA := ev_lst (ds := [.int f, .int g, .int (f - g), .int (w * (n : Int) / 12), .tup [.int (n : Int), .int 4], .tup (ds.map (rF n a b)), .tup (ds.map (rC n a b))]) (eA1 v7 (eA1 v8 (eA1 c1 (eA1 c2 (eA1 c3 (eA1 c4 (eA1 c5 eA0))))))) (by simp)
  unfold A7 G7
  rw [st_t hA (setOk_fre (s := s10) rfl k10)]
  rfl
theorem la8 {f g : Int} {L : List D} (hL : dp 2 (.lst L)) (f0 : 0 ≤ f) (g0 : 0 ≤ g) :
    exS T cL A8 (EL s0 s1 s2 s3 s4 s5 s6 (.val (.int f)) (.val (.int g)) (.own (.lst L)) (.own (.lst L)) s11 s12) = .ok .next (EL s0 s1 s2 s3 s4 s5 s6 (.val (.int f)) (.val (.int g)) (.val (.lst L)) (.val (.lst L)) s11 s12) := by
  have h32 : cL 32 [.bor (.lst L), .bor (.lst L)] = .ok (.v (.bl true)) [.fro (.lst L), .fro (.lst L)] := sp32 2 196 (.lst L) (.bor (.lst L)) (.bor (.lst L)) hL (.inr rfl) (.inr rfl)
  have c : evE T cL false (.call 32 [.var 9, .var 10]) (EL s0 s1 s2 s3 s4 s5 s6 (.val (.int f)) (.val (.int g)) (.own (.lst L)) (.own (.lst L)) s11 s12) = .ok (.v (.bl true)) (EL s0 s1 s2 s3 s4 s5 s6 (.val (.int f)) (.val (.int g)) (.val (.lst L)) (.val (.lst L)) s11 s12) :=
    ev_cho2f (i := 9) (j := 10) (by decide) rfl rfl h32
  have c7 := ev_lt (T := T) (cf := cL) (e := EL s0 s1 s2 s3 s4 s5 s6 (.val (.int f)) (.val (.int g)) (.val (.lst L)) (.val (.lst L)) s11 s12) (x := .var 7) (y := .int 0) (vaT rfl) iT true
  have c8 := ev_lt (T := T) (cf := cL) (e := EL s0 s1 s2 s3 s4 s5 s6 (.val (.int f)) (.val (.int g)) (.val (.lst L)) (.val (.lst L)) s11 s12) (x := .var 8) (y := .int 0) (vaT rfl) iT true
  rw [decide_eq_false (by omega)] at c7 c8
  refine st_or ?_
  rw [or1 (ntrue (b := true) (tru (x := .non) c)), or1 c7, x_v1]
  exact c8
theorem la9 (h : Nt n a b) (w1 : -100000 ≤ w) (w2 : w ≤ 100000) (w3 : w % 2 = 0) :
    exS T cL A9 (EL s0 s1 s2 (.val (nt a b)) s4 (.val (.int w)) s6 (.val (.int (nF n a b w))) s8 s9 s10 s11 s12) = .ok .next (EL s0 s1 s2 (.val (nt a b)) s4 (.val (.int w)) s6 (.val (.int (nF n a b w))) s8 s9 s10 s11 s12) := by
  obtain ⟨f0, g0, hw⟩ := h.laws w w3
  have h20 : cL 20 [.val (nt a b), .val (.int (w + 12))] = _ := h.s20 192 (nt a b) (.inl rfl) (w + 12) (by omega) (by omega) (by omega)
  have i0 := item_nt0 a b
  have la := h.la'
  generalize nF n a b w = f at *
  generalize nF n a b (w + 12) = f2 at *
  generalize nt a b = dn at *
  generalize ot a = x1 at *
  have v3 : evE T cL false (.var 3) (EL s0 s1 s2 (.val dn) s4 (.val (.int w)) s6 (.val (.int f)) s8 s9 s10 s11 s12) = .ok (.v dn) _ := vaT rfl
  have v5 : evE T cL false (.var 5) (EL s0 s1 s2 (.val dn) s4 (.val (.int w)) s6 (.val (.int f)) s8 s9 s10 s11 s12) = .ok (.v (.int w)) _ := vaT rfl
  have v7 : evE T cL false (.var 7) (EL s0 s1 s2 (.val dn) s4 (.val (.int w)) s6 (.val (.int f)) s8 s9 s10 s11 s12) = .ok (.v (.int f)) _ := vaT rfl
  have cl := ev_b1 (.inl (ev_ix v3 iT i0)) la
  have g3 := ev_gt (y := .int 3) v5 iT true
  have c1 := ev_nei (ev_sub (ev_f2 (.inl v3) (.inl (ev_add v5 iT)) h20) v7) cl true
  have c2 := ev_gt v7 (ev_add (ev_div dvs.1 (ev_mul (mulL (i := w) (by omega)) v5 cl) iT) (iT (i := 1))) true
  refine st_or ?_
  by_cases hw3 : 3 < w
  · obtain ⟨e1, e2⟩ := hw hw3
    rw [decide_eq_true hw3] at g3
    rw [decide_eq_true (show f2 - f = (n : Int) from e1)] at c1
    rw [decide_eq_false (by omega)] at c2
    rw [or1 (e1 := EL s0 s1 s2 (.val dn) s4 (.val (.int w)) s6 (.val (.int f)) s8 s9 s10 s11 s12) (by rw [x_andor, and1 g3, x_v1]; exact c1), x_v1, x_andor, and1 g3, x_v1]
    exact c2
  · rw [decide_eq_false hw3] at g3
    rw [or1 (e1 := EL s0 s1 s2 (.val dn) s4 (.val (.int w)) s6 (.val (.int f)) s8 s9 s10 s11 s12) (by rw [x_andor, andf g3]), x_v1, x_andor, andf g3]
end
end PL.K20
end

section
set_option exponentiation.threshold 5000
namespace PL.K20
open PL PL.K00 PL.PM PySem PySem.Spec L2

def SL (s0 : SV) (y z : Int) (e : EV) : Prop := ∃ x s2 s3 s4 s5 s6 s7 s8 s9 s10 s11 s12, e = EL s0 (.own (tinD x y z)) s2 s3 s4 s5 s6 s7 s8 s9 s10 s11 s12 ∧ Fre s2 ∧ Fre s3 ∧ Fre s4 ∧ Fre s5 ∧ Fre s6 ∧ Fre s7 ∧ Fre s8 ∧ Fre s9 ∧ Fre s10 ∧ Fre s11 ∧ Fre s12
theorem lap_ok {s0 : SV} {y z : Int} {e : EV} (he : SL s0 y z e) (z0 : 0 ≤ z) (hz : z ≤ 100000) : ∃ z' e', 0 ≤ z' ∧ z' ≤ z + 1300 ∧ SL s0 y z' e' ∧ exB T cL lapB e = .ok .next e' := by
  obtain ⟨x, s2, s3, s4, s5, s6, s7, s8, s9, s10, s11, s12, rfl, k2, k3, k4, k5, k6, k7, k8, k9, k10, k11, k12⟩ := he
  obtain ⟨n, a, b, x1, z1, hN, hn, a0, a1, h38⟩ := sp38 196 x y z z0 (by omega)
  have h38 : cL 38 [.bor (tinD x y z), .val (.int 18)] = _ := h38
  have t1 : exS T cL A1 (EL s0 (.own (tinD x y z)) s2 s3 s4 s5 s6 s7 s8 s9 s10 s11 s12) = .ok .next (EL s0 (.own (tinD x1 y z1)) s2 (.val (nt a b)) s4 s5 s6 s7 s8 s9 s10 s11 s12) := by
    unfold A1
    rw [st_v (ev_cho (e := EL s0 (.own (tinD x y z)) s2 s3 s4 s5 s6 s7 s8 s9 s10 s11 s12) (i := 1) (g := 38) (es := [.int 18]) rfl (eA1 iT eA0) rfl rfl h38) (setOk_fre (s := s3) rfl k3)]
    rfl
  obtain ⟨sh, h43, h45, h46⟩ := hN.shp 194
  have h43 : cL 43 [.val (nt a b)] = _ := h43
  have t2 : exS T cL A2 (EL s0 (.own (tinD x1 y z1)) s2 (.val (nt a b)) s4 s5 s6 s7 s8 s9 s10 s11 s12) = .ok .next (EL s0 (.own (tinD x1 y z1)) s2 (.val (nt a b)) (.val sh) s5 s6 s7 s8 s9 s10 s11 s12) := by
    unfold A2
    rw [st_v (ev_f1 (e := EL s0 (.own (tinD x1 y z1)) s2 (.val (nt a b)) s4 s5 s6 s7 s8 s9 s10 s11 s12) (.inl (vaT rfl)) h43) (setOk_fre (s := s4) rfl k4)]
    rfl
  obtain ⟨r, x2, z2, r0, r1, b0, b1, h28⟩ := sp28w 198 x1 y z1 61 (by decide) (by decide) a0 (by omega)
  have h28 : cL 28 [.bor (tinD x1 y z1), .val (.int 61)] = _ := h28
  obtain ⟨w, hw⟩ : ∃ w : Int, w = 2 * (r - 10) := ⟨_, rfl⟩
  have t3 : exS T cL A3 (EL s0 (.own (tinD x1 y z1)) s2 (.val (nt a b)) (.val sh) s5 s6 s7 s8 s9 s10 s11 s12) = .ok .next (EL s0 (.own (tinD x2 y z2)) s2 (.val (nt a b)) (.val sh) (.val (.int w)) s6 s7 s8 s9 s10 s11 s12) := by
    unfold A3
    rw [st_v (ev_mul (mulL (by decide)) iT (ev_sub (ev_cho (e := EL s0 (.own (tinD x1 y z1)) s2 (.val (nt a b)) (.val sh) s5 s6 s7 s8 s9 s10 s11 s12) (i := 1) (g := 28) (es := [.int 61]) rfl (eA1 iT eA0) rfl rfl h28) iT)) (setOk_fre (s := s5) rfl k5), hw]
    rfl
  obtain ⟨q, x3, z3, q0, q1, c0, c1, h28⟩ := sp28w 198 x2 y z2 60 (by decide) (by decide) b0 (by omega)
  have h28 : cL 28 [.bor (tinD x2 y z2), .val (.int 60)] = _ := h28
  have t4 : exS T cL A4 (EL s0 (.own (tinD x2 y z2)) s2 (.val (nt a b)) (.val sh) (.val (.int w)) s6 s7 s8 s9 s10 s11 s12) = .ok .next (EL s0 (.own (tinD x3 y z3)) s2 (.val (nt a b)) (.val sh) (.val (.int w)) (.val (.int q)) s7 s8 s9 s10 s11 s12) := by
    unfold A4
    rw [st_v (ev_cho (e := EL s0 (.own (tinD x2 y z2)) s2 (.val (nt a b)) (.val sh) (.val (.int w)) s6 s7 s8 s9 s10 s11 s12) (i := 1) (g := 28) (es := [.int 60]) rfl (eA1 iT eA0) rfl rfl h28) (setOk_fre (s := s6) rfl k6)]
    rfl
  have f45 : cL 45 [.val sh, .val (.int w)] = _ := h45 198 w (by omega) (by omega)
  have f46 : cL 46 [.val sh, .val (.int w)] = _ := h46 197 w (by omega) (by omega)
  have t5 : exS T cL A5 (EL s0 (.own (tinD x3 y z3)) s2 (.val (nt a b)) (.val sh) (.val (.int w)) (.val (.int q)) s7 s8 s9 s10 s11 s12) = .ok .next (EL s0 (.own (tinD x3 y z3)) s2 (.val (nt a b)) (.val sh) (.val (.int w)) (.val (.int q)) (.val (.int (nF n a b w))) (.val (.int (nC n a b w))) s9 s10 s11 s12) := by
    refine st_par (eA1 (ev_f2 (.inl (vaT rfl)) (.inl (vaT rfl)) f45) (eA1 (ev_f2 (.inl (vaT rfl)) (.inl (vaT rfl)) f46) eA0)) rfl ?_
    rcases k7 with rfl | ⟨_, rfl⟩ | ⟨_, rfl⟩ <;> rcases k8 with rfl | ⟨_, rfl⟩ | ⟨_, rfl⟩ <;> rfl
  obtain ⟨ds, hr, hl, hx⟩ := rng3 q q0 (by omega)
  have t6 := la6 (w := w) (s0 := s0) (s1 := .own (tinD x3 y z3)) (s2 := s2) (s4 := .val sh) (s7 := .val (.int (nF n a b w))) (s8 := .val (.int (nC n a b w))) (s9 := s9) (s10 := s10) (s11 := s11) (s12 := s12) hN hn (by omega) (by omega) (by omega) q0 (by omega) hr hl hx k9
  have t7 := la7 (w := w) (s0 := s0) (s1 := .own (tinD x3 y z3)) (s2 := s2) (s9 := .own (.lst (gotL n a b w ds))) (s10 := s10) (s11 := s11) (s12 := s12) h45 h46 hN (by omega) hr hl hx k10
  obtain ⟨f0, g0, _⟩ := hN.laws w (by omega)
  have t8 := la8 (s0 := s0) (s1 := .own (tinD x3 y z3)) (s2 := s2) (s3 := .val (nt a b)) (s4 := .val sh) (s5 := .val (.int w)) (s6 := .val (.int q)) (s11 := s11) (s12 := s12) (dp_got n a b w hl hx) f0 g0
  have t9 := la9 (s0 := s0) (s1 := .own (tinD x3 y z3)) (s2 := s2) (s4 := .val sh) (s6 := .val (.int q)) (s8 := .val (.int (nC n a b w))) (s9 := .val (.lst (gotL n a b w ds))) (s10 := .val (.lst (gotL n a b w ds))) (s11 := s11) (s12 := s12) hN (w := w) (by omega) (by omega) (by omega)
  refine ⟨z3, EL s0 (.own (tinD x3 y z3)) s2 (.val (nt a b)) (.val sh) (.val (.int w)) (.val (.int q)) (.val (.int (nF n a b w))) (.val (.int (nC n a b w))) (.val (.lst (gotL n a b w ds))) (.val (.lst (gotL n a b w ds))) s11 s12, c0, by omega, ⟨x3, s2, _, _, _, _, _, _, _, _, s11, s12, rfl, k2, Fre.val _, Fre.val _, Fre.val _, Fre.val _, Fre.val _, Fre.val _, Fre.val _, Fre.val _, k11, k12⟩, ?_⟩
  exact (bN t1).trans ((bN t2).trans ((bN t3).trans ((bN t4).trans ((bN t5).trans ((bN t6).trans ((bN t7).trans ((bN t8).trans ((bN t9).trans (x_b0 ..)))))))))
theorem laps {s0 : SV} {y : Int} : ∀ (ds : List D) (z : Int) (e : EV), SL s0 y z e → 0 ≤ z → z + 1300 * ds.length ≤ 100000 →
    ∃ z' e', SL s0 y z' e' ∧ forL (fun d e => opt (asg (.nm 2) d e) fun e1 => exB T cL lapB e1) ds e = .ok .next e'
  | [], z, e, h, _, _ => ⟨z, e, h, rfl⟩
  | d :: ds, z, e, h, z0, hz => by
    rw [List.length_cons] at hz
    obtain ⟨x, s2, s3, s4, s5, s6, s7, s8, s9, s10, s11, s12, rfl, k2, k⟩ := h
    have ha : asg (.nm 2) d (EL s0 (.own (tinD x y z)) s2 s3 s4 s5 s6 s7 s8 s9 s10 s11 s12) = some (EL s0 (.own (tinD x y z)) (.val d) s3 s4 s5 s6 s7 s8 s9 s10 s11 s12) := by
      rcases k2 with rfl | ⟨_, rfl⟩ | ⟨_, rfl⟩ <;> rfl
    have h1 : SL s0 y z (EL s0 (.own (tinD x y z)) (.val d) s3 s4 s5 s6 s7 s8 s9 s10 s11 s12) := ⟨x, .val d, s3, s4, s5, s6, s7, s8, s9, s10, s11, s12, rfl, Fre.val d, k⟩
    obtain ⟨z2, e2, a0, a1, h2, he⟩ := lap_ok h1 z0 (by omega)
    obtain ⟨z3, e3, h3, hr⟩ := laps ds z2 e2 h2 a0 (by omega)
    refine ⟨z3, e3, h3, ?_⟩
    rw [forL_cons, ha]
    simp only [opt, he, bd_ok]
    exact hr
/-! the end -/
def isTi (l : List Int) (c : CO) : Bool := match c with | .ok (.v (.tup xs)) _ => decide (intsD xs = some l) | _ => false
theorem intsD_inv : ∀ (ds : List D) (l : List Int), intsD ds = some l → ds = l.map D.int
  | [], l, h => by cases h; rfl
  | d :: ds, l, h => by
    cases d with
    | int i =>
      have h : (intsD ds).map (fun l => i :: l) = some l := h
      cases hx : intsD ds with
      | none => rw [hx] at h; cases h
      | some l' =>
        rw [hx] at h
        cases h
        rw [intsD_inv ds l' hx]; rfl
    | _ => exact absurd h (by simp [intsD])
theorem isTi_out {l : List Int} {c : CO} (h : isTi l c = true) : ∃ as, c = .ok (.v (.tup (l.map D.int))) as := by
  unfold isTi at h
  split at h
  · exact ⟨_, by rw [intsD_inv _ _ (of_decide_eq_true h)]⟩
  · cases h
def isTo (x : Str) (c : CO) : Bool := match c with | .ok (.t (.lst [.str y, .bl true])) _ => decide (y = x) | _ => false
theorem isTo_out {x : Str} {c : CO} (h : isTo x c = true) : ∃ as, c = .ok (.t (.lst [.str x, .bl true])) as := by
  unfold isTo at h
  split at h
  · exact ⟨_, by rw [of_decide_eq_true h]⟩
  · cases h
def isIn (i : Int) (c : CO) : Bool := match c with | .ok (.v (.int x)) _ => decide (x = i) | _ => false
theorem isIn_out {i : Int} {c : CO} (h : isIn i c = true) : ∃ as, c = .ok (.v (.int i)) as := by
  unfold isIn at h
  split at h
  · exact ⟨_, by rw [of_decide_eq_true h]⟩
  · cases h
abbrev WH : D := .tup [.tup [.int 0], .tup [.int 0]]
def r1 : List Int := [1, 0, 1, 1, 1, 1, 2, 1, 2, 2, 2, 2, 3, 2]
def r2 : List Int := [0, 0, 0, 0, 0, 0, 1, 0, 1, 1, 1, 1, 2, 1]
theorem z1 : isTi r1 (cL 23 [.val WH, .val (.int 26)]) = true := by decide +kernel
theorem z2 : isTi r2 (cL 24 [.val WH, .val (.int 26)]) = true := by decide +kernel
theorem z3 : isTo "unfit" (cL 44 [.val (.fn 20), .val (.tup [WH, .int 3])]) = true := by decide +kernel
theorem z4 : isTo "unfit" (cL 44 [.val (.fn 20), .val (.tup [WH, .bl true])]) = true := by decide +kernel
theorem z5 : isTo "unfit" (cL 44 [.val (.fn 23), .val (.tup [WH, .int 1001])]) = true := by decide +kernel
theorem z6 : isTo "unfit" (cL 44 [.val (.fn 24), .val (.tup [WH, .int (-1)])]) = true := by decide +kernel
theorem z7 : isTo "unfit" (cL 44 [.val (.fn 25), .val (.tup [.non, .int 2])]) = true := by decide +kernel
theorem z8 : isIn 0 (cL 20 [.val WH, .val (.int (-2))]) = true := by decide +kernel
theorem ev_binC {T : GT} {cf : Nat → List SV → CO} {e : EV} {o : Bop} {x y : E} {a b : D} {r : RV} (hx : CV T cf e x a) (hy : CV T cf e y b) (h : binop o a b = some r) : evE T cf false (.bin o x y) e = .ok r e := by
  obtain ⟨r1, h1, c1⟩ := hx
  obtain ⟨r2, h2, c2⟩ := hy
  rw [x_bin, h1]
  simp only [bd_ok]
  rw [h2]
  simp only [bd_ok, c1, c2, opt, h, tst_false]
theorem ev_lst' {T : GT} {cf : Nat → List SV → CO} {e e1 : EV} {es : List E} {rs : List RV} {ds : List D} (h : evA T cf es e = .ok rs e1) (hf : frzs e1 rs = some (ds, e1)) (hl : ds.length ≤ 100) : evE T cf false (.lst es) e = .ok (.t (.lst ds)) e1 := by
  rw [x_lst, h]
  simp only [bd_ok, hf, opt, tst_false]
  rw [if_pos (by unfold sizeL; omega)]
theorem ev_neg {T : GT} {cf : Nat → List SV → CO} {e : EV} (i : Int) : evE T cf false (.neg (.int i)) e = .ok (.v (.int (-i))) e := by simp
theorem ev_fnv {T : GT} {cf : Nat → List SV → CO} {e : EV} {g : Nat} (h : g < T.fns.length) : evE T cf false (.fnv g) e = .ok (.v (.fn g)) e := by
  rw [x_fnv, if_pos h]; rfl
theorem ev_strr {T : GT} {cf : Nat → List SV → CO} {e : EV} (k : Str) : evE T cf false (.str k) e = .ok (.v (.str k)) e := by simp
theorem ev_bl {T : GT} {cf : Nat → List SV → CO} {e : EV} (k : Bool) : evE T cf false (.bl k) e = .ok (.v (.bl k)) e := by simp
theorem ev_nonn {T : GT} {cf : Nat → List SV → CO} {e : EV} : evE T cf false .non e = .ok (.v .non) e := by simp
/-- a call that lends a slot it owns; it comes back shared -/
theorem ev_chof {T : GT} {cf : Nat → List SV → CO} {e : EV} {i g : Nat} {es : List E} {rs : List RV} {ss as' : List SV} {x x' : D} {r : RV} (hx : e[i]? = some (.own x)) (ha : evA T cf es e = .ok rs e) (hh : hands rs = []) (hs : argsOf e rs = some ss) (hc : cf g (.bor x :: ss) = .ok r (.fro x' :: as')) :
    evE T cf false (.call g (.var i :: es)) e = .ok r (e.set i (.val x')) := by
  rw [x_call, x_a1, vaO hx]
  simp only [bd_ok]
  rw [ha]
  simp only [bd_ok, x_do, hands_h, hh, argsOf_cons, argOf_h, hx, hs, Option.bind, Option.map]
  rw [if_pos (by simp), hc]
  simp only [tst_false, pb_cons, pb_hf, hx]
  rw [pbn _ _ _ hh]
def UF : D := .lst [.str "unfit", .bl true]
def DU : List D := [.tup (r1.map D.int), .tup (r2.map D.int), UF, UF, UF, UF, UF, .int 0]
theorem dp_du : dp 2 (.lst DU) := by
  refine .inr ⟨_, .inr rfl, by decide, fun x hm => ?_⟩
  have ti : ∀ l : List Int, l.length ≤ 1000 → dp 1 (.tup (l.map D.int)) := fun l hl => .inr ⟨_, .inl rfl, by rw [List.length_map]; exact hl, fun y hy => by
    obtain ⟨i, _, rfl⟩ := List.mem_map.mp hy
    rfl⟩
  have tu : dp 1 UF := .inr ⟨_, .inr rfl, by decide, fun y hy => by
    simp only [List.mem_cons, List.not_mem_nil, or_false] at hy
    rcases hy with rfl | rfl
    · show PyData.strOk _ = true
      decide +kernel
    · rfl⟩
  simp only [DU, List.mem_cons, List.not_mem_nil, or_false] at hm
  rcases hm with rfl | rfl | rfl | rfl | rfl | rfl | rfl | rfl
  · exact ti _ (by decide)
  · exact ti _ (by decide)
  · exact tu
  · exact tu
  · exact tu
  · exact tu
  · exact tu
  · exact .inl rfl
def Z1 : S := .set 12 (.tup [.tup [.int 0], .tup [.int 0]])
def Z2 : S := .set 9 (.lst [.call 23 [.var 12, .int 26], .call 24 [.var 12, .int 26], .call 44 [.fnv 20, .tup [.var 12, .int 3]], .call 44 [.fnv 20, .tup [.var 12, .bl true]], .call 44 [.fnv 23, .tup [.var 12, .int 1001]], .call 44 [.fnv 24, .tup [.var 12, .neg (.int 1)]], .call 44 [.fnv 25, .tup [.non, .int 2]], .call 20 [.var 12, .neg (.int 2)]])
def Y3 : E := .bin .add (.bin .add (.lst [.tup [.int 1, .int 0, .int 1, .int 1, .int 1, .int 1, .int 2, .int 1, .int 2, .int 2, .int 2, .int 2, .int 3, .int 2], .tup [.int 0, .int 0, .int 0, .int 0, .int 0, .int 0, .int 1, .int 0, .int 1, .int 1, .int 1, .int 1, .int 2, .int 1]]) (.bin .mul (.lst [.lst [.str "unfit", .bl true]]) (.int 5))) (.lst [.int 0])
def Z3 : S := .ret (.call 32 [.var 9, Y3])
theorem evY3 {T : GT} {cf : Nat → List SV → CO} {e : EV} : evE T cf false Y3 e = .ok (.t (.lst DU)) e := by
  have t1 : evE T cf false (.tup [.int 1, .int 0, .int 1, .int 1, .int 1, .int 1, .int 2, .int 1, .int 2, .int 2, .int 2, .int 2, .int 3, .int 2]) e = .ok (.v (.tup (r1.map D.int))) e :=
    ev_tup (ds := r1.map D.int) (eA1 iT (eA1 iT (eA1 iT (eA1 iT (eA1 iT (eA1 iT (eA1 iT (eA1 iT (eA1 iT (eA1 iT (eA1 iT (eA1 iT (eA1 iT (eA1 iT eA0)))))))))))))) (by decide)
  have t2 : evE T cf false (.tup [.int 0, .int 0, .int 0, .int 0, .int 0, .int 0, .int 1, .int 0, .int 1, .int 1, .int 1, .int 1, .int 2, .int 1]) e = .ok (.v (.tup (r2.map D.int))) e :=
    ev_tup (ds := r2.map D.int) (eA1 iT (eA1 iT (eA1 iT (eA1 iT (eA1 iT (eA1 iT (eA1 iT (eA1 iT (eA1 iT (eA1 iT (eA1 iT (eA1 iT (eA1 iT (eA1 iT eA0)))))))))))))) (by decide)
  have l1 := ev_lst (ds := [.tup (r1.map D.int), .tup (r2.map D.int)]) (eA1 t1 (eA1 t2 eA0)) (by simp)
  have u1 := ev_lst (T := T) (cf := cf) (e := e) (ds := [.str "unfit", .bl true]) (eA1 (ev_strr "unfit") (eA1 (ev_bl true) eA0)) (by simp)
  have u2 := ev_lst' (ds := [UF]) (eA1 u1 eA0) rfl (by simp)
  have u3 := ev_binC (o := .mul) (r := .t (.lst [UF, UF, UF, UF, UF])) (CV.t u2) (CV.v (iT (i := 5))) rfl
  have l2 := ev_binC (o := .add) (r := .t (.lst [.tup (r1.map D.int), .tup (r2.map D.int), UF, UF, UF, UF, UF])) (CV.t l1) (CV.t u3) rfl
  have l3 := ev_lst (T := T) (cf := cf) (e := e) (ds := [.int 0]) (eA1 iT eA0) (by simp)
  exact ev_binC (o := .add) (CV.t l2) (CV.t l3) rfl
section
variable {s0 s1 s2 s3 s4 s5 s6 s7 s8 s9 s10 s11 s12 : SV}
theorem en2 (k9 : Fre s9) : exS T cL Z2 (EL s0 s1 s2 s3 s4 s5 s6 s7 s8 s9 s10 s11 (.val WH)) = .ok .next (EL s0 s1 s2 s3 s4 s5 s6 s7 s8 (.own (.lst DU)) s10 s11 (.val WH)) := by
  obtain ⟨_, g1⟩ := isTi_out z1
  obtain ⟨_, g2⟩ := isTi_out z2
  obtain ⟨_, g3⟩ := isTo_out z3
  obtain ⟨_, g4⟩ := isTo_out z4
  obtain ⟨_, g5⟩ := isTo_out z5
  obtain ⟨_, g6⟩ := isTo_out z6
  obtain ⟨_, g7⟩ := isTo_out z7
  obtain ⟨_, g8⟩ := isIn_out z8
  unfold Z2 DU
  generalize WH = wh at *
  have v : evE T cL false (.var 12) (EL s0 s1 s2 s3 s4 s5 s6 s7 s8 s9 s10 s11 (.val wh)) = .ok (.v wh) _ := vaT rfl
  have y1 := ev_f2 (.inl v) (.inl iT) g1
  have y2 := ev_f2 (.inl v) (.inl iT) g2
  have tw : ∀ {x : E} {d : D}, evE T cL false x (EL s0 s1 s2 s3 s4 s5 s6 s7 s8 s9 s10 s11 (.val wh)) = .ok (.v d) (EL s0 s1 s2 s3 s4 s5 s6 s7 s8 s9 s10 s11 (.val wh)) → evE T cL false (.tup [.var 12, x]) (EL s0 s1 s2 s3 s4 s5 s6 s7 s8 s9 s10 s11 (.val wh)) = .ok (.v (.tup [wh, d])) (EL s0 s1 s2 s3 s4 s5 s6 s7 s8 s9 s10 s11 (.val wh)) := fun {x d} hx => ev_tup (ds := [wh, d]) (eA1 v (eA1 hx eA0)) (by simp)
  have y3 := ev_f2 (a := .fnv 20) (.inl (ev_fnv (by decide))) (.inl (tw iT)) g3
  have y4 := ev_f2 (a := .fnv 20) (.inl (ev_fnv (by decide))) (.inl (tw (ev_bl true))) g4
  have y5 := ev_f2 (a := .fnv 23) (.inl (ev_fnv (by decide))) (.inl (tw iT)) g5
  have y6 := ev_f2 (a := .fnv 24) (.inl (ev_fnv (by decide))) (.inl (tw (ev_neg 1))) g6
  have y7 := ev_f2 (T := T) (cf := cL) (e := EL s0 s1 s2 s3 s4 s5 s6 s7 s8 s9 s10 s11 (.val wh)) (a := .fnv 25) (b := .tup [.non, .int 2]) (.inl (ev_fnv (by decide))) (.inl (ev_tup (ds := [.non, .int 2]) (eA1 ev_nonn (eA1 iT eA0)) (by simp))) g7
  have y8 := ev_f2 (.inl v) (.inl (ev_neg 2)) g8
  have hA := ev_lst' (eA1 y1 (eA1 y2 (eA1 y3 (eA1 y4 (eA1 y5 (eA1 y6 (eA1 y7 (eA1 y8 eA0)))))))) rfl (by simp)
  rw [st_t hA (setOk_fre (s := s9) rfl k9)]
  rfl
theorem en3 : exS T cL Z3 (EL s0 s1 s2 s3 s4 s5 s6 s7 s8 (.own (.lst DU)) s10 s11 s12) = .ok (.ret (.v (.bl true))) (EL s0 s1 s2 s3 s4 s5 s6 s7 s8 (.val (.lst DU)) s10 s11 s12) := by
  have h32 : cL 32 [.bor (.lst DU), .val (.lst DU)] = .ok (.v (.bl true)) [.fro (.lst DU), .val (.lst DU)] := sp32 2 196 (.lst DU) (.bor (.lst DU)) (.val (.lst DU)) dp_du (.inr rfl) (.inl rfl)
  generalize hD : D.lst DU = du at *
  have y : evE T cL false Y3 (EL s0 s1 s2 s3 s4 s5 s6 s7 s8 (.own du) s10 s11 s12) = .ok (.t du) (EL s0 s1 s2 s3 s4 s5 s6 s7 s8 (.own du) s10 s11 s12) := by
    rw [← hD]; exact evY3
  exact st_ret (ev_chof (e := EL s0 s1 s2 s3 s4 s5 s6 s7 s8 (.own du) s10 s11 s12) (i := 9) (g := 32) rfl (eA1 y eA0) rfl rfl h32)
end
theorem law_ok : ∀ ns : List Int, ns.length ≤ 63 → ∃ as', callF T 200 47 [.val (.scr ns)] = .ok (.v (.bl true)) as' := by
  intro ns hn
  obtain ⟨c, e1⟩ := sp29 198 ns hn
  obtain ⟨x, y, e2⟩ := sp27 198 c
  have e1 : cL 29 [.val (.scr ns), .val (.int 1)] = _ := e1
  have e2 : cL 27 [.val (.lst [.int c]), .val (.int 0)] = _ := e2
  have t1 : exS T cL (.set 1 (.call 27 [.call 29 [.var 0, .int 1], .int 0])) (EL (.val (.scr ns)) .un .un .un .un .un .un .un .un .un .un .un .un) = .ok .next (EL (.val (.scr ns)) (.own (tinD x y 0)) .un .un .un .un .un .un .un .un .un .un .un) := by
    rw [st_t (ev_f2 (.inr (ev_f2 (e := EL (.val (.scr ns)) .un .un .un .un .un .un .un .un .un .un .un .un) (.inl (vaT rfl)) (.inl iT) e1)) (.inl iT) e2) rfl]
    rfl
  have h0 : SL (.val (.scr ns)) y 0 (EL (.val (.scr ns)) (.own (tinD x y 0)) .un .un .un .un .un .un .un .un .un .un .un) := ⟨x, .un, .un, .un, .un, .un, .un, .un, .un, .un, .un, .un, rfl, Fre.un, Fre.un, Fre.un, Fre.un, Fre.un, Fre.un, Fre.un, Fre.un, Fre.un, Fre.un, Fre.un⟩
  obtain ⟨z', e', he', hr⟩ := laps ((List.range 6).map nD) 0 _ h0 (by decide) (by simp)
  obtain ⟨x', s2, s3, s4, s5, s6, s7, s8, s9, s10, s11, s12, rfl, k2, k3, k4, k5, k6, k7, k8, k9, k10, k11, k12⟩ := he'
  have t2 : exS T cL (.for_ (.nm 2) (.rng [.int 6]) lapB) (EL (.val (.scr ns)) (.own (tinD x y 0)) .un .un .un .un .un .un .un .un .un .un .un) = .ok .next (EL (.val (.scr ns)) (.own (tinD x' y z')) s2 s3 s4 s5 s6 s7 s8 s9 s10 s11 s12) := by
    rw [x_for, ev_rngV (vs := [.int 6]) (eA1 iT eA0) (rng_nD 6 (by omega))]
    exact hr
  have t3 : exS T cL Z1 (EL (.val (.scr ns)) (.own (tinD x' y z')) s2 s3 s4 s5 s6 s7 s8 s9 s10 s11 s12) = .ok .next (EL (.val (.scr ns)) (.own (tinD x' y z')) s2 s3 s4 s5 s6 s7 s8 s9 s10 s11 (.val WH)) := by
    unfold Z1
    rw [st_v (ev_tup (ds := [.tup [.int 0], .tup [.int 0]]) (eA1 (ev_tup (ds := [.int 0]) (eA1 iT eA0) (by simp)) (eA1 (ev_tup (ds := [.int 0]) (eA1 iT eA0) (by simp)) eA0)) (by simp)) (setOk_fre (s := s12) rfl k12)]
    rfl
  exact ⟨_, fnR (T := T) (n := 199) (F := f47) (as := [.val (.scr ns)]) rfl rfl ((bN t1).trans ((bN t2).trans ((bN t3).trans ((bN (en2 k9)).trans (bR en3)))))⟩
end PL.K20
end

section
open PySem PySem.W PyProof.Rows
set_option maxHeartbeats 0 in
theorem PySem.Challenge.cw_tablelots_k20_whole_numbers_of_forms_holds : PySem.Challenge.rw_tablelots_k20_whole_numbers_of_forms.Holds := by
  w_on; o_law; k_head; (case hw => w_witness2)
  k_fill
  refine L2.walk_of (l := PySem.Challenge.rw_tablelots_k20_whole_numbers_of_forms) (n := 63) (k := 200) (x := "script") (CX := fun w => L2.CX PySem.Challenge.pw_tablelots_k20_whole_numbers_of_forms w) (sp := fun w => PL.spLaw _) rfl (by decide) rfl ⟨rfl, by decide, by decide⟩ (fun w h Y => PySem.W.kIn_of Y) ?F (fun _ _ a ns hl _ hS => ⟨a, ns, rfl, hl, hS, fun _ => rfl⟩) (fun _ _ _ _ _ z => PL.cx_no z)
  case F =>
    intro w mg fa h KX G hmg
    refine' PL.K20.all_mk KX G hmg ?a0 ?l0 ?c0 ?k0 ?a1 ?l1 ?c1 ?k1 ?a2 ?l2 ?c2 ?k2 ?a3 ?l3 ?c3 ?k3 ?a4 ?l4 ?c4 ?k4 ?a5 ?l5 ?c5 ?k5 ?a6 ?l6 ?c6 ?k6 ?a7 ?l7 ?c7 ?k7 ?a8 ?l8 ?c8 ?k8 ?a9 ?l9 ?c9 ?k9 ?a10 ?l10 ?c10 ?k10 ?a11 ?l11 ?c11 ?k11 ?a12 ?l12 ?c12 ?k12 ?a13 ?l13 ?c13 ?k13 ?a14 ?l14 ?c14 ?k14 ?a15 ?l15 ?c15 ?k15 ?a16 ?l16 ?c16 ?k16 ?a17 ?l17 ?c17 ?k17 ?a18 ?l18 ?c18 ?k18 ?a19 ?l19 ?c19 ?k19 ?a20 ?l20 ?c20 ?k20 ?a21 ?l21 ?c21 ?k21 ?a22 ?l22 ?c22 ?k22 ?a23 ?l23 ?c23 ?k23 ?a24 ?l24 ?c24 ?k24 ?a25 ?l25 ?c25 ?k25 ?a26 ?l26 ?c26 ?k26 ?a27 ?l27 ?c27 ?k27 ?a28 ?l28 ?c28 ?k28 ?a29 ?l29 ?c29 ?k29 ?a30 ?l30 ?c30 ?k30 ?a31 ?l31 ?c31 ?k31 ?a32 ?l32 ?c32 ?k32 ?a33 ?l33 ?c33 ?k33 ?a34 ?l34 ?c34 ?k34 ?a35 ?l35 ?c35 ?k35 ?a36 ?l36 ?c36 ?k36 ?a37 ?l37 ?c37 ?k37 ?a38 ?l38 ?c38 ?k38 ?a39 ?l39 ?c39 ?k39 ?a40 ?l40 ?c40 ?k40 ?a41 ?l41 ?c41 ?k41 ?a42 ?l42 ?c42 ?k42 ?a43 ?l43 ?c43 ?k43 ?a44 ?l44 ?c44 ?k44 ?a45 ?l45 ?c45 ?k45 ?a46 ?l46 ?c46 ?k46 ?a47 ?l47 ?c47 ?k47 ?u0 ?u1 ?ca0 ?cx0 ?ck0 ?cb0 ?ct_0 ?ce0 ?cf0 ?ch0 ?ci0 ?cm0 ?cv0 ?ca1 ?cx1 ?ck1 ?cb1 ?ct_1 ?ce1 ?cf1 ?ch1 ?ci1 ?cm1 ?cv1 ?ca2 ?cx2 ?ck2 ?cb2 ?ct_2 ?ce2 ?cf2 ?ch2 ?ci2 ?cm2 ?cv2 ?cs0_0 ?cs0_1 ?cs0_2 ?cs1_0 ?cs1_1 ?cs1_2 ?cs2_0 ?cs2_1 ?cs2_2 ?e5 ?e6 ?z0 ?z1 ?z2 ?z3 ?z4 ?z5 ?z6 ?z7 ?z8 ?z9 ?z10 ?z11 ?z12 ?z13 ?z14 ?z15 ?z16 ?z17 ?z18 ?y0 ?y1 PL.K20.law_ok
    (case a0 => first | k_is | rfl)
    (case l0 => first | k_is | rfl)
    (case c0 => first | k_is | rfl)
    (case k0 => first | k_is | rfl)
    (case a1 => first | k_is | rfl)
    (case l1 => first | k_is | rfl)
    (case c1 => first | k_is | rfl)
    (case k1 => first | k_is | rfl)
    (case a2 => first | k_is | rfl)
    (case l2 => first | k_is | rfl)
    (case c2 => first | k_is | rfl)
    (case k2 => first | k_is | rfl)
    (case a3 => first | k_is | rfl)
    (case l3 => first | k_is | rfl)
    (case c3 => first | k_is | rfl)
    (case k3 => first | k_is | rfl)
    (case a4 => first | k_is | rfl)
    (case l4 => first | k_is | rfl)
    (case c4 => first | k_is | rfl)
    (case k4 => first | k_is | rfl)
    (case a5 => first | k_is | rfl)
    (case l5 => first | k_is | rfl)
    (case c5 => first | k_is | rfl)
    (case k5 => first | k_is | rfl)
    (case a6 => first | k_is | rfl)
    (case l6 => first | k_is | rfl)
    (case c6 => first | k_is | rfl)
    (case k6 => first | k_is | rfl)
    (case a7 => first | k_is | rfl)
    (case l7 => first | k_is | rfl)
    (case c7 => first | k_is | rfl)
    (case k7 => first | k_is | rfl)
    (case a8 => first | k_is | rfl)
    (case l8 => first | k_is | rfl)
    (case c8 => first | k_is | rfl)
    (case k8 => first | k_is | rfl)
    (case a9 => first | k_is | rfl)
    (case l9 => first | k_is | rfl)
    (case c9 => first | k_is | rfl)
    (case k9 => first | k_is | rfl)
    (case a10 => first | k_is | rfl)
    (case l10 => first | k_is | rfl)
    (case c10 => first | k_is | rfl)
    (case k10 => first | k_is | rfl)
    (case a11 => first | k_is | rfl)
    (case l11 => first | k_is | rfl)
    (case c11 => first | k_is | rfl)
    (case k11 => first | k_is | rfl)
    (case a12 => first | k_is | rfl)
    (case l12 => first | k_is | rfl)
    (case c12 => first | k_is | rfl)
    (case k12 => first | k_is | rfl)
    (case a13 => first | k_is | rfl)
    (case l13 => first | k_is | rfl)
    (case c13 => first | k_is | rfl)
    (case k13 => first | k_is | rfl)
    (case a14 => first | k_is | rfl)
    (case l14 => first | k_is | rfl)
    (case c14 => first | k_is | rfl)
    (case k14 => first | k_is | rfl)
    (case a15 => first | k_is | rfl)
    (case l15 => first | k_is | rfl)
    (case c15 => first | k_is | rfl)
    (case k15 => first | k_is | rfl)
    (case a16 => first | k_is | rfl)
    (case l16 => first | k_is | rfl)
    (case c16 => first | k_is | rfl)
    (case k16 => first | k_is | rfl)
    (case a17 => first | k_is | rfl)
    (case l17 => first | k_is | rfl)
    (case c17 => first | k_is | rfl)
    (case k17 => first | k_is | rfl)
    (case a18 => first | k_is | rfl)
    (case l18 => first | k_is | rfl)
    (case c18 => first | k_is | rfl)
    (case k18 => first | k_is | rfl)
    (case a19 => first | k_is | rfl)
    (case l19 => first | k_is | rfl)
    (case c19 => first | k_is | rfl)
    (case k19 => first | k_is | rfl)
    (case a20 => first | k_is | rfl)
    (case l20 => first | k_is | rfl)
    (case c20 => first | k_is | rfl)
    (case k20 => first | k_is | rfl)
    (case a21 => first | k_is | rfl)
    (case l21 => first | k_is | rfl)
    (case c21 => first | k_is | rfl)
    (case k21 => first | k_is | rfl)
    (case a22 => first | k_is | rfl)
    (case l22 => first | k_is | rfl)
    (case c22 => first | k_is | rfl)
    (case k22 => first | k_is | rfl)
    (case a23 => first | k_is | rfl)
    (case l23 => first | k_is | rfl)
    (case c23 => first | k_is | rfl)
    (case k23 => first | k_is | rfl)
    (case a24 => first | k_is | rfl)
    (case l24 => first | k_is | rfl)
    (case c24 => first | k_is | rfl)
    (case k24 => first | k_is | rfl)
    (case a25 => first | k_is | rfl)
    (case l25 => first | k_is | rfl)
    (case c25 => first | k_is | rfl)
    (case k25 => first | k_is | rfl)
    (case a26 => first | k_is | rfl)
    (case l26 => first | k_is | rfl)
    (case c26 => first | k_is | rfl)
    (case k26 => first | k_is | rfl)
    (case a27 => first | k_is | rfl)
    (case l27 => first | k_is | rfl)
    (case c27 => first | k_is | rfl)
    (case k27 => first | k_is | rfl)
    (case a28 => first | k_is | rfl)
    (case l28 => first | k_is | rfl)
    (case c28 => first | k_is | rfl)
    (case k28 => first | k_is | rfl)
    (case a29 => first | k_is | rfl)
    (case l29 => first | k_is | rfl)
    (case c29 => first | k_is | rfl)
    (case k29 => first | k_is | rfl)
    (case a30 => first | k_is | rfl)
    (case l30 => first | k_is | rfl)
    (case c30 => first | k_is | rfl)
    (case k30 => first | k_is | rfl)
    (case a31 => first | k_is | rfl)
    (case l31 => first | k_is | rfl)
    (case c31 => first | k_is | rfl)
    (case k31 => first | k_is | rfl)
    (case a32 => first | k_is | rfl)
    (case l32 => first | k_is | rfl)
    (case c32 => first | k_is | rfl)
    (case k32 => first | k_is | rfl)
    (case a33 => first | k_is | rfl)
    (case l33 => first | k_is | rfl)
    (case c33 => first | k_is | rfl)
    (case k33 => first | k_is | rfl)
    (case a34 => first | k_is | rfl)
    (case l34 => first | k_is | rfl)
    (case c34 => first | k_is | rfl)
    (case k34 => first | k_is | rfl)
    (case a35 => first | k_is | rfl)
    (case l35 => first | k_is | rfl)
    (case c35 => first | k_is | rfl)
    (case k35 => first | k_is | rfl)
    (case a36 => first | k_is | rfl)
    (case l36 => first | k_is | rfl)
    (case c36 => first | k_is | rfl)
    (case k36 => first | k_is | rfl)
    (case a37 => first | k_is | rfl)
    (case l37 => first | k_is | rfl)
    (case c37 => first | k_is | rfl)
    (case k37 => first | k_is | rfl)
    (case a38 => first | k_is | rfl)
    (case l38 => first | k_is | rfl)
    (case c38 => first | k_is | rfl)
    (case k38 => first | k_is | rfl)
    (case a39 => first | k_is | rfl)
    (case l39 => first | k_is | rfl)
    (case c39 => first | k_is | rfl)
    (case k39 => first | k_is | rfl)
    (case a40 => first | k_is | rfl)
    (case l40 => first | k_is | rfl)
    (case c40 => first | k_is | rfl)
    (case k40 => first | k_is | rfl)
    (case a41 => first | k_is | rfl)
    (case l41 => first | k_is | rfl)
    (case c41 => first | k_is | rfl)
    (case k41 => first | k_is | rfl)
    (case a42 => first | k_is | rfl)
    (case l42 => first | k_is | rfl)
    (case c42 => first | k_is | rfl)
    (case k42 => first | k_is | rfl)
    (case a43 => first | k_is | rfl)
    (case l43 => first | k_is | rfl)
    (case c43 => first | k_is | rfl)
    (case k43 => first | k_is | rfl)
    (case a44 => first | k_is | rfl)
    (case l44 => first | k_is | rfl)
    (case c44 => first | k_is | rfl)
    (case k44 => first | k_is | rfl)
    (case a45 => first | k_is | rfl)
    (case l45 => first | k_is | rfl)
    (case c45 => first | k_is | rfl)
    (case k45 => first | k_is | rfl)
    (case a46 => first | k_is | rfl)
    (case l46 => first | k_is | rfl)
    (case c46 => first | k_is | rfl)
    (case k46 => first | k_is | rfl)
    (case a47 => first | k_is | rfl)
    (case l47 => first | k_is | rfl)
    (case c47 => first | k_is | rfl)
    (case k47 => first | k_is | rfl)
    (case u0 => first | k_is | rfl)
    (case u1 => first | k_is | rfl)
    (case ca0 => first | k_is | rfl)
    (case cx0 => k_exc)
    (case ck0 => first | k_is | rfl)
    (case cb0 => first | k_is | rfl)
    (case ct_0 => first | k_is | rfl)
    (case ce0 => first | k_is | rfl)
    (case cf0 => first | k_is | rfl)
    (case ch0 => first | k_is | rfl)
    (case ci0 => first | k_is | rfl)
    (case cm0 => first | k_is | rfl)
    (case cv0 => first | k_is | rfl)
    (case ca1 => first | k_is | rfl)
    (case cx1 => k_exc)
    (case ck1 => first | k_is | rfl)
    (case cb1 => first | k_is | rfl)
    (case ct_1 => first | k_is | rfl)
    (case ce1 => first | k_is | rfl)
    (case cf1 => first | k_is | rfl)
    (case ch1 => first | k_is | rfl)
    (case ci1 => first | k_is | rfl)
    (case cm1 => first | k_is | rfl)
    (case cv1 => first | k_is | rfl)
    (case ca2 => first | k_is | rfl)
    (case cx2 => k_exc)
    (case ck2 => first | k_is | rfl)
    (case cb2 => first | k_is | rfl)
    (case ct_2 => first | k_is | rfl)
    (case ce2 => first | k_is | rfl)
    (case cf2 => first | k_is | rfl)
    (case ch2 => first | k_is | rfl)
    (case ci2 => first | k_is | rfl)
    (case cm2 => first | k_is | rfl)
    (case cv2 => first | k_is | rfl)
    (case cs0_0 => first | k_is | rfl)
    (case cs0_1 => first | k_is | rfl)
    (case cs0_2 => first | k_is | rfl)
    (case cs1_0 => first | k_is | rfl)
    (case cs1_1 => first | k_is | rfl)
    (case cs1_2 => first | k_is | rfl)
    (case cs2_0 => first | k_is | rfl)
    (case cs2_1 => first | k_is | rfl)
    (case cs2_2 => first | k_is | rfl)
    (case e5 => first | k_is | rfl)
    (case e6 => first | k_is | rfl)
    (case z0 => first | k_is | rfl)
    (case z1 => first | k_is | rfl)
    (case z2 => first | k_is | rfl)
    (case z3 => first | k_is | rfl)
    (case z4 => first | k_is | rfl)
    (case z5 => first | k_is | rfl)
    (case z6 => first | k_is | rfl)
    (case z7 => first | k_is | rfl)
    (case z8 => first | k_is | rfl)
    (case z9 => first | k_is | rfl)
    (case z10 => first | k_is | rfl)
    (case z11 => first | k_is | rfl)
    (case z12 => first | k_is | rfl)
    (case z13 => first | k_is | rfl)
    (case z14 => first | k_is | rfl)
    (case z15 => first | k_is | rfl)
    (case z16 => first | k_is | rfl)
    (case z17 => first | k_is | rfl)
    (case z18 => first | k_is | rfl)
    (case y0 => first | k_is | rfl)
    (case y1 => first | k_is | rfl)
end
