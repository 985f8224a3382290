import PyProof.Rows.All
import Wide.All
import OpenK.AllK
import Wide.FinOn
import HandS.ForMost
import HandS.ForExc
import HandS.TryMany
import HandS.CallSlots
import HandS.CallLocal
import HandS.Flow
import HandS.Style
import HandS.Wide
import HandS.Gcd
import HandS.IsInst
import HandS.ExcIs
import HandS.Zip
import HandS.Small
import HandS.Walk
import HandS.TupAny
import HandS.SortInts
import HandS.Conv
import HandS.Dict
import HandS.TupSets
import KE.SortData
import KE.DataMinMax
import HandS.Base
import HandS.Call
import HandS.List
import HandS.Words
import HandS.WordsExc
import PySem.Challenge.RW_tablelots_k01_main_each_move_is_one_word
set_option Elab.async false
set_option linter.all false
set_option maxRecDepth 100000
section
namespace PL
open PySem PySem.Spec L2

/-! ## data -/
inductive D where
  | non | bl (b : Bool) | int (i : Int) | str (x : Str)
  | tup (xs : List D) | lst (xs : List D)
  | scr (ns : List Int)
  | dk (ks : List Key) (xs : List D)
  | dt (ks : List (List Key)) (xs : List D)
  | fn (g : Nat)
  | exn (c : Nat) (p : List D)

/-- what a slot holds: nothing, shared data, a thing of its own (to be changed), a borrowed one (to be changed, not to be let go) -/
inductive SV where
  | un | val (d : D) | own (d : D) | bor (d : D) | fro (d : D)
abbrev EV := List SV
def SV.dat : SV → Option D
  | .un => none
  | .val d => some d
  | .own d => some d
  | .bor d => some d
  | .fro d => some d
def SV.mine : SV → Bool
  | .own _ => true
  | .bor _ => true
  | _ => false
/-- a result: shared data, a new thing of its own, the thing in a slot -/
inductive RV where
  | v (d : D) | t (d : D) | h (i : Nat)
inductive Out (α : Type) where
  | ok (a : α) (e : EV)
  | exc (c : Nat) (p : List D) (e : EV)
  | stuck
def Out.bd {α β : Type} (x : Out α) (f : α → EV → Out β) : Out β :=
  match x with
  | .ok a e => f a e
  | .exc c p e => .exc c p e
  | .stuck => .stuck
@[simp] theorem bd_ok {α β : Type} (a : α) (e : EV) (f : α → EV → Out β) : (Out.ok a e).bd f = f a e := rfl
@[simp] theorem bd_exc {α β : Type} (c : Nat) (p : List D) (e : EV) (f : α → EV → Out β) : (Out.exc c p e).bd f = .exc c p e := rfl
@[simp] theorem bd_stuck {α β : Type} (f : α → EV → Out β) : (Out.stuck : Out α).bd f = .stuck := rfl
/-- a call's outcome: the result, what the arguments have become -/
inductive CO where
  | ok (r : RV) (as : List SV)
  | exc (c : Nat) (p : List D) (as : List SV)
  | stuck
def opt {α β : Type} (o : Option α) (f : α → Out β) : Out β := match o with
  | some a => f a
  | none => .stuck
@[simp] theorem opt_some {α β : Type} (a : α) (f : α → Out β) : opt (some a) f = f a := rfl
@[simp] theorem opt_none {α β : Type} (f : α → Out β) : opt none f = .stuck := rfl

def cont (e : EV) : RV → Option D
  | .v d => some d
  | .t d => some d
  | .h i => (e[i]?).bind SV.dat
/-- shared from now on -/
def frz (e : EV) : RV → Option (D × EV)
  | .v d => some (d, e)
  | .t d => some (d, e)
  | .h i => match e[i]? with
    | some (.own d) => some (d, e.set i (.val d))
    | some (.bor d) => some (d, e.set i (.fro d))
    | some (.val d) => some (d, e)
    | some (.fro d) => some (d, e)
    | _ => none

/-! ## what data is, in the heap -/
structure G0 where
  K : PySem.W.Frag
  gv : Nat → Addr
  cv : Nat → Addr
mutual
def Rep (C : G0) (H : Hp) : D → V → Prop
  | .non, v => v = .non
  | .bl b, v => v = .bl b
  | .int i, v => v = .int i
  | .str x, v => v = .str x
  | .tup ds, v => ∃ a vs, v = .ref a ∧ SqT C.K H a vs ∧ RepL C H ds vs
  | .lst ds, v => ∃ a vs, v = .ref a ∧ H a = some (.lst vs) ∧ RepL C H ds vs
  | .scr ns, v => ∃ a, v = .ref a ∧ SqL C.K H a (ns.map V.int)
  | .dk ks ds, v => ∃ a vs, v = .ref a ∧ H a = some (.dK (ks.zip vs)) ∧ ks.length = ds.length ∧ RepL C H ds vs
  | .dt ks ds, v => ∃ a vs, v = .ref a ∧ H a = some (.dT (ks.zip vs)) ∧ ks.length = ds.length ∧ RepL C H ds vs
  | .fn g, v => v = .ref (C.gv g)
  | .exn _ _, v => ∃ a, v = .ref a
def RepL (C : G0) (H : Hp) : List D → List V → Prop
  | [], vs => vs = []
  | d :: ds, vs => ∃ v r, vs = v :: r ∧ Rep C H d v ∧ RepL C H ds r
end
theorem RepL.len {C : G0} {H : Hp} : ∀ {ds : List D} {vs : List V}, RepL C H ds vs → ds.length = vs.length
  | [], vs, h => by rw [RepL] at h; subst h; rfl
  | d :: ds, vs, h => by
    rw [RepL] at h
    obtain ⟨v, r, rfl, _, h⟩ := h
    simp [RepL.len h]
theorem RepL.nil {C : G0} {H : Hp} : RepL C H [] [] := by rw [RepL]
theorem RepL.cons {C : G0} {H : Hp} {d : D} {ds : List D} {v : V} {vs : List V} (a : Rep C H d v) (b : RepL C H ds vs) : RepL C H (d :: ds) (v :: vs) := by
  rw [RepL]; exact ⟨v, vs, rfl, a, b⟩
theorem RepL.get {C : G0} {H : Hp} : ∀ {ds : List D} {vs : List V} {i : Nat} {d : D}, RepL C H ds vs → ds[i]? = some d → ∃ v, vs[i]? = some v ∧ Rep C H d v
  | [], _, _, _, _, e => by simp at e
  | d :: ds, vs, 0, d', h, e => by
    rw [RepL] at h
    obtain ⟨v, r, rfl, h1, _⟩ := h
    simp at e; subst e
    exact ⟨v, rfl, h1⟩
  | d :: ds, vs, i + 1, d', h, e => by
    rw [RepL] at h
    obtain ⟨v, r, rfl, _, h2⟩ := h
    obtain ⟨v', a, b⟩ := RepL.get (i := i) h2 (by simpa using e)
    exact ⟨v', by simpa using a, b⟩
theorem RepL.get' {C : G0} {H : Hp} : ∀ {ds : List D} {vs : List V} {i : Nat} {v : V}, RepL C H ds vs → vs[i]? = some v → ∃ d, ds[i]? = some d ∧ Rep C H d v
  | [], vs, i, v, h, e => by rw [RepL] at h; subst h; simp at e
  | d :: ds, vs, 0, d', h, e => by
    rw [RepL] at h
    obtain ⟨v, r, rfl, h1, _⟩ := h
    simp at e; subst e
    exact ⟨d, rfl, h1⟩
  | d :: ds, vs, i + 1, d', h, e => by
    rw [RepL] at h
    obtain ⟨v, r, rfl, _, h2⟩ := h
    obtain ⟨v', a, b⟩ := RepL.get' (i := i) h2 (by simpa using e)
    exact ⟨v', by simpa using a, b⟩
theorem RepL.append {C : G0} {H : Hp} : ∀ {ds es : List D} {vs ws : List V}, RepL C H ds vs → RepL C H es ws → RepL C H (ds ++ es) (vs ++ ws)
  | [], _, vs, ws, h, k => by rw [RepL] at h; subst h; exact k
  | d :: ds, es, vs, ws, h, k => by
    rw [RepL] at h
    obtain ⟨v, r, rfl, h1, h2⟩ := h
    exact .cons h1 (RepL.append h2 k)
theorem RepL.set {C : G0} {H : Hp} {d : D} {v : V} (r : Rep C H d v) : ∀ {ds : List D} {vs : List V} (i : Nat), RepL C H ds vs → RepL C H (ds.set i d) (vs.set i v)
  | [], vs, i, h => by rw [RepL] at h; subst h; simp [RepL]
  | d' :: ds, vs, 0, h => by
    rw [RepL] at h
    obtain ⟨v', r', rfl, h1, h2⟩ := h
    exact .cons r h2
  | d' :: ds, vs, i + 1, h => by
    rw [RepL] at h
    obtain ⟨v', r', rfl, h1, h2⟩ := h
    exact .cons h1 (RepL.set r i h2)
theorem RepL.take {C : G0} {H : Hp} : ∀ {ds : List D} {vs : List V} (n : Nat), RepL C H ds vs → RepL C H (ds.take n) (vs.take n)
  | ds, vs, 0, h => by simp [RepL]
  | [], vs, n + 1, h => by rw [RepL] at h; subst h; simp [RepL]
  | d' :: ds, vs, n + 1, h => by
    rw [RepL] at h
    obtain ⟨v', r', rfl, h1, h2⟩ := h
    exact .cons h1 (RepL.take n h2)
theorem RepL.drop {C : G0} {H : Hp} : ∀ {ds : List D} {vs : List V} (n : Nat), RepL C H ds vs → RepL C H (ds.drop n) (vs.drop n)
  | ds, vs, 0, h => h
  | [], vs, n + 1, h => by rw [RepL] at h; subst h; simp [RepL]
  | d' :: ds, vs, n + 1, h => by
    rw [RepL] at h
    obtain ⟨v', r', rfl, h1, h2⟩ := h
    exact RepL.drop n h2
theorem RepL.reverse {C : G0} {H : Hp} : ∀ {ds : List D} {vs : List V}, RepL C H ds vs → RepL C H ds.reverse vs.reverse
  | [], vs, h => by rw [RepL] at h; subst h; simp [RepL]
  | d' :: ds, vs, h => by
    rw [RepL] at h
    obtain ⟨v', r', rfl, h1, h2⟩ := h
    rw [List.reverse_cons, List.reverse_cons]
    exact (RepL.reverse h2).append (.cons h1 .nil)
theorem RepL.dropLast {C : G0} {H : Hp} {ds : List D} {vs : List V} (h : RepL C H ds vs) : RepL C H ds.dropLast vs.dropLast := by
  rw [List.dropLast_eq_take, List.dropLast_eq_take, h.len]; exact h.take _
theorem RepL.eraseIdx {C : G0} {H : Hp} : ∀ {ds : List D} {vs : List V} (n : Nat), RepL C H ds vs → RepL C H (ds.eraseIdx n) (vs.eraseIdx n)
  | [], vs, n, h => by rw [RepL] at h; subst h; simp [RepL]
  | d' :: ds, vs, 0, h => by
    rw [RepL] at h
    obtain ⟨v', r', rfl, h1, h2⟩ := h
    exact h2
  | d' :: ds, vs, n + 1, h => by
    rw [RepL] at h
    obtain ⟨v', r', rfl, h1, h2⟩ := h
    exact .cons h1 (RepL.eraseIdx n h2)
theorem RepL.rep {C : G0} {H : Hp} {ds : List D} {vs : List V} (h : RepL C H ds vs) : ∀ k : Nat, RepL C H (List.replicate k ds).flatten (List.replicate k vs).flatten
  | 0 => by simp [RepL]
  | k + 1 => by rw [List.replicate_succ, List.replicate_succ, List.flatten_cons, List.flatten_cons]; exact h.append (RepL.rep h k)

/-- one heap lies in another one -/
def Sub (H H' : Hp) : Prop := ∀ b o, H b = some o → H' b = some o
theorem Sub.refl (H : Hp) : Sub H H := fun _ _ h => h
theorem Sub.trans {H H1 H2 : Hp} (a : Sub H H1) (b : Sub H1 H2) : Sub H H2 := fun c o h => b c o (a c o h)
theorem Sub.rd {H H' : Hp} (s : Sub H H') {a : Addr} {u : HO} (h : Rd H a u) : Rd H' a u := by
  rcases h with h | ⟨o, h⟩
  · exact .inl (s _ _ h)
  · exact .inr ⟨o, s _ _ h⟩
theorem Sub.sqT {K : PySem.W.Frag} {H H' : Hp} (s : Sub H H') {a : Addr} {xs : List V} (h : SqT K H a xs) : SqT K H' a xs := h.imp s.rd id
theorem Sub.sqL {K : PySem.W.Frag} {H H' : Hp} (s : Sub H H') {a : Addr} {xs : List V} (h : SqL K H a xs) : SqL K H' a xs := h.imp s.rd id
mutual
theorem Rep.mono {C : G0} {H H' : Hp} (s : Sub H H') : ∀ {d : D} {v : V}, Rep C H d v → Rep C H' d v
  | .non, _, h => by rw [Rep] at h ⊢; exact h
  | .bl _, _, h => by rw [Rep] at h ⊢; exact h
  | .int _, _, h => by rw [Rep] at h ⊢; exact h
  | .str _, _, h => by rw [Rep] at h ⊢; exact h
  | .tup ds, _, h => by
    rw [Rep] at h ⊢
    obtain ⟨a, vs, e, h1, h2⟩ := h
    exact ⟨a, vs, e, s.sqT h1, RepL.mono s h2⟩
  | .lst ds, _, h => by
    rw [Rep] at h ⊢
    obtain ⟨a, vs, e, h1, h2⟩ := h
    exact ⟨a, vs, e, s _ _ h1, RepL.mono s h2⟩
  | .scr ds, _, h => by
    rw [Rep] at h ⊢
    obtain ⟨a, e, h1⟩ := h
    exact ⟨a, e, s.sqL h1⟩
  | .dk ks ds, _, h => by
    rw [Rep] at h ⊢
    obtain ⟨a, vs, e, h1, hl, h2⟩ := h
    exact ⟨a, vs, e, s _ _ h1, hl, RepL.mono s h2⟩
  | .dt ks ds, _, h => by
    rw [Rep] at h ⊢
    obtain ⟨a, vs, e, h1, hl, h2⟩ := h
    exact ⟨a, vs, e, s _ _ h1, hl, RepL.mono s h2⟩
  | .fn _, _, h => by rw [Rep] at h ⊢; exact h
  | .exn _ _, _, h => by rw [Rep] at h ⊢; exact h
theorem RepL.mono {C : G0} {H H' : Hp} (s : Sub H H') : ∀ {ds : List D} {vs : List V}, RepL C H ds vs → RepL C H' ds vs
  | [], _, h => by rw [RepL] at h ⊢; exact h
  | d :: ds, _, h => by
    rw [RepL] at h ⊢
    obtain ⟨v, r, e, h1, h2⟩ := h
    exact ⟨v, r, e, Rep.mono s h1, RepL.mono s h2⟩
end

/-- a thing of its own at a: its items are shared, it itself is not -/
def Mine (C : G0) (F H : Hp) (d : D) (a : Addr) : Prop :=
  F a = none ∧ match d with
  | .lst ds => ∃ vs, H a = some (.lst vs) ∧ RepL C F ds vs
  | .dk ks ds => ∃ vs, H a = some (.dK (ks.zip vs)) ∧ ks.length = ds.length ∧ RepL C F ds vs
  | .dt ks ds => ∃ vs, H a = some (.dT (ks.zip vs)) ∧ ks.length = ds.length ∧ RepL C F ds vs
  | _ => False
theorem Mine.there {C : G0} {F H : Hp} {d : D} {a : Addr} (m : Mine C F H d a) : ∃ o, H a = some o := by
  obtain ⟨_, m⟩ := m
  cases d <;> first | exact m.elim | skip
  · obtain ⟨vs, h, _⟩ := m; exact ⟨_, h⟩
  · obtain ⟨vs, h, _⟩ := m; exact ⟨_, h⟩
  · obtain ⟨vs, h, _⟩ := m; exact ⟨_, h⟩
theorem Mine.mono {C : G0} {F F' H H' : Hp} {d : D} {a : Addr} (m : Mine C F H d a) (s : Sub F F') (hf : F' a = none) (k : ∀ o, H a = some o → H' a = some o) : Mine C F' H' d a := by
  obtain ⟨_, m⟩ := m
  refine ⟨hf, ?_⟩
  cases d <;> first | exact m.elim | skip
  · obtain ⟨vs, h, r⟩ := m; exact ⟨vs, k _ h, r.mono s⟩
  · obtain ⟨vs, h, l, r⟩ := m; exact ⟨vs, k _ h, l, r.mono s⟩
  · obtain ⟨vs, h, l, r⟩ := m; exact ⟨vs, k _ h, l, r.mono s⟩

def SlotOk (C : G0) (F H : Hp) (s : SV) (o : Option (Option V)) : Prop := match s with
  | .un => True
  | .val d => ∃ v, o = some (some v) ∧ Rep C F d v
  | .own d => ∃ a, o = some (some (.ref a)) ∧ Mine C F H d a
  | .bor d => ∃ a, o = some (some (.ref a)) ∧ Mine C F H d a
  | .fro d => ∃ v, o = some (some v) ∧ Rep C F d v
/-- the addresses of the things of one's own -/
def OwnA (e : EV) (σ : St) (a : Addr) : Prop := ∃ (i : Nat) (s : SV), e[i]? = some s ∧ s.mine = true ∧ σ[i]? = some (some (.ref a))
structure SR (C : G0) (e : EV) (F : Hp) (σ : St) (H : Hp) : Prop where
  sub : Sub F H
  slot : ∀ (i : Nat) (s : SV), e[i]? = some s → SlotOk C F H s σ[i]?
  dis : ∀ (i j : Nat) (s t : SV) (a : Addr), e[i]? = some s → e[j]? = some t → s.mine = true → t.mine = true → σ[i]? = some (some (.ref a)) → σ[j]? = some (some (.ref a)) → i = j
  len : e.length = σ.length
theorem SR.mine {C : G0} {e : EV} {F : Hp} {σ : St} {H : Hp} (R : SR C e F σ H) {i : Nat} {s : SV} (h : e[i]? = some s) (m : s.mine = true) : ∃ d a, s.dat = some d ∧ σ[i]? = some (some (.ref a)) ∧ Mine C F H d a := by
  have q := R.slot i s h
  cases s with
  | un => cases m
  | val d => cases m
  | own d => obtain ⟨a, h1, h2⟩ := q; exact ⟨d, a, rfl, h1, h2⟩
  | bor d => obtain ⟨a, h1, h2⟩ := q; exact ⟨d, a, rfl, h1, h2⟩
  | fro d => cases m
theorem SR.ownNone {C : G0} {e : EV} {F : Hp} {σ : St} {H : Hp} (R : SR C e F σ H) {a : Addr} (h : OwnA e σ a) : F a = none ∧ ∃ o, H a = some o := by
  obtain ⟨i, s, h1, h2, h3⟩ := h
  obtain ⟨d, b, _, h4, h5⟩ := R.mine h1 h2
  rw [h3] at h4
  cases h4
  exact ⟨h5.1, h5.there⟩
theorem ne_none {α : Type} {o : Option α} (h : o ≠ none) : ∃ a, o = some a := Option.ne_none_iff_exists'.mp h

/-- what may have happened meanwhile; the slots may have changed -/
structure Tr (C : G0) (e : EV) (F : Hp) (σ : St) (H : Hp) (e' : EV) (F' : Hp) (σ' : St) (H' : Hp) : Prop where
  sr : SR C e' F' σ' H'
  fs : Sub F F'
  keep : ∀ b o, H b = some o → ¬ OwnA e σ b → H' b = some o
  there : ∀ b, H b ≠ none → H' b ≠ none
  new : ∀ b o, F' b = some o → F b = some o ∨ H b = none ∨ OwnA e σ b
  own : ∀ (i : Nat) d a, e'[i]? = some (.own d) → σ'[i]? = some (some (.ref a)) → (∃ (j : Nat) (d' : D), e[j]? = some (.own d') ∧ σ[j]? = some (some (.ref a))) ∨ H a = none
  nob : ∀ (i : Nat) d', e'[i]? = some (.bor d') → ∃ d, e[i]? = some (.bor d)
  bor : ∀ (i : Nat) d, e[i]? = some (.bor d) → σ'[i]? = σ[i]? ∧ ∃ d', e'[i]? = some (.bor d') ∨ e'[i]? = some (.fro d')
  fro : ∀ (i : Nat) d, e[i]? = some (.fro d) → σ'[i]? = σ[i]? ∧ e'[i]? = some (.fro d)
  len : e'.length = e.length
theorem Tr.refl {C : G0} {e : EV} {F : Hp} {σ : St} {H : Hp} (R : SR C e F σ H) : Tr C e F σ H e F σ H :=
  ⟨R, Sub.refl _, fun _ _ h _ => h, fun _ h => h, fun _ _ h => .inl h, fun i d a h k => .inl ⟨i, d, h, k⟩, fun _ d h => ⟨d, h⟩, fun _ d h => ⟨rfl, d, .inl h⟩, fun _ _ h => ⟨rfl, h⟩, rfl⟩
theorem Tr.ownA {C : G0} {e e1 : EV} {F F1 : Hp} {σ σ1 : St} {H H1 : Hp} (a : Tr C e F σ H e1 F1 σ1 H1) {c : Addr} (h : OwnA e1 σ1 c) : OwnA e σ c ∨ H c = none := by
  obtain ⟨i, s, h1, h2, h3⟩ := h
  cases s with
  | un => cases h2
  | val d => cases h2
  | own d =>
    rcases a.own i d c h1 h3 with ⟨j, d', k1, k2⟩ | q
    · exact .inl ⟨j, _, k1, rfl, k2⟩
    · exact .inr q
  | bor d =>
    obtain ⟨d', k⟩ := a.nob i d h1
    obtain ⟨k2, _⟩ := a.bor i d' k
    exact .inl ⟨i, _, k, rfl, by rw [← k2]; exact h3⟩
  | fro d => cases h2
theorem Tr.trans {C : G0} {e e1 e2 : EV} {F F1 F2 : Hp} {σ σ1 σ2 : St} {H H1 H2 : Hp} (a : Tr C e F σ H e1 F1 σ1 H1) (b : Tr C e1 F1 σ1 H1 e2 F2 σ2 H2) : Tr C e F σ H e2 F2 σ2 H2 where
  sr := b.sr
  fs := a.fs.trans b.fs
  keep := fun c o h n => b.keep c o (a.keep c o h n) fun q => by
    rcases a.ownA q with q | q
    · exact n q
    · rw [h] at q; cases q
  there := fun c h => b.there c (a.there c h)
  new := fun c o h => by
    rcases b.new c o h with h | h | h
    · exact a.new c o h
    · by_cases q : H c = none
      · exact .inr (.inl q)
      · exact absurd h (a.there c q)
    · exact .inr ((a.ownA h).symm)
  own := fun i d c h k => by
    rcases b.own i d c h k with ⟨j, d', k1, k2⟩ | h
    · exact a.own j d' c k1 k2
    · by_cases q : H c = none
      · exact .inr q
      · exact absurd h (a.there c q)
  nob := fun i d h => by
    obtain ⟨d', h⟩ := b.nob i d h
    exact a.nob i d' h
  bor := fun i d h => by
    obtain ⟨h1, d1, h2 | h2⟩ := a.bor i d h
    · obtain ⟨h3, h4⟩ := b.bor i d1 h2
      exact ⟨h3.trans h1, h4⟩
    · obtain ⟨h3, h4⟩ := b.fro i d1 h2
      exact ⟨h3.trans h1, d1, .inr h4⟩
  fro := fun i d h => by
    obtain ⟨h1, h2⟩ := a.fro i d h
    obtain ⟨h3, h4⟩ := b.fro i d h2
    exact ⟨h3.trans h1, h4⟩
  len := b.len.trans a.len
/-- .. within an expression: the slots stand -/
structure TrE (C : G0) (e : EV) (F : Hp) (σ : St) (H : Hp) (e' : EV) (F' : Hp) (H' : Hp) : Prop extends Tr C e F σ H e' F' σ H' where
  dat : ∀ (i : Nat) (s : SV), e[i]? = some s → s.dat.isSome = true → ∃ s', e'[i]? = some s' ∧ s'.dat.isSome = true
  nom : ∀ (i : Nat) (s' : SV), e'[i]? = some s' → s'.mine = true → ∃ s, e[i]? = some s ∧ s.mine = true
theorem TrE.refl {C : G0} {e : EV} {F : Hp} {σ : St} {H : Hp} (R : SR C e F σ H) : TrE C e F σ H e F H := ⟨Tr.refl R, fun i s h k => ⟨s, h, k⟩, fun i s h k => ⟨s, h, k⟩⟩
theorem TrE.trans {C : G0} {e e1 e2 : EV} {F F1 F2 : Hp} {σ : St} {H H1 H2 : Hp} (a : TrE C e F σ H e1 F1 H1) (b : TrE C e1 F1 σ H1 e2 F2 H2) : TrE C e F σ H e2 F2 H2 :=
  ⟨a.toTr.trans b.toTr, fun i s h k => by
    obtain ⟨s1, h1, k1⟩ := a.dat i s h k
    exact b.dat i s1 h1 k1, fun i s h k => by
    obtain ⟨s1, h1, k1⟩ := b.nom i s h k
    exact a.nom i s1 h1 k1⟩
theorem TrE.ownA' {C : G0} {e e1 : EV} {F F1 : Hp} {σ : St} {H H1 : Hp} (a : TrE C e F σ H e1 F1 H1) {c : Addr} (h : OwnA e1 σ c) : OwnA e σ c := by
  obtain ⟨i, s, h1, h2, h3⟩ := h
  obtain ⟨s', k1, k2⟩ := a.nom i s h1 h2
  exact ⟨i, s', k1, k2, h3⟩

/-- a result, and the value that it is; H0: the heap ahead -/
def RVok (C : G0) (H0 F : Hp) (σ : St) (H : Hp) (e : EV) (r : RV) (v : V) : Prop := match r with
  | .v d => Rep C F d v
  | .t d => ∃ a, v = .ref a ∧ Mine C F H d a ∧ H0 a = none ∧ ¬ OwnA e σ a
  | .h i => σ[i]? = some (some v) ∧ ∃ s, e[i]? = some s ∧ s.dat.isSome = true
theorem RVok.mono {C : G0} {H0 F F1 : Hp} {σ : St} {H H1 : Hp} {e e1 : EV} {r : RV} {v : V} (h : RVok C H0 F σ H e r v) (t : TrE C e F σ H e1 F1 H1) : RVok C H0 F1 σ H1 e1 r v := by
  cases r with
  | v d => exact Rep.mono t.fs h
  | t d =>
    obtain ⟨a, rfl, m, h0, n⟩ := h
    obtain ⟨o, ho⟩ := m.there
    refine ⟨a, rfl, m.mono t.fs ?_ fun o q => t.keep a o q n, h0, fun q => n (t.ownA' q)⟩
    cases q : F1 a with
    | none => rfl
    | some u =>
      rcases t.new a u q with z | z | z
      · rw [m.1] at z; cases z
      · rw [ho] at z; cases z
      · exact absurd z n
  | h i =>
    obtain ⟨h1, s, h2, h3⟩ := h
    exact ⟨h1, t.dat i s h2 h3⟩
theorem RVok.back {C : G0} {H0 H1 F : Hp} {σ : St} {H : Hp} {e : EV} {r : RV} {v : V} (h : RVok C H1 F σ H e r v) (k : ∀ b, H0 b ≠ none → H1 b ≠ none) : RVok C H0 F σ H e r v := by
  cases r with
  | v d => exact h
  | t d =>
    obtain ⟨a, rfl, m, h0, n⟩ := h
    refine ⟨a, rfl, m, ?_, n⟩
    by_cases q : H0 a = none
    · exact q
    · exact absurd h0 (k a q)
  | h i => exact h
theorem Mine.rep {C : G0} {F H : Hp} {d : D} {a : Addr} (m : Mine C F H d a) (s : Sub F H) : Rep C H d (.ref a) := by
  obtain ⟨_, m⟩ := m
  cases d <;> first | exact m.elim | skip
  · obtain ⟨vs, h, r⟩ := m; rw [Rep]; exact ⟨a, vs, rfl, h, r.mono s⟩
  · obtain ⟨vs, h, l, r⟩ := m; rw [Rep]; exact ⟨a, vs, rfl, h, l, r.mono s⟩
  · obtain ⟨vs, h, l, r⟩ := m; rw [Rep]; exact ⟨a, vs, rfl, h, l, r.mono s⟩
/-- what a result holds -/
theorem cont_rep {C : G0} {H0 F : Hp} {σ : St} {H : Hp} {e : EV} {r : RV} {v : V} {d : D} (R : SR C e F σ H) (h : RVok C H0 F σ H e r v) (k : cont e r = some d) : Rep C H d v := by
  cases r with
  | v d' => cases k; exact Rep.mono R.sub h
  | t d' =>
    cases k
    obtain ⟨a, rfl, m, _⟩ := h
    exact m.rep R.sub
  | h i =>
    obtain ⟨h1, s, h2, h3⟩ := h
    simp only [cont, h2, Option.bind_some] at k
    have q := R.slot i s h2
    rw [h1] at q
    cases s with
    | un => cases k
    | val d' => cases k; obtain ⟨v', e1, q⟩ := q; cases e1; exact Rep.mono R.sub q
    | own d' => cases k; obtain ⟨v', e1, q⟩ := q; cases e1; exact q.rep R.sub
    | bor d' => cases k; obtain ⟨v', e1, q⟩ := q; cases e1; exact q.rep R.sub
    | fro d' => cases k; obtain ⟨v', e1, q⟩ := q; cases e1; exact Rep.mono R.sub q
end PL
end

section
namespace PL
open PySem PySem.Spec L2

/-! ## the small language -/
inductive Bop where
  | add | sub | mul | fdiv | mod | pow | shl
  deriving DecidableEq
inductive Bi where
  | dict1 | len | abs | tuple | list | int1 | sum | min1 | max1 | min2 | max2 | all | any | sorted | gcd
  deriving DecidableEq
mutual
inductive E where
  | var (i : Nat) | int (k : Int) | bl (b : Bool) | non | str (x : Str)
  | con (c : Nat) | fnv (g : Nat)
  | bin (o : Bop) (a b : E) | neg (a : E)
  | cmp (o : CmpOp) (a b : E) | chain (o p : CmpOp) (a b c : E)
  | andor (k : Bool) (es : List E) | not_ (a : E) | ite (c a b : E)
  | tup (es : List E) | lst (es : List E)
  | ix (a i : E) | sl (a : E) (lo hi : Option E) | rev (a : E)
  | call (g : Nat) (es : List E) | callk (g : Nat) (es : List E) (ks : List Str) (ws : List E)
  | calld (i : Nat) (es : List E)
  | bi (b : Bi) (es : List E)
  | isi (a : E) (cs : List String)
  | isx (i : Nat) (c : Nat) (own : Bool)
  | dnew (t : Bool)
  | dlit (ks : List Key) (vs : List D) (x : E) (d : Option E)
  | app (i : Nat) (e : E) | ext (i : Nat) (e : E) | pop (i : Nat) | popat (i : Nat) (e : E)
  | comp (own : List Nat) (it : It) (tg : Tg) (cond : Option E) (elt : E)
  | dix (c : Nat) (a : E)
  | lrg (t : Bool) (a : E)
  | dd1 (k v : E)
  | lset (a : E) | sset (a : E)
  | callt (g : Nat) (es : List E)
  | comp2 (own : List Nat) (it : It) (tg : Tg) (cond : Option E) (own1 : List Nat) (it1 : It) (tg1 : Tg) (cond1 : Option E) (elt : E)
inductive It where
  | e (a : E) | rng (es : List E) | enum (a : E) | zip (es : List E)
inductive Tg where
  | nm (i : Nat) | tp (is : List Nat)
end
/-- except C as e: name = ['label', isinstance(e, T)] -/
structure Hd where
  c : Nat
  i : Nat
  j : Nat
  lab : Str
  cls : String
inductive S where
  | ex (e : E) | set (i : Nat) (e : E)
  | par (is : List Nat) (es : List E)
  | unp (is : List Nat) (e : E)
  | aug (i : Nat) (o : Bop) (e : E)
  | six (i : Nat) (k e : E)
  | unpx (ts : List (Nat × E)) (e : E)
  | if_ (c : E) (a b : List S) | wh (c : E) (b : List S)
  | for_ (tg : Tg) (it : It) (b : List S)
  | ret (e : E) | retN | raise_ (c : Nat) | brk | cnt | pass
  | try_ (b : List S) (hs : List Hd)

structure FnD where
  name : Str
  ps : List Str
  N : List Str
  body : List S
structure GT where
  fns : List FnD
  cons : List D
  wf : Nat
  nex : Nat
  dcs : List (List Key × List D)

/-! ## values -/
def sizeL : Nat := 16777216
def mulOk (i j : Int) : Bool := decide (i.natAbs < 2 ^ 64) || decide (j.natAbs < 2 ^ 64) || decide (i.natAbs.log2 + j.natAbs.log2 < 1000000)
def divOk (j : Int) : Bool := decide (0 < j) && decide (j.natAbs.log2 < 9000)
def powOk (i j : Int) : Bool := decide (0 ≤ j) && decide (j ≤ 1000000) && decide (i.natAbs < 2 ^ 64)
def binop : Bop → D → D → Option RV
  | .add, .int i, .int j => some (.v (.int (i + j)))
  | .add, .str x, .str y => if x.length + y.length ≤ sizeL then some (.v (.str (x ++ y))) else none
  | .add, .lst xs, .lst ys => if xs.length + ys.length ≤ sizeL then some (.t (.lst (xs ++ ys))) else none
  | .add, .tup xs, .tup ys => if xs.length + ys.length ≤ sizeL then some (.v (.tup (xs ++ ys))) else none
  | .sub, .int i, .int j => some (.v (.int (i - j)))
  | .mul, .int i, .int j => if mulOk i j then some (.v (.int (i * j))) else none
  | .mul, .lst xs, .int k => if decide (-(2 ^ 63) ≤ k) && decide (k < 2 ^ 63) && decide (xs.length * k.toNat ≤ sizeL) then some (.t (.lst (List.replicate k.toNat xs).flatten)) else none
  | .fdiv, .int i, .int j => if divOk j then some (.v (.int (i / j))) else if decide (j ≠ 0) && decide (j.natAbs < 1073741824) then some (.v (.int (i.fdiv j))) else none
  | .mod, .int i, .int j => if 0 < j then some (.v (.int (i % j))) else none
  | .pow, .int i, .int j => if powOk i j then some (.v (.int (i ^ j.toNat))) else none
  | .shl, .int i, .int j => if powOk i j then some (.v (.int (i * 2 ^ j.toNat))) else none
  | _, _, _ => none
mutual
def toPy : D → PyData
  | .non => .none
  | .bl b => .bool b
  | .int i => .int i
  | .str x => .str x
  | .tup xs => .tuple (toPys xs)
  | .lst xs => .list (toPys xs)
  | _ => .dict []
def toPys : List D → List PyData
  | [] => []
  | d :: ds => toPy d :: toPys ds
end
def eqD (a b : D) : Option Bool := if SeqAt.shaped (toPy a) && SeqAt.shaped (toPy b) then some (PyData.eqv (toPy a) (toPy b)) else none
def keyOf : D → Option Key
  | .int i => some (.inl i)
  | .str x => some (.inr x)
  | _ => none
def keysOf : List D → Option (List Key)
  | [] => some []
  | d :: ds => (keyOf d).bind fun k => (keysOf ds).map fun r => k :: r
def dlook {κ : Type} [DecidableEq κ] : List κ → List D → κ → Option D
  | k :: ks, d :: ds, x => if k = x then some d else dlook ks ds x
  | _, _, _ => none
def drepl {κ : Type} [DecidableEq κ] : List κ → List D → κ → D → List D
  | k :: ks, d :: ds, x, y => (if k = x then y else d) :: drepl ks ds x y
  | _, _, _, _ => []
def dput {κ : Type} [DecidableEq κ] (ks : List κ) (ds : List D) (x : κ) (y : D) : List κ × List D :=
  if x ∈ ks then (ks, drepl ks ds x y) else (ks ++ [x], ds ++ [y])
def flatD : D → Bool
  | .non => true
  | .bl _ => true
  | .int _ => true
  | .str _ => true
  | _ => false
def eqF : D → D → Bool
  | .non, .non => true
  | .bl a, .bl b => a == b
  | .bl a, .int b => (if a then 1 else 0) == b
  | .int a, .bl b => a == (if b then 1 else 0)
  | .int a, .int b => a == b
  | .str a, .str b => a == b
  | _, _ => false
def inD (x : D) (xs : List D) : Option Bool := if flatD x && xs.all flatD then some (xs.any fun y => eqF y x) else none
def isNon : D → Bool
  | .non => true
  | _ => false
def cmpop : CmpOp → D → D → Option Bool
  | .Eq, a, b => eqD a b
  | .NotEq, a, b => (eqD a b).map not
  | .Lt, .int i, .int j => some (decide (i < j))
  | .LtE, .int i, .int j => some (decide (i ≤ j))
  | .Gt, .int i, .int j => some (decide (j < i))
  | .GtE, .int i, .int j => some (decide (j ≤ i))
  | .Is, a, .non => some (isNon a)
  | .IsNot, a, .non => some (!isNon a)
  | .Is, .bl a, .bl b => some (decide (a = b))
  | .IsNot, .bl a, .bl b => some (!decide (a = b))
  | .In, x, .tup xs => inD x xs
  | .In, x, .lst xs => inD x xs
  | .In, x, .dk ks ds => (keyOf x).map fun k => (dlook ks ds k).isSome
  | .NotIn, x, .tup xs => (inD x xs).map not
  | .NotIn, x, .lst xs => (inD x xs).map not
  | .NotIn, x, .dk ks ds => (keyOf x).map fun k => !(dlook ks ds k).isSome
  | _, _, _ => none
def truth : D → Option Bool
  | .non => some false
  | .bl b => some b
  | .int i => some (i != 0)
  | .str y => if y.length ≤ sizeL then some ((y.length : Int) != 0) else none
  | .tup xs => some (!xs.isEmpty)
  | .lst xs => some (!xs.isEmpty)
  | .scr xs => some (!xs.isEmpty)
  | .dk ks _ => some (!ks.isEmpty)
  | _ => none
def item : D → D → Option D
  | .tup xs, .int i => atI xs i
  | .lst xs, .int i => atI xs i
  | .scr ns, .int i => (atI ns i).map D.int
  | .dk ks ds, x => (keyOf x).bind (dlook ks ds)
  | .str z, .int i => if z.length ≤ sizeL then (atI z.cps.toList i).map fun c => .str ⟨#[c]⟩ else none
  | _, _ => none
def cutD {α : Type} (xs : List α) (lo hi : Option Int) : List α := (xs.drop (HT.sIx xs.length 0 lo)).take (HT.sIx xs.length xs.length hi - HT.sIx xs.length 0 lo)
def sliceD : D → Option Int → Option Int → Option RV
  | .lst xs, lo, hi => some (.t (.lst (cutD xs lo hi)))
  | .scr xs, lo, hi => some (.t (.lst ((cutD xs lo hi).map D.int)))
  | .tup xs, lo, hi => some (.v (.tup (cutD xs lo hi)))
  | _, _, _ => none
def revD : D → Option RV
  | .lst xs => some (.t (.lst xs.reverse))
  | .tup xs => some (.v (.tup xs.reverse))
  | _ => none
def intsD : List D → Option (List Int)
  | [] => some []
  | .int i :: r => (intsD r).map fun l => i :: l
  | _ => none
def blsD : List D → Option (List Bool)
  | [] => some []
  | .bl i :: r => (blsD r).map fun l => i :: l
  | _ => none
def isort : List Int → List Int
  | [] => []
  | x :: xs => ins x (isort xs)
where ins (x : Int) : List Int → List Int
  | [] => [x]
  | y :: ys => if x ≤ y then x :: y :: ys else y :: ins x ys
def lmin : List Int → Int
  | [] => 0
  | [x] => x
  | x :: xs => if x ≤ lmin xs then x else lmin xs
def lmax : List Int → Int
  | [] => 0
  | [x] => x
  | x :: xs => if lmax xs ≤ x then x else lmax xs
/-! rows of whole numbers -/
def intsT : List D → Option (List (List Int))
  | [] => some []
  | .tup xs :: ds => (intsD xs).bind fun l => (intsT ds).map fun r => l :: r
  | _ => none
def rowD (l : List Int) : D := .tup (l.map D.int)
def rowsD : D → Option (List (List Int))
  | .lst xs => intsT xs
  | _ => none
def tmin : List (List Int) → List Int
  | [] => []
  | x :: xs => xs.foldl (fun a y => if y < a then y else a) x
def ded : List (List Int) → List (List Int)
  | [] => []
  | x :: xs => if x ∈ xs then ded xs else x :: ded xs
def cdB : Int := 1048576
def insC (x : List Int) : List (List Int) → List (List Int)
  | [] => [x]
  | y :: ys => if TS.code cdB x ≤ TS.code cdB y then x :: y :: ys else y :: insC x ys
def sortC : List (List Int) → List (List Int)
  | [] => []
  | x :: xs => insC x (sortC xs)
def ssort : List (List Int) → Option (List (List Int))
  | [] => none
  | x :: l => if l.length < 63 then
      if 0 < x.length && (x :: l).all (fun t => t.length == x.length && t.all fun k => decide (0 ≤ k) && decide (k < cdB)) then some (sortC (ded (x :: l)))
      else if l.all (fun t => t == x) then some [x] else none
    else none
def lsetN (l : List (List Int)) : Option Int := if l.length < 64 then some (ded l).length else none
/-- a dict of pairs: later ones win -/
def dispP : List D → List Key → List D → Option (List Key × List D)
  | [], ks, ds => some (ks, ds)
  | .tup [k, d] :: r, ks, ds => (keyOf k).bind fun x => dispP r (dput ks ds x d).1 (dput ks ds x d).2
  | _, _, _ => none
def biF : Bi → List D → Option RV
  | .len, [.tup xs] => some (.v (.int xs.length))
  | .len, [.lst xs] => some (.v (.int xs.length))
  | .len, [.scr xs] => some (.v (.int xs.length))
  | .len, [.str x] => if x.length ≤ sizeL then some (.v (.int x.length)) else none
  | .len, [.dk ks _] => some (.v (.int ks.length))
  | .abs, [.int i] => some (.v (.int (if i < 0 then -i else i)))
  | .tuple, [.tup xs] => some (.v (.tup xs))
  | .tuple, [.lst xs] => some (.v (.tup xs))
  | .list, [.tup xs] => some (.t (.lst xs))
  | .list, [.lst xs] => some (.t (.lst xs))
  | .list, [.scr xs] => some (.t (.lst (xs.map D.int)))
  | .int1, [.int i] => some (.v (.int i))
  | .int1, [.bl b] => some (.v (.int (if b then 1 else 0)))
  | .sum, [.lst xs] => (intsD xs).map fun l => .v (.int l.sum)
  | .min1, [.lst (x :: xs)] => match intsD (x :: xs) with
    | some l => some (.v (.int (lmin l)))
    | none => (intsT (x :: xs)).map fun l => .v (rowD (tmin l))
  | .max1, [.lst (x :: xs)] => (intsD (x :: xs)).map fun l => .v (.int (lmax l))
  | .min2, [.int i, .int j] => some (.v (.int (if j < i then j else i)))
  | .max2, [.int i, .int j] => some (.v (.int (if j > i then j else i)))
  | .all, [.lst xs] => (blsD xs).map fun l => .v (.bl (l.all id))
  | .any, [.lst xs] => (blsD xs).map fun l => .v (.bl (l.any id))
  | .sorted, [.lst xs] => (intsD xs).map fun l => .t (.lst ((isort l).map D.int))
  | .gcd, [.int i, .int j] => some (.v (.int ((Nat.gcd i.natAbs j.natAbs : Nat) : Int)))
  | .dict1, [.lst xs] => (dispP xs [] []).map fun p => .t (.dk p.1 p.2)
  | _, _ => none
def tyNm : D → Option String
  | .non => some "NoneType"
  | .bl _ => some "bool"
  | .int _ => some "int"
  | .str _ => some "str"
  | .tup _ => some "tuple"
  | .lst _ => some "list"
  | .scr _ => some "list"
  | .dk _ _ => some "dict"
  | _ => none
def isTy (t c : String) : Bool := t == c || (t == "bool" && c == "int")
def tyOk : List String := ["int", "bool", "str", "tuple", "list", "dict"]

/-! ## how slots change -/
def setOk (e : EV) (i : Nat) : Bool := match e[i]? with
  | some .un => true
  | some (.val _) => true
  | some (.own _) => true
  | _ => false
def setR (i : Nat) (r : RV) (e : EV) : Option EV :=
  if setOk e i then match r with
    | .v d => some (e.set i (.val d))
    | .t d => some (e.set i (.own d))
    | .h _ => none
  else none
/-- handles are shared from now on, new things stay one's own -/
def fzR (e : EV) : RV → Option (RV × EV)
  | .v d => some (.v d, e)
  | .t d => some (.t d, e)
  | .h i => (frz e (.h i)).map fun (d, e') => (.v d, e')
def fzRs (e : EV) : List RV → Option (List RV × EV)
  | [] => some ([], e)
  | r :: rs => (fzR e r).bind fun (r', e1) => (fzRs e1 rs).map fun (l, e2) => (r' :: l, e2)
def setRs : List Nat → List RV → EV → Option EV
  | [], [], e => some e
  | i :: is, r :: rs, e => (setR i r e).bind (setRs is rs)
  | _, _, _ => none
/-- the thing of one's own in a slot, changed -/
def upS (e : EV) (i : Nat) (d : D) : EV := match e[i]? with
  | some (.own _) => e.set i (.own d)
  | some (.bor _) => e.set i (.bor d)
  | _ => e
def mineD (e : EV) (i : Nat) : Option D := match e[i]? with
  | some (.own d) => some d
  | some (.bor d) => some d
  | _ => none
def lstAt (e : EV) (i : Nat) : Bool := match mineD e i with
  | some (.lst _) => true
  | _ => false
def dkAt (e : EV) (i : Nat) : Bool := match mineD e i with
  | some (.dk _ _) => true
  | _ => false
def setVals : List Nat → List D → EV → Option EV
  | [], [], e => some e
  | i :: is, d :: ds, e => if setOk e i then setVals is ds (e.set i (.val d)) else none
  | _, _, _ => none
def asg : Tg → D → EV → Option EV
  | .nm i, d, e => if setOk e i then some (e.set i (.val d)) else none
  | .tp is, .tup ds, e => setVals is ds e
  | _, _, _ => none
def wipeE (e : EV) : List Nat → EV
  | [] => e
  | i :: is => (wipeE e is).set i .un
/-- the slots is again as they were in e -/
def unwipe (e : EV) (e2 : EV) : List Nat → EV
  | [] => e2
  | i :: is => match e[i]? with
    | some s => (unwipe e e2 is).set i s
    | none => unwipe e e2 is
def argOf (e : EV) : RV → Option SV
  | .v d => some (.val d)
  | .t d => some (.val d)
  | .h i => match e[i]? with
    | some (.own d) => some (.bor d)
    | some (.bor d) => some (.bor d)
    | some (.val d) => some (.val d)
    | some (.fro d) => some (.val d)
    | _ => none
def argsOf (e : EV) : List RV → Option (List SV)
  | [] => some []
  | r :: rs => (argOf e r).bind fun a => (argsOf e rs).map fun l => a :: l
def hands : List RV → List Nat
  | [] => []
  | .h i :: rs => i :: hands rs
  | _ :: rs => hands rs
def putBack1 (e : EV) (r : RV) (s : SV) : EV := match r, s with
  | .h i, .bor d => match e[i]? with
    | some (.own _) => e.set i (.own d)
    | some (.bor _) => e.set i (.bor d)
    | _ => e
  | .h i, .fro d => match e[i]? with
    | some (.own _) => e.set i (.val d)
    | some (.bor _) => e.set i (.fro d)
    | _ => e
  | _, _ => e
def putBack : EV → List RV → List SV → EV
  | e, r :: rs, s :: ss => putBack (putBack1 e r s) rs ss
  | e, _, _ => e
def doCall (cf : Nat → List SV → CO) (g : Nat) (rs : List RV) (e : EV) : Out RV :=
  if (hands rs).Nodup then
    match argsOf e rs with
    | none => .stuck
    | some as => match cf g as with
      | .ok r as' => .ok r (putBack e rs as')
      | .exc c p as' => .exc c p (putBack e rs as')
      | .stuck => .stuck
  else .stuck
mutual
/-- no list, no dict in it -/
def tupD : D → Bool
  | .non => true
  | .bl _ => true
  | .int _ => true
  | .str _ => true
  | .tup ds => tupL ds
  | _ => false
def tupL : List D → Bool
  | [] => true
  | d :: ds => tupD d && tupL ds
end
def lstT : D → Bool
  | .lst ds => tupL ds
  | _ => false
def purA : SV → Bool
  | .val _ => true
  | .bor d => lstT d
  | .fro d => lstT d
  | _ => false
def thaw1 : SV → SV → SV
  | .bor _, .bor d => .bor d
  | .bor _, .fro d => .bor d
  | a, _ => a
def thaw (as bs : List SV) : List SV := as.zipWith thaw1 bs
/-- a call that keeps nothing of what it is lent -/
def doCallT (cf : Nat → List SV → CO) (g : Nat) (rs : List RV) (e : EV) : Out RV :=
  if (hands rs).Nodup then
    match argsOf e rs with
    | none => .stuck
    | some as => match cf g as with
      | .ok (.v d) as' => if tupD d && as'.all purA then .ok (.v d) (putBack e rs (thaw as as')) else .stuck
      | .ok _ _ => .stuck
      | .exc c p as' => .exc c p (putBack e rs as')
      | .stuck => .stuck
  else .stuck
/-- the keywords' values in the parameters' order, behind the positional ones -/
def kwSort {α : Type} (ps ks : List Str) (us ws : List α) : List α :=
  us ++ (ps.drop us.length).filterMap fun p => (ks.zip ws).lookup p
def compL (f : D → EV → Out (Option D)) (own : List Nat) : List D → EV → List D → Out (List D)
  | [], e, acc => .ok acc e
  | d :: ds, e, acc => match f d e with
    | .ok (some x) e1 => if acc.length < sizeL then compL f own ds (wipeE e1 own) (acc ++ [x]) else .stuck
    | .ok none e1 => compL f own ds (wipeE e1 own) acc
    | _ => .stuck
/-- two clauses: f leads to the second one's items -/
def comp2L (f : D → EV → Out (Option (List D))) (g : D → EV → Out (Option D)) (own own1 : List Nat) : List D → EV → List D → Out (List D)
  | [], e, acc => .ok acc e
  | d :: ds, e, acc => match f d e with
    | .ok (some xs) e1 => match compL g own1 xs (wipeE e1 own1) acc with
      | .ok acc1 e2 => comp2L f g own own1 ds (wipeE e2 own) acc1
      | _ => .stuck
    | .ok none e1 => comp2L f g own own1 ds (wipeE e1 own) acc
    | _ => .stuck
def conts (e : EV) : List RV → Option (List D)
  | [] => some []
  | r :: rs => (cont e r).bind fun d => (conts e rs).map fun l => d :: l
def frzs (e : EV) : List RV → Option (List D × EV)
  | [] => some ([], e)
  | r :: rs => (frz e r).bind fun (d, e1) => (frzs e1 rs).map fun (l, e2) => (d :: l, e2)
def seqD : D → Option (List D)
  | .tup xs => some xs
  | .lst xs => some xs
  | .scr xs => some (xs.map D.int)
  | _ => none
def seqL : D → Option (List D)
  | .lst xs => some xs
  | .scr xs => some (xs.map D.int)
  | _ => none
def intD : D → Option Int
  | .int i => some i
  | _ => none
def rngD : List D → Option (List D)
  | [.int n] => if decide (-(2 ^ 62) ≤ n) && decide (n < 2 ^ 62) then some ((List.range n.toNat).map fun (k : Nat) => .int (0 + (k : Int))) else none
  | [.int a, .int b] => if decide (-(2 ^ 62) ≤ a) && decide (a < 2 ^ 62) && decide (-(2 ^ 62) ≤ b) && decide (b < 2 ^ 62) then some ((List.range (b - a).toNat).map fun (k : Nat) => .int (a + (k : Int))) else none
  | [.int a, .int b, .int c] => if decide (0 < c) && decide (c < 1073741824) && decide (-(2 ^ 62) ≤ a) && decide (a < 2 ^ 62) && decide (-(2 ^ 62) ≤ b) && decide (b < 2 ^ 62) && Builtin.Range.small a b c && decide (0 ≤ Builtin.Range.rangeSize a b c) then some ((List.range (Builtin.Range.rangeSize a b c).toNat).map fun (k : Nat) => .int (a + (k : Int) * c)) else none
  | _ => none
def rgI (n : Int) : List D := (List.range n.toNat).map fun (k : Nat) => .int (0 + (k : Int))
def enumD (xs : List D) : List D := (List.range xs.length).zipWith (fun (k : Nat) x => .tup [.int k, x]) xs
def zipD (xs ys : List D) : List D := xs.zipWith (fun x y => .tup [x, y]) ys
def dispD : List D → List D → List Key → List D → Option (List Key × List D)
  | [], [], ks, ds => some (ks, ds)
  | k :: r, d :: s, ks, ds => (keyOf k).bind fun k' => let (ks1, ds1) := dput ks ds k' d; dispD r s ks1 ds1
  | _, _, _, _ => none
/-- a value as a test -/
def tst (m : Bool) (x : Out RV) : Out RV := if m then x.bd fun r e => opt ((cont e r).bind truth) fun b => .ok (.v (.bl b)) e else x
@[simp] theorem tst_false (x : Out RV) : tst false x = x := rfl
@[simp] theorem tst_true (x : Out RV) : tst true x = x.bd fun r e => opt ((cont e r).bind truth) fun b => .ok (.v (.bl b)) e := rfl
def toB (x : Out RV) : Out Bool := x.bd fun r e => match r with
  | .v (.bl b) => .ok b e
  | _ => .stuck
@[simp] theorem toB_ok (b : Bool) (e : EV) : toB (.ok (.v (.bl b)) e) = .ok b e := rfl
mutual
def evE (T : GT) (cf : Nat → List SV → CO) (m : Bool) : E → EV → Out RV
  | .var i, e => tst m (match e[i]? with
    | some (.val d) => .ok (.v d) e
    | some (.fro d) => .ok (.v d) e
    | some (.own _) => .ok (.h i) e
    | some (.bor _) => .ok (.h i) e
    | _ => .stuck)
  | .int k, e => tst m (.ok (.v (.int k)) e)
  | .bl b, e => tst m (.ok (.v (.bl b)) e)
  | .non, e => tst m (.ok (.v .non) e)
  | .str x, e => tst m (.ok (.v (.str x)) e)
  | .con c, e => tst m (opt T.cons[c]? fun d => .ok (.v d) e)
  | .fnv g, e => tst m (if g < T.fns.length then .ok (.v (.fn g)) e else .stuck)
  | .bin o a b, e => tst m ((evE T cf false a e).bd fun ra e1 => (evE T cf false b e1).bd fun rb e2 =>
      opt (cont e2 ra) fun x => opt (cont e2 rb) fun y => opt (binop o x y) fun r => .ok r e2)
  | .neg a, e => tst m ((evE T cf false a e).bd fun ra e1 => opt ((cont e1 ra).bind intD) fun i => .ok (.v (.int (-i))) e1)
  | .cmp o a b, e => tst m ((evE T cf false a e).bd fun ra e1 => (evE T cf false b e1).bd fun rb e2 =>
      opt (cont e2 ra) fun x => opt (cont e2 rb) fun y => opt (cmpop o x y) fun r => .ok (.v (.bl r)) e2)
  | .chain o p a b c, e => tst m ((evE T cf false a e).bd fun ra e1 => (evE T cf false b e1).bd fun rb e2 =>
      opt (cont e2 ra) fun x => opt (cont e2 rb) fun y => opt (cmpop o x y) fun r =>
        if r then (evE T cf false c e2).bd fun rc e3 => opt (cont e3 rb) fun y => opt (cont e3 rc) fun z => opt (cmpop p y z) fun r => .ok (.v (.bl r)) e3
        else .ok (.v (.bl false)) e2)
  | .andor k es, e => evV T cf m k es e
  | .not_ a, e => (evE T cf m a e).bd fun r e1 => opt ((cont e1 r).bind truth) fun b => .ok (.v (.bl (!b))) e1
  | .ite c a b, e => if m then .stuck else (toB (evE T cf true c e)).bd fun k e1 => if k then evE T cf false a e1 else evE T cf false b e1
  | .tup es, e => tst m ((evA T cf es e).bd fun rs e1 => opt (frzs e1 rs) fun (ds, e2) => if ds.length ≤ sizeL then .ok (.v (.tup ds)) e2 else .stuck)
  | .lst es, e => tst m ((evA T cf es e).bd fun rs e1 => opt (frzs e1 rs) fun (ds, e2) => if ds.length ≤ sizeL then .ok (.t (.lst ds)) e2 else .stuck)
  | .ix a i, e => tst m ((evE T cf false a e).bd fun ra e1 => (evE T cf false i e1).bd fun ri e2 =>
      opt (cont e2 ra) fun x => opt (cont e2 ri) fun y => opt (item x y) fun d => .ok (.v d) e2)
  | .sl a lo hi, e => tst m ((evE T cf false a e).bd fun ra e1 => (evO T cf lo e1).bd fun l e2 => (evO T cf hi e2).bd fun h e3 =>
      opt (cont e3 ra) fun x => opt (sliceD x l h) fun r => .ok r e3)
  | .rev a, e => tst m ((evE T cf false a e).bd fun ra e1 => opt (cont e1 ra) fun x => opt (revD x) fun r => .ok r e1)
  | .call g es, e => tst m ((evA T cf es e).bd fun rs e1 => doCall cf g rs e1)
  | .callt g es, e => tst m ((evA T cf es e).bd fun rs e1 => doCallT cf g rs e1)
  | .callk g es ks ws, e => tst m ((evA T cf es e).bd fun rs e1 => (evA T cf ws e1).bd fun qs e2 =>
      opt T.fns[g]? fun F => doCall cf g (kwSort F.ps ks rs qs) e2)
  | .calld i es, e => tst m (match e[i]? with
    | some (.val (.fn g)) => if g < T.fns.length then (evA T cf es e).bd fun rs e1 => doCall cf g rs e1 else .stuck
    | _ => .stuck)
  | .bi b es, e => tst m ((evA T cf es e).bd fun rs e1 => opt (conts e1 rs) fun ds => opt (biF b ds) fun r => .ok r e1)
  | .isi a cs, e => tst m ((evE T cf false a e).bd fun ra e1 => opt ((cont e1 ra).bind tyNm) fun t => if cs.all tyOk.contains then .ok (.v (.bl (cs.any (isTy t)))) e1 else .stuck)
  | .isx i c own, e => tst m (.stuck)
  | .dnew t, e => tst m (.ok (.t (if t then .dt [] [] else .dk [] [])) e)
  | .dlit ks vs x d, e => tst m ((evE T cf false x e).bd fun rx e1 => (evM T cf d e1).bd fun rd e2 =>
      opt ((cont e2 rx).bind keyOf) fun k => match dlook ks vs k with
        | some y => .ok (.v y) e2
        | none => opt (frz e2 rd) fun (y, e3) => .ok (.v y) e3)
  | .dd1 k v, e => tst m ((evE T cf false k e).bd fun rk e1 => (evE T cf false v e1).bd fun rv e2 => opt ((cont e2 rk).bind keyOf) fun x => opt (frz e2 rv) fun (d, e3) => .ok (.t (.dk [x] [d])) e3)
  | .lrg t a, e => tst m ((evE T cf false a e).bd fun r e1 => opt ((cont e1 r).bind intD) fun n =>
      if decide (-(2 ^ 62) ≤ n) && decide (n ≤ 16777216) then .ok (if t then .v (.tup (rgI n)) else .t (.lst (rgI n))) e1 else .stuck)
  | .dix k a, e => tst m (opt T.dcs[k]? fun p => (evE T cf false a e).bd fun r e1 => opt ((cont e1 r).bind keyOf) fun x => opt (dlook p.1 p.2 x) fun d => .ok (.v d) e1)
  | .app i a, e => tst m (if lstAt e i then (evE T cf false a e).bd fun ra e1 => opt (frz e1 ra) fun (d, e2) => match mineD e2 i with
    | some (.lst xs) => if xs.length < sizeL then .ok (.v .non) (upS e2 i (.lst (xs ++ [d]))) else .stuck
    | _ => .stuck
    else .stuck)
  | .ext i a, e => tst m (if lstAt e i then (evE T cf false a e).bd fun ra e1 => opt (cont e1 ra) fun d => match mineD e1 i, d with
    | some (.lst xs), .lst ys => if xs.length + ys.length ≤ sizeL then .ok (.v .non) (upS e1 i (.lst (xs ++ ys))) else .stuck
    | _, _ => .stuck
    else .stuck)
  | .pop i, e => tst m (match mineD e i with
    | some (.lst xs) => opt (xs[xs.length - 1]?) fun d => .ok (.v d) (upS e i (.lst xs.dropLast))
    | _ => .stuck)
  | .popat i a, e => tst m (if lstAt e i then (evE T cf false a e).bd fun ra e1 => opt ((cont e1 ra).bind intD) fun k => match mineD e1 i with
    | some (.lst xs) => if decide (-(2 ^ 63) ≤ k) && decide (k < 2 ^ 63) then opt (ixN xs.length k) fun j => opt (xs[j]?) fun d => .ok (.v d) (upS e1 i (.lst (xs.eraseIdx j))) else .stuck
    | _ => .stuck
    else .stuck)
  | .comp own it tg cond elt, e => tst m ((evI T cf it e).bd fun ds e1 =>
      (compL (fun d e => opt (asg tg d e) fun e1 => (evC T cf cond e1).bd fun k e2 => if k then (evE T cf false elt e2).bd fun r e3 => opt (frz e3 r) fun (x, e4) => .ok (some x) e4 else .ok none e2) own ds (wipeE e1 own) []).bd
        fun acc e2 => .ok (.t (.lst acc)) (unwipe e1 e2 own))
  | .lset a, e => tst m ((evE T cf false a e).bd fun r e1 => opt ((cont e1 r).bind rowsD) fun l => opt (lsetN l) fun k => .ok (.v (.int k)) e1)
  | .sset a, e => tst m ((evE T cf false a e).bd fun r e1 => opt ((cont e1 r).bind rowsD) fun l => opt (ssort l) fun k => .ok (.t (.lst (k.map rowD))) e1)
  | .comp2 own it tg cond own1 it1 tg1 cond1 elt, e => tst m ((evI T cf it e).bd fun ds e1 =>
      (comp2L (fun d e => opt (asg tg d e) fun e1 => (evC T cf cond e1).bd fun k e2 => if k then (evI T cf it1 e2).bd fun xs e3 => .ok (some xs) e3 else .ok none e2)
        (fun d e => opt (asg tg1 d e) fun e1 => (evC T cf cond1 e1).bd fun k e2 => if k then (evE T cf false elt e2).bd fun r e3 => opt (frz e3 r) fun (x, e4) => .ok (some x) e4 else .ok none e2) own own1 ds (wipeE e1 own) []).bd
        fun acc e2 => .ok (.t (.lst acc)) (unwipe e1 e2 own))
def evC (T : GT) (cf : Nat → List SV → CO) : Option E → EV → Out Bool
  | none, e => .ok true e
  | some c, e => toB (evE T cf true c e)
def evO (T : GT) (cf : Nat → List SV → CO) : Option E → EV → Out (Option Int)
  | none, e => .ok none e
  | some a, e => (evE T cf false a e).bd fun r e1 => opt ((cont e1 r).bind intD) fun i => .ok (some i) e1
def evM (T : GT) (cf : Nat → List SV → CO) : Option E → EV → Out RV
  | none, e => .ok (.v .non) e
  | some a, e => evE T cf false a e
def evI (T : GT) (cf : Nat → List SV → CO) : It → EV → Out (List D)
  | .e a, e => (evE T cf false a e).bd fun r e1 => opt (frz e1 r) fun (d, e2) => opt (seqD d) fun xs => .ok xs e2
  | .rng es, e => (evA T cf es e).bd fun rs e1 => opt (conts e1 rs) fun ds => opt (rngD ds) fun xs => .ok xs e1
  | .enum a, e => (evE T cf false a e).bd fun r e1 => opt (frz e1 r) fun (d, e2) => opt (seqL d) fun xs => .ok (enumD xs) e2
  | .zip es, e => (evA T cf es e).bd fun rs e1 => opt (frzs e1 rs) fun (ds, e2) => match ds with
    | [.tup xs, .tup ys] => .ok (zipD xs ys) e2
    | [x, y] => opt (seqL x) fun xs => opt (seqL y) fun ys => .ok (zipD xs ys) e2
    | _ => .stuck
def evA (T : GT) (cf : Nat → List SV → CO) : List E → EV → Out (List RV)
  | [], e => .ok [] e
  | a :: as, e => (evE T cf false a e).bd fun r e1 => (evA T cf as e1).bd fun rs e2 => .ok (r :: rs) e2
/-- and, or -/
def evV (T : GT) (cf : Nat → List SV → CO) (m : Bool) (k : Bool) : List E → EV → Out RV
  | [], _ => .stuck
  | a :: as, e => match as with
    | [] => evE T cf m a e
    | _ :: _ => (evE T cf m a e).bd fun r e1 => opt ((cont e1 r).bind truth) fun b => if b = k then evV T cf m k as e1 else .ok r e1
end

/-! ## statements -/
inductive Fl where
  | next | brk | cnt | ret (r : RV)
def forL (f : D → EV → Out Fl) : List D → EV → Out Fl
  | [], e => .ok .next e
  | d :: ds, e => (f d e).bd fun fl e1 => match fl with
    | .next => forL f ds e1
    | .cnt => forL f ds e1
    | .brk => .ok .next e1
    | .ret r => .ok (.ret r) e1
def whL (c : EV → Out Bool) (f : EV → Out Fl) : Nat → EV → Out Fl
  | 0, _ => .stuck
  | n + 1, e => (c e).bd fun b e1 => if b then (f e1).bd fun fl e2 => match fl with
      | .next => whL c f n e2
      | .cnt => whL c f n e2
      | .brk => .ok .next e2
      | .ret r => .ok (.ret r) e2
    else .ok .next e1
def sixE (e : EV) (i : Nat) (k d : D) : Option EV := match mineD e i with
  | some (.lst xs) => (intD k).bind fun z => (ixN xs.length z).map fun j => upS e i (.lst (xs.set j d))
  | some (.dk ks ds) => (keyOf k).bind fun z => if ks.length < sizeL then some (upS e i (.dk (dput ks ds z d).1 (dput ks ds z d).2)) else none
  | _ => none
def retR (e : EV) : RV → Option (RV × EV)
  | .v d => some (.v d, e)
  | .t d => some (.t d, e)
  | .h i => match e[i]? with
    | some (.own d) => some (.t d, e.set i .un)
    | some (.bor d) => some (.v d, e.set i (.fro d))
    | some (.val d) => some (.v d, e)
    | some (.fro d) => some (.v d, e)
    | _ => none
def exH : List Hd → Nat → List D → EV → Out Fl
  | [], c, p, e => .exc c p e
  | h :: hs, c, p, e => if c = h.c then
      if setOk e h.i && setOk (e.set h.i (.val (.exn c p))) h.j && h.i != h.j then .ok .next ((e.set h.j (.own (.lst [.str h.lab, .bl true]))).set h.i .un) else .stuck
    else exH hs c p e
def augop : Bop → D → D → Option D
  | .add, .int i, .int j => some (.int (i + j))
  | .sub, .int i, .int j => some (.int (i - j))
  | _, _, _ => none
mutual
def exS (T : GT) (cf : Nat → List SV → CO) : S → EV → Out Fl
  | .ex a, e => (evE T cf false a e).bd fun _ e1 => .ok .next e1
  | .set i a, e => (evE T cf false a e).bd fun r e1 => opt (fzR e1 r) fun (r', e2) => opt (setR i r' e2) fun e3 => .ok .next e3
  | .par is es, e => (evA T cf es e).bd fun rs e1 => opt (fzRs e1 rs) fun (rs', e2) => opt (setRs is rs' e2) fun e3 => .ok .next e3
  | .unp is a, e => (evE T cf false a e).bd fun r e1 => opt (cont e1 r) fun d => match d with
    | .tup ds => opt (setVals is ds e1) fun e2 => .ok .next e2
    | _ => .stuck
  | .aug i o a, e => match e[i]? with
    | some (.val x) => (evE T cf false a e).bd fun r e1 => opt (cont e1 r) fun y => opt (augop o x y) fun z => opt (setR i (.v z) e1) fun e2 => .ok .next e2
    | _ => .stuck
  | .six i k a, e => (evE T cf false a e).bd fun r e1 => opt (frz e1 r) fun (d, e2) => if lstAt e2 i || dkAt e2 i then (evE T cf false k e2).bd fun rk e3 => opt (cont e3 rk) fun kd =>
      opt (sixE e3 i kd d) fun e4 => .ok .next e4
    else .stuck
  | .unpx ts a, e => .stuck
  | .if_ c a b, e => (toB (evE T cf true c e)).bd fun k e1 => if k then exB T cf a e1 else exB T cf b e1
  | .wh c b, e => whL (fun e => toB (evE T cf true c e)) (fun e => exB T cf b e) T.wf e
  | .for_ tg it b, e => (evI T cf it e).bd fun ds e1 => forL (fun d e => opt (asg tg d e) fun e1 => exB T cf b e1) ds e1
  | .ret a, e => (evE T cf false a e).bd fun r e1 => opt (retR e1 r) fun (r2, e2) => .ok (.ret r2) e2
  | .retN, e => .ok (.ret (.v .non)) e
  | .raise_ c, e => .exc c [] e
  | .brk, e => .ok .brk e
  | .cnt, e => .ok .cnt e
  | .pass, e => .ok .next e
  | .try_ b hs, e => match exB T cf b e with
    | .exc c p e1 => if decide (c < T.nex) && p.isEmpty then exH hs c p e1 else .stuck
    | r => r
def exB (T : GT) (cf : Nat → List SV → CO) : List S → EV → Out Fl
  | [], e => .ok .next e
  | s :: ss, e => (exS T cf s e).bd fun fl e1 => match fl with
    | .next => exB T cf ss e1
    | fl => .ok fl e1
end
/-- what the arguments have become -/
def outs : List SV → EV → List SV
  | [], _ => []
  | .bor d :: as, s :: e => s :: outs as e
  | a :: as, _ :: e => a :: outs as e
  | as, [] => as
def fin (as : List SV) : Out Fl → CO
  | .ok .next e => .ok (.v .non) (outs as e)
  | .ok (.ret (.v d)) e => .ok (.v d) (outs as e)
  | .ok (.ret (.t d)) e => .ok (.t d) (outs as e)
  | .exc c p e => .exc c p (outs as e)
  | _ => .stuck
def callF (T : GT) : Nat → Nat → List SV → CO
  | 0, _, _ => .stuck
  | n + 1, g, as => match T.fns[g]? with
    | some F => if as.length = F.ps.length then fin as (exB T (callF T n) F.body (as ++ List.replicate (F.N.length - as.length) .un)) else .stuck
    | none => .stuck
end PL
end

section
namespace PL
open PySem PySem.Spec L2

/-! ## how the small language stands for the program's text -/
structure CC where
  N : List Str
  sc : Scope
  bs : Option Scope
  fn : List Str
  cn : List Str
  en : List Str
  calm : Bool
  kw : List (Nat × List Str × Nat)
  gcd : Bool
  isx : List (Nat × String)
  dn : List Str
def visB (sc : Scope) (x : Str) : Bool := match sc.names.lookup x with
  | some .local => true
  | some .cell => true
  | some .free => true
  | _ => false
def locB (sc : Scope) (x : Str) : Bool := match sc.names.lookup x with
  | some .local => true
  | some .cell => true
  | _ => false
def dbgB (x : Str) : Bool := !(x == ("__debug__" : Str)) && !(x == ("__classdict__" : Str))
def glB (sc : Scope) (x : Str) : Bool := (match sc.names.lookup x with
  | some .globalImplicit => true
  | _ => false) && !(x == ("__debug__" : Str)) && !(x == ("__name__" : Str))
def nmB (c : CC) (i : Nat) (x : Str) : Bool := decide (c.N[i]? = some x) && visB c.sc x && dbgB x
def stB (c : CC) (i : Nat) (x : Str) : Bool := decide (c.N[i]? = some x) && locB c.sc x && (match c.bs with
  | none => true
  | some s => locB s x)
def opOf : Bop → Operator
  | .add => .Add
  | .sub => .Sub
  | .mul => .Mult
  | .fdiv => .FloorDiv
  | .mod => .Mod
  | .pow => .Pow
  | .shl => .LShift
def biNm : Bi → String
  | .len => "len"
  | .abs => "abs"
  | .tuple => "tuple"
  | .list => "list"
  | .int1 => "int"
  | .sum => "sum"
  | .min1 => "min"
  | .max1 => "max"
  | .min2 => "min"
  | .max2 => "max"
  | .all => "all"
  | .any => "any"
  | .sorted => "sorted"
  | .gcd => "gcd"
  | .dict1 => "dict"
def plainB : Expr → Bool
  | .Starred .. => false
  | .Set .. => false
  | .NamedExpr .. => false
  | .Call (.Name x _) [] [] _ => !(x == ("super" : Str))
  | _ => true
def tyName (x : Expr) (s : String) : Bool := match x with
  | .Name y _ => decide (y = Str.ofString s)
  | _ => false
def gNames (c : CC) : List Expr → Bool
  | [] => true
  | .Name y _ :: r => glB c.sc y && gNames c r
  | _ => false
def tyNames : List String → List Expr → Bool
  | [], [] => true
  | s :: ss, x :: xs => tyName x s && tyNames ss xs
  | _, _ => false
def trTg (c : CC) : Tg → Expr → Bool
  | .nm i, .Name x _ => stB c i x
  | .tp is, .Tuple xs _ _ => trNs c is xs
  | _, _ => false
where trNs (c : CC) : List Nat → List Expr → Bool
  | [], [] => true
  | i :: is, .Name x _ :: xs => stB c i x && trNs c is xs
  | _, _ => false
def tgIx : Tg → List Nat
  | .nm i => [i]
  | .tp is => is
def ownP (c : CC) (own : List Nat) : List (Str × Nat) := own.map fun i => (c.N.getD i ("" : Str), i)
def blkCC (c : CC) (scope : Scope) : CC := { c with sc := relS scope c.sc, bs := some scope }
def mthB (p cp : Pos) : Bool := p.endLine == cp.line
def keyLs : List Key → List (Option Expr) → Bool
  | [], [] => true
  | .inl i :: ks, some (.Constant (.int j) _ _) :: r => decide (i = j) && keyLs ks r
  | .inr x :: ks, some (.Constant (.str y) _ _) :: r => decide (x = y) && keyLs ks r
  | _, _ => false
def valLs : List D → List Expr → Bool
  | [], [] => true
  | .int i :: ds, .Constant (.int j) _ _ :: r => decide (i = j) && valLs ds r
  | .str x :: ds, .Constant (.str y) _ _ :: r => decide (x = y) && valLs ds r
  | .bl x :: ds, .Constant (.bool y) _ _ :: r => decide (x = y) && valLs ds r
  | .non :: ds, .Constant .none _ _ :: r => valLs ds r
  | _, _ => false
mutual
def trE (c : CC) : E → Expr → Bool
  | .var i, .Name x _ => nmB c i x
  | .int k, .Constant (.int j) _ _ => decide (k = j)
  | .bl k, .Constant (.bool j) _ _ => decide (k = j)
  | .non, .Constant .none _ _ => true
  | .str k, .Constant (.str j) _ _ => decide (k = j)
  | .con k, .Name x _ => decide (c.cn[k]? = some x) && glB c.sc x
  | .fnv g, .Name x _ => decide (c.fn[g]? = some x) && glB c.sc x
  | .dd1 a b, .Dict [some y] [z] _ => trE c a y && trE c b z
  | .lrg t a, .Call (.Name x _) [.Call (.Name y _) [z] [] _] [] _ => decide (x = if t then "tuple" else "list") && decide (y = "range") && glB c.sc x && glB c.sc y && c.calm && trE c a z
  | .dix k a, .Subscript (.Name x _) y _ => decide (c.dn[k]? = some x) && glB c.sc x && trE c a y
  | .bin o a b, .BinOp x p y _ => decide (opOf o = p) && trE c a x && trE c b y
  | .neg a, .UnaryOp .USub x _ => trE c a x
  | .cmp o a b, .Compare x [p] [y] _ => decide (o = p) && trE c a x && trE c b y
  | .chain o p a b d, .Compare x [o', p'] [y, z] _ => decide (o = o') && decide (p = p') && trE c a x && trE c b y && trE c d z
  | .andor k es, .BoolOp o xs _ => decide ((if k then BoolOp.And else BoolOp.Or) = o) && trA c es xs
  | .not_ a, .UnaryOp .Not x _ => trE c a x
  | .ite d a b, .IfExp x y z _ => trE c d x && trE c a y && trE c b z
  | .tup es, .Tuple xs _ _ => trA c es xs
  | .lst es, .List xs _ => trA c es xs
  | .ix a i, .Subscript x y _ => trE c a x && trE c i y
  | .sl a lo hi, .Subscript x (.Slice l h none _) _ => trE c a x && trO c lo l && trO c hi h
  | .rev a, .Subscript x (.Slice none none (some (.UnaryOp .USub (.Constant (.int j) _ _) _)) _) _ => trE c a x && decide (j = 1)
  | .call g es, .Call (.Name x _) xs [] _ => decide (c.fn[g]? = some x) && glB c.sc x && c.calm && trA c es xs
  | .callt g es, .Call (.Name x _) xs [] _ => decide (c.fn[g]? = some x) && glB c.sc x && c.calm && trA c es xs
  | .callk g es ks ws, .Call (.Name x _) xs kws _ => decide (c.fn[g]? = some x) && glB c.sc x && c.calm && trA c es xs && trK c ks ws kws && c.kw.contains (g, ks, es.length)
  | .calld i es, .Call (.Name x _) xs [] _ => nmB c i x && c.calm && !es.isEmpty && trA c es xs
  | .lset a, .Call (.Name x _) [.Call (.Name y _) [z] [] _] [] _ => decide (x = "len") && decide (y = "set") && glB c.sc x && glB c.sc y && c.calm && trE c a z
  | .sset a, .Call (.Name x _) [.Call (.Name y _) [z] [] _] [] _ => decide (x = "sorted") && decide (y = "set") && glB c.sc x && glB c.sc y && c.calm && trE c a z
  | .bi b es, .Call (.Name x _) xs [] _ => decide (x = Str.ofString (biNm b)) && glB c.sc x && c.calm && !es.isEmpty && (c.gcd || b != .gcd) && trA c es xs
  | .isi a [s], .Call (.Name x _) [y, z] [] _ => decide (x = "isinstance") && glB c.sc x && trE c a y && gNames c [z] && tyName z s && tyOk.contains s
  | .isi a cs, .Call (.Name x _) [y, .Tuple zs _ _] [] _ => decide (x = "isinstance") && glB c.sc x && trE c a y && gNames c zs && tyNames cs zs && cs.all tyOk.contains && decide (cs.length ≤ 100)
  | .dnew _, .Dict [] [] _ => true
  | .dlit ks vs e d, .Call (.Attribute (.Dict keys values _) m ap) (y :: r) [] p => decide (m = "get") && mthB ap p && keyLs ks keys && valLs vs values && decide ks.Nodup && decide (ks.length = vs.length) && decide (ks.length ≤ 15) && !ks.isEmpty && trE c e y && trC c d r
  | .app i e, .Call (.Attribute (.Name x _) m ap) [y] [] p => nmB c i x && decide (m = "append") && mthB ap p && trE c e y
  | .ext i e, .Call (.Attribute (.Name x _) m ap) [y] [] p => nmB c i x && decide (m = "extend") && mthB ap p && trE c e y
  | .pop i, .Call (.Attribute (.Name x _) m ap) [] [] p => nmB c i x && decide (m = "pop") && mthB ap p
  | .popat i e, .Call (.Attribute (.Name x _) m ap) [y] [] p => nmB c i x && decide (m = "pop") && mthB ap p && trE c e y
  | .comp own it tg cond elt, .ListComp x [⟨t, i, ifs, 0⟩] scope _ => c.calm && blkC c.N c.sc scope (ownP c own) && trI c it i && (tgIx tg).all own.contains &&
      trTg (blkCC c scope) tg t && (itTup it tg) && trC (blkCC c scope) cond ifs && trE (blkCC c scope) elt x
  | .comp2 own it tg cond own1 it1 tg1 cond1 elt, .ListComp x [⟨t, i, ifs, 0⟩, ⟨t1, i1, ifs1, 0⟩] scope _ => c.calm && blkC c.N c.sc scope (ownP c own) && trI c it i && (tgIx tg).all own.contains &&
      trTg (blkCC c scope) tg t && (itTup it tg) && trC (blkCC c scope) cond ifs && own1.all own.contains && trI (blkCC c scope) it1 i1 && (tgIx tg1).all own1.contains &&
      trTg (blkCC c scope) tg1 t1 && (itTup it1 tg1) && trC (blkCC c scope) cond1 ifs1 && trE (blkCC c scope) elt x
  | _, _ => false
def trA (c : CC) : List E → List Expr → Bool
  | [], [] => true
  | a :: as, x :: xs => trE c a x && trA c as xs
  | _, _ => false
def trO (c : CC) : Option E → Option Expr → Bool
  | none, none => true
  | some a, some x => trE c a x
  | _, _ => false
def trC (c : CC) : Option E → List Expr → Bool
  | none, [] => true
  | some a, [x] => trE c a x
  | _, _ => false
def trK (c : CC) : List Str → List E → List Keyword → Bool
  | [], [], [] => true
  | k :: ks, a :: as, ⟨some n, x, _⟩ :: xs => decide (k = n) && trE c a x && trK c ks as xs
  | _, _, _ => false
def trI (c : CC) : It → Expr → Bool
  | .e a, x => trE c a x
  | .rng es, .Call (.Name x _) xs [] _ => decide (x = "range") && glB c.sc x && trA c es xs && (xs.length == 1 || xs.length == 2 || xs.length == 3)
  | .enum a, .Call (.Name x _) [y] [] _ => decide (x = "enumerate") && glB c.sc x && trE c a y
  | .zip es, .Call (.Name x _) xs [] _ => decide (x = "zip") && glB c.sc x && trA c es xs && xs.length == 2
  | _, _ => false
/-- pairs are made for a pair of names -/
def itTup : It → Tg → Bool
  | .enum _, .tp _ => true
  | .enum _, .nm _ => false
  | .zip _, .tp _ => true
  | .zip _, .nm _ => false
  | _, _ => true
end
def isLC : Expr → Bool
  | .ListComp .. => true
  | _ => false
def isTup : Expr → Bool
  | .Tuple .. => true
  | _ => false
def locAll (c : CC) (ts : List Expr) : Bool := ts.all fun
  | .Name x _ => c.sc.names.lookup x == some .local
  | _ => false
def idsOf (ts : List Expr) : List Str := ts.filterMap fun
  | .Name x _ => some x
  | _ => none
def lineAll (ts : List Expr) : Bool := ts.all fun t => t.pos.line == (ts.head?.map (·.pos.line)).getD 0
/-- whether the stores are swapped -/
def swN (c : CC) (ts vs : List Expr) : Bool := locAll c ts && (ts.length == 2 || ts.length == 3) && !vs.all (foldedForSure 8)
def parB (c : CC) (ts vs : List Expr) : Bool := lineAll ts && (idsOf ts).eraseDups.length == ts.length && (!swN c ts vs || !vs.all (constantsAlone 8))
def trHd (c : CC) (h : Hd) : ExceptHandler → Bool
  | .ExceptHandler (some (.Name x _)) (some n) [.Assign [.Name y _] (.List [.Constant (.str l) _ _, .Call (.Name f _) [.Name n' _, .Name cl _] [] _] _) _] _ =>
    decide (c.en[h.c]? = some x) && glB c.sc x && stB c h.i n && (match c.sc.names.lookup n with
      | some .local => true
      | _ => false) && nmB c h.i n' && stB c h.j y && decide (h.lab = l) && decide (f = "isinstance") && glB c.sc f && decide (cl = Str.ofString h.cls) && glB c.sc cl && tyExc.contains h.cls && c.isx.contains (h.c, h.cls)
  | _ => false
where tyExc : List String := ["ValueError", "LookupError"]
def trHs (c : CC) : List Hd → List ExceptHandler → Bool
  | [], [] => true
  | h :: hs, x :: xs => trHd c h x && trHs c hs xs
  | _, _ => false
mutual
def trS (c : CC) : S → Stmt → Bool
  | .ex e, .Expr x _ => trE c e x && !isLC x
  | .set i e, .Assign [.Name x _] y _ => stB c i x && trE c e y
  | .par is es, .Assign [.Tuple ts _ _] (.Tuple xs _ _) _ => c.calm && trTg.trNs c is ts && trA c es xs && decide (es.length = is.length) && decide is.Nodup && decide (is.length ≤ 100) && parB c ts xs
  | .unp is e, .Assign [.Tuple ts _ _] x _ => c.calm && trTg.trNs c is ts && trE c e x && !isTup x
  | .aug i o e, .AugAssign (.Name x _) p y _ => stB c i x && nmB c i x && decide (opOf o = p) && (o == .add || o == .sub) && trE c e y
  | .six i k e, .Assign [.Subscript (.Name x _) y _] z _ => nmB c i x && trE c k y && trE c e z
  | .if_ d a b, .If x ys zs _ => trE c d x && trB c a ys && trB c b zs
  | .wh d b, .While x ys [] _ => trE c d x && trB c b ys
  | .for_ tg it b, .For t i ys [] _ => c.calm && trI c it i && trTg c tg t && itTup it tg && trB c b ys
  | .ret e, .Return (some x) _ => trE c e x
  | .retN, .Return none _ => true
  | .raise_ k, .Raise (some (.Call (.Name x _) [] [] _)) none _ => c.calm && decide (c.en[k]? = some x) && glB c.sc x
  | .brk, .Break _ => true
  | .cnt, .Continue _ => true
  | .pass, .Pass _ => true
  | .try_ b hs, .Try ys (x :: xs) [] [] _ => c.calm && trB c b ys && trHs c hs (x :: xs)
  | _, _ => false
def trB (c : CC) : List S → List Stmt → Bool
  | [], [] => true
  | s :: ss, x :: xs => trS c s x && trB c ss xs
  | _, _ => false
end
end PL
end

section
namespace PL
open PySem PySem.Spec L2

variable {C : G0} {e e' : EV} {F F' H0 H H' : Hp} {σ : St}
theorem getE_set_self {α : Type} {l : List α} {i : Nat} {a b : α} (h : l[i]? = some b) : (l.set i a)[i]? = some a := by
  have := (List.getElem?_eq_some_iff.mp h).1
  simp [this]
theorem getE_set_ne {α : Type} {l : List α} {i j : Nat} {a : α} (h : i ≠ j) : (l.set i a)[j]? = l[j]? := List.getElem?_set_ne h
/-- a thing of one's own becomes shared -/
theorem share {i : Nat} {s s' : SV} {d : D} {a : Addr} (R : SR C e F σ H) (h : e[i]? = some s) (m : s.mine = true) (hd : s.dat = some d) (ha : σ[i]? = some (some (.ref a)))
    (hs : (s = .own d ∧ s' = .val d) ∨ (s = .bor d ∧ s' = .fro d)) :
    ∃ F', TrE C e F σ H (e.set i s') F' H ∧ Rep C F' d (.ref a) := by
  obtain ⟨d', a', h1, h2, mm⟩ := R.mine h m
  rw [hd] at h1; cases h1
  rw [ha] at h2; cases h2
  obtain ⟨o, ho⟩ := mm.there
  have hFa := mm.1
  have sF : Sub F (upd F a o) := fun b u q => by
    by_cases e : b = a
    · subst e; rw [hFa] at q; cases q
    · rw [upd_ne e]; exact q
  have sH : Sub (upd F a o) H := fun b u q => by
    by_cases e : b = a
    · subst e; rw [upd_same] at q; cases q; exact ho
    · rw [upd_ne e] at q; exact R.sub b u q
  have rep : Rep C (upd F a o) d (.ref a) := by
    obtain ⟨_, mm⟩ := mm
    cases d <;> first | exact mm.elim | skip
    · obtain ⟨vs, q, r⟩ := mm; rw [ho] at q; cases q; rw [Rep]; exact ⟨a, vs, rfl, upd_same, r.mono sF⟩
    · obtain ⟨vs, q, l, r⟩ := mm; rw [ho] at q; cases q; rw [Rep]; exact ⟨a, vs, rfl, upd_same, l, r.mono sF⟩
    · obtain ⟨vs, q, l, r⟩ := mm; rw [ho] at q; cases q; rw [Rep]; exact ⟨a, vs, rfl, upd_same, l, r.mono sF⟩
  have hi : i < e.length := (List.getElem?_eq_some_iff.mp h).1
  have sm : s'.mine = false := by rcases hs with ⟨_, rfl⟩ | ⟨_, rfl⟩ <;> rfl
  have old : ∀ (j : Nat) (t : SV), (e.set i s')[j]? = some t → t.mine = true → j ≠ i ∧ e[j]? = some t := fun j t q mt => by
    by_cases ej : i = j
    · subst ej; rw [getE_set_self h] at q; cases q; rw [sm] at mt; cases mt
    · rw [getE_set_ne ej] at q; exact ⟨Ne.symm ej, q⟩
  have own : OwnA e σ a := ⟨i, s, h, m, ha⟩
  refine ⟨upd F a o, ⟨⟨⟨sH, fun j t q => ?_, fun j k t u b q1 q2 m1 m2 => R.dis j k t u b (old j t q1 m1).2 (old k u q2 m2).2 m1 m2, by simpa using R.len⟩, sF, fun _ _ q _ => q, fun _ q => q, fun b u q => ?_, fun j d' b q1 q2 => ?_, fun j d' q => ?_, fun j d' q => ?_, fun j d' q => ?_, by simp⟩, fun j t q dt => ?_, fun j t q mt => ⟨t, (old j t q mt).2, mt⟩⟩, rep⟩
  · by_cases ej : i = j
    · subst ej; rw [getE_set_self h] at q; cases q
      rcases hs with ⟨_, rfl⟩ | ⟨_, rfl⟩ <;> exact ⟨_, ha, rep⟩
    · rw [getE_set_ne ej] at q
      have z := R.slot j t q
      cases t with
      | un => trivial
      | val d' => obtain ⟨v, q1, q2⟩ := z; exact ⟨v, q1, q2.mono sF⟩
      | fro d' => obtain ⟨v, q1, q2⟩ := z; exact ⟨v, q1, q2.mono sF⟩
      | own d' =>
        obtain ⟨b, q1, q2⟩ := z
        refine ⟨b, q1, q2.mono sF ?_ fun _ z => z⟩
        have hne : b ≠ a := fun eb => ej (R.dis i j s _ a h q m rfl ha (by rw [← eb]; exact q1))
        rw [upd_ne hne]
        exact q2.1
      | bor d' =>
        obtain ⟨b, q1, q2⟩ := z
        refine ⟨b, q1, q2.mono sF ?_ fun _ z => z⟩
        have hne : b ≠ a := fun eb => ej (R.dis i j s _ a h q m rfl ha (by rw [← eb]; exact q1))
        rw [upd_ne hne]
        exact q2.1
  · by_cases eb : b = a
    · subst eb; exact .inr (.inr own)
    · rw [upd_ne eb] at q; exact .inl q
  · obtain ⟨_, q⟩ := old j _ q1 rfl
    exact .inl ⟨j, d', q, q2⟩
  · obtain ⟨_, q⟩ := old j _ q rfl
    exact ⟨d', q⟩
  · refine ⟨rfl, ?_⟩
    by_cases ej : i = j
    · subst ej
      rw [h] at q; cases q
      rcases hs with ⟨z, _⟩ | ⟨_, rfl⟩
      · cases z
      · exact ⟨d, .inr (getE_set_self h)⟩
    · exact ⟨d', .inl (by rw [getE_set_ne ej]; exact q)⟩
  · refine ⟨rfl, ?_⟩
    by_cases ej : i = j
    · subst ej; rw [h] at q; cases q; cases m
    · rw [getE_set_ne ej]; exact q
  · by_cases ej : i = j
    · subst ej
      refine ⟨s', getE_set_self h, ?_⟩
      rcases hs with ⟨_, rfl⟩ | ⟨_, rfl⟩ <;> rfl
    · exact ⟨t, by rw [getE_set_ne ej]; exact q, dt⟩
/-- a new thing becomes shared at once -/
theorem shareT {d : D} {a : Addr} (R : SR C e F σ H) (mm : Mine C F H d a) (hn : ¬ OwnA e σ a) (hf : H0 a = none) :
    ∃ F', Rep C F' d (.ref a) ∧ Sub F F' ∧ SR C e F' σ H ∧ (∀ b o, F' b = some o → F b = some o ∨ b = a) := by
  obtain ⟨o, ho⟩ := mm.there
  have hFa := mm.1
  have sF : Sub F (upd F a o) := fun b u q => by
    by_cases e : b = a
    · subst e; rw [hFa] at q; cases q
    · rw [upd_ne e]; exact q
  have sH : Sub (upd F a o) H := fun b u q => by
    by_cases e : b = a
    · subst e; rw [upd_same] at q; cases q; exact ho
    · rw [upd_ne e] at q; exact R.sub b u q
  have rep : Rep C (upd F a o) d (.ref a) := by
    obtain ⟨_, mm⟩ := mm
    cases d <;> first | exact mm.elim | skip
    · obtain ⟨vs, q, r⟩ := mm; rw [ho] at q; cases q; rw [Rep]; exact ⟨a, vs, rfl, upd_same, r.mono sF⟩
    · obtain ⟨vs, q, l, r⟩ := mm; rw [ho] at q; cases q; rw [Rep]; exact ⟨a, vs, rfl, upd_same, l, r.mono sF⟩
    · obtain ⟨vs, q, l, r⟩ := mm; rw [ho] at q; cases q; rw [Rep]; exact ⟨a, vs, rfl, upd_same, l, r.mono sF⟩
  refine ⟨upd F a o, rep, sF, ⟨sH, fun j t q => ?_, R.dis, R.len⟩, fun b u q => ?_⟩
  · have z := R.slot j t q
    cases t with
    | un => trivial
    | val d' => obtain ⟨v, q1, q2⟩ := z; exact ⟨v, q1, q2.mono sF⟩
    | fro d' => obtain ⟨v, q1, q2⟩ := z; exact ⟨v, q1, q2.mono sF⟩
    | own d' =>
      obtain ⟨b, q1, q2⟩ := z
      refine ⟨b, q1, q2.mono sF ?_ fun _ z => z⟩
      have hne : b ≠ a := fun eb => hn ⟨j, _, q, rfl, by rw [← eb]; exact q1⟩
      rw [upd_ne hne]
      exact q2.1
    | bor d' =>
      obtain ⟨b, q1, q2⟩ := z
      refine ⟨b, q1, q2.mono sF ?_ fun _ z => z⟩
      have hne : b ≠ a := fun eb => hn ⟨j, _, q, rfl, by rw [← eb]; exact q1⟩
      rw [upd_ne hne]
      exact q2.1
  · by_cases eb : b = a
    · exact .inr eb
    · rw [upd_ne eb] at q; exact .inl q
/-- from an earlier point of view: only the shared part has grown by what is new since -/
theorem TrE.grow {e1 : EV} {F1 F2 H1 : Hp} (t : TrE C e F σ H e1 F1 H1) (s : Sub F1 F2) (r : SR C e1 F2 σ H1) {a : Addr} (hn : ∀ b o, F2 b = some o → F1 b = some o ∨ b = a) (ha : H a = none) : TrE C e F σ H e1 F2 H1 :=
  ⟨⟨r, t.fs.trans s, t.keep, t.there, fun b o q => by
    rcases hn b o q with q | rfl
    · exact t.new b o q
    · exact .inr (.inl ha), t.own, t.nob, t.bor, t.fro, t.len⟩, t.dat, t.nom⟩
theorem frz_ok {e1 : EV} {F1 H1 : Hp} {r : RV} {v : V} {d : D} (t : TrE C e F σ H e1 F1 H1) (h : RVok C H F1 σ H1 e1 r v) (k : frz e1 r = some (d, e')) :
    ∃ F', TrE C e F σ H e' F' H1 ∧ Rep C F' d v ∧ Sub F1 F' := by
  cases r with
  | v d' => cases k; exact ⟨F1, t, h, Sub.refl _⟩
  | t d' =>
    cases k
    obtain ⟨a, rfl, m, h0, n⟩ := h
    obtain ⟨F', q1, q2, q3, q4⟩ := shareT (H0 := H) t.sr m n h0
    exact ⟨F', t.grow q2 q3 q4 h0, q1, q2⟩
  | h i =>
    obtain ⟨h1, s, h2, h3⟩ := h
    have q := t.sr.slot i s h2
    simp only [frz, h2] at k
    cases s with
    | un => cases k
    | val d' => cases k; obtain ⟨v', e1, q⟩ := q; rw [h1] at e1; cases e1; exact ⟨F1, t, q, Sub.refl _⟩
    | fro d' => cases k; obtain ⟨v', e1, q⟩ := q; rw [h1] at e1; cases e1; exact ⟨F1, t, q, Sub.refl _⟩
    | own d' =>
      cases k; obtain ⟨a, e1, q⟩ := q; rw [h1] at e1; cases e1
      obtain ⟨F', q1, q2⟩ := share t.sr h2 rfl rfl h1 (.inl ⟨rfl, rfl⟩)
      exact ⟨F', t.trans q1, q2, q1.fs⟩
    | bor d' =>
      cases k; obtain ⟨a, e1, q⟩ := q; rw [h1] at e1; cases e1
      obtain ⟨F', q1, q2⟩ := share t.sr h2 rfl rfl h1 (.inr ⟨rfl, rfl⟩)
      exact ⟨F', t.trans q1, q2, q1.fs⟩

/-! ## what is wanted of an outcome -/
def ExW (C : G0) (W : WX) (c : Nat) (p : List D) (σ : St) (H : Hp) : Prop := p = [] ∧ W (.ref (C.cv c)) none σ H
def PostE (C : G0) (W : WX) (e : EV) (F : Hp) (σ : St) (H : Hp) (o : Out RV) (Q : VK) : Prop := match o with
  | .ok r e' => ∀ v F' H', TrE C e F σ H e' F' H' → RVok C H F' σ H' e' r v → Q v H'
  | .exc c p e' => ∀ F' H', TrE C e F σ H e' F' H' → ExW C W c p σ H'
  | .stuck => False
def PostB (C : G0) (W : WX) (e : EV) (F : Hp) (σ : St) (H : Hp) (o : Out Bool) (Q : Bool → Hp → Prop) : Prop := match o with
  | .ok r e' => ∀ F' H', TrE C e F σ H e' F' H' → Q r H'
  | .exc c p e' => ∀ F' H', TrE C e F σ H e' F' H' → ExW C W c p σ H'
  | .stuck => False
/-- a list of results -/
def RVs (C : G0) (H0 F : Hp) (σ : St) (H : Hp) (e : EV) : List RV → List V → Prop
  | [], vs => vs = []
  | r :: rs, vs => ∃ v ws, vs = v :: ws ∧ RVok C H0 F σ H e r v ∧ RVs C H0 F σ H e rs ws
theorem RVs.mono {e1 : EV} {F1 H1 : Hp} (t : TrE C e F σ H e1 F1 H1) : ∀ {rs : List RV} {vs : List V}, RVs C H0 F σ H e rs vs → RVs C H0 F1 σ H1 e1 rs vs
  | [], _, h => h
  | r :: rs, _, ⟨v, ws, e, a, b⟩ => ⟨v, ws, e, a.mono t, RVs.mono t b⟩
theorem RVs.back {H1 : Hp} (k : ∀ b, H0 b ≠ none → H1 b ≠ none) : ∀ {rs : List RV} {vs : List V}, RVs C H1 F σ H e rs vs → RVs C H0 F σ H e rs vs
  | [], _, h => h
  | r :: rs, _, ⟨v, ws, e, a, b⟩ => ⟨v, ws, e, a.back k, RVs.back k b⟩
def PostA (C : G0) (W : WX) (e : EV) (F : Hp) (σ : St) (H : Hp) (o : Out (List RV)) (Q : List V → Hp → Prop) : Prop := match o with
  | .ok rs e' => ∀ vs F' H', TrE C e F σ H e' F' H' → RVs C H F' σ H' e' rs vs → Q vs H'
  | .exc c p e' => ∀ F' H', TrE C e F σ H e' F' H' → ExW C W c p σ H'
  | .stuck => False
def PostO (C : G0) (W : WX) (e : EV) (F : Hp) (σ : St) (H : Hp) (o : Out (Option Int)) (Q : Option Int → Hp → Prop) : Prop := match o with
  | .ok r e' => ∀ F' H', TrE C e F σ H e' F' H' → Q r H'
  | .exc c p e' => ∀ F' H', TrE C e F σ H e' F' H' → ExW C W c p σ H'
  | .stuck => False
theorem PostE.shift {W : WX} {e1 : EV} {F1 H1 : Hp} {o : Out RV} {Q : VK} (t : TrE C e F σ H e1 F1 H1) (h : PostE C W e F σ H o Q) : PostE C W e1 F1 σ H1 o Q := by
  cases o with
  | ok r e' => exact fun v F' H' t' r' => h v F' H' (t.trans t') (r'.back t.there)
  | exc c p e' => exact fun F' H' t' => h F' H' (t.trans t')
  | stuck => exact h
theorem PostB.shift {W : WX} {e1 : EV} {F1 H1 : Hp} {o : Out Bool} {Q : Bool → Hp → Prop} (t : TrE C e F σ H e1 F1 H1) (h : PostB C W e F σ H o Q) : PostB C W e1 F1 σ H1 o Q := by
  cases o with
  | ok r e' => exact fun F' H' t' => h F' H' (t.trans t')
  | exc c p e' => exact fun F' H' t' => h F' H' (t.trans t')
  | stuck => exact h
theorem PostA.shift {W : WX} {e1 : EV} {F1 H1 : Hp} {o : Out (List RV)} {Q : List V → Hp → Prop} (t : TrE C e F σ H e1 F1 H1) (h : PostA C W e F σ H o Q) : PostA C W e1 F1 σ H1 o Q := by
  cases o with
  | ok r e' => exact fun v F' H' t' r' => h v F' H' (t.trans t') (r'.back t.there)
  | exc c p e' => exact fun F' H' t' => h F' H' (t.trans t')
  | stuck => exact h
theorem PostO.shift {W : WX} {e1 : EV} {F1 H1 : Hp} {o : Out (Option Int)} {Q : Option Int → Hp → Prop} (t : TrE C e F σ H e1 F1 H1) (h : PostO C W e F σ H o Q) : PostO C W e1 F1 σ H1 o Q := by
  cases o with
  | ok r e' => exact fun F' H' t' => h F' H' (t.trans t')
  | exc c p e' => exact fun F' H' t' => h F' H' (t.trans t')
  | stuck => exact h
/-- first x, then f -/
theorem PostE.first {W : WX} {x : Out RV} {f : RV → EV → Out RV} {Q Q1 : VK} (h : PostE C W e F σ H (x.bd f) Q)
    (k : ∀ r e1 v F1 H1, TrE C e F σ H e1 F1 H1 → RVok C H F1 σ H1 e1 r v → PostE C W e1 F1 σ H1 (f r e1) Q → Q1 v H1) : PostE C W e F σ H x Q1 := by
  cases x with
  | ok r e1 => exact fun v F1 H1 t r1 => k r e1 v F1 H1 t r1 (PostE.shift t h)
  | exc c p e1 => exact h
  | stuck => exact h
theorem PostE.firstA {W : WX} {x : Out (List RV)} {f : List RV → EV → Out RV} {Q : VK} {Q1 : List V → Hp → Prop} (h : PostE C W e F σ H (x.bd f) Q)
    (k : ∀ rs e1 vs F1 H1, TrE C e F σ H e1 F1 H1 → RVs C H F1 σ H1 e1 rs vs → PostE C W e1 F1 σ H1 (f rs e1) Q → Q1 vs H1) : PostA C W e F σ H x Q1 := by
  cases x with
  | ok r e1 => exact fun v F1 H1 t r1 => k r e1 v F1 H1 t r1 (PostE.shift t h)
  | exc c p e1 => exact h
  | stuck => exact h
theorem PostE.firstB {W : WX} {x : Out Bool} {f : Bool → EV → Out RV} {Q : VK} {Q1 : Bool → Hp → Prop} (h : PostE C W e F σ H (x.bd f) Q)
    (k : ∀ r e1 F1 H1, TrE C e F σ H e1 F1 H1 → PostE C W e1 F1 σ H1 (f r e1) Q → Q1 r H1) : PostB C W e F σ H x Q1 := by
  cases x with
  | ok r e1 => exact fun F1 H1 t => k r e1 F1 H1 t (PostE.shift t h)
  | exc c p e1 => exact h
  | stuck => exact h
theorem PostE.firstO {W : WX} {x : Out (Option Int)} {f : Option Int → EV → Out RV} {Q : VK} {Q1 : Option Int → Hp → Prop} (h : PostE C W e F σ H (x.bd f) Q)
    (k : ∀ r e1 F1 H1, TrE C e F σ H e1 F1 H1 → PostE C W e1 F1 σ H1 (f r e1) Q → Q1 r H1) : PostO C W e F σ H x Q1 := by
  cases x with
  | ok r e1 => exact fun F1 H1 t => k r e1 F1 H1 t (PostE.shift t h)
  | exc c p e1 => exact h
  | stuck => exact h
theorem PostE.opt {α : Type} {W : WX} {o : Option α} {f : α → Out RV} {Q : VK} (h : PostE C W e F σ H (opt o f) Q) : ∃ a, o = some a ∧ PostE C W e F σ H (f a) Q := by
  cases o with
  | none => exact h.elim
  | some a => exact ⟨a, rfl, h⟩
/-- a pure end -/
theorem PostE.val {W : WX} {d : D} {v : V} {Q : VK} (R : SR C e F σ H) (h : PostE C W e F σ H (.ok (.v d) e) Q) (r : Rep C F d v) : Q v H := h v F H (TrE.refl R) r
/-- a new tuple is shared -/
theorem TrE.newT {e1 : EV} {F1 H1 : Hp} (t : TrE C e F σ H e1 F1 H1) {p : Addr} {o : HO} (hp : H1 p = none) : TrE C e F σ H e1 (upd F1 p o) (upd H1 p o) := by
  have R := t.sr
  have sF : Sub F1 (upd F1 p o) := fun b u q => by
    rw [upd_ne fun e => by subst e; rw [R.sub _ _ q] at hp; cases hp]; exact q
  have sH : Sub H1 (upd H1 p o) := fun b u q => by rw [upd_ne (ne_of_none q hp)]; exact q
  have hp0 : H p = none := by
    by_cases q : H p = none
    · exact q
    · exact absurd hp (t.there p q)
  have nF : ∀ {a : Addr}, F1 a = none → H1 a ≠ none → upd F1 p o a = none := fun {a} q n => by
    have hne : a ≠ p := fun e => n (by rw [e]; exact hp)
    rw [upd_ne hne]; exact q
  refine ⟨⟨⟨fun b u q => ?_, fun j s q => ?_, R.dis, R.len⟩, t.fs.trans sF, fun b u q n => sH _ _ (t.keep b u q n), fun b q => ?_, fun b u q => ?_, t.own, t.nob, t.bor, t.fro, t.len⟩, t.dat, t.nom⟩
  · by_cases eb : b = p
    · subst eb; rw [upd_same] at q ⊢; exact q
    · rw [upd_ne eb] at q ⊢; exact R.sub b u q
  · have z := R.slot j s q
    cases s with
    | un => trivial
    | val d' => obtain ⟨v, q1, q2⟩ := z; exact ⟨v, q1, q2.mono sF⟩
    | fro d' => obtain ⟨v, q1, q2⟩ := z; exact ⟨v, q1, q2.mono sF⟩
    | own d' =>
      obtain ⟨b, q1, q2⟩ := z
      obtain ⟨u, hu⟩ := q2.there
      exact ⟨b, q1, q2.mono sF (nF q2.1 (by rw [hu]; simp)) fun _ z => sH _ _ z⟩
    | bor d' =>
      obtain ⟨b, q1, q2⟩ := z
      obtain ⟨u, hu⟩ := q2.there
      exact ⟨b, q1, q2.mono sF (nF q2.1 (by rw [hu]; simp)) fun _ z => sH _ _ z⟩
  · obtain ⟨u, hu⟩ := ne_none (t.there b q)
    rw [sH _ _ hu]; simp
  · by_cases eb : b = p
    · subst eb; exact .inr (.inl hp0)
    · rw [upd_ne eb] at q; exact t.new b u q
/-- a new thing, shared or not, as yet in nobody's hands -/
theorem TrE.newL {e1 : EV} {F1 H1 : Hp} (t : TrE C e F σ H e1 F1 H1) {p : Addr} {o : HO} (hp : H1 p = none) : TrE C e F σ H e1 F1 (upd H1 p o) := by
  have R := t.sr
  have sH : Sub H1 (upd H1 p o) := fun b u q => by rw [upd_ne (ne_of_none q hp)]; exact q
  refine ⟨⟨⟨fun b u q => sH _ _ (R.sub b u q), fun j s q => ?_, R.dis, R.len⟩, t.fs, fun b u q n => sH _ _ (t.keep b u q n), fun b q => ?_, t.new, t.own, t.nob, t.bor, t.fro, t.len⟩, t.dat, t.nom⟩
  · have z := R.slot j s q
    cases s with
    | un => trivial
    | val d' => exact z
    | fro d' => exact z
    | own d' =>
      obtain ⟨b, q1, q2⟩ := z
      exact ⟨b, q1, q2.mono (Sub.refl _) q2.1 fun _ z => sH _ _ z⟩
    | bor d' =>
      obtain ⟨b, q1, q2⟩ := z
      exact ⟨b, q1, q2.mono (Sub.refl _) q2.1 fun _ z => sH _ _ z⟩
  · obtain ⟨u, hu⟩ := ne_none (t.there b q)
    rw [sH _ _ hu]; simp
theorem own_there {e1 : EV} {F1 H1 : Hp} (R : SR C e1 F1 σ H1) {p : Addr} (hp : H1 p = none) : ¬ OwnA e1 σ p := fun q => by
  obtain ⟨_, o, h⟩ := R.ownNone q
  rw [hp] at h; cases h
theorem PostE.newTup {W : WX} {ds : List D} {vs : List V} {Q : VK} {p : Addr} (R : SR C e F σ H) (h : PostE C W e F σ H (.ok (.v (.tup ds)) e) Q) (r : RepL C F ds vs) (hp : H p = none) : Q (.ref p) (upd H p (.tup vs)) := by
  have t := (TrE.refl R).newT (o := .tup vs) hp
  refine h _ _ _ t ?_
  show Rep C _ (.tup ds) _
  rw [Rep]
  exact ⟨p, vs, rfl, .inl (.inl upd_same), r.mono t.fs⟩
theorem PostE.newLst {W : WX} {ds : List D} {vs : List V} {Q : VK} {p : Addr} (R : SR C e F σ H) (h : PostE C W e F σ H (.ok (.t (.lst ds)) e) Q) (r : RepL C F ds vs) (hp : H p = none) : Q (.ref p) (upd H p (.lst vs)) := by
  have t := (TrE.refl R).newL (o := .lst vs) hp
  refine h _ _ _ t ⟨p, rfl, ⟨?_, vs, upd_same, r⟩, hp, own_there R hp⟩
  cases q : F p with
  | none => rfl
  | some u => rw [R.sub p u q] at hp; cases hp
theorem PostE.newDk {W : WX} {ks : List Key} {ds : List D} {vs : List V} {Q : VK} {p : Addr} (R : SR C e F σ H) (h : PostE C W e F σ H (.ok (.t (.dk ks ds)) e) Q) (hl : ks.length = ds.length) (r : RepL C F ds vs) (hp : H p = none) : Q (.ref p) (upd H p (.dK (ks.zip vs))) := by
  have t := (TrE.refl R).newL (o := .dK (ks.zip vs)) hp
  refine h _ _ _ t ⟨p, rfl, ⟨?_, vs, upd_same, hl, r⟩, hp, own_there R hp⟩
  cases q : F p with
  | none => rfl
  | some u => rw [R.sub p u q] at hp; cases hp
end PL
end

section
namespace PL
open PySem PySem.Spec L2

theorem sizeL_eq : sizeL = sizeLine := by rw [sizeLine_eq]; rfl
/-- what is held: shared, or a thing of somebody's own -/
def CRp (C : G0) (F H : Hp) (d : D) (v : V) : Prop := Rep C F d v ∨ ∃ a, v = .ref a ∧ Mine C F H d a
section
variable {C : G0} {e e' : EV} {F F' H0 H H' : Hp} {σ : St} {r : RV} {v : V} {d : D}
theorem cont_crp (R : SR C e F σ H) (h : RVok C H0 F σ H e r v) (k : cont e r = some d) : CRp C F H d v := by
  cases r with
  | v d' => cases k; exact .inl h
  | t d' =>
    cases k
    obtain ⟨a, rfl, m, _⟩ := h
    exact .inr ⟨a, rfl, m⟩
  | h i =>
    obtain ⟨h1, s, h2, h3⟩ := h
    simp only [cont, h2, Option.bind_some] at k
    have q := R.slot i s h2
    rw [h1] at q
    cases s with
    | un => cases k
    | val d' => cases k; obtain ⟨v', e1, q⟩ := q; cases e1; exact .inl q
    | own d' => cases k; obtain ⟨v', e1, q⟩ := q; cases e1; exact .inr ⟨_, rfl, q⟩
    | bor d' => cases k; obtain ⟨v', e1, q⟩ := q; cases e1; exact .inr ⟨_, rfl, q⟩
    | fro d' => cases k; obtain ⟨v', e1, q⟩ := q; cases e1; exact .inl q
theorem CRp.rep (h : CRp C F H d v) (s : Sub F H) : Rep C H d v := by
  rcases h with h | ⟨a, rfl, m⟩
  · exact h.mono s
  · exact m.rep s
theorem CRp.flat (h : CRp C F H d v) (f : match d with
    | .lst _ => False
    | .dk _ _ => False
    | .dt _ _ => False
    | _ => True) : Rep C F d v := by
  rcases h with h | ⟨a, rfl, m⟩
  · exact h
  · obtain ⟨_, m⟩ := m
    cases d <;> first | exact m.elim | exact f.elim
theorem CRp.int {i : Int} (h : CRp C F H (.int i) v) : v = .int i := by have q := h.flat trivial; rw [Rep] at q; exact q
theorem CRp.bl {i : Bool} (h : CRp C F H (.bl i) v) : v = .bl i := by have q := h.flat trivial; rw [Rep] at q; exact q
theorem CRp.non (h : CRp C F H .non v) : v = .non := by have q := h.flat trivial; rw [Rep] at q; exact q
theorem CRp.str {x : Str} (h : CRp C F H (.str x) v) : v = .str x := by have q := h.flat trivial; rw [Rep] at q; exact q
theorem CRp.tup {xs : List D} (h : CRp C F H (.tup xs) v) : ∃ a vs, v = .ref a ∧ SqT C.K F a vs ∧ RepL C F xs vs := by have q := h.flat trivial; rw [Rep] at q; exact q
theorem CRp.scr {xs : List Int} (h : CRp C F H (.scr xs) v) : ∃ a, v = .ref a ∧ SqL C.K F a (xs.map V.int) := by have q := h.flat trivial; rw [Rep] at q; exact q
theorem CRp.lst {xs : List D} (h : CRp C F H (.lst xs) v) (s : Sub F H) : ∃ a vs, v = .ref a ∧ H a = some (.lst vs) ∧ RepL C F xs vs := by
  rcases h with h | ⟨a, rfl, _, vs, q, r⟩
  · rw [Rep] at h
    obtain ⟨a, vs, e, q, r⟩ := h
    exact ⟨a, vs, e, s _ _ q, r⟩
  · exact ⟨a, vs, rfl, q, r⟩
theorem CRp.dk {ks : List Key} {xs : List D} (h : CRp C F H (.dk ks xs) v) (s : Sub F H) : ∃ a vs, v = .ref a ∧ H a = some (.dK (ks.zip vs)) ∧ ks.length = xs.length ∧ RepL C F xs vs := by
  rcases h with h | ⟨a, rfl, _, vs, q, l, r⟩
  · rw [Rep] at h
    obtain ⟨a, vs, e, q, l, r⟩ := h
    exact ⟨a, vs, e, s _ _ q, l, r⟩
  · exact ⟨a, vs, rfl, q, l, r⟩
theorem CRp.dt {ks : List (List Key)} {xs : List D} (h : CRp C F H (.dt ks xs) v) (s : Sub F H) : ∃ a vs, v = .ref a ∧ H a = some (.dT (ks.zip vs)) ∧ ks.length = xs.length ∧ RepL C F xs vs := by
  rcases h with h | ⟨a, rfl, _, vs, q, l, r⟩
  · rw [Rep] at h
    obtain ⟨a, vs, e, q, l, r⟩ := h
    exact ⟨a, vs, e, s _ _ q, l, r⟩
  · exact ⟨a, vs, rfl, q, l, r⟩
theorem rep_int {i : Int} : Rep C F (.int i) (.int i) := by rw [Rep]
theorem rep_bl {i : Bool} : Rep C F (.bl i) (.bl i) := by rw [Rep]
theorem rep_non : Rep C F .non .non := by rw [Rep]
theorem rep_str {x : Str} : Rep C F (.str x) (.str x) := by rw [Rep]
end
theorem _root_.L2.PE.to {X : Cx} {x : Expr} {t t' : TE} (h : PE X x t) (k : ∀ σ H Q, t' σ H Q → t σ H Q) : PE X x t' := ⟨fun pins s σ H Q I q => h.run pins s σ H Q I (k σ H Q q)⟩
theorem _root_.L2.PT.to {X : Cx} {x : Expr} {t t' : TT} (h : PT X x t) (k : ∀ σ H Q, t' σ H Q → t σ H Q) : PT X x t' := ⟨fun pins s σ H Q I q => h.run pins s σ H Q I (k σ H Q q)⟩
theorem _root_.L2.PW.to {X : Cx} {x : Expr} {t t' : TT} (h : PW X x t) (k : ∀ σ H Q, t' σ H Q → t σ H Q) : PW X x t' := ⟨fun w pins s σ H Q I q => h.run w pins s σ H Q I (k σ H Q q)⟩
theorem _root_.L2.PA.to {X : Cx} {x : List Expr} {t t' : TA} (h : PA X x t) (k : ∀ σ H Q, t' σ H Q → t σ H Q) : PA X x t' := ⟨fun p pins s σ H Q I q => h.run p pins s σ H Q I (k σ H Q q)⟩

/-! ## the operations -/
/-- an operation's outcome, by its operands -/
def OpP (C : G0) (W : WX) (o : Option RV) (ds : List D) (vs : List V) (H : Hp) (Q : VK) : Prop :=
  ∃ e F σ, SR C e F σ H ∧ (∀ (i : Nat) d v, ds[i]? = some d → vs[i]? = some v → CRp C F H d v) ∧ PostE C W e F σ H (opt o fun r => .ok r e) Q
section
variable {X : Cx} {C : G0} {W : WX}
theorem OpP.v {ds : List D} {vs : List V} {H : Hp} {Q : VK} {d : D} {v : V} (h : OpP C W (some (.v d)) ds vs H Q) (r : ∀ F, Sub F H → (∀ (i : Nat) d v, ds[i]? = some d → vs[i]? = some v → CRp C F H d v) → Rep C F d v) : Q v H := by
  obtain ⟨e, F, σ, R, q, h⟩ := h
  exact h.val R (r F R.sub q)
theorem OpP.tup {ds : List D} {vs : List V} {H : Hp} {Q : VK} {xs : List D} {ws : List V} (h : OpP C W (some (.v (.tup xs))) ds vs H Q) (r : ∀ F, Sub F H → (∀ (i : Nat) d v, ds[i]? = some d → vs[i]? = some v → CRp C F H d v) → RepL C F xs ws) :
    ∀ p, H p = none → Q (.ref p) (upd H p (.tup ws)) := fun p hp => by
  obtain ⟨e, F, σ, R, q, h⟩ := h
  exact h.newTup R (r F R.sub q) hp
theorem OpP.lst {ds : List D} {vs : List V} {H : Hp} {Q : VK} {xs : List D} {ws : List V} (h : OpP C W (some (.t (.lst xs))) ds vs H Q) (r : ∀ F, Sub F H → (∀ (i : Nat) d v, ds[i]? = some d → vs[i]? = some v → CRp C F H d v) → RepL C F xs ws) :
    ∀ p, H p = none → Q (.ref p) (upd H p (.lst ws)) := fun p hp => by
  obtain ⟨e, F, σ, R, q, h⟩ := h
  exact h.newLst R (r F R.sub q) hp
/-- what the operands are, ahead -/
theorem OpP.at {o : Option RV} {ds : List D} {vs : List V} {H : Hp} {Q : VK} (h : OpP C W o ds vs H Q) : ∃ F, Sub F H ∧ (∀ (i : Nat) d v, ds[i]? = some d → vs[i]? = some v → CRp C F H d v) ∧ ∃ r, o = some r := by
  obtain ⟨e, F, σ, R, q, h⟩ := h
  obtain ⟨r, e1, _⟩ := h.opt
  exact ⟨F, R.sub, q, r, e1⟩
/-- one heap, one shape: the items of two views agree -/
theorem repL_of_rd {F H : Hp} {a : Addr} {vs ws : List V} (h : H a = some (.lst vs)) (k : H a = some (.lst ws)) : vs = ws := by rw [h] at k; cases k; rfl
theorem op_bin (hK : X.K = C.K) (o : Bop) : OpR X (binaryOp (opOf o)) (fun x y H Q => ∃ d1 d2, OpP C W (binop o d1 d2) [d1, d2] [x, y] H Q) := by
  intro pins s σ H x y v u Q I rx ry h
  obtain ⟨d1, d2, h⟩ := h
  obtain ⟨F, sF, hq, r, er⟩ := h.at
  have q1 := hq 0 d1 x rfl rfl
  have q2 := hq 1 d2 y rfl rfl
  unfold binop at er
  split at er
  · cases er; cases q1.int; cases q2.int
    exact op_add pins s σ H _ _ v u Q I rx ry ⟨_, _, rfl, rfl, h.v fun _ _ _ => rep_int⟩
  · split at er <;> cases er
    rename_i hz
    cases q1.str; cases q2.str
    simp only [binop, if_pos hz] at h
    exact op_add_str pins s σ H _ _ v u Q I rx ry ⟨_, _, rfl, rfl, by rw [← sizeL_eq]; exact hz, h.v fun _ _ _ => rep_str⟩
  · split at er <;> cases er
    rename_i hz
    simp only [binop, if_pos hz] at h
    obtain ⟨a, vs, rfl, ha, ra⟩ := q1.lst sF
    obtain ⟨b, ws, rfl, hb, rb⟩ := q2.lst sF
    refine op_cat pins s σ H _ _ v u Q I rx ry ⟨a, b, vs, ws, rfl, rfl, ha, hb, by rw [← sizeL_eq, ← ra.len, ← rb.len]; exact hz, h.lst fun F2 s2 k => ?_⟩
    obtain ⟨a2, vs2, e1, ha2, ra2⟩ := (k 0 _ _ rfl rfl).lst s2
    obtain ⟨b2, ws2, e2, hb2, rb2⟩ := (k 1 _ _ rfl rfl).lst s2
    cases e1; cases e2
    rw [ha] at ha2; cases ha2
    rw [hb] at hb2; cases hb2
    exact ra2.append rb2
  · split at er <;> cases er
    rename_i hz
    simp only [binop, if_pos hz] at h
    obtain ⟨e, F2, σ2, R2, k, h⟩ := h
    obtain ⟨a, vs, rfl, ha, ra⟩ := (k 0 _ _ rfl rfl).tup
    obtain ⟨b, ws, rfl, hb, rb⟩ := (k 1 _ _ rfl rfl).tup
    refine op_catA pins s σ H _ _ v u Q I rx ry ⟨a, b, vs, ws, rfl, rfl, by rw [hK]; exact R2.sub.sqT ha, by rw [hK]; exact R2.sub.sqT hb, by rw [← sizeL_eq, ← ra.len, ← rb.len]; exact hz, fun z => ?_, fun _ z => ?_, fun _ _ p hp => ?_⟩
    · refine h.val R2 ?_
      subst z
      have : ∀ xs : List D, RepL C F2 xs [] → xs = [] := fun xs r => by cases xs with
        | nil => rfl
        | cons d ds => have := r.len; simp at this
      rw [this _ ra, List.nil_append, Rep]
      exact ⟨b, ws, rfl, hb, rb⟩
    · refine h.val R2 ?_
      subst z
      have : ∀ xs : List D, RepL C F2 xs [] → xs = [] := fun xs r => by cases xs with
        | nil => rfl
        | cons d ds => have := r.len; simp at this
      rw [this _ rb, List.append_nil, Rep]
      exact ⟨a, vs, rfl, ha, ra⟩
    · exact h.newTup R2 (ra.append rb) hp
  · cases er; cases q1.int; cases q2.int
    exact op_sub pins s σ H _ _ v u Q I rx ry ⟨_, _, rfl, rfl, h.v fun _ _ _ => rep_int⟩
  · split at er <;> cases er
    rename_i hz
    cases q1.int; cases q2.int
    simp only [binop, if_pos hz] at h
    unfold mulOk at hz
    rw [Bool.or_eq_true, Bool.or_eq_true] at hz
    rcases hz with (hz | hz) | hz
    · have hz' := of_decide_eq_true hz
      exact op_mul pins s σ H _ _ v u Q I rx ry ⟨_, _, rfl, rfl, .inl (by omega), h.v fun _ _ _ => rep_int⟩
    · have hz' := of_decide_eq_true hz
      exact op_mul pins s σ H _ _ v u Q I rx ry ⟨_, _, rfl, rfl, .inr (by omega), h.v fun _ _ _ => rep_int⟩
    · have hz' := of_decide_eq_true hz
      exact op_mulW pins s σ H _ _ v u Q I rx ry ⟨_, _, rfl, rfl, hz', h.v fun _ _ _ => rep_int⟩
  · split at er <;> cases er
    rename_i hz
    simp only [binop, if_pos hz] at h
    rw [Bool.and_eq_true, Bool.and_eq_true] at hz
    obtain ⟨a, vs, rfl, ha, ra⟩ := q1.lst sF
    cases q2.int
    refine op_rep pins s σ H _ _ v u Q I rx ry ⟨a, _, vs, rfl, rfl, ha, of_decide_eq_true hz.1.1, of_decide_eq_true hz.1.2, by rw [← sizeL_eq, ← ra.len]; exact of_decide_eq_true hz.2, h.lst fun F2 s2 k => ?_⟩
    obtain ⟨a2, vs2, e1, ha2, ra2⟩ := (k 0 _ _ rfl rfl).lst s2
    cases e1
    rw [ha] at ha2; cases ha2
    exact ra2.rep _
  · rename_i i0 j0
    by_cases hz : divOk j0 = true
    · rw [if_pos hz] at er
      cases er
      cases q1.int; cases q2.int
      simp only [binop, if_pos hz] at h
      unfold divOk at hz
      rw [Bool.and_eq_true] at hz
      exact op_fdivW pins s σ H _ _ v u Q I rx ry ⟨_, _, rfl, rfl, ⟨of_decide_eq_true hz.1, of_decide_eq_true hz.2⟩, h.v fun _ _ _ => rep_int⟩
    · rw [if_neg hz] at er
      split at er <;> cases er
      rename_i hn
      cases q1.int; cases q2.int
      simp only [binop, if_neg hz, if_pos hn] at h
      rw [Bool.and_eq_true] at hn
      exact op_fdivN pins s σ H _ _ v u Q I rx ry ⟨_, _, rfl, rfl, ⟨of_decide_eq_true hn.1, of_decide_eq_true hn.2⟩, h.v fun _ _ _ => rep_int⟩
  · split at er <;> cases er
    rename_i hz
    cases q1.int; cases q2.int
    simp only [binop, if_pos hz] at h
    exact op_mod pins s σ H _ _ v u Q I rx ry ⟨_, _, rfl, rfl, hz, h.v fun _ _ _ => rep_int⟩
  · split at er <;> cases er
    rename_i hz
    cases q1.int; cases q2.int
    simp only [binop, if_pos hz] at h
    unfold powOk at hz
    rw [Bool.and_eq_true, Bool.and_eq_true] at hz
    exact op_pow pins s σ H _ _ v u Q I rx ry ⟨_, _, rfl, rfl, ⟨of_decide_eq_true hz.1.1, of_decide_eq_true hz.1.2, of_decide_eq_true hz.2⟩, h.v fun _ _ _ => rep_int⟩
  · split at er <;> cases er
    rename_i hz
    cases q1.int; cases q2.int
    simp only [binop, if_pos hz] at h
    unfold powOk at hz
    rw [Bool.and_eq_true, Bool.and_eq_true] at hz
    exact op_shl pins s σ H _ _ v u Q I rx ry ⟨_, _, rfl, rfl, ⟨of_decide_eq_true hz.1.1, of_decide_eq_true hz.1.2, of_decide_eq_true hz.2⟩, h.v fun _ _ _ => rep_int⟩
  · cases er
end
end PL
end

section
namespace PL
open PySem PySem.Spec L2

section
variable {X : Cx} {C : G0} {H F : Hp}
mutual
theorem rep_dp : ∀ (d : D) (v : V), Rep C H d v → PyData.canLay0 (toPy d) = true → Dp C.K H v (toPy d)
  | .non, v, h, _ => by rw [Rep] at h; subst h; exact .non
  | .bl b, v, h, _ => by rw [Rep] at h; subst h; exact .bl b
  | .int b, v, h, _ => by rw [Rep] at h; subst h; exact .int b
  | .str b, v, h, _ => by rw [Rep] at h; subst h; exact .str b
  | .tup ds, v, h, k => by
    rw [Rep] at h
    obtain ⟨a, vs, rfl, h1, h2⟩ := h
    rw [toPy, PyData.canLay0] at k
    exact .tup h1 (rep_dps ds vs h2 k)
  | .lst ds, v, h, k => by
    rw [Rep] at h
    obtain ⟨a, vs, rfl, h1, h2⟩ := h
    rw [toPy, PyData.canLay0] at k
    exact .lst (.inl (.inl h1)) (rep_dps ds vs h2 k)
  | .scr _, _, _, k => by simp [toPy, PyData.canLay0] at k
  | .dk _ _, _, _, k => by simp [toPy, PyData.canLay0] at k
  | .dt _ _, _, _, k => by simp [toPy, PyData.canLay0] at k
  | .fn _, _, _, k => by simp [toPy, PyData.canLay0] at k
  | .exn _ _, _, _, k => by simp [toPy, PyData.canLay0] at k
theorem rep_dps : ∀ (ds : List D) (vs : List V), RepL C H ds vs → PyData.canLayAll0 (toPys ds) = true → DpAll C.K H vs (toPys ds)
  | [], vs, h, _ => by rw [RepL] at h; subst h; exact .nil
  | d :: ds, vs, h, k => by
    rw [RepL] at h
    obtain ⟨v, r, rfl, h1, h2⟩ := h
    rw [toPys, PyData.canLayAll0, Bool.and_eq_true] at k
    exact .cons (rep_dp d v h1 k.1) (rep_dps ds r h2 k.2)
end
def toV : D → V
  | .bl b => .bl b
  | .int b => .int b
  | .str b => .str b
  | _ => .non
theorem rep_flat {d : D} {v : V} (h : Rep C H d v) (f : flatD d = true) : v = toV d ∧ flatV v = true := by
  cases d <;> first | (rw [Rep] at h; subst h; exact ⟨rfl, rfl⟩) | cases f
theorem eqV_toV {a b : D} (fa : flatD a = true) (fb : flatD b = true) : eqV (toV a) (toV b) = eqF a b := by
  cases a <;> cases b <;> first | exact absurd (show false = true from fa) Bool.false_ne_true | exact absurd (show false = true from fb) Bool.false_ne_true | rfl
theorem repL_flat : ∀ {ds : List D} {vs : List V}, RepL C H ds vs → ds.all flatD = true → vs = ds.map toV ∧ vs.all flatV = true
  | [], vs, h, _ => by rw [RepL] at h; subst h; exact ⟨rfl, rfl⟩
  | d :: ds, vs, h, f => by
    rw [RepL] at h
    obtain ⟨v, r, rfl, h1, h2⟩ := h
    rw [List.all_cons, Bool.and_eq_true] at f
    obtain ⟨e1, e2⟩ := rep_flat h1 f.1
    obtain ⟨e3, e4⟩ := repL_flat h2 f.2
    exact ⟨by rw [e1, e3]; rfl, by rw [List.all_cons, e2, e4]; rfl⟩
theorem inV_of {x : D} (fx : flatD x = true) : ∀ {ds : List D}, ds.all flatD = true → inV (toV x) (ds.map toV) = ds.any fun y => eqF y x
  | [], _ => rfl
  | d :: ds, f => by
    rw [List.all_cons, Bool.and_eq_true] at f
    have ih := inV_of fx f.2
    unfold inV at ih ⊢
    rw [List.map_cons, List.any_cons, List.any_cons, eqV_toV f.1 fx, ih]
theorem dlook_val {κ : Type} [DecidableEq κ] {k : κ} : ∀ {ks : List κ} {ds : List D} {vs : List V}, ks.length = ds.length → RepL C H ds vs → (valV (ks.zip vs) k).isSome = (dlook ks ds k).isSome ∧ ∀ d, dlook ks ds k = some d → ∃ v, valV (ks.zip vs) k = some v ∧ Rep C H d v
  | [], [], vs, _, h => by rw [RepL] at h; subst h; exact ⟨rfl, fun d e => by cases e⟩
  | j :: ks, d :: ds, vs, l, h => by
    rw [RepL] at h
    obtain ⟨v, r, rfl, h1, h2⟩ := h
    rw [List.zip_cons_cons]
    by_cases e : j = k
    · rw [valV_pos (p := (j, v)) e]
      simp only [dlook, if_pos e]
      exact ⟨rfl, fun d' q => by cases q; exact ⟨v, rfl, h1⟩⟩
    · rw [valV_neg (p := (j, v)) e]
      simp only [dlook, if_neg e]
      exact dlook_val (by simpa using l) h2
theorem keyOf_V {d : D} {k : Key} {v : V} (h : Rep C H d v) (e : keyOf d = some k) : v = kV k := by
  cases d <;> simp only [keyOf] at e <;> first | (cases e; rw [Rep] at h; subst h; rfl) | cases e
theorem non_rep {d : D} {v : V} (h : Rep C H d v) : decide (v = .non) = isNon d := by
  cases d <;> rw [Rep] at h
  case non => subst h; rfl
  case bl => subst h; rfl
  case int => subst h; rfl
  case str => subst h; rfl
  case tup => obtain ⟨a, vs, rfl, _⟩ := h; rfl
  case lst => obtain ⟨a, vs, rfl, _⟩ := h; rfl
  case scr => obtain ⟨a, rfl, _⟩ := h; rfl
  case dk => obtain ⟨a, vs, rfl, _⟩ := h; rfl
  case dt => obtain ⟨a, vs, rfl, _⟩ := h; rfl
  case fn => subst h; rfl
  case exn => obtain ⟨a, rfl⟩ := h; rfl
def rCmp (C : G0) (o : CmpOp) : R2 := fun x y H Q => ∃ d1 d2 b, cmpop o d1 d2 = some b ∧ Rep C H d1 x ∧ Rep C H d2 y ∧ Q (.bl b) H
theorem op_cmp (hK : X.K = C.K) (hu : X.A.units + 64 < cLine) (o : CmpOp) : OpR X (compareOp o) (rCmp C o) := by
  intro pins s σ H x y v u Q I rx ry h
  obtain ⟨d1, d2, b, er, q1, q2, q⟩ := h
  have hu1 : X.A.units + 1 < cLine := by omega
  unfold cmpop at er
  split at er
  · unfold eqD at er
    split at er <;> cases er
    rename_i hz
    rw [Bool.and_eq_true] at hz
    refine op_eqD hu pins s σ H _ _ v u Q I rx ry ⟨_, _, ?_, ?_, hz.1, hz.2, q⟩
    · rw [hK]; exact rep_dp _ _ q1 (SeqAt.canLay_of_shaped hz.1)
    · rw [hK]; exact rep_dp _ _ q2 (SeqAt.canLay_of_shaped hz.2)
  · unfold eqD at er
    split at er <;> cases er
    rename_i hz
    rw [Bool.and_eq_true] at hz
    refine op_neD hu pins s σ H _ _ v u Q I rx ry ⟨_, _, ?_, ?_, hz.1, hz.2, q⟩
    · rw [hK]; exact rep_dp _ _ q1 (SeqAt.canLay_of_shaped hz.1)
    · rw [hK]; exact rep_dp _ _ q2 (SeqAt.canLay_of_shaped hz.2)
  · cases er; rw [Rep] at q1 q2; subst q1 q2
    exact op_lt pins s σ H _ _ v u Q I rx ry ⟨_, _, rfl, rfl, q⟩
  · cases er; rw [Rep] at q1 q2; subst q1 q2
    exact op_le pins s σ H _ _ v u Q I rx ry ⟨_, _, rfl, rfl, q⟩
  · cases er; rw [Rep] at q1 q2; subst q1 q2
    exact op_gt pins s σ H _ _ v u Q I rx ry ⟨_, _, rfl, rfl, q⟩
  · cases er; rw [Rep] at q1 q2; subst q1 q2
    exact op_ge pins s σ H _ _ v u Q I rx ry ⟨_, _, rfl, rfl, q⟩
  · cases er; rw [Rep] at q2; subst q2
    exact op_isN pins s σ H _ _ v u Q I rx ry ⟨rfl, by rw [non_rep q1]; exact q⟩
  · cases er; rw [Rep] at q2; subst q2
    exact op_notN pins s σ H _ _ v u Q I rx ry ⟨rfl, by rw [non_rep q1]; exact q⟩
  · cases er; rw [Rep] at q1 q2; subst q1 q2
    exact op_isBl pins s σ H _ _ v u Q I rx ry ⟨_, _, rfl, rfl, q⟩
  · cases er; rw [Rep] at q1 q2; subst q1 q2
    exact op_notBl pins s σ H _ _ v u Q I rx ry ⟨_, _, rfl, rfl, q⟩
  · unfold inD at er
    split at er <;> cases er
    rename_i hz
    rw [Bool.and_eq_true] at hz
    rw [Rep] at q2
    obtain ⟨a, vs, rfl, h1, h2⟩ := q2
    obtain ⟨e1, e2⟩ := rep_flat q1 hz.1
    obtain ⟨e3, e4⟩ := repL_flat h2 hz.2
    refine op_in_seq pins s σ H _ _ v u Q I rx ry ⟨a, vs, rfl, .inr (by rw [hK]; exact h1), e2, e4, ?_⟩
    rw [e1, e3, if_neg Bool.false_ne_true, inV_of hz.1 hz.2]; exact q
  · unfold inD at er
    split at er <;> cases er
    rename_i hz
    rw [Bool.and_eq_true] at hz
    rw [Rep] at q2
    obtain ⟨a, vs, rfl, h1, h2⟩ := q2
    obtain ⟨e1, e2⟩ := rep_flat q1 hz.1
    obtain ⟨e3, e4⟩ := repL_flat h2 hz.2
    refine op_in_seq pins s σ H _ _ v u Q I rx ry ⟨a, vs, rfl, .inl (.inl (.inl h1)), e2, e4, ?_⟩
    rw [e1, e3, if_neg Bool.false_ne_true, inV_of hz.1 hz.2]; exact q
  · obtain ⟨k, ek, er⟩ := Option.map_eq_some_iff.mp er
    cases er
    rw [Rep] at q2
    obtain ⟨a, vs, rfl, h1, l, h2⟩ := q2
    obtain rfl : u = Value.ref a := ry
    have hk := keyOf_V q1 ek
    obtain ⟨e1, _⟩ := dlook_val (k := k) l h2
    exact d_in hu1 I (.inl ⟨_, k, .inl h1, hk, rfl⟩) rx fun s' I' => ⟨.bl _, H, I', rfl, by rw [e1]; exact q⟩
  · obtain ⟨b', eb, er⟩ := Option.map_eq_some_iff.mp er
    cases er
    unfold inD at eb
    split at eb <;> cases eb
    rename_i hz
    rw [Bool.and_eq_true] at hz
    rw [Rep] at q2
    obtain ⟨a, vs, rfl, h1, h2⟩ := q2
    obtain ⟨e1, e2⟩ := rep_flat q1 hz.1
    obtain ⟨e3, e4⟩ := repL_flat h2 hz.2
    refine op_notIn_seq pins s σ H _ _ v u Q I rx ry ⟨a, vs, rfl, .inr (by rw [hK]; exact h1), e2, e4, ?_⟩
    rw [e1, e3, if_pos rfl, inV_of hz.1 hz.2]; exact q
  · obtain ⟨b', eb, er⟩ := Option.map_eq_some_iff.mp er
    cases er
    unfold inD at eb
    split at eb <;> cases eb
    rename_i hz
    rw [Bool.and_eq_true] at hz
    rw [Rep] at q2
    obtain ⟨a, vs, rfl, h1, h2⟩ := q2
    obtain ⟨e1, e2⟩ := rep_flat q1 hz.1
    obtain ⟨e3, e4⟩ := repL_flat h2 hz.2
    refine op_notIn_seq pins s σ H _ _ v u Q I rx ry ⟨a, vs, rfl, .inl (.inl (.inl h1)), e2, e4, ?_⟩
    rw [e1, e3, if_pos rfl, inV_of hz.1 hz.2]; exact q
  · obtain ⟨k, ek, er⟩ := Option.map_eq_some_iff.mp er
    cases er
    rw [Rep] at q2
    obtain ⟨a, vs, rfl, h1, l, h2⟩ := q2
    obtain rfl : u = Value.ref a := ry
    have hk := keyOf_V q1 ek
    obtain ⟨e1, _⟩ := dlook_val (k := k) l h2
    exact d_notIn hu1 I (.inl ⟨_, k, .inl h1, hk, rfl⟩) rx fun s' I' => ⟨.bl _, H, I', rfl, by rw [e1]; exact q⟩
  · cases er
/-- truth -/
theorem tru_rep {d : D} {v : V} {b : Bool} (h : Rep C H d v) (t : truth d = some b) : (∃ ks xs, d = .dk ks xs ∧ ∃ a vs, v = .ref a ∧ H a = some (.dK (ks.zip vs)) ∧ b = !(ks.zip vs).isEmpty) ∨ TruV C.K v H b := by
  cases d <;> simp only [truth] at t <;> rw [Rep] at h
  case non => cases t; subst h; exact .inr rfl
  case bl => cases t; subst h; exact .inr rfl
  case int => cases t; subst h; exact .inr rfl
  case str =>
    split at t <;> cases t
    rename_i hz
    subst h; exact .inr ⟨by rw [← sizeL_eq]; exact hz, rfl⟩
  case tup =>
    obtain ⟨a, vs, rfl, h1, h2⟩ := h
    cases t
    refine .inr (.inr (.inl ⟨vs, h1, ?_⟩))
    have := h2.len
    cases vs <;> cases ‹List D› <;> simp_all
  case lst =>
    obtain ⟨a, vs, rfl, h1, h2⟩ := h
    cases t
    refine .inr (.inl ⟨vs, .inl (.inl h1), ?_⟩)
    have := h2.len
    cases vs <;> cases ‹List D› <;> simp_all
  case scr ns =>
    obtain ⟨a, rfl, h1⟩ := h
    cases t
    refine .inr (.inl ⟨_, h1, ?_⟩)
    cases ns <;> simp
  case dk ks ds =>
    obtain ⟨a, vs, rfl, h1, l, h2⟩ := h
    cases t
    refine .inl ⟨ks, ds, rfl, a, vs, rfl, h1, ?_⟩
    have := h2.len
    cases vs <;> cases ks <;> simp_all
  all_goals cases t
theorem tru_d (hK : X.K = C.K) : TruR X (fun x H Q => ∃ d b, truth d = some b ∧ Rep C H d x ∧ Q b H) := by
  intro pins s σ H x v Q I rx h
  obtain ⟨d, b, t, r, q⟩ := h
  rcases tru_rep r t with ⟨ks, xs, rfl, a, vs, rfl, hd, eb⟩ | h
  · cases rx
    obtain ⟨hz, hS, vs', r', m⟩ := I.hok a _ hd
    have hlen := Paired.length r'
    have hl := line63
    subst eb
    exact wpAny_truthy_dict hS m (by omega) ⟨H, I.tok _, by rw [isEmpty_kv r']; exact q⟩
  · exact tru_ok pins s σ H x v Q I rx ⟨b, by rw [hK]; exact h, q⟩
end
end PL
end

section
namespace PL
open PySem PySem.Spec L2

/-! ## rows of whole numbers: the least, sets of them -/
def pyR (l : List Int) : PyData := .tuple (l.map PyData.int)
theorem lt_pyR (a b : List Int) : PySem.W.dataLt (pyR a) (pyR b) = decide (a < b) := by
  unfold pyR
  rw [PySem.W.dataLt_tuple]
  exact PySem.W.dataLt_ints a b
theorem pyR_inj {a b : List Int} (h : pyR a = pyR b) : a = b := by
  unfold pyR at h
  injection h with h
  induction a generalizing b with
  | nil => cases b <;> first | rfl | cases h
  | cons x a ih =>
    cases b with
    | nil => cases h
    | cons y b =>
      rw [List.map_cons, List.map_cons] at h
      injection h with h1 h2
      injection h1 with h1
      rw [h1, ih h2]
theorem alike_pyR (a b : List Int) : PySem.W.alike (pyR a) (pyR b) = true := by
  unfold pyR
  rw [PySem.W.alike]
  exact PySem.W.alike_ints a b
theorem depth_pyR (a : List Int) : (pyR a).depth = 1 := by
  unfold pyR
  rw [PyData.depth, PySem.W.depth_ints]
theorem depths_pyR : ∀ ls : List (List Int), PyData.depthAll (ls.map pyR) ≤ 1
  | [] => by simp [PyData.depthAll]
  | a :: ls => by
    have := depths_pyR ls
    rw [List.map_cons, PyData.depthAll, depth_pyR]
    omega
theorem min_pyR (x : List Int) : ∀ (ls : List (List Int)), PySem.W.minD (pyR x) (ls.map pyR) = pyR (tmin (x :: ls)) := by
  intro ls
  unfold PySem.W.minD tmin
  induction ls generalizing x with
  | nil => rfl
  | cons y ls ih =>
    have ih : ∀ x, List.foldl (fun a y => if PySem.W.dataLt y a = true then y else a) (pyR x) (ls.map pyR) = pyR (ls.foldl (fun a y => if y < a then y else a) x) := ih
    show List.foldl (fun a y => if PySem.W.dataLt y a = true then y else a) (pyR x) ((y :: ls).map pyR) = pyR ((y :: ls).foldl (fun a y => if y < a then y else a) x)
    rw [List.map_cons, List.foldl_cons, List.foldl_cons, lt_pyR, ← ih]
    by_cases h : y < x
    · rw [if_pos h, decide_eq_true h]; rfl
    · rw [if_neg h, decide_eq_false h]; rfl
section
variable {X : Cx}
theorem readsAll_nth {h : Heap} : ∀ {us : List Value} {ds : List PyData} {as : List Addr}, ReadsAll h us ds as → ∀ (i : Nat) (u : Value), us[i]? = some u → ∃ d bs, ds[i]? = some d ∧ Reads h u d bs
  | _, _, _, .nil, i, u, e => by simp at e
  | _, _, _, .cons r rs, 0, u, e => by
    rw [List.getElem?_cons_zero] at e
    cases e
    exact ⟨_, _, rfl, r⟩
  | _, _, _, .cons r rs, i + 1, u, e => by
    rw [List.getElem?_cons_succ] at e
    exact readsAll_nth rs i u e
theorem canLay_pyR (l : List Int) : (pyR l).canLay0 = true := by
  unfold pyR
  rw [PyData.canLay0]
  induction l with
  | nil => rfl
  | cons x l ih => rw [List.map_cons, PyData.canLayAll0, ih]; rfl
/-- min(xs), rows of whole numbers -/
theorem cr_minT (hc : X.calm = true) (hu : X.A.units + 64 < cLine) : CallR X (.builtin "min") (fun vs H Q => ∃ (a : Addr) (xs : List V) (ls : List (List Int)), vs = [V.ref a] ∧ SqL X.K H a xs ∧ ls ≠ [] ∧ DpAll X.K H xs (ls.map pyR) ∧
    ∀ (i : Nat) (v : V), xs[i]? = some v → ls[i]? = some (tmin ls) → Q v H) := by
  intro pins s σ H vs us Q I r h
  obtain ⟨a, xs, ls, rfl, hs, hne, hd, q⟩ := h
  obtain ⟨its, rv, pl, _⟩ := I.list hs
  rw [Vals.ref1 r]
  obtain ⟨as, ra⟩ := Dp.readsAll I _ _ _ hd rv
  cases ls with
  | nil => exact absurd rfl hne
  | cons x ls =>
    have hdep := depths_pyR (x :: ls)
    refine PySem.W.min_list_data (x := pyR x) (xs := ls.map pyR) (I.ok.hd hc) pl.isList (show ReadsAll s.heap its.toArray.toList _ as from ra) ⟨fun u hu w hw => ?_, fun u hu => ?_⟩ ?_ fun i v h' tk bs hi rd k => ?_
    · obtain ⟨u', _, rfl⟩ := List.mem_map.mp (show u ∈ (x :: ls).map pyR from hu)
      obtain ⟨w', _, rfl⟩ := List.mem_map.mp (show w ∈ (x :: ls).map pyR from hw)
      exact alike_pyR _ _
    · obtain ⟨u', _, rfl⟩ := List.mem_map.mp (show u ∈ (x :: ls).map pyR from hu)
      simp [pyR]
    · have : PyData.depthAll (pyR x :: ls.map pyR) ≤ 1 := hdep
      omega
    · have hi : its[i]? = some v := by simpa using hi
      obtain ⟨d, ds, e1, e2⟩ := readsAll_nth ra i v hi
      obtain ⟨l, e3, rfl⟩ : ∃ l, (x :: ls)[i]? = some l ∧ pyR l = d := by
        rw [List.getElem?_map] at e1
        exact Option.map_eq_some_iff.mp e1
      have e4 : pyR l = PySem.W.minD (pyR x) (ls.map pyR) := (PySem.Reads.unique (PySem.W.reads_keeps k e2) _ _ rd).1
      rw [min_pyR] at e4
      obtain ⟨y, hy, ry⟩ : ∃ y, xs[i]? = some y ∧ RelV y v := by
        have hlt : i < its.length := (List.getElem?_eq_some_iff.mp hi).1
        have hl : i < xs.length := by rw [rv.length]; exact hlt
        exact ⟨xs[i], List.getElem?_eq_getElem hl, by
          have := rv.get (List.getElem?_eq_getElem hl) 
          obtain ⟨w, w1, w2⟩ := this
          rw [hi] at w1; cases w1; exact w2⟩
      exact ⟨y, H, I.kept k, ry, q i y hy (by rw [e3, pyR_inj e4])⟩
/-- len(a set of rows) -/
theorem cr_lenT : CallR X (.builtin "len") (fun vs H Q => ∃ (a : Addr) (L : List (Addr × List Int)), vs = [V.ref a] ∧ H a = some (SetTO X.prog X.w a L) ∧ (∀ p ∈ L, SqT X.K H p.1 (p.2.map V.int)) ∧
    ((L.map (·.2)).Nodup → Q (.int L.length) H)) := by
  intro pins s σ H vs us Q I r h
  obtain ⟨a, L, rfl, ha, hk, q⟩ := h
  rw [Vals.ref1 r]
  have st : SetT0 X.prog X.w s.heap a L := (I.hok a _ ha).1
  obtain ⟨rows, ep, tab, R⟩ := st.full (fun p m => I.isT (hk p m))
  obtain ⟨ob, e1, e2, e3⟩ := R.ob
  have z1 := R.size
  have z2 := R.few
  exact call_len_set e1 e2 e3 R.fits (by rw [z1]; omega) ⟨.int _, H, I.tok _, ⟨_, by rw [z1]⟩, q R.nd⟩
theorem one_row {k : List Int} : ∀ {L : List (Addr × List Int)}, L ≠ [] → (∀ p ∈ L, p.2 = k) → (L.map (·.2)).Nodup → ∃ t, L = [(t, k)]
  | [], h, _, _ => absurd rfl h
  | [(t, k')], _, h, _ => ⟨t, by have : k' = k := h (t, k') (by simp); rw [this]⟩
  | p :: p' :: r, _, h, nd => by
    have e1 := h p (by simp)
    have e2 := h p' (by simp)
    rw [List.map_cons, List.map_cons, List.nodup_cons, e1, e2] at nd
    exact absurd (List.mem_cons_self) nd.1
open PyProof.Rows in
/-- sorted(a set of one row) -/
theorem cr_sorted1 (hc : X.calm = true) : CallR X (.builtin "sorted") (fun vs H Q => ∃ (a : Addr) (L : List (Addr × List Int)) (k : List Int), vs = [V.ref a] ∧ H a = some (SetTO X.prog X.w a L) ∧ L ≠ [] ∧ (∀ p ∈ L, p.2 = k ∧ SqT X.K H p.1 (p.2.map V.int)) ∧
    ∀ t p, (t, k) ∈ L → H p = none → Q (.ref p) (upd H p (.lst [V.ref t]))) := by
  intro pins s σ H vs us Q I r h
  obtain ⟨a, L, k, rfl, ha, hne, hL, q0⟩ := h
  rw [Vals.ref1 r]
  have st : SetT0 X.prog X.w s.heap a L := (I.hok a _ ha).1
  obtain ⟨rows, ep, tab, R⟩ := st.full (fun p m => I.isT (hL p m).2)
  obtain ⟨t, eL⟩ := one_row hne (fun p m => (hL p m).1) R.nd
  have q := fun p => q0 t p (by rw [eL]; simp)
  obtain ⟨ob, e1, e2, e3⟩ := R.ob
  have z1 := R.size
  have z2 := R.few
  refine Calls.call_function_entry kind_sorted plain_sorted entry_sorted (args_sorted1 (Value.ref a)) ?_
  unfold Builtin.«sorted»
  refine wpAny_bind (m := checkCount "sorted" 1 1 (_)) (wpAny_pure ?_)
  refine wpAny_bind (collect_set (A := X.A.in1) (I.ok.hd hc) ⟨ob, e1, e2.1, e3⟩ R.fits (by unfold scanBound; omega) R.tab.ris R.led fun sA vs kA zA gA oA pm => ?_)
  have hes : rows.toList.map (·.2) = [Value.ref t] := by
    rw [R.rows, eL]; rfl
  rw [hes] at pm
  have hvs := List.perm_singleton.mp pm
  subst hvs
  refine wpAny_bind (wpAny_newList ?_ (by simp [sizeLine_eq]))
  have hoL : (sA.heap.push (seqObj "list" [Value.ref t].toArray 0)).get? sA.heap.objs.size = some (seqObj "list" [Value.ref t].toArray 0) := Heap.get?_push_size _ rfl
  refine wpAny_bind (wpAny_holding (wpAny_call_entry slot_list_sort ⟨_, hoL, rfl⟩ entry_list_sort (SK.plain_sort (s := { sA with heap := sA.heap.push (seqObj "list" [Value.ref t].toArray 0) }) (vs := [Value.ref t]) (r := fun _ => 0) hoL (by simp) (fun h2 => absurd h2 (by simp)) fun ps out h1 h2 h3 => ⟨_, rfl, ?_⟩) (args_list_sort _)))
  obtain ⟨c, hcc⟩ := sortedHeap_at (out := out) hoL
  have ho : out.toList = [Value.ref t] := by
    rw [h1, List.perm_singleton.mp h2]; rfl
  have kk : ∀ b u, s.heap.get? b = some u → (sortedHeap (sA.heap.push (seqObj "list" [Value.ref t].toArray 0)) sA.heap.objs.size [Value.ref t] out).get? b = some u := fun b u e => by
    have e' := kA b u e
    have lt := Heap.lt_size e'
    rw [sortedHeap_old (Nat.ne_of_lt lt) (by rw [size_push']; exact Nat.lt_succ_of_lt lt)]
    exact Heap.get?_push_of_some _ e'
  have hn : H sA.heap.objs.size = none := I.hok.fresh zA
  have vv : Vals [V.ref t] out.toList := by rw [ho]; exact .cons rfl .nil
  have J : Inv X pins σ (upd H sA.heap.objs.size (.lst [V.ref t])) { s with heap := sortedHeap (sA.heap.push (seqObj "list" [Value.ref t].toArray 0)) sA.heap.objs.size [Value.ref t] out, gens := sA.gens, drawn := sA.drawn, toks := sA.toks } :=
    I.call (ch := []) (Un.laid kk zA hn) (I.hok.laid kk zA ⟨by simp [sizeLine_eq], out.toList, c, vv, hcc⟩) (by rw [gA]; exact I.bare) (fun _ m => nomatch m)
  refine wpAny_pure ⟨_, rfl, .ref sA.heap.objs.size, _, ?_, rfl, q _ hn⟩
  have eq : ({ sA with heap := sortedHeap (sA.heap.push (seqObj "list" [Value.ref t].toArray 0)) sA.heap.objs.size [Value.ref t] out } : Shared) = { s with heap := sortedHeap (sA.heap.push (seqObj "list" [Value.ref t].toArray 0)) sA.heap.objs.size [Value.ref t] out, gens := sA.gens, drawn := sA.drawn, toks := sA.toks } := by
    cases sA; cases s; cases oA; rfl
  exact eq ▸ J
end
section
variable {C : G0} {F H : Hp}
theorem intsD_eq : ∀ {ds : List D} {l : List Int}, intsD ds = some l → ds = l.map D.int
  | [], l, e => by cases e; rfl
  | d :: ds, l, e => by
    cases d <;> simp only [intsD] at e <;> first | cases e | skip
    obtain ⟨r, e1, rfl⟩ := Option.map_eq_some_iff.mp e
    rw [intsD_eq e1]; rfl
theorem intsT_eq : ∀ {ds : List D} {ls : List (List Int)}, intsT ds = some ls → ds = ls.map rowD
  | [], l, e => by cases e; rfl
  | d :: ds, l, e => by
    cases d <;> simp only [intsT] at e <;> first | cases e | skip
    obtain ⟨x, e0, e⟩ := Option.bind_eq_some_iff.mp e
    obtain ⟨r, e1, rfl⟩ := Option.map_eq_some_iff.mp e
    rw [intsT_eq e1, intsD_eq e0]; rfl
theorem py_ints : ∀ l : List Int, toPys (l.map D.int) = l.map PyData.int
  | [] => rfl
  | x :: l => by rw [List.map_cons, toPys, py_ints l]; rfl
theorem py_rows : ∀ ls : List (List Int), toPys (ls.map rowD) = ls.map pyR
  | [] => rfl
  | l :: ls => by rw [List.map_cons, toPys, py_rows ls, List.map_cons]; unfold rowD pyR; rw [toPy, py_ints]
theorem canLays_rows : ∀ ls : List (List Int), PyData.canLayAll0 (ls.map pyR) = true
  | [] => rfl
  | l :: ls => by rw [List.map_cons, PyData.canLayAll0, canLays_rows ls, canLay_pyR]; rfl
theorem row_rep {l : List Int} {v : V} (h : Rep C F (rowD l) v) : ∃ a, v = .ref a ∧ SqT C.K F a (l.map V.int) := by
  unfold rowD at h
  rw [Rep] at h
  obtain ⟨a, vs, rfl, h1, h2⟩ := h
  refine ⟨a, rfl, ?_⟩
  have : vs = l.map V.int := by
    clear h1
    induction l generalizing vs with
    | nil => rw [List.map_nil, RepL] at h2; exact h2
    | cons x l ih =>
      rw [List.map_cons, RepL] at h2
      obtain ⟨v, w, rfl, r1, r2⟩ := h2
      rw [Rep] at r1
      rw [r1, ih w r2]; rfl
  rw [← this]; exact h1
theorem rep_row {l : List Int} {a : Addr} (h : SqT C.K F a (l.map V.int)) : Rep C F (rowD l) (.ref a) := by
  unfold rowD
  rw [Rep]
  refine ⟨a, _, rfl, h, ?_⟩
  clear h
  induction l with
  | nil => exact .nil
  | cons x l ih => exact .cons rep_int ih
theorem rows_rep : ∀ {ls : List (List Int)} {vs : List V}, RepL C F (ls.map rowD) vs → ∃ ks : List (Addr × List Int), vs = ks.map (fun p => V.ref p.1) ∧ ks.map (·.2) = ls ∧ ∀ p ∈ ks, SqT C.K F p.1 (p.2.map V.int)
  | [], vs, h => by rw [List.map_nil, RepL] at h; exact ⟨[], h, rfl, fun p m => nomatch m⟩
  | l :: ls, vs, h => by
    rw [List.map_cons, RepL] at h
    obtain ⟨v, w, rfl, r1, r2⟩ := h
    obtain ⟨a, rfl, h1⟩ := row_rep r1
    obtain ⟨ks, rfl, e, h2⟩ := rows_rep r2
    exact ⟨(a, l) :: ks, rfl, by rw [List.map_cons, e], fun p m => by
      rcases List.mem_cons.mp m with rfl | m
      · exact h1
      · exact h2 p m⟩
theorem rep_rows : ∀ {ks : List (Addr × List Int)}, (∀ p ∈ ks, SqT C.K F p.1 (p.2.map V.int)) → RepL C F ((ks.map (·.2)).map rowD) (ks.map fun p => V.ref p.1)
  | [], _ => .nil
  | p :: ks, h => .cons (rep_row (h p (by simp))) (rep_rows fun q m => h q (by simp [m]))
theorem mem_ded : ∀ {l : List (List Int)} {x : List Int}, x ∈ ded l ↔ x ∈ l
  | [], x => Iff.rfl
  | y :: l, x => by
    unfold ded
    by_cases h : y ∈ l
    · rw [if_pos h, mem_ded]
      constructor
      · exact List.mem_cons_of_mem _
      · intro m
        rcases List.mem_cons.mp m with rfl | m
        · exact h
        · exact m
    · rw [if_neg h, List.mem_cons, List.mem_cons, mem_ded]
theorem nodup_ded : ∀ (l : List (List Int)), (ded l).Nodup
  | [] => List.nodup_nil
  | y :: l => by
    unfold ded
    by_cases h : y ∈ l
    · rw [if_pos h]; exact nodup_ded l
    · rw [if_neg h]; exact List.nodup_cons.mpr ⟨fun m => h (mem_ded.mp m), nodup_ded l⟩
/-- what a set of rows holds -/
theorem set_perm {ks L : List (Addr × List Int)} {ls : List (List Int)} (e : ks.map (·.2) = ls) (h1 : ∀ p ∈ L, p ∈ ks) (h2 : ∀ p ∈ ks, p.2 ∈ L.map (·.2)) (nd : (L.map (·.2)).Nodup) : (L.map (·.2)).Perm (ded ls) := by
  refine (List.perm_ext_iff_of_nodup nd (nodup_ded ls)).mpr fun x => ?_
  rw [mem_ded, ← e]
  constructor
  · intro m
    obtain ⟨p, hp, rfl⟩ := List.mem_map.mp m
    exact List.mem_map.mpr ⟨p, h1 p hp, rfl⟩
  · intro m
    obtain ⟨p, hp, rfl⟩ := List.mem_map.mp m
    exact h2 p hp
theorem insC_perm (x : List Int) : ∀ l, (insC x l).Perm (x :: l)
  | [] => List.Perm.refl _
  | y :: l => by
    unfold insC
    split
    · exact List.Perm.refl _
    · exact ((insC_perm x l).cons y).trans (List.Perm.swap x y l)
theorem insC_pw (x : List Int) : ∀ {l : List (List Int)}, l.Pairwise (fun a b => TS.code cdB a ≤ TS.code cdB b) → (insC x l).Pairwise (fun a b => TS.code cdB a ≤ TS.code cdB b)
  | [], _ => by unfold insC; exact List.pairwise_singleton _ _
  | y :: l, h => by
    unfold insC
    obtain ⟨h1, h2⟩ := List.pairwise_cons.mp h
    split
    · rename_i c
      exact List.pairwise_cons.mpr ⟨fun z m => by
        rcases List.mem_cons.mp m with rfl | m
        · exact c
        · exact Int.le_trans c (h1 z m), h⟩
    · rename_i c
      refine List.pairwise_cons.mpr ⟨fun z m => ?_, insC_pw x h2⟩
      rcases List.mem_cons.mp ((insC_perm x l).mem_iff.mp m) with rfl | m
      · omega
      · exact h1 z m
theorem sortC_ok : ∀ l : List (List Int), (sortC l).Perm l ∧ (sortC l).Pairwise (fun a b => TS.code cdB a ≤ TS.code cdB b)
  | [] => ⟨List.Perm.refl _, List.Pairwise.nil⟩
  | x :: l => by
    obtain ⟨h1, h2⟩ := sortC_ok l
    unfold sortC
    exact ⟨(insC_perm x _).trans (h1.cons x), insC_pw x h2⟩
theorem code_inj {B : Int} : ∀ {a b : List Int}, a.length = b.length → TS.Bd B a → TS.Bd B b → TS.code B a = TS.code B b → a = b
  | [], [], _, _, _, _ => rfl
  | [], _ :: _, h, _, _, _ => by simp at h
  | _ :: _, [], h, _, _, _ => by simp at h
  | x :: a, y :: b, h, ha, hb, e => by
    have hl : a.length = b.length := by simpa using h
    rcases Int.lt_trichotomy x y with c | c | c
    · have := TS.code_lt hl ha.tail hb.tail c
      omega
    · subst c
      have e : x * B ^ a.length + TS.code B a = x * B ^ b.length + TS.code B b := e
      rw [hl] at e
      rw [code_inj hl ha.tail hb.tail (by omega)]
    · have := TS.code_lt hl.symm hb.tail ha.tail c
      omega
theorem code_uniq {B : Int} {n : Nat} : ∀ {l m : List (List Int)}, l.Perm m → (∀ x ∈ l, x.length = n ∧ TS.Bd B x) → l.Pairwise (fun a b => TS.code B a ≤ TS.code B b) → m.Pairwise (fun a b => TS.code B a ≤ TS.code B b) → l = m
  | [], m, p, _, _, _ => (List.nil_perm.mp p).symm
  | x :: l, [], p, _, _, _ => absurd p.length_eq (by simp)
  | x :: l, y :: m, p, h, a, b => by
    obtain ⟨a1, a2⟩ := List.pairwise_cons.mp a
    obtain ⟨b1, b2⟩ := List.pairwise_cons.mp b
    have hy := h y (p.mem_iff.mpr (by simp))
    have hx := h x (by simp)
    have e : x = y := by
      refine code_inj (hx.1.trans hy.1.symm) hx.2 hy.2 (Int.le_antisymm ?_ ?_)
      · rcases List.mem_cons.mp (p.mem_iff.mpr (List.mem_cons_self (a := y) (l := m))) with q | q
        · rw [q]; exact Int.le_refl _
        · exact a1 _ q
      · rcases List.mem_cons.mp (p.mem_iff.mp (List.mem_cons_self (a := x) (l := l))) with q | q
        · rw [q]; exact Int.le_refl _
        · exact b1 _ q
    subst e
    rw [code_uniq (List.perm_cons x |>.mp p) (fun z m => h z (by simp [m])) a2 b2]
end
end PL
end

section
namespace PL
open PySem PySem.Spec L2

section
variable {X : Cx} {C : G0} {W : WX} {H F : Hp}
theorem atI_rep {ds : List D} {vs : List V} {i : Int} {d : D} (r : RepL C F ds vs) (h : atI ds i = some d) : ∃ v, atI vs i = some v ∧ Rep C F d v := by
  unfold atI at h ⊢
  rw [← r.len]
  cases e : ixN ds.length i with
  | none => rw [e] at h; cases h
  | some j => rw [e] at h; exact r.get h
/-- an item -/
theorem ix_item (hK : X.K = C.K) (hu : X.A.units + 1 < cLine) : IxR X (fun x y H Q => ∃ d1 d2, OpP C W ((item d1 d2).map RV.v) [d1, d2] [x, y] H Q) := by
  intro value slice pins s σ H x y v u Q I rx ry h hs
  obtain ⟨d1, d2, h⟩ := h
  obtain ⟨e, F, σ2, R, k, hp⟩ := h
  have q1 := k 0 d1 x rfl rfl
  have q2 := k 1 d2 y rfl rfl
  obtain ⟨r, er0, hp0⟩ := hp.opt
  obtain ⟨d, er, rfl⟩ := Option.map_eq_some_iff.mp er0
  clear hp er0
  rename PostE C W e F σ2 H (Out.ok (RV.v d) e) Q => hp
  unfold item at er
  split at er
  · cases q2.int
    obtain ⟨a, vs, rfl, ha, ra⟩ := q1.tup
    obtain ⟨w, ew, rw'⟩ := atI_rep ra er
    exact ix_tup value slice pins s σ H _ _ v u Q I rx ry ⟨a, vs, _, w, rfl, rfl, by rw [hK]; exact R.sub.sqT ha, ew, hp.val R rw'⟩ hs
  · cases q2.int
    obtain ⟨a, vs, rfl, ha, ra⟩ := q1.lst R.sub
    obtain ⟨w, ew, rw'⟩ := atI_rep ra er
    exact ix_list value slice pins s σ H _ _ v u Q I rx ry ⟨a, vs, _, w, rfl, rfl, .inl (.inl ha), ew, hp.val R rw'⟩ hs
  · cases q2.int
    obtain ⟨a, rfl, ha⟩ := q1.scr
    obtain ⟨z, ez, rfl⟩ := Option.map_eq_some_iff.mp er
    refine ix_list value slice pins s σ H _ _ v u Q I rx ry ⟨a, _, _, .int z, rfl, rfl, by rw [hK]; exact R.sub.sqL ha, ?_, hp.val R rep_int⟩ hs
    unfold atI at ez ⊢
    rw [List.length_map]
    rename_i ns i
    cases e1 : ixN ns.length i with
    | none => rw [e1] at ez; cases ez
    | some j => rw [e1] at ez; show (ns.map V.int)[j]? = _; rw [List.getElem?_map]; rw [show ns[j]? = some z from ez]; rfl
  · rename_i ks ds d2'
    obtain ⟨kk, ek, er⟩ := Option.bind_eq_some_iff.mp er
    obtain ⟨a, vs, rfl, h1, l, h2⟩ := q1.dk R.sub
    have hk := keyOf_V (q2.rep R.sub) ek
    obtain ⟨_, hv⟩ := dlook_val (k := kk) l h2
    obtain ⟨w, ew, rw'⟩ := hv d er
    obtain rfl : v = Value.ref a := rx
    have g : DGet H a y (some w) := .inl ⟨_, kk, .inl h1, hk, ew.symm⟩
    exact PyProof.Rows.tail_any (dict_typeIs I g) PySem.F.slot_dict_getitem.lookup (d_getItem hu I g ry fun w' s' I' rr => ⟨w, H, I', rr, hp.val R rw'⟩) hs
  · split at er
    · obtain ⟨z, ez, rfl⟩ := Option.map_eq_some_iff.mp er
      cases q2.int; cases q1.str
      exact ix_str value slice pins s σ H _ _ v u Q I rx ry ⟨_, _, z, rfl, rfl, by rw [← sizeL_eq]; assumption, ez, hp.val R rep_str⟩ hs
    · cases er
  · cases er
theorem cut_rep {ds : List D} {vs : List V} {lo hi : Option Int} (r : RepL C F ds vs) : RepL C F (cutD ds lo hi) (cutV vs lo hi) := by
  unfold cutD cutV
  rw [← r.len]
  exact (r.drop _).take _
theorem cut_map {ns : List Int} {lo hi : Option Int} : cutV (ns.map V.int) lo hi = (cutD ns lo hi).map V.int := by
  unfold cutD cutV
  rw [List.length_map, List.map_take, List.map_drop]
theorem repL_ints : ∀ (ns : List Int), RepL C F (ns.map D.int) (ns.map V.int)
  | [] => .nil
  | n :: ns => .cons rep_int (repL_ints ns)
theorem sl_slice (hK : X.K = C.K) : SlR X (fun x lo hi H Q => ∃ d, OpP C W (sliceD d lo hi) [d] [x] H Q) := by
  intro pins s σ H x v vl vu lo hi sl Q I rx hs pl pu h
  obtain ⟨d, h⟩ := h
  obtain ⟨e, F, σ2, R, k, hp⟩ := h
  have q1 := k 0 d x rfl rfl
  obtain ⟨r, er, hp⟩ := hp.opt
  unfold sliceD at er
  split at er
  · cases er
    obtain ⟨a, vs, rfl, ha, ra⟩ := q1.lst R.sub
    exact sl_list pins s σ H _ v vl vu lo hi sl Q I rx hs pl pu ⟨a, vs, rfl, .inl (.inl ha), fun p hn => hp.newLst R (cut_rep ra) hn⟩
  · cases er
    obtain ⟨a, rfl, ha⟩ := q1.scr
    refine sl_list pins s σ H _ v vl vu lo hi sl Q I rx hs pl pu ⟨a, _, rfl, by rw [hK]; exact R.sub.sqL ha, fun p hn => ?_⟩
    rw [cut_map]
    exact hp.newLst R (repL_ints _) hn
  · cases er
    obtain ⟨a, vs, rfl, ha, ra⟩ := q1.tup
    refine sl_tupA pins s σ H _ v vl vu lo hi sl Q I rx hs pl pu ⟨a, vs, rfl, by rw [hK]; exact R.sub.sqT ha, fun w => ?_, fun _ p hn => hp.newTup R (cut_rep ra) hn⟩
    refine hp.val R ?_
    have z := cut_rep (lo := lo) (hi := hi) ra
    have e1 : cutV vs lo hi = vs := by
      unfold cutV
      rw [w.1, w.2, Nat.sub_zero, List.drop_zero, List.take_length]
    rw [e1] at z
    rw [Rep]
    exact ⟨a, vs, rfl, ha, z⟩
  · cases er
/-! built-in functions -/
def biV : Bi → Value
  | .len => .builtin "len"
  | .abs => .builtin "abs"
  | .tuple => .type "tuple"
  | .list => .type "list"
  | .int1 => .type "int"
  | .sum => .builtin "sum"
  | .min1 => .builtin "min"
  | .max1 => .builtin "max"
  | .min2 => .builtin "min"
  | .max2 => .builtin "max"
  | .all => .builtin "all"
  | .any => .builtin "any"
  | .sorted => .builtin "sorted"
  | .gcd => .builtin "math.gcd"
  | .dict1 => .type "dict"
theorem intsD_rep : ∀ {ds : List D} {ns : List Int} {vs : List V}, intsD ds = some ns → RepL C F ds vs → vs = ns.map V.int
  | [], _, vs, e, r => by cases e; rw [RepL] at r; exact r
  | d :: ds, ns, vs, e, r => by
    rw [RepL] at r
    obtain ⟨v, w, rfl, r1, r2⟩ := r
    cases d <;> simp only [intsD] at e <;> first | cases e | skip
    obtain ⟨l, e1, rfl⟩ := Option.map_eq_some_iff.mp e
    rw [Rep] at r1
    rw [r1, intsD_rep e1 r2]; rfl
theorem blsD_rep : ∀ {ds : List D} {ns : List Bool} {vs : List V}, blsD ds = some ns → RepL C F ds vs → vs = ns.map V.bl
  | [], _, vs, e, r => by cases e; rw [RepL] at r; exact r
  | d :: ds, ns, vs, e, r => by
    rw [RepL] at r
    obtain ⟨v, w, rfl, r1, r2⟩ := r
    cases d <;> simp only [blsD] at e <;> first | cases e | skip
    obtain ⟨l, e1, rfl⟩ := Option.map_eq_some_iff.mp e
    rw [Rep] at r1
    rw [r1, blsD_rep e1 r2]; rfl
theorem lmin_mem : ∀ {l : List Int}, l ≠ [] → lmin l ∈ l ∧ ∀ y ∈ l, lmin l ≤ y
  | [], h => (h rfl).elim
  | [x], _ => ⟨by simp [lmin], by simp [lmin]⟩
  | x :: y :: r, _ => by
    obtain ⟨h1, h2⟩ := lmin_mem (l := y :: r) (by simp)
    rw [lmin]
    split
    · rename_i h
      exact ⟨by simp, fun z hz => by
        rcases List.mem_cons.mp hz with rfl | hz
        · omega
        · exact Int.le_trans h (h2 z hz)⟩
    · rename_i h
      exact ⟨List.mem_cons_of_mem _ h1, fun z hz => by
        rcases List.mem_cons.mp hz with rfl | hz
        · omega
        · exact h2 z hz⟩
    · exact fun h => by cases h
theorem lmax_mem : ∀ {l : List Int}, l ≠ [] → lmax l ∈ l ∧ ∀ y ∈ l, y ≤ lmax l
  | [], h => (h rfl).elim
  | [x], _ => ⟨by simp [lmax], by simp [lmax]⟩
  | x :: y :: r, _ => by
    obtain ⟨h1, h2⟩ := lmax_mem (l := y :: r) (by simp)
    rw [lmax]
    split
    · rename_i h
      exact ⟨by simp, fun z hz => by
        rcases List.mem_cons.mp hz with rfl | hz
        · omega
        · exact Int.le_trans (h2 z hz) h⟩
    · rename_i h
      exact ⟨List.mem_cons_of_mem _ h1, fun z hz => by
        rcases List.mem_cons.mp hz with rfl | hz
        · omega
        · exact h2 z hz⟩
    · exact fun h => by cases h
theorem isort_ins (x : Int) : ∀ l : List Int, (isort.ins x l).Perm (x :: l) ∧ (l.Pairwise (· ≤ ·) → (isort.ins x l).Pairwise (· ≤ ·))
  | [] => ⟨.refl _, fun _ => by simp [isort.ins]⟩
  | y :: ys => by
    rw [isort.ins]
    split
    · rename_i h
      refine ⟨.refl _, fun p => ?_⟩
      refine List.pairwise_cons.mpr ⟨fun z hz => ?_, p⟩
      rcases List.mem_cons.mp hz with rfl | hz
      · exact h
      · exact Int.le_trans h ((List.pairwise_cons.mp p).1 z hz)
    · rename_i h
      obtain ⟨p1, p2⟩ := isort_ins x ys
      refine ⟨(p1.cons y).trans (.swap x y ys), fun p => ?_⟩
      obtain ⟨q1, q2⟩ := List.pairwise_cons.mp p
      refine List.pairwise_cons.mpr ⟨fun z hz => ?_, p2 q2⟩
      rcases List.mem_cons.mp (p1.mem_iff.mp hz) with rfl | hz
      · omega
      · exact q1 z hz
theorem isort_ok : ∀ l : List Int, (isort l).Perm l ∧ (isort l).Pairwise (· ≤ ·)
  | [] => ⟨.refl _, by simp [isort]⟩
  | x :: xs => by
    obtain ⟨p1, p2⟩ := isort_ok xs
    obtain ⟨q1, q2⟩ := isort_ins x (isort xs)
    rw [isort]
    exact ⟨q1.trans (p1.cons x), q2 p2⟩
theorem sorted_uniq : ∀ {l m : List Int}, l.Perm m → l.Pairwise (· ≤ ·) → m.Pairwise (· ≤ ·) → l = m
  | [], m, p, _, _ => by simpa using p.symm.eq_nil
  | x :: l, [], p, _, _ => by simpa using p.eq_nil
  | x :: l, y :: m, p, h1, h2 => by
    obtain ⟨a1, a2⟩ := List.pairwise_cons.mp h1
    obtain ⟨b1, b2⟩ := List.pairwise_cons.mp h2
    have e : x = y := by
      have m1 : y ∈ x :: l := p.mem_iff.mpr (by simp)
      have m2 : x ∈ y :: m := p.mem_iff.mp (by simp)
      rcases List.mem_cons.mp m1 with q | q
      · exact q.symm
      · rcases List.mem_cons.mp m2 with q' | q'
        · exact q'
        · have := a1 y q; have := b1 x q'; omega
    subst e
    rw [sorted_uniq (List.perm_cons x |>.mp p) a2 b2]
theorem one_of {α : Type} {d : D} {vs : List α} (h : [d].length = vs.length) : ∃ v, vs = [v] := by
  cases vs with
  | nil => simp at h
  | cons a l => cases l with
    | nil => exact ⟨a, rfl⟩
    | cons _ _ => simp at h
theorem two_of {α : Type} {d d' : D} {vs : List α} (h : [d, d'].length = vs.length) : ∃ v w, vs = [v, w] := by
  cases vs with
  | nil => simp at h
  | cons a l => cases l with
    | nil => simp at h
    | cons b m => cases m with
      | nil => exact ⟨a, b, rfl⟩
      | cons _ _ => simp at h
theorem drepl_rep {κ : Type} [DecidableEq κ] {C : G0} {F : Hp} {x : κ} {d : D} {v : V} (rv : Rep C F d v) : ∀ {ks : List κ} {ds : List D} {vs : List V}, ks.length = ds.length → RepL C F ds vs →
    ∃ ws, (ks.zip vs).map (fun kv => if kv.1 = x then (kv.1, v) else kv) = ks.zip ws ∧ ks.length = (drepl ks ds x d).length ∧ RepL C F (drepl ks ds x d) ws
  | [], [], vs, _, r => by
    rw [RepL] at r; subst r
    exact ⟨[], rfl, rfl, .nil⟩
  | k :: ks, e :: ds, vs, hl, r => by
    rw [RepL] at r
    obtain ⟨w, ws, rfl, r1, r2⟩ := r
    obtain ⟨us, h1, h2, h3⟩ := drepl_rep (x := x) rv (ks := ks) (ds := ds) (by simpa using hl) r2
    by_cases hk : k = x
    · refine ⟨v :: us, ?_, ?_, ?_⟩
      · simp only [List.zip_cons_cons, List.map_cons, h1]
        rw [if_pos hk]
      · simp only [drepl, List.length_cons, ← h2]
      · simp only [drepl]
        rw [if_pos hk]
        exact .cons rv h3
    · refine ⟨w :: us, ?_, ?_, ?_⟩
      · simp only [List.zip_cons_cons, List.map_cons, h1]
        rw [if_neg hk]
      · simp only [drepl, List.length_cons, ← h2]
      · simp only [drepl]
        rw [if_neg hk]
        exact .cons r1 h3
  | [], _ :: _, _, hl, _ => by simp at hl
  | _ :: _, [], _, hl, _ => by simp at hl
theorem dput_rep {κ : Type} [DecidableEq κ] {C : G0} {F : Hp} {x : κ} {d : D} {v : V} (rv : Rep C F d v) {ks : List κ} {ds : List D} {vs : List V} (hl : ks.length = ds.length) (r : RepL C F ds vs) :
    ∃ ws, putK (ks.zip vs) x v = (dput ks ds x d).1.zip ws ∧ (dput ks ds x d).1.length = (dput ks ds x d).2.length ∧ RepL C F (dput ks ds x d).2 ws := by
  have hlv : ks.length = vs.length := by rw [hl, r.len]
  have ha : ((ks.zip vs).any fun kv => decide (kv.1 = x)) = decide (x ∈ ks) := by
    have : ∀ (ks : List κ) (vs : List V), ks.length = vs.length → ((ks.zip vs).any fun kv => decide (kv.1 = x)) = decide (x ∈ ks) := by
      intro ks
      induction ks with
      | nil => intro vs h; simp
      | cons k ks ih =>
        intro vs h
        cases vs with
        | nil => simp at h
        | cons v vs =>
          rw [List.zip_cons_cons, List.any_cons, ih vs (by simpa using h)]
          by_cases e : k = x
          · simp [e]
          · have : ¬ x = k := fun q => e q.symm
            simp [e, this]
    exact this ks vs hlv
  unfold putK dput
  rw [ha]
  by_cases h : x ∈ ks
  · rw [if_pos (decide_eq_true h), if_pos h]
    exact drepl_rep rv hl r
  · rw [if_neg (by simpa using h), if_neg h]
    refine ⟨vs ++ [v], ?_, ?_, ?_⟩
    · rw [List.zip_append hlv]; rfl
    · simp [hl]
    · exact r.append (.cons rv .nil)
theorem dispP_rep {C : G0} {F H : Hp} (sb : Sub F H) : ∀ {xs : List D} {ks : List Key} {ds : List D} {vs0 ws : List V} {p : List Key × List D}, dispP xs ks ds = some p → ks.length = ds.length → RepL C F ds vs0 → RepL C F xs ws →
    ∃ (ps : List Addr) (kvs : List (Key × V)) (vs : List V), ws = ps.map V.ref ∧ Paired (fun p kv => SqT C.K H p [kV kv.1, kv.2]) ps kvs ∧ mergeK (ks.zip vs0) kvs = p.1.zip vs ∧ p.1.length = p.2.length ∧ RepL C F p.2 vs
  | [], ks, ds, vs0, ws, p, h, hl, r0, r => by
    rw [RepL] at r; subst r
    cases h
    exact ⟨[], [], vs0, rfl, .nil, rfl, hl, r0⟩
  | x :: xs, ks, ds, vs0, ws, p, h, hl, r0, r => by
    rw [RepL] at r
    obtain ⟨w, wr, rfl, r1, r2⟩ := r
    cases x <;> first | (simp only [dispP] at h; cases h; done) | skip
    rename_i l
    match l, h with
    | [], h => simp [dispP] at h
    | [_], h => simp [dispP] at h
    | _ :: _ :: _ :: _, h => simp [dispP] at h
    | [k, d], h =>
      simp only [dispP] at h
      obtain ⟨z, k1, k2⟩ := Option.bind_eq_some_iff.mp h
      rw [Rep] at r1
      obtain ⟨a, us, rfl, q1, q2⟩ := r1
      rw [RepL] at q2
      obtain ⟨vk, u1, rfl, q3, q4⟩ := q2
      rw [RepL] at q4
      obtain ⟨vd, u2, rfl, q5, q6⟩ := q4
      rw [RepL] at q6
      subst q6
      have ek : vk = kV z := by
        cases k <;> simp only [keyOf] at k1 <;> cases k1
        · rw [Rep] at q3; exact q3
        · rw [Rep] at q3; exact q3
      subst ek
      obtain ⟨us, p1, p2, p3⟩ := dput_rep (x := z) q5 hl r0
      obtain ⟨ps, kvs, vs, g1, g2, g3, g4, g5⟩ := dispP_rep sb k2 p2 p3 r2
      refine ⟨a :: ps, (z, vd) :: kvs, vs, by rw [g1]; rfl, .cons (sb.sqT q1) g2, ?_, g4, g5⟩
      show mergeK (putK (ks.zip vs0) z vd) kvs = _
      rw [p1]; exact g3
theorem call_bi (hK : X.K = C.K) (hc : X.calm = true) (hu : X.A.units + 64 < cLine) (b : Bi) : CallR X (biV b) (fun vs H Q => ∃ ds, OpP C W (biF b ds) ds vs H Q ∧ ds.length = vs.length) := by
  intro pins s σ H vs us Q I rv h
  obtain ⟨ds, h, hl⟩ := h
  obtain ⟨e, F, σ2, R, k, hp⟩ := h
  obtain ⟨r, er, hp0⟩ := hp.opt
  clear hp
  unfold biF at er
  split at er
  · cases er
    obtain ⟨v, rfl⟩ := one_of hl
    obtain ⟨a, ws, rfl, ha, ra⟩ := (k 0 _ _ rfl rfl).tup
    refine call_len_seq pins s σ H _ us Q I rv ⟨a, ws, rfl, .inr (by rw [hK]; exact R.sub.sqT ha), ?_⟩
    rw [← ra.len]; exact hp0.val R rep_int
  · cases er
    obtain ⟨v, rfl⟩ := one_of hl
    obtain ⟨a, ws, rfl, ha, ra⟩ := (k 0 _ _ rfl rfl).lst R.sub
    refine call_len_seq pins s σ H _ us Q I rv ⟨a, ws, rfl, .inl (.inl (.inl ha)), ?_⟩
    rw [← ra.len]; exact hp0.val R rep_int
  · cases er
    obtain ⟨v, rfl⟩ := one_of hl
    obtain ⟨a, rfl, ha⟩ := (k 0 _ _ rfl rfl).scr
    refine call_len_seq pins s σ H _ us Q I rv ⟨a, _, rfl, .inl (by rw [hK]; exact R.sub.sqL ha), ?_⟩
    rw [List.length_map]; exact hp0.val R rep_int
  · split at er <;> cases er
    obtain ⟨v, rfl⟩ := one_of hl
    cases (k 0 _ _ rfl rfl).str
    exact call_len_str pins s σ H _ us Q I rv ⟨_, rfl, by rw [← sizeL_eq]; assumption, hp0.val R rep_int⟩
  · cases er
    obtain ⟨v, rfl⟩ := one_of hl
    rename_i ks xs
    obtain ⟨a, ws, rfl, ha, l, ra⟩ := (k 0 _ _ rfl rfl).dk R.sub
    refine call_lenD pins s σ H _ us Q I rv ⟨a, _, rfl, ha, ?_⟩
    rw [List.length_zip, ← ra.len, l, Nat.min_self, ← l]
    exact hp0.val R rep_int
  · cases er
    obtain ⟨v, rfl⟩ := one_of hl
    cases (k 0 _ _ rfl rfl).int
    exact call_abs pins s σ H _ us Q I rv ⟨_, rfl, hp0.val R rep_int⟩
  · cases er
    obtain ⟨v, rfl⟩ := one_of hl
    obtain ⟨a, ws, rfl, ha, ra⟩ := (k 0 _ _ rfl rfl).tup
    exact call_tuple_of pins s σ H _ us Q I rv ⟨a, ws, rfl, .inr ⟨by rw [hK]; exact R.sub.sqT ha, hp0.val R (by rw [Rep]; exact ⟨a, ws, rfl, ha, ra⟩)⟩⟩
  · cases er
    obtain ⟨v, rfl⟩ := one_of hl
    obtain ⟨a, ws, rfl, ha, ra⟩ := (k 0 _ _ rfl rfl).lst R.sub
    exact call_tuple_of pins s σ H _ us Q I rv ⟨a, ws, rfl, .inl ⟨.inl (.inl ha), fun l hn => hp0.newTup R ra hn⟩⟩
  · cases er
    obtain ⟨v, rfl⟩ := one_of hl
    obtain ⟨a, ws, rfl, ha, ra⟩ := (k 0 _ _ rfl rfl).tup
    exact call_list_of pins s σ H _ us Q I rv ⟨a, ws, rfl, .inr (by rw [hK]; exact R.sub.sqT ha), fun l hn => hp0.newLst R ra hn⟩
  · cases er
    obtain ⟨v, rfl⟩ := one_of hl
    obtain ⟨a, ws, rfl, ha, ra⟩ := (k 0 _ _ rfl rfl).lst R.sub
    exact call_list_of pins s σ H _ us Q I rv ⟨a, ws, rfl, .inl (.inl (.inl ha)), fun l hn => hp0.newLst R ra hn⟩
  · cases er
    obtain ⟨v, rfl⟩ := one_of hl
    obtain ⟨a, rfl, ha⟩ := (k 0 _ _ rfl rfl).scr
    exact call_list_of pins s σ H _ us Q I rv ⟨a, _, rfl, .inl (by rw [hK]; exact R.sub.sqL ha), fun l hn => hp0.newLst R (repL_ints _) hn⟩
  · cases er
    obtain ⟨v, rfl⟩ := one_of hl
    cases (k 0 _ _ rfl rfl).int
    exact call_int1 pins s σ H _ us Q I rv (.inl ⟨_, rfl, hp0.val R rep_int⟩)
  · cases er
    obtain ⟨v, rfl⟩ := one_of hl
    cases (k 0 _ _ rfl rfl).bl
    exact call_int1 pins s σ H _ us Q I rv (.inr ⟨_, rfl, hp0.val R rep_int⟩)
  · obtain ⟨l, e1, rfl⟩ := Option.map_eq_some_iff.mp er
    obtain ⟨v, rfl⟩ := one_of hl
    obtain ⟨a, ws, rfl, ha, ra⟩ := (k 0 _ _ rfl rfl).lst R.sub
    cases intsD_rep e1 ra
    exact cr_sum hc pins s σ H _ us Q I rv ⟨a, l, rfl, .inl (.inl ha), hp0.val R rep_int⟩
  · obtain ⟨v, rfl⟩ := one_of hl
    obtain ⟨a, ws, rfl, ha, ra⟩ := (k 0 _ _ rfl rfl).lst R.sub
    split at er
    case h_2 =>
      obtain ⟨ls, e1, rfl⟩ := Option.map_eq_some_iff.mp er
      have e2 := intsT_eq e1
      rw [e2] at ra
      refine cr_minT hc hu pins s σ H _ us Q I rv ⟨a, ws, ls, rfl, .inl (.inl ha), fun z => by subst z; simp at e2, ?_, fun i v h1 h2 => ?_⟩
      · rw [hK, ← py_rows]
        exact (rep_dps _ _ (ra.mono R.sub) (by rw [py_rows]; exact canLays_rows ls))
      · obtain ⟨v', h3, h4⟩ := ra.get (i := i) (d := rowD (tmin ls)) (by rw [List.getElem?_map, h2]; rfl)
        rw [h1] at h3; cases h3
        exact hp0.val R h4
    rename_i l e1
    cases er
    have hlen := ra.len
    cases intsD_rep e1 ra
    rw [List.length_map] at hlen
    have hne : l ≠ [] := fun z => by subst z; simp at hlen
    refine cr_min hc pins s σ H _ us Q I rv ⟨a, l, rfl, .inl (.inl ha), by rw [← hlen]; simp, fun m h1 h2 => ?_⟩
    obtain ⟨g1, g2⟩ := lmin_mem hne
    have := h2 _ g1
    have := g2 _ h1
    have e : m = lmin l := by omega
    rw [e]; exact hp0.val R rep_int
  · obtain ⟨l, e1, rfl⟩ := Option.map_eq_some_iff.mp er
    obtain ⟨v, rfl⟩ := one_of hl
    obtain ⟨a, ws, rfl, ha, ra⟩ := (k 0 _ _ rfl rfl).lst R.sub
    have hlen := ra.len
    cases intsD_rep e1 ra
    rw [List.length_map] at hlen
    have hne : l ≠ [] := fun z => by subst z; simp at hlen
    refine cr_max hc pins s σ H _ us Q I rv ⟨a, l, rfl, .inl (.inl ha), by rw [← hlen]; simp, fun m h1 h2 => ?_⟩
    obtain ⟨g1, g2⟩ := lmax_mem hne
    have := h2 _ g1
    have := g2 _ h1
    have e : m = lmax l := by omega
    rw [e]; exact hp0.val R rep_int
  · cases er
    obtain ⟨v, w, rfl⟩ := two_of hl
    cases (k 0 _ _ rfl rfl).int; cases (k 1 _ _ rfl rfl).int
    exact call_min2 hc pins s σ H _ us Q I rv ⟨_, _, rfl, hp0.val R rep_int⟩
  · cases er
    obtain ⟨v, w, rfl⟩ := two_of hl
    cases (k 0 _ _ rfl rfl).int; cases (k 1 _ _ rfl rfl).int
    exact call_max2 hc pins s σ H _ us Q I rv ⟨_, _, rfl, hp0.val R rep_int⟩
  · obtain ⟨l, e1, rfl⟩ := Option.map_eq_some_iff.mp er
    obtain ⟨v, rfl⟩ := one_of hl
    obtain ⟨a, ws, rfl, ha, ra⟩ := (k 0 _ _ rfl rfl).lst R.sub
    cases blsD_rep e1 ra
    exact cr_all hc pins s σ H _ us Q I rv ⟨a, l, rfl, .inl (.inl ha), hp0.val R rep_bl⟩
  · obtain ⟨l, e1, rfl⟩ := Option.map_eq_some_iff.mp er
    obtain ⟨v, rfl⟩ := one_of hl
    obtain ⟨a, ws, rfl, ha, ra⟩ := (k 0 _ _ rfl rfl).lst R.sub
    cases blsD_rep e1 ra
    exact cr_any hc pins s σ H _ us Q I rv ⟨a, l, rfl, .inl (.inl ha), hp0.val R rep_bl⟩
  · obtain ⟨l, e1, rfl⟩ := Option.map_eq_some_iff.mp er
    obtain ⟨v, rfl⟩ := one_of hl
    obtain ⟨a, ws, rfl, ha, ra⟩ := (k 0 _ _ rfl rfl).lst R.sub
    cases intsD_rep e1 ra
    refine cr_sortedI pins s σ H _ us Q I rv ⟨a, l, rfl, .inl (.inl ha), fun ns' p h1 h2 hn => ?_⟩
    obtain ⟨g1, g2⟩ := isort_ok l
    rw [sorted_uniq (h1.trans g1.symm) h2 g2]
    exact hp0.newLst R (repL_ints _) hn
  · cases er
    obtain ⟨v, w, rfl⟩ := two_of hl
    cases (k 0 _ _ rfl rfl).int; cases (k 1 _ _ rfl rfl).int
    exact cr_gcd pins s σ H _ us Q I rv ⟨_, _, rfl, hp0.val R rep_int⟩
  · obtain ⟨p, e1, rfl⟩ := Option.map_eq_some_iff.mp er
    obtain ⟨v, rfl⟩ := one_of hl
    obtain ⟨a, ws, rfl, ha, ra⟩ := (k 0 _ _ rfl rfl).lst R.sub
    obtain ⟨ps, kvs, vs, g1, g2, g3, g4, g5⟩ := dispP_rep R.sub e1 rfl .nil ra
    subst g1
    refine call_dictP hc pins s σ H _ us Q I rv ⟨a, ps, kvs, rfl, .inl (.inl ha), by rw [hK]; exact g2, fun q hn => ?_⟩
    have g3 : mergeK [] kvs = p.1.zip vs := g3
    rw [g3]
    exact hp0.newDk R g4 g5 hn
  · cases er
end
end PL
end

section
namespace PL
open PySem PySem.Spec L2

/-! ## the readings -/
section
variable (T : GT) (C : G0) (n : Nat) (W : WX)
def RE (a : E) : TE := fun σ H Q => ∃ e F, SR C e F σ H ∧ PostE C W e F σ H (evE T (callF T n) false a e) Q
def RT (a : E) : TT := fun σ H Q => ∃ e F, SR C e F σ H ∧ PostB C W e F σ H (toB (evE T (callF T n) true a e)) Q
def RA (as : List E) : TA := fun σ H Q => ∃ e F, SR C e F σ H ∧ PostA C W e F σ H (evA T (callF T n) as e) Q
def RO (a : Option E) : TO := fun σ H Q => ∃ e F, SR C e F σ H ∧ PostO C W e F σ H (evO T (callF T n) a e) Q
def RV' (k : Bool) (as : List E) : TE := fun σ H Q => ∃ e F, SR C e F σ H ∧ PostE C W e F σ H (evV T (callF T n) false k as e) Q
def RW (k : Bool) (as : List E) : TT := fun σ H Q => ∃ e F, SR C e F σ H ∧ PostB C W e F σ H (toB (evV T (callF T n) true k as e)) Q
end
/-- what a def promises -/
def SpI (T : GT) (C : G0) (n g : Nat) (np : Nat) : Sp := fun vs H Q E => ∃ (as : List SV) (F : Hp), vs.length = np ∧ (∀ s ∈ as, (∃ d, s = .val d) ∨ ∃ d, s = .bor d) ∧ SR C as F (vs.map some) H ∧
  match callF T n g as with
  | .ok r as' => ∀ v F' H', TrE C as F (vs.map some) H as' F' H' → RVok C H F' (vs.map some) H' as' r v → Q v H'
  | .exc c p as' => ∀ F' H', TrE C as F (vs.map some) H as' F' H' → p = [] ∧ E (.ref (C.cv c)) none H'
  | .stuck => False
def bnames : List String := ["len", "abs", "tuple", "list", "int", "sum", "min", "max", "all", "any", "sorted", "isinstance", "bool", "str", "dict", "range", "enumerate", "zip", "set"]
def kwG (ps ks : List Str) (np : Nat) {α : Type} (us ws : List α) : List α := if us.length = np ∧ ws.length = ks.length then kwSort ps ks us ws else []
/-! ### a dict of the module, whole numbers for keys -/
def KDI (K : PySem.W.Frag) (a : Addr) (k : Int) (v : V) : Prop :=
  ∃ es n u, K.lookup a = some ⟨.type "dict", none, .dict es n, #[]⟩ ∧ (∀ e ∈ es.toList, ∃ x t, e.key = .int x t ∧ e.hash = hashInt x) ∧ findBy Value.isInt es k = some u ∧ RelV v u
theorem ix_kint {X : Cx} : IxR X (fun x y H Q => ∃ a k v, x = .ref a ∧ y = .int k ∧ KDI X.K a k v ∧ Q v H) := by
  intro value slice pins s σ H x y v u Q I rx ry h hs
  obtain ⟨a, k, r, rfl, rfl, ⟨es, n, u0, hl, hk, e, ru⟩, q⟩ := h
  obtain rfl : v = Value.ref a := rx
  obtain ⟨t, rfl⟩ := ry
  have hm : s.heap.MapOf (PySem.intKind X.prog X.w) a (fun k => findBy Value.isInt es k) := ⟨_, es, n, I.kIn _ _ hl, ⟨rfl, rfl, rfl⟩, rfl, fun e he => by
    obtain ⟨x, t, e1, e2⟩ := hk e (Array.mem_toList_iff.mpr he)
    exact ⟨x, by rw [e1]; exact PySem.intKind_is X.prog X.w x t, e2⟩, fun _ => rfl⟩
  exact PyProof.Rows.tail_any hm.typeIs slot_dict_getitem.lookup (wpAny_getItem_of (PySem.intKind_is X.prog X.w k t) hm e ⟨r, H, I.tok _, ru, q⟩) hs
structure Glob (T : GT) (C : G0) (n : Nat) (c : CC) (P : Program) (w : World) (mg : Str → Option Value) (base : Heap) : Prop where
  names : ∀ (g : Nat) (x : Str), c.fn[g]? = some x → mg x = some (.ref (C.gv g)) ∧ g < T.fns.length
  fns : ∀ (g : Nat) (F : FnD), T.fns[g]? = some F → PySem.W.keepIn C.K (.ref (C.gv g)) = true ∧ ∃ fd, FnOk P w C.K mg base (CX P w) n (C.gv g) fd F.ps (SpI T C n g F.ps.length) ∧ Binds C.K fd F.ps [] ∧
    ∀ ks np, (g, ks, np) ∈ c.kw → KBinds C.K fd F.ps ks (kwG F.ps ks np) (kwG F.ps ks np)
  cons : ∀ (k : Nat) (x : Str) (d : D), c.cn[k]? = some x → T.cons[k]? = some d → ∃ v u, mg x = some u ∧ RelV v u ∧ ∀ H, Rep C H d v
  bi : ∀ s ∈ bnames, mg (Str.ofString s) = none
  gcd : c.gcd = true → mg (Str.ofString "gcd") = some (.builtin "math.gcd")
  dcs : ∀ (k : Nat) (x : Str) (p : List Key × List D), c.dn[k]? = some x → T.dcs[k]? = some p → ∃ a, mg x = some (.ref a) ∧ ∀ kk d, dlook p.1 p.2 kk = some d → ∃ i v, kk = .inl i ∧ KDI C.K a i v ∧ ∀ H, Rep C H d v
structure Good (T : GT) (C : G0) (n : Nat) (W : WX) (c : CC) (X : Cx) : Prop where
  K : X.K = C.K
  N : X.N = c.N
  nd : c.N.Nodup
  sc : X.env.scope = c.sc
  st : ∀ i x, stB c i x = true → Loc X.env.scope x ∧ (X.fn x = true ∨ X.env.scope.names.lookup x = some .local)
  cm : c.calm = true → X.calm = true
  hu : X.A.units + 64 < cLine
  room : c.calm = true → Room n X.A
  tk : Takes X W
  gl : Glob T C n c X.prog X.w X.mg X.base
theorem vis_of {sc : Scope} {x : Str} (h : visB sc x = true) : Vis sc x := by
  unfold visB at h
  split at h <;> first | exact .inl (by assumption) | exact .inr (.inl (by assumption)) | exact .inr (.inr (by assumption)) | cases h
theorem gl_of {sc : Scope} {x : Str} (h : glB sc x = true) : sc.names.lookup x = some .globalImplicit ∧ (x == ("__debug__" : Str)) = false ∧ x ≠ "__name__" := by
  unfold glB at h
  rw [Bool.and_eq_true, Bool.and_eq_true] at h
  obtain ⟨⟨h1, h2⟩, h3⟩ := h
  refine ⟨?_, by simpa using h2, fun e => by subst e; simp at h3⟩
  split at h1 <;> first | assumption | cases h1
section
variable {T : GT} {C : G0} {n : Nat} {W : WX} {c : CC} {X : Cx}
theorem Good.nm (G : Good T C n W c X) {i : Nat} {x : Str} {pos : Pos} (h : nmB c i x = true) : PE X (.Name x pos) (tVar i) := by
  unfold nmB at h
  rw [Bool.and_eq_true, Bool.and_eq_true] at h
  obtain ⟨⟨h1, h2⟩, h3⟩ := h
  unfold dbgB at h3
  rw [Bool.and_eq_true] at h3
  exact pe_var (by rw [G.N]; exact of_decide_eq_true h1) (by rw [G.sc]; exact vis_of h2) (by simpa using h3.1) (by simpa using h3.2)
theorem Good.glb (G : Good T C n W c X) {x : Str} (h : glB c.sc x = true) : Gl X x ∧ (x == ("__debug__" : Str)) = false ∧ x ≠ "__name__" := by
  obtain ⟨h1, h2⟩ := gl_of h
  refine ⟨?_, h2⟩
  show X.env.scope.names.lookup x = _
  rw [G.sc]; exact h1
/-! ### names, constants -/
theorem s_var (G : Good T C n W c X) {i : Nat} {x : Str} {pos : Pos} (h : nmB c i x = true) : PE X (.Name x pos) (RE T C n W (.var i)) := by
  refine (G.nm h).to fun σ H Q => ?_
  rintro ⟨e, F, R, q⟩
  simp only [evE, tst_false] at q
  cases es : e[i]? with
  | none => rw [es] at q; exact q.elim
  | some s =>
    rw [es] at q
    have z := R.slot i s es
    cases s with
    | un => exact q.elim
    | val d => obtain ⟨v, h1, h2⟩ := z; exact ⟨v, h1, q.val R h2⟩
    | fro d => obtain ⟨v, h1, h2⟩ := z; exact ⟨v, h1, q.val R h2⟩
    | own d => obtain ⟨a, h1, h2⟩ := z; exact ⟨_, h1, q _ _ _ (TrE.refl R) ⟨h1, _, es, rfl⟩⟩
    | bor d => obtain ⟨a, h1, h2⟩ := z; exact ⟨_, h1, q _ _ _ (TrE.refl R) ⟨h1, _, es, rfl⟩⟩
theorem s_int {k : Int} {j pos} : PE X (.Constant (.int k) j pos) (RE T C n W (.int k)) := pe_int.to fun σ H Q ⟨e, F, R, q⟩ => q.val R rep_int
theorem s_bl {k : Bool} {j pos} : PE X (.Constant (.bool k) j pos) (RE T C n W (.bl k)) := pe_bl.to fun σ H Q ⟨e, F, R, q⟩ => q.val R rep_bl
theorem s_non {j pos} : PE X (.Constant .none j pos) (RE T C n W .non) := pe_non.to fun σ H Q ⟨e, F, R, q⟩ => q.val R rep_non
theorem s_str {k : Str} {j pos} : PE X (.Constant (.str k) j pos) (RE T C n W (.str k)) := pe_str.to fun σ H Q ⟨e, F, R, q⟩ => q.val R rep_str
theorem s_con (G : Good T C n W c X) {k : Nat} {x : Str} {pos : Pos} (h : c.cn[k]? = some x) (hg : glB c.sc x = true) : PE X (.Name x pos) (RE T C n W (.con k)) := by
  obtain ⟨g1, g2, _⟩ := G.glb hg
  refine ⟨fun pins s σ H Q I h' => ?_⟩
  obtain ⟨e, F, R, q⟩ := h'
  obtain ⟨d, ed, q⟩ := PostE.opt (show PostE C W e F σ H (opt T.cons[k]? fun d => .ok (.v d) e) Q from q)
  obtain ⟨v, u, m, r, rep⟩ := G.gl.cons k x d h ed
  exact ld_glob I g1 m ⟨v, H, I, r, q.val R (rep F)⟩ g2
theorem s_fnv (G : Good T C n W c X) {g : Nat} {x : Str} {pos : Pos} (h : c.fn[g]? = some x) (hg : glB c.sc x = true) : PE X (.Name x pos) (RE T C n W (.fnv g)) := by
  obtain ⟨g1, g2, _⟩ := G.glb hg
  obtain ⟨m, hl⟩ := G.gl.names g x h
  refine ⟨fun pins s σ H Q I h' => ?_⟩
  obtain ⟨e, F, R, q⟩ := h'
  simp only [evE, tst_false, if_pos hl] at q
  exact ld_glob I g1 m ⟨.ref (C.gv g), H, I, rfl, q.val R (by rw [Rep])⟩ g2
/-! ### operators -/
theorem s_bin (G : Good T C n W c X) {o : Bop} {a b : E} {x y : Expr} {pos : Pos} (ha : PE X x (RE T C n W a)) (hb : PE X y (RE T C n W b)) : PE X (.BinOp x (opOf o) y pos) (RE T C n W (.bin o a b)) := by
  refine (pe_op (op_bin (W := W) G.K o) ha hb).to fun σ H Q => ?_
  rintro ⟨e, F, R, q⟩
  refine ⟨e, F, R, PostE.first (show PostE C W e F σ H ((evE T (callF T n) false a e).bd _) Q from q) fun ra e1 v1 F1 H1 t1 r1 q => ?_⟩
  refine ⟨e1, F1, t1.sr, PostE.first q fun rb e2 v2 F2 H2 t2 r2 q => ?_⟩
  obtain ⟨d1, k1, q⟩ := q.opt
  obtain ⟨d2, k2, q⟩ := q.opt
  refine ⟨d1, d2, e2, F2, σ, t2.sr, fun i d v h1 h2 => ?_, q⟩
  match i, h1, h2 with
  | 0, h1, h2 => cases h1; cases h2; exact cont_crp t2.sr (r1.mono t2) k1
  | 1, h1, h2 => cases h1; cases h2; exact cont_crp t2.sr r2 k2
theorem s_neg {a : E} {x : Expr} {pos : Pos} (ha : PE X x (RE T C n W a)) : PE X (.UnaryOp .USub x pos) (RE T C n W (.neg a)) := by
  refine (pe_un un_neg ha).to fun σ H Q => ?_
  rintro ⟨e, F, R, q⟩
  refine ⟨e, F, R, PostE.first (show PostE C W e F σ H ((evE T (callF T n) false a e).bd _) Q from q) fun ra e1 v1 F1 H1 t1 r1 q => ?_⟩
  obtain ⟨i, k1, q⟩ := q.opt
  obtain ⟨d, k1, k2⟩ := Option.bind_eq_some_iff.mp k1
  have z := cont_crp t1.sr r1 k1
  cases d <;> cases k2
  cases z.int
  exact ⟨_, rfl, q.val t1.sr rep_int⟩

theorem tru_V {H : Hp} {d : D} {v : V} {b : Bool} (h : Rep C H d v) (t : truth d = some b) : TruV C.K v H b := by
  rcases tru_rep h t with ⟨ks, xs, rfl, a, vs, rfl, e, k⟩ | h
  · exact .inr (.inr ⟨_, e, k⟩)
  · exact h
theorem tst_post {e : EV} {F : Hp} {σ : St} {H : Hp} {x : Out RV} {Q : Bool → Hp → Prop} (h : PostB C W e F σ H (toB (tst true x)) Q) : PostE C W e F σ H x fun v H' => ∃ k, TruV C.K v H' k ∧ Q k H' := by
  cases x with
  | ok r e' =>
    simp only [tst_true, bd_ok] at h
    cases k1 : (cont e' r).bind truth with
    | none => rw [k1] at h; exact h.elim
    | some b =>
      rw [k1] at h
      obtain ⟨d, k2, k3⟩ := Option.bind_eq_some_iff.mp k1
      exact fun v F' H' t r => ⟨b, tru_V (cont_rep t.sr r k2) k3, h F' H' t⟩
  | exc c p e' => exact h
  | stuck => exact h
/-- whose test is its value's truth -/
theorem s_plain (G : Good T C n W c X) {a : E} {x : Expr} (h : PE X x (RE T C n W a)) (ev : ∀ e, evE T (callF T n) true a e = tst true (evE T (callF T n) false a e))
    (he : ∀ whole, isTrue x X.env whole = (do let v ← whole; standAt x.pos; holding [v] (truthy v))) : PT X x (RT T C n W a) := by
  refine (pt_truth h he).to fun σ H Q ⟨e, F, R, q⟩ => ⟨e, F, R, ?_⟩
  rw [ev] at q
  rw [G.K]
  exact tst_post q
theorem rd_cmp {o : CmpOp} {a b : E} {σ : St} {H : Hp} {Q Q' : VK} (h : RE T C n W (.cmp o a b) σ H Q) (k : ∀ b H, Q (.bl b) H → Q' (.bl b) H) : tOp (rCmp C o) (RE T C n W a) (RE T C n W b) σ H Q' := by
  obtain ⟨e, F, R, q⟩ := h
  refine ⟨e, F, R, PostE.first (show PostE C W e F σ H ((evE T (callF T n) false a e).bd _) Q from q) fun ra e1 v1 F1 H1 t1 r1 q => ?_⟩
  refine ⟨e1, F1, t1.sr, PostE.first q fun rb e2 v2 F2 H2 t2 r2 q => ?_⟩
  obtain ⟨d1, k1, q⟩ := q.opt
  obtain ⟨d2, k2, q⟩ := q.opt
  obtain ⟨b, k3, q⟩ := q.opt
  exact ⟨d1, d2, b, k3, cont_rep t2.sr (r1.mono t2) k1, cont_rep t2.sr r2 k2, k _ _ (q.val t2.sr rep_bl)⟩
theorem s_cmp (G : Good T C n W c X) {o : CmpOp} {a b : E} {x y : Expr} {pos : Pos} (ha : PE X x (RE T C n W a)) (hb : PE X y (RE T C n W b)) (hm : behindInMarks o y = false) :
    PE X (.Compare x [o] [y] pos) (RE T C n W (.cmp o a b)) ∧ PT X (.Compare x [o] [y] pos) (RT T C n W (.cmp o a b)) := by
  refine ⟨(pe_cmpR (op_cmp G.K G.hu o) ha hb hm).to fun σ H Q h => rd_cmp h fun _ _ h => h, (pt_cmpR (op_cmp G.K G.hu o) ha hb hm).to fun σ H Q ⟨e, F, R, q⟩ => ?_⟩
  have q : PostB C W e F σ H (toB (tst true (evE T (callF T n) false (.cmp o a b) e))) Q := q
  exact rd_cmp ⟨e, F, R, tst_post q⟩ fun b H ⟨k, k1, k2⟩ => ⟨_, rfl, by cases (show k = b from k1); exact k2⟩
theorem rd_chain {o p : CmpOp} {a b d : E} {σ : St} {H : Hp} {Q Q' : VK} (h : RE T C n W (.chain o p a b d) σ H Q) (k : ∀ b H, Q (.bl b) H → Q' (.bl b) H) : tChain (rCmp C o) (rCmp C p) (RE T C n W a) (RE T C n W b) (RE T C n W d) σ H Q' := by
  obtain ⟨e, F, R, q⟩ := h
  refine ⟨e, F, R, PostE.first (show PostE C W e F σ H ((evE T (callF T n) false a e).bd _) Q from q) fun ra e1 v1 F1 H1 t1 r1 q => ?_⟩
  refine ⟨e1, F1, t1.sr, PostE.first q fun rb e2 v2 F2 H2 t2 r2 q => ?_⟩
  obtain ⟨d1, k1, q⟩ := q.opt
  obtain ⟨d2, k2, q⟩ := q.opt
  obtain ⟨z, k3, q⟩ := q.opt
  refine ⟨d1, d2, z, k3, cont_rep t2.sr (r1.mono t2) k1, cont_rep t2.sr r2 k2, z, rfl, ?_⟩
  cases z with
  | false =>
    rw [if_neg Bool.false_ne_true] at q ⊢
    exact k _ _ (q.val t2.sr rep_bl)
  | true =>
    rw [if_pos rfl] at q ⊢
    refine ⟨e2, F2, t2.sr, PostE.first q fun rc e3 v3 F3 H3 t3 r3 q => ?_⟩
    obtain ⟨d4, k4, q⟩ := q.opt
    obtain ⟨d5, k5, q⟩ := q.opt
    obtain ⟨b, k6, q⟩ := q.opt
    exact ⟨d4, d5, b, k6, cont_rep t3.sr (r2.mono t3) k4, cont_rep t3.sr r3 k5, k _ _ (q.val t3.sr rep_bl)⟩
theorem s_chain (G : Good T C n W c X) {o p : CmpOp} {a b d : E} {x y z : Expr} {pos : Pos} (ha : PE X x (RE T C n W a)) (hb : PE X y (RE T C n W b)) (hc : PE X z (RE T C n W d)) (hm : lastMarks [o, p] [y, z] = false) :
    PE X (.Compare x [o, p] [y, z] pos) (RE T C n W (.chain o p a b d)) ∧ PT X (.Compare x [o, p] [y, z] pos) (RT T C n W (.chain o p a b d)) := by
  refine ⟨(pe_chain (op_cmp G.K G.hu o) (op_cmp G.K G.hu p) ha hb hc hm).to fun σ H Q h => rd_chain h fun _ _ h => h, (pt_chain (op_cmp G.K G.hu o) (op_cmp G.K G.hu p) ha hb hc hm).to fun σ H Q ⟨e, F, R, q⟩ => ?_⟩
  have q : PostB C W e F σ H (toB (tst true (evE T (callF T n) false (.chain o p a b d) e))) Q := q
  exact rd_chain ⟨e, F, R, tst_post q⟩ fun b H ⟨k, k1, k2⟩ => ⟨_, rfl, by cases (show k = b from k1); exact k2⟩
/-! ### and, or, not, if-else -/
theorem PostB.of {e : EV} {F : Hp} {σ : St} {H : Hp} {x : Out RV} {Q : Bool → Hp → Prop} (h : PostB C W e F σ H (toB x) Q) : PostE C W e F σ H x fun v H' => ∃ b, v = .bl b ∧ Q b H' := by
  cases x with
  | ok r e' =>
    cases r with
    | v d =>
      cases d <;> first | exact h.elim | skip
      intro v F' H' t r
      refine ⟨_, (show v = .bl _ from by have q : Rep C F' (.bl _) v := r; rw [Rep] at q; exact q), h F' H' t⟩
    | t d => exact h.elim
    | h i => exact h.elim
  | exc c p e' => exact h
  | stuck => exact h
/-- in test mode a result is a bool -/
theorem toB_first {e : EV} {F : Hp} {σ : St} {H : Hp} {x : Out RV} {f : RV → EV → Out RV} {Q Q1 : Bool → Hp → Prop} (h : PostB C W e F σ H (toB (x.bd f)) Q) (hb : ∀ r e', x = .ok r e' → ∃ b, r = .v (.bl b))
    (k : ∀ b e1 F1 H1, TrE C e F σ H e1 F1 H1 → PostB C W e1 F1 σ H1 (toB (f (.v (.bl b)) e1)) Q → Q1 b H1) : PostB C W e F σ H (toB x) Q1 := by
  cases x with
  | ok r e1 =>
    obtain ⟨b, rfl⟩ := hb r e1 rfl
    exact fun F1 H1 t => k b e1 F1 H1 t (PostB.shift t h)
  | exc c p e1 => exact h
  | stuck => exact h
theorem tst_bool {x : Out RV} {r : RV} {e : EV} (h : tst true x = .ok r e) : ∃ b, r = .v (.bl b) := by
  cases x with
  | ok r' e' =>
    simp only [tst_true, bd_ok] at h
    cases k1 : (cont e' r').bind truth with
    | none => rw [k1] at h; cases h
    | some b => rw [k1] at h; cases h; exact ⟨b, rfl⟩
  | exc c p e' => cases h
  | stuck => cases h
theorem bd_eq {α β : Type} {x : Out α} {f : α → EV → Out β} {r : β} {e : EV} (h : x.bd f = .ok r e) : ∃ a e1, x = .ok a e1 ∧ f a e1 = .ok r e := by
  cases x with
  | ok a e1 => exact ⟨a, e1, rfl, h⟩
  | exc c p e1 => cases h
  | stuck => cases h
theorem opt_eq {α β : Type} {x : Option α} {f : α → Out β} {r : β} {e : EV} (h : opt x f = .ok r e) : ∃ a, x = some a ∧ f a = .ok r e := by
  cases x with
  | none => cases h
  | some a => exact ⟨a, rfl, h⟩
mutual
theorem evE_bool : ∀ (a : E) (e : EV) (r : RV) (e' : EV), evE T (callF T n) true a e = .ok r e' → ∃ b, r = .v (.bl b)
  | .var _, _, _, _, h => tst_bool h
  | .int _, _, _, _, h => tst_bool h
  | .bl _, _, _, _, h => tst_bool h
  | .non, _, _, _, h => tst_bool h
  | .str _, _, _, _, h => tst_bool h
  | .con _, _, _, _, h => tst_bool h
  | .fnv _, _, _, _, h => tst_bool h
  | .dix _ _, _, _, _, h => tst_bool h
  | .lrg _ _, _, _, _, h => tst_bool h
  | .lset _, _, _, _, h => tst_bool h
  | .sset _, _, _, _, h => tst_bool h
  | .comp2 _ _ _ _ _ _ _ _ _, _, _, _, h => tst_bool h
  | .dd1 _ _, _, _, _, h => tst_bool h
  | .bin _ _ _, _, _, _, h => tst_bool h
  | .neg _, _, _, _, h => tst_bool h
  | .cmp _ _ _, _, _, _, h => tst_bool h
  | .chain _ _ _ _ _, _, _, _, h => tst_bool h
  | .andor k es, e, r, e', h => evV_bool es k e r e' h
  | .not_ a, e, r, e', h => by
    simp only [evE] at h
    obtain ⟨_, _, _, h⟩ := bd_eq h
    obtain ⟨b, _, h⟩ := opt_eq h
    cases h
    exact ⟨_, rfl⟩
  | .ite _ _ _, _, _, _, h => by simp only [evE, if_pos] at h; cases h
  | .tup _, _, _, _, h => tst_bool h
  | .lst _, _, _, _, h => tst_bool h
  | .ix _ _, _, _, _, h => tst_bool h
  | .sl _ _ _, _, _, _, h => tst_bool h
  | .rev _, _, _, _, h => tst_bool h
  | .call _ _, _, _, _, h => tst_bool h
  | .callt _ _, _, _, _, h => tst_bool h
  | .callk _ _ _ _, _, _, _, h => tst_bool h
  | .calld _ _, _, _, _, h => tst_bool h
  | .bi _ _, _, _, _, h => tst_bool h
  | .isi _ _, _, _, _, h => tst_bool h
  | .isx _ _ _, _, _, _, h => tst_bool h
  | .dnew _, _, _, _, h => tst_bool h
  | .dlit _ _ _ _, _, _, _, h => tst_bool h
  | .app _ _, _, _, _, h => tst_bool h
  | .ext _ _, _, _, _, h => tst_bool h
  | .pop _, _, _, _, h => tst_bool h
  | .popat _ _, _, _, _, h => tst_bool h
  | .comp _ _ _ _ _, _, _, _, h => tst_bool h
theorem evV_bool : ∀ (as : List E) (k : Bool) (e : EV) (r : RV) (e' : EV), evV T (callF T n) true k as e = .ok r e' → ∃ b, r = .v (.bl b)
  | [], _, _, _, _, h => by simp only [evV] at h; cases h
  | a :: as, k, e, r, e', h => by
    cases as with
    | nil => simp only [evV] at h; exact evE_bool a e r e' h
    | cons b bs =>
      rw [evV] at h
      obtain ⟨r1, e1, h1, h⟩ := bd_eq h
      obtain ⟨z, _, h⟩ := opt_eq h
      split at h
      · exact evV_bool (b :: bs) k e1 r e' h
      · cases h; exact evE_bool a e r e' h1
end
end
end PL
end

section
/-! the reverse of a tuple by a slice -/
namespace PL.RevT
open PySem PySem.Spec PyProof.Rows L2

section
variable {prog : Program} {w : World} {A : Around} {E : Value → Shared → Prop} {s : Shared}
theorem places_rev (n : Nat) : Builtin.Slice.slicePlaces ((n : Int) - 1) (-1) (-1) = n := by
  unfold Builtin.Slice.slicePlaces
  rw [if_neg (by decide)]
  by_cases h : ((n : Int) - 1) > -1
  · rw [if_pos h]
    simp
  · rw [if_neg h]
    omega
theorem applied_rev {sl : Addr} {vs : Value} {n : Nat} {Q : Int × Int × Nat → Shared → Prop} (hs : s.heap.IsSliceOf sl .none .none vs) (ps : IsPart vs (some (-1)))
    (h : Q ((n : Int) - 1, -1, n) s) : wpAny (model prog w) A (Builtin.Slice.sliceApplied (.ref sl) (pure (n : Int))) Q E s := by
  obtain ⟨os, hos, hcs, hds⟩ := id hs
  unfold Builtin.Slice.sliceApplied Builtin.Slice.sliceFields
  refine wpAny_bind (wpAny_bind (wpAny_field hos hds (x := .none) rfl (wpAny_bind (wpAny_field hos hds (x := .none) rfl (wpAny_bind (wpAny_field hos hds (x := vs) rfl (wpAny_pure ?_)))))))
  refine wpAny_bind (HT.slicePart_ ps ?_)
  show wpAny _ _ (if ((-1 : Int) == 0) = true then _ else _) _ _ s
  rw [if_neg (by decide)]
  refine wpAny_bind (HT.slicePart_ .none (wpAny_bind (HT.slicePart_ .none (wpAny_bind (wpAny_pure ?_)))))
  show wpAny _ _ (match Builtin.Slice.sliceAdjust none none (-1) (n : Int) with | (lo, hi) => pure (lo, (-1 : Int), Builtin.Slice.slicePlaces lo hi (-1))) _ _ s
  have e : Builtin.Slice.sliceAdjust none none (-1) (n : Int) = ((n : Int) - 1, -1) := rfl
  rw [e]
  show wpAny _ _ (pure ((n : Int) - 1, (-1 : Int), Builtin.Slice.slicePlaces ((n : Int) - 1) (-1) (-1))) _ _ s
  rw [places_rev]
  exact wpAny_pure h
theorem pick_rev (xs : Array Value) : ((List.range xs.size).filterMap fun (m : Nat) => xs[(((xs.size : Int) - 1) + (m : Int) * (-1)).toNat]?).toArray = xs.toList.reverse.toArray := by
  have h := PySem.W.krv_pick xs
  unfold slicePick at h
  rw [← h]
  congr 1
  rw [show (sliceBounds none none (some (-1)) xs.size).1 = (xs.size : Int) - 1 from rfl, show (sliceBounds none none (some (-1)) xs.size).2.1 = -1 from rfl, show (sliceBounds none none (some (-1)) xs.size).2.2 = -1 from rfl, PySem.W.krv_sliceRange, List.filterMap_map]
  have : ∀ l : List Nat, (∀ m ∈ l, m < xs.size) → l.filterMap (fun (m : Nat) => xs[(((xs.size : Int) - 1) + (m : Int) * (-1)).toNat]?) = l.filterMap ((fun x => xs[x]?) ∘ fun k => xs.size - 1 - k) := by
    intro l
    induction l with
    | nil => intro _; rfl
    | cons m l ih =>
      intro hm
      have hk := hm m (by simp)
      have e : (((xs.size : Int) - 1) + (m : Int) * (-1)).toNat = xs.size - 1 - m := by omega
      rw [List.filterMap_cons, List.filterMap_cons, ih (fun k hk => hm k (by simp [hk])), e]
      rfl
  exact this _ fun m hm => List.mem_range.mp hm
theorem getItem_tuple_rev {t sl : Addr} {items : Array Value} {vs : Value} {Q : Value → Shared → Prop} (ht : IsTup s.heap t items) (hs : s.heap.IsSliceOf sl .none .none vs) (ps : IsPart vs (some (-1)))
    (h : Q (.ref s.heap.objs.size) { s with heap := s.heap.push { cls := .type "tuple", data := .seq items.toList.reverse.toArray } })
    (hsz : items.size ≤ sizeLine) : wpAny (model prog w) A (getItem (.ref t) (.ref sl)) Q E s := by
  have htake : sizeOk (.seq items.toList.reverse.toArray) := by
    show items.toList.reverse.toArray.size ≤ sizeLine
    rw [List.size_toArray, List.length_reverse, Array.length_toList]
    exact hsz
  obtain ⟨os, hos, hcs, hds⟩ := id hs
  have hTs : s.TypeIs (.ref sl) "slice" := ⟨os, hos, hcs⟩
  unfold getItem
  try with_reducible refine wpAny_holding ?_
  first | refine wpAny_bind (wpAny_pure ?_) | skip
  refine wpAny_bind (wpAny_sequenceKey ht.typeIs (by decide) ?_)
  refine wpAny_bind (wpAny_callSpecial?_slot (name := Str.ofString "__getitem__") ht.typeIs PyProof.Rows.slot_tuple_getitem
    (wpAny_call_entry PyProof.Rows.slot_tuple_getitem ht.typeIs entry_tuple_getitem ?_ (args_tuple_getitem _ _)))
  show wpAny _ _ (Builtin.Tuple.tupleItemsOf (.ref t) >>= _) _ _ s
  refine wpAny_bind (tupleItemsOf_ ht ?_)
  refine wpAny_bind (wpAny_typeOf hTs ?_)
  rw [if_pos (by decide)]
  refine wpAny_bind (applied_rev hs ps ?_)
  have hno : ¬ ((((items.size : Int) - 1) == 0 && (-1 : Int) == 1 && items.size == items.size) = true) := by
    intro q
    rw [Bool.and_eq_true, Bool.and_eq_true] at q
    have := eq_of_beq q.1.2
    omega
  show wpAny _ _ (if (((items.size : Int) - 1) == 0 && (-1 : Int) == 1 && items.size == items.size) = true then _ else _) _ _ s
  rw [if_neg hno, pick_rev]
  first
    | exact wpAny_bind (m := Builtin.Tuple.tupleExact _) (wpAny_newObj_type (wpAny_pure ⟨_, rfl, wpAny_pure h⟩) htake)
    | exact wpAny_bind (m := Builtin.Tuple.tupleExact _) (wpAny_newObj_type (wpAny_bind (wpAny_pure (wpAny_pure ⟨_, rfl, wpAny_pure h⟩))) htake)
    | exact wpAny_bind (wpAny_bind (m := Builtin.Tuple.tupleExact _) (wpAny_newObj_type (wpAny_pure (wpAny_pure ⟨_, rfl, wpAny_pure h⟩)) htake))
    | exact wpAny_bind (wpAny_bind (m := Builtin.Tuple.tupleExact _) (wpAny_newObj_type (wpAny_pure ⟨_, rfl, wpAny_pure h⟩) htake))
end
section
variable {X : Cx}
/-- a list or a tuple, back to front -/
def tRevA (K : PySem.W.Frag) (te : TE) : TE := fun σ H Q => te σ H fun x H1 => (∃ a xs, x = .ref a ∧ SqL K H1 a xs ∧ ∀ p, H1 p = none → Q (.ref p) (upd H1 p (.lst xs.reverse))) ∨
  (∃ a xs, x = .ref a ∧ SqT K H1 a xs ∧ ∀ p, H1 p = none → Q (.ref p) (upd H1 p (.tup xs.reverse)))
theorem pe_revA {e : Expr} {te : TE} {k : Nat} {p1 p2 p3 pos : Pos} (he : PE X e te) : PE X (.Subscript e (.Slice none none (some (.UnaryOp .USub (.Constant (.int 1) k p1) p2)) p3) pos) (tRevA X.K te) := by
  refine ⟨fun pins s σ H Q I h => ?_⟩
  refine Subscript_ (thn (he.run pins s σ H _ I h) fun v s1 ⟨x, H1, I1, r1, q1⟩ => ?_)
  have hst : PO X (some (.UnaryOp .USub (.Constant (.int 1) k p1) p2)) (tPart (tUn (rU fun i => .int (-i)) (tC (.int 1)))) := po_some (pe_un un_neg pe_int)
  refine wpAny_Slice (thn (po_none.run pins s1 σ H1 (fun o H2 => o = none ∧ H2 = H1) I1 ⟨rfl, rfl⟩) fun vl s2 ⟨l, H2, I2, pl, el, e2⟩ => ?_)
  subst el e2
  refine thn (po_none.run pins s2 σ H2 (fun o H3 => o = none ∧ H3 = H2) I2 ⟨rfl, rfl⟩) fun vu s3 ⟨u, H3, I3, pu, eu, e3⟩ => ?_
  subst eu e3
  refine thn (hst.run pins s3 σ H3 (fun o H4 => o = some (-1) ∧ H4 = H3) I3 ⟨1, rfl, -1, rfl, rfl, rfl⟩) fun vs s4 ⟨o, H4, I4, ps, eo, e4⟩ => ?_
  subst eo e4
  have I5 : Inv X pins σ H4 { s4 with heap := s4.heap.push { cls := .type "slice", data := .fields #[vl, vu, vs] } } := I4.kept (t' := s4.toks) fun b ob q => Heap.get?_push_of_some _ q
  rcases q1 with ⟨a, xs, ex, hx, q⟩ | ⟨a, xs, ex, hx, q⟩
  · subst ex
    cases r1
    obtain ⟨its, r, ht, hz⟩ := I5.list hx
    have hlen := r.length
    show wpAny (model X.prog X.w) X.A (subscriptTail e (.Slice none none (some (.UnaryOp .USub (.Constant (.int 1) k p1) p2)) p3) (.ref a) (.ref s4.heap.objs.size)) (EP X pins σ Q) X.xe { s4 with heap := s4.heap.push { cls := .type "slice", data := .fields #[vl, vu, vs] } }
    refine tail_any (ops := [.ref a, .ref s4.heap.objs.size]) ht.isList.typeIs (PySem.slot_list_getitem.lookup) ?_ (by with_unfolding_all rfl)
    refine wpAny_getItem_list_slice ht.isList (Heap.IsSliceOf.new _ vl vu vs) pl pu ps (by decide) ?_ (by rw [List.size_toArray]; omega)
    rw [PySem.W.krv_pick]
    refine ⟨.ref _, _, I5.laid (t' := s4.toks) (o := .lst xs.reverse) (fun b ob q => Heap.get?_push_of_some _ q) (Nat.le_refl _) ?_, rfl, q _ (I5.hok.fresh (Nat.le_refl _))⟩
    exact ⟨by rw [List.length_reverse]; exact hz, _, 0, r.reverse, Heap.get?_push_size _ rfl⟩
  · subst ex
    cases r1
    obtain ⟨its, r, ht, hz⟩ := I5.tuple hx
    have hlen := r.length
    cases pl
    cases pu
    show wpAny (model X.prog X.w) X.A (subscriptTail e (.Slice none none (some (.UnaryOp .USub (.Constant (.int 1) k p1) p2)) p3) (.ref a) (.ref s4.heap.objs.size)) (EP X pins σ Q) X.xe { s4 with heap := s4.heap.push { cls := .type "slice", data := .fields #[.none, .none, vs] } }
    refine tail_any (ops := [.ref a, .ref s4.heap.objs.size]) ht.typeIs (PyProof.Rows.slot_tuple_getitem.lookup) ?_ (by with_unfolding_all rfl)
    refine getItem_tuple_rev ht (Heap.IsSliceOf.new _ .none .none vs) ps ?_ (by rw [List.size_toArray]; omega)
    refine ⟨.ref _, _, I5.laid (t' := s4.toks) (o := .tup xs.reverse) (fun b ob q => Heap.get?_push_of_some _ q) (Nat.le_refl _) ?_, rfl, q _ (I5.hok.fresh (Nat.le_refl _))⟩
    exact ⟨by rw [List.length_reverse]; exact hz, _, r.reverse, IsTup.new _ _⟩
end
end PL.RevT
end

section
namespace PL
open PySem PySem.Spec L2

section
variable {T : GT} {C : G0} {n : Nat} {W : WX} {c : CC} {X : Cx}
def bopOf (k : Bool) : BoolOp := if k then .And else .Or
theorem s_andor1 {k : Bool} {a : E} {x : Expr} {pos : Pos} (ha : PE X x (RE T C n W a)) : PE X (.BoolOp (bopOf k) [x] pos) (RE T C n W (.andor k [a])) := by
  refine (pe_one ha).to fun σ H Q ⟨e, F, R, q⟩ => ⟨e, F, R, ?_⟩
  simpa only [evE, evV] using q
theorem s_andor (G : Good T C n W c X) {k : Bool} {a b : E} {as : List E} {x y : Expr} {xs : List Expr} {pos : Pos} (ha : PE X x (RE T C n W a)) (hb : PE X (.BoolOp (bopOf k) (y :: xs) pos) (RE T C n W (.andor k (b :: as)))) :
    PE X (.BoolOp (bopOf k) (x :: y :: xs) pos) (RE T C n W (.andor k (a :: b :: as))) := by
  have main : ∀ {σ H Q}, RE T C n W (.andor k (a :: b :: as)) σ H Q → RE T C n W a σ H fun v H1 => ∃ z, TruV C.K v H1 z ∧ if z = k then RE T C n W (.andor k (b :: as)) σ H1 Q else Q v H1 := fun {σ H Q} ⟨e, F, R, q⟩ => by
    have q : PostE C W e F σ H ((evE T (callF T n) false a e).bd fun r e1 => opt ((cont e1 r).bind truth) fun z => if z = k then evV T (callF T n) false k (b :: as) e1 else .ok r e1) Q := q
    refine ⟨e, F, R, ?_⟩
    revert q
    generalize evE T (callF T n) false a e = o
    intro q
    cases o with
    | exc c p e' => exact q
    | stuck => exact q
    | ok r e1 =>
      intro v F1 H1 t1 r1
      obtain ⟨z, k1, q⟩ := PostE.opt (show PostE C W e F σ H (opt _ _) Q from q)
      obtain ⟨d, k1, k2⟩ := Option.bind_eq_some_iff.mp k1
      refine ⟨z, tru_V (cont_rep t1.sr r1 k1) k2, ?_⟩
      split at q
      · rename_i hz
        rw [if_pos hz]
        exact ⟨e1, F1, t1.sr, PostE.shift t1 q⟩
      · rename_i hz
        rw [if_neg hz]
        exact q _ _ _ t1 r1
  cases k with
  | true =>
    refine (pe_andT ha hb).to fun σ H Q h => ?_
    have := main h
    rw [← G.K] at this
    exact this
  | false =>
    refine (pe_orT ha hb).to fun σ H Q h => ?_
    obtain ⟨e, F, R, q⟩ := main h
    refine ⟨e, F, R, ?_⟩
    rw [G.K]
    revert q
    generalize evE T (callF T n) false a e = o
    intro q
    cases o with
    | ok r e' =>
      intro v F' H' t r
      obtain ⟨z, z1, z2⟩ := q v F' H' t r
      refine ⟨z, z1, ?_⟩
      cases z with
      | true => rw [if_neg (by simp)] at z2; rw [if_pos rfl]; exact z2
      | false => rw [if_pos rfl] at z2; rw [if_neg (by simp)]; exact z2
    | exc c p e' => exact q
    | stuck => exact q
theorem t_andor1 {k : Bool} {a : E} {x : Expr} {pos : Pos} (ha : PT X x (RT T C n W a)) : PW X (.BoolOp (bopOf k) [x] pos) (RT T C n W (.andor k [a])) := by
  have z : PW X (.BoolOp (bopOf k) [x] pos) (RT T C n W a) := by
    cases k with
    | true => exact pw_and1 ha
    | false => exact pw_or1 ha
  refine z.to fun σ H Q ⟨e, F, R, q⟩ => ⟨e, F, R, ?_⟩
  simpa only [evE, evV] using q
theorem t_andor {k : Bool} {a b : E} {as : List E} {x y : Expr} {xs : List Expr} {pos : Pos} (ha : PT X x (RT T C n W a)) (hb : PW X (.BoolOp (bopOf k) (y :: xs) pos) (RT T C n W (.andor k (b :: as)))) :
    PW X (.BoolOp (bopOf k) (x :: y :: xs) pos) (RT T C n W (.andor k (a :: b :: as))) := by
  have main : ∀ {σ H Q}, RT T C n W (.andor k (a :: b :: as)) σ H Q → RT T C n W a σ H fun z H1 => if z = k then RT T C n W (.andor k (b :: as)) σ H1 Q else Q z H1 := fun {σ H Q} ⟨e, F, R, q⟩ => by
    refine ⟨e, F, R, toB_first (f := fun r e1 => opt ((cont e1 r).bind truth) fun z => if z = k then evV T (callF T n) true k (b :: as) e1 else .ok r e1) q (fun r e' h => evE_bool a e r e' h) fun z e1 F1 H1 t1 q => ?_⟩
    have q : PostB C W e1 F1 σ H1 (toB (if z = k then evV T (callF T n) true k (b :: as) e1 else .ok (.v (.bl z)) e1)) Q := q
    split at q
    · rename_i hz
      rw [if_pos hz]
      exact ⟨e1, F1, t1.sr, q⟩
    · rename_i hz
      rw [if_neg hz]
      exact q _ _ (TrE.refl t1.sr)
  cases k with
  | true =>
    refine (pw_and ha hb).to fun σ H Q h => ?_
    obtain ⟨e, F, R, q⟩ := main h
    refine ⟨e, F, R, ?_⟩
    revert q
    generalize toB (evE T (callF T n) true a e) = o
    intro q
    cases o with
    | ok r e' =>
      intro F' H' t
      have z2 := q F' H' t
      cases r with
      | false => rw [if_neg (by simp)] at z2; rw [if_neg (by simp)]; exact z2
      | true => rw [if_pos rfl] at z2; rw [if_pos rfl]; exact z2
    | exc c p e' => exact q
    | stuck => exact q
  | false =>
    refine (pw_or ha hb).to fun σ H Q h => ?_
    obtain ⟨e, F, R, q⟩ := main h
    refine ⟨e, F, R, ?_⟩
    revert q
    generalize toB (evE T (callF T n) true a e) = o
    intro q
    cases o with
    | ok r e' =>
      intro F' H' t
      have z2 := q F' H' t
      cases r with
      | true => rw [if_neg (by simp)] at z2; rw [if_pos rfl]; exact z2
      | false => rw [if_pos rfl] at z2; rw [if_neg (by simp)]; exact z2
    | exc c p e' => exact q
    | stuck => exact q
theorem s_not (G : Good T C n W c X) {a : E} {x : Expr} {pos : Pos} (ha : PE X x (RE T C n W a)) : PE X (.UnaryOp .Not x pos) (RE T C n W (.not_ a)) := by
  refine (pe_notT ha).to fun σ H Q => ?_
  rintro ⟨e, F, R, q⟩
  rw [G.K]
  refine ⟨e, F, R, PostE.first (show PostE C W e F σ H ((evE T (callF T n) false a e).bd _) Q from q) fun ra e1 v1 F1 H1 t1 r1 q => ?_⟩
  obtain ⟨z, k1, q⟩ := q.opt
  obtain ⟨d, k1, k2⟩ := Option.bind_eq_some_iff.mp k1
  exact ⟨z, tru_V (cont_rep t1.sr r1 k1) k2, q.val t1.sr rep_bl⟩
theorem t_not {a : E} {x : Expr} {pos : Pos} (ha : PT X x (RT T C n W a)) : PT X (.UnaryOp .Not x pos) (RT T C n W (.not_ a)) := by
  refine (pt_not ha).to fun σ H Q => ?_
  rintro ⟨e, F, R, q⟩
  refine ⟨e, F, R, toB_first (show PostB C W e F σ H (toB ((evE T (callF T n) true a e).bd _)) Q from by simpa only [evE] using q) (fun r e' h => evE_bool a e r e' h) fun z e1 F1 H1 t1 q => ?_⟩
  exact q _ _ (TrE.refl t1.sr)
theorem s_ite {a b d : E} {x y z : Expr} {pos : Pos} (hd : PT X x (RT T C n W d)) (ha : PE X y (RE T C n W a)) (hb : PE X z (RE T C n W b)) : PE X (.IfExp x y z pos) (RE T C n W (.ite d a b)) := by
  refine (pe_ifExp hd ha hb).to fun σ H Q => ?_
  rintro ⟨e, F, R, q⟩
  refine ⟨e, F, R, PostE.firstB (show PostE C W e F σ H ((toB (evE T (callF T n) true d e)).bd _) Q from by simpa only [evE, Bool.false_eq_true, if_false] using q) fun r e1 F1 H1 t1 q => ?_⟩
  cases r with
  | true => exact ⟨e1, F1, t1.sr, q⟩
  | false => exact ⟨e1, F1, t1.sr, q⟩
theorem t_no {a : E} {x : Expr} (h : ∀ e, evE T (callF T n) true a e = .stuck) : PT X x (RT T C n W a) := by
  refine PT.to (t := fun _ _ _ => False) ⟨fun _ _ _ _ _ _ q => q.elim⟩ fun σ H Q ⟨e, F, R, q⟩ => ?_
  rw [h] at q
  exact q
/-! ### argument lists -/
theorem s_nil : PA X [] (RA T C n W []) := pa_nil.to fun σ H Q ⟨e, F, R, q⟩ => by
  simp only [evA] at q
  exact q [] F H (TrE.refl R) rfl
theorem s_cons {a : E} {as : List E} {x : Expr} {xs : List Expr} (ha : PE X x (RE T C n W a)) (hr : PA X xs (RA T C n W as)) (hs : starEach (x :: xs) X.env = (false, eval x X.env) :: starEach xs X.env) : PA X (x :: xs) (RA T C n W (a :: as)) := by
  refine (pa_cons ha hr hs).to fun σ H Q => ?_
  rintro ⟨e, F, R, q⟩
  simp only [evA] at q
  refine ⟨e, F, R, ?_⟩
  revert q
  generalize evE T (callF T n) false a e = o
  intro q
  cases o with
  | exc c p e' => exact q
  | stuck => exact q
  | ok r e1 =>
    intro v F1 H1 t r1
    refine ⟨e1, F1, t.sr, ?_⟩
    simp only [bd_ok] at q
    revert q
    generalize evA T (callF T n) as e1 = o
    intro q
    cases o with
    | exc c p e' => exact fun F' H' t' => q F' H' (t.trans t')
    | stuck => exact q
    | ok rs e2 => exact fun vs F2 H2 t2 r2 => q (v :: vs) F2 H2 (t.trans t2) ⟨v, vs, rfl, r1.mono t2, r2.back t.there⟩
/-! ### subscripts, slices -/
theorem s_ix (G : Good T C n W c X) {a i : E} {x y : Expr} {pos : Pos} (ha : PE X x (RE T C n W a)) (hb : PE X y (RE T C n W i)) (hs : PlainIx y) : PE X (.Subscript x y pos) (RE T C n W (.ix a i)) := by
  refine (pe_ix (ix_item (W := W) G.K (by have := G.hu; omega)) ha hb hs).to fun σ H Q => ?_
  rintro ⟨e, F, R, q⟩
  refine ⟨e, F, R, PostE.first (show PostE C W e F σ H ((evE T (callF T n) false a e).bd _) Q from q) fun ra e1 v1 F1 H1 t1 r1 q => ?_⟩
  refine ⟨e1, F1, t1.sr, PostE.first q fun rb e2 v2 F2 H2 t2 r2 q => ?_⟩
  obtain ⟨d1, k1, q⟩ := q.opt
  obtain ⟨d2, k2, q⟩ := q.opt
  obtain ⟨d3, k3, q⟩ := q.opt
  refine ⟨d1, d2, e2, F2, σ, t2.sr, fun i d v h1 h2 => ?_, ?_⟩
  · match i, h1, h2 with
    | 0, h1, h2 => cases h1; cases h2; exact cont_crp t2.sr (r1.mono t2) k1
    | 1, h1, h2 => cases h1; cases h2; exact cont_crp t2.sr r2 k2
  · rw [k3]; exact q
theorem s_dix (G : Good T C n W c X) {k : Nat} {i : E} {x : Str} {y : Expr} {p pos : Pos} (h : c.dn[k]? = some x) (hg : glB c.sc x = true) (hb : PE X y (RE T C n W i)) (hs : PlainIx y) : PE X (.Subscript (.Name x p) y pos) (RE T C n W (.dix k i)) := by
  obtain ⟨g1, g2, _⟩ := G.glb hg
  refine ⟨fun pins s σ H Q I h' => ?_⟩
  obtain ⟨e, F, R, q⟩ := h'
  obtain ⟨pp, hd, q⟩ := PostE.opt (show PostE C W e F σ H (opt T.dcs[k]? fun p => (evE T (callF T n) false i e).bd fun r e1 => opt ((cont e1 r).bind keyOf) fun x => opt (dlook p.1 p.2 x) fun d => .ok (.v d) e1) Q from q)
  obtain ⟨a, m, hv⟩ := G.gl.dcs k x pp h hd
  have ha : PE X (.Name x p) (fun σ H Q => Q (.ref a) H) := ⟨fun pins s σ H Q I h' => ld_glob I g1 m ⟨.ref a, H, I, rfl, h'⟩ g2⟩
  refine (pe_ix (pos := pos) ix_kint ha hb hs).run pins s σ H Q I ?_
  refine ⟨e, F, R, PostE.first q fun ra e1 v1 F1 H1 t1 r1 q => ?_⟩
  obtain ⟨kk, k0, q⟩ := q.opt
  obtain ⟨d, k3, q2⟩ := q.opt
  obtain ⟨d1, k1, k2⟩ := Option.bind_eq_some_iff.mp k0
  clear k0
  obtain ⟨i0, v, rfl, kd, rp⟩ := hv kk d k3
  have cr := cont_crp t1.sr r1 k1
  cases d1 <;> simp only [keyOf] at k2 <;> cases k2
  exact ⟨a, i0, v, rfl, cr.int, by rw [G.K]; exact kd, q2.val t1.sr (rp F1)⟩
structure POr (X : Cx) (a : Option Expr) (t : TO) : Prop where
  po : PO X a t
theorem s_po0 : PO X none (RO T C n W none) := ⟨fun pins s σ H Q I ⟨e, F, R, q⟩ => by
  simp only [evO] at q
  exact po_none.run pins s σ H Q I (q F H (TrE.refl R))⟩
theorem s_po1 {a : E} {x : Expr} (ha : PE X x (RE T C n W a)) : PO X (some x) (RO T C n W (some a)) := ⟨fun pins s σ H Q I ⟨e, F, R, q⟩ => by
  refine (po_some ha).run pins s σ H Q I ⟨e, F, R, ?_⟩
  simp only [evO] at q
  revert q
  generalize evE T (callF T n) false a e = o
  intro q
  cases o with
  | exc c p e' => exact q
  | stuck => exact q
  | ok r e1 =>
    intro v F1 H1 t r1
    simp only [bd_ok] at q
    cases k1 : (cont e1 r).bind intD with
    | none => rw [k1] at q; exact q.elim
    | some i =>
      rw [k1] at q
      obtain ⟨d, k1, k2⟩ := Option.bind_eq_some_iff.mp k1
      have z := cont_crp t.sr r1 k1
      cases d <;> cases k2
      cases z.int
      exact ⟨_, rfl, q F1 H1 t⟩⟩
theorem s_sl (G : Good T C n W c X) {a : E} {lo hi : Option E} {x : Expr} {l h : Option Expr} {p2 pos : Pos} (ha : PE X x (RE T C n W a)) (hl : PO X l (RO T C n W lo)) (hh : PO X h (RO T C n W hi)) : PE X (.Subscript x (.Slice l h none p2) pos) (RE T C n W (.sl a lo hi)) := by
  refine (pe_slice (sl_slice (W := W) G.K) ha hl hh).to fun σ H Q => ?_
  rintro ⟨e, F, R, q⟩
  refine ⟨e, F, R, PostE.first (show PostE C W e F σ H ((evE T (callF T n) false a e).bd _) Q from q) fun ra e1 v1 F1 H1 t1 r1 q => ?_⟩
  refine ⟨e1, F1, t1.sr, PostE.firstO q fun l e2 F2 H2 t2 q => ?_⟩
  refine ⟨e2, F2, t2.sr, PostE.firstO q fun h e3 F3 H3 t3 q => ?_⟩
  obtain ⟨d1, k1, q⟩ := q.opt
  refine ⟨d1, e3, F3, σ, t3.sr, fun i d v h1 h2 => ?_, q⟩
  match i, h1, h2 with
  | 0, h1, h2 => cases h1; cases h2; exact cont_crp t3.sr ((r1.mono t2).mono t3) k1
theorem s_rev (G : Good T C n W c X) {a : E} {x : Expr} {k : Nat} {p1 p2 p3 pos : Pos} (ha : PE X x (RE T C n W a)) : PE X (.Subscript x (.Slice none none (some (.UnaryOp .USub (.Constant (.int 1) k p1) p2)) p3) pos) (RE T C n W (.rev a)) := by
  refine (RevT.pe_revA ha).to fun σ H Q => ?_
  rintro ⟨e, F, R, q⟩
  refine ⟨e, F, R, PostE.first (show PostE C W e F σ H ((evE T (callF T n) false a e).bd _) Q from q) fun ra e1 v1 F1 H1 t1 r1 q => ?_⟩
  obtain ⟨d1, k1, q⟩ := q.opt
  obtain ⟨r, k2, q⟩ := q.opt
  have z := cont_crp t1.sr r1 k1
  cases d1 <;> cases k2
  · obtain ⟨a, vs, rfl, ha, ra⟩ := z.tup
    exact .inr ⟨a, vs, rfl, by rw [G.K]; exact t1.sr.sub.sqT ha, fun p hp => q.newTup t1.sr ra.reverse hp⟩
  · obtain ⟨a, vs, rfl, ha, ra⟩ := z.lst t1.sr.sub
    exact .inl ⟨a, vs, rfl, .inl (.inl ha), fun p hp => q.newLst t1.sr ra.reverse hp⟩
end
end PL
end

section
namespace PL
open PySem PySem.Spec L2

section
variable {C : G0} {e e1 e2 ek : EV} {F F1 F2 Fk H0 H H1 : Hp} {σ : St}
theorem shareT' {d : D} {a : Addr} (R : SR C e Fk σ H) (s : Sub F Fk) (mm : Mine C F H d a) (hn : ¬ OwnA e σ a) :
    ∃ F', Rep C F' d (.ref a) ∧ Sub Fk F' ∧ SR C e F' σ H ∧ (∀ b o, F' b = some o → Fk b = some o ∨ b = a) := by
  cases q : Fk a with
  | none => exact shareT (H0 := fun _ => none) R (mm.mono s q fun _ h => h) hn rfl
  | some u =>
    have hu := R.sub a u q
    refine ⟨Fk, ?_, Sub.refl _, R, fun b o h => .inl h⟩
    obtain ⟨_, mm⟩ := mm
    cases d <;> first | exact mm.elim | skip
    · obtain ⟨vs, z, r⟩ := mm; rw [hu] at z; cases z; rw [Rep]; exact ⟨a, vs, rfl, q, r.mono s⟩
    · obtain ⟨vs, z, l, r⟩ := mm; rw [hu] at z; cases z; rw [Rep]; exact ⟨a, vs, rfl, q, l, r.mono s⟩
    · obtain ⟨vs, z, l, r⟩ := mm; rw [hu] at z; cases z; rw [Rep]; exact ⟨a, vs, rfl, q, l, r.mono s⟩
/-- a result, its new things as they were at F1 -/
def RVw (C : G0) (H0 F1 F : Hp) (σ : St) (H : Hp) (e : EV) (r : RV) (v : V) : Prop := match r with
  | .v d => Rep C F d v
  | .t d => ∃ a, v = .ref a ∧ Mine C F1 H d a ∧ H0 a = none ∧ ¬ OwnA e σ a
  | .h i => σ[i]? = some (some v) ∧ ∃ s, e[i]? = some s ∧ s.dat.isSome = true
theorem RVw.grow {r : RV} {v : V} (h : RVw C H0 F1 Fk σ H e r v) (s : Sub Fk F2) : RVw C H0 F1 F2 σ H e r v := by
  cases r with
  | v d => exact Rep.mono s h
  | t d => exact h
  | h i => exact h
theorem RVw.step {r : RV} {v : V} (h : RVw C H0 F1 Fk σ H e r v) (t : TrE C e Fk σ H e1 F2 H) : RVw C H0 F1 F2 σ H e1 r v := by
  cases r with
  | v d => exact Rep.mono t.fs h
  | t d => obtain ⟨a, q1, q2, q3, q4⟩ := h; exact ⟨a, q1, q2, q3, fun q => q4 (t.ownA' q)⟩
  | h i =>
    obtain ⟨h1, s, h2, h3⟩ := h
    exact ⟨h1, t.dat i s h2 h3⟩
/-- one result shared, the others as they were -/
theorem frz_w {r : RV} {v : V} {d : D} (t : TrE C e F σ H ek Fk H1) (s : Sub F1 Fk) (h : RVw C H F1 Fk σ H1 ek r v) (k : frz ek r = some (d, e2)) :
    ∃ F2, TrE C e F σ H e2 F2 H1 ∧ Sub Fk F2 ∧ Rep C F2 d v ∧ ∀ r' v', RVw C H F1 Fk σ H1 ek r' v' → RVw C H F1 F2 σ H1 e2 r' v' := by
  cases r with
  | v d' => cases k; exact ⟨Fk, t, Sub.refl _, h, fun _ _ h => h⟩
  | t d' =>
    cases k
    obtain ⟨a, rfl, m, h0, n⟩ := h
    obtain ⟨F', q1, q2, q3, q4⟩ := shareT' t.sr s m n
    exact ⟨F', t.grow q2 q3 q4 h0, q2, q1, fun _ _ h => h.grow q2⟩
  | h i =>
    obtain ⟨h1, s', h2, h3⟩ := h
    have q := t.sr.slot i s' h2
    simp only [frz, h2] at k
    cases s' with
    | un => cases k
    | val d' => cases k; obtain ⟨v', e1, q⟩ := q; rw [h1] at e1; cases e1; exact ⟨Fk, t, Sub.refl _, q, fun _ _ h => h⟩
    | fro d' => cases k; obtain ⟨v', e1, q⟩ := q; rw [h1] at e1; cases e1; exact ⟨Fk, t, Sub.refl _, q, fun _ _ h => h⟩
    | own d' =>
      cases k; obtain ⟨a, e1, q⟩ := q; rw [h1] at e1; cases e1
      obtain ⟨F', q1, q2⟩ := share t.sr h2 rfl rfl h1 (.inl ⟨rfl, rfl⟩)
      exact ⟨F', t.trans q1, q1.fs, q2, fun _ _ h => h.step q1⟩
    | bor d' =>
      cases k; obtain ⟨a, e1, q⟩ := q; rw [h1] at e1; cases e1
      obtain ⟨F', q1, q2⟩ := share t.sr h2 rfl rfl h1 (.inr ⟨rfl, rfl⟩)
      exact ⟨F', t.trans q1, q1.fs, q2, fun _ _ h => h.step q1⟩
def RVsw (C : G0) (H0 F1 F : Hp) (σ : St) (H : Hp) (e : EV) : List RV → List V → Prop
  | [], vs => vs = []
  | r :: rs, vs => ∃ v ws, vs = v :: ws ∧ RVw C H0 F1 F σ H e r v ∧ RVsw C H0 F1 F σ H e rs ws
theorem RVsw.imp (k : ∀ r v, RVw C H0 F1 Fk σ H e r v → RVw C H0 F1 F2 σ H e2 r v) : ∀ {rs : List RV} {vs : List V}, RVsw C H0 F1 Fk σ H e rs vs → RVsw C H0 F1 F2 σ H e2 rs vs
  | [], _, h => h
  | r :: rs, _, ⟨v, ws, e, a, b⟩ => ⟨v, ws, e, k _ _ a, RVsw.imp k b⟩
theorem RVs.w : ∀ {rs : List RV} {vs : List V}, RVs C H0 F σ H e rs vs → RVsw C H0 F F σ H e rs vs
  | [], _, h => h
  | r :: rs, _, ⟨v, ws, e, a, b⟩ => ⟨v, ws, e, (by cases r <;> exact a), RVs.w b⟩
theorem frzs_w : ∀ {rs : List RV} {vs : List V} {ds : List D} {ek e2 : EV} {Fk : Hp}, TrE C e F σ H ek Fk H1 → Sub F1 Fk → RVsw C H F1 Fk σ H1 ek rs vs → frzs ek rs = some (ds, e2) → ∃ F2, TrE C e F σ H e2 F2 H1 ∧ Sub Fk F2 ∧ RepL C F2 ds vs
  | [], vs, ds, ek, e2, Fk, t, s, r, k => by
    cases k
    have r : vs = [] := r
    subst r
    exact ⟨Fk, t, Sub.refl _, .nil⟩
  | r :: rs, vs, ds, ek, e2, Fk, t, s, ⟨v, ws, ev, r1, r2⟩, k => by
    subst ev
    simp only [frzs] at k
    obtain ⟨⟨d, e3⟩, k1, k⟩ := Option.bind_eq_some_iff.mp k
    obtain ⟨F3, t3, s3, rp, im⟩ := frz_w t s r1 k1
    cases k2 : frzs e3 rs with
    | none => rw [k2] at k; cases k
    | some z =>
      obtain ⟨l, e4⟩ := z
      rw [k2] at k
      cases k
      obtain ⟨F4, t4, s4, rl⟩ := frzs_w t3 (s.trans s3) (r2.imp im) k2
      exact ⟨F4, t4, s3.trans s4, .cons (rp.mono s4) rl⟩
theorem frzs_ok {rs : List RV} {vs : List V} {ds : List D} (t : TrE C e F σ H e1 F1 H1) (r : RVs C H F1 σ H1 e1 rs vs) (k : frzs e1 rs = some (ds, e2)) : ∃ F2, TrE C e F σ H e2 F2 H1 ∧ Sub F1 F2 ∧ RepL C F2 ds vs :=
  frzs_w t (Sub.refl _) r.w k
/-- first x, then f; the point of view stays -/
theorem PostE.first0 {W : WX} {x : Out RV} {f : RV → EV → Out RV} {Q Q1 : VK} (h : PostE C W e F σ H (x.bd f) Q)
    (k : ∀ r e1 v F1 H1, TrE C e F σ H e1 F1 H1 → RVok C H F1 σ H1 e1 r v → PostE C W e F σ H (f r e1) Q → Q1 v H1) : PostE C W e F σ H x Q1 := by
  cases x with
  | ok r e1 => exact fun v F1 H1 t r1 => k r e1 v F1 H1 t r1 h
  | exc c p e1 => exact h
  | stuck => exact h
theorem PostE.firstA0 {W : WX} {x : Out (List RV)} {f : List RV → EV → Out RV} {Q : VK} {Q1 : List V → Hp → Prop} (h : PostE C W e F σ H (x.bd f) Q)
    (k : ∀ rs e1 vs F1 H1, TrE C e F σ H e1 F1 H1 → RVs C H F1 σ H1 e1 rs vs → PostE C W e F σ H (f rs e1) Q → Q1 vs H1) : PostA C W e F σ H x Q1 := by
  cases x with
  | ok r e1 => exact fun v F1 H1 t r1 => k r e1 v F1 H1 t r1 h
  | exc c p e1 => exact h
  | stuck => exact h
theorem PostE.newTup' {W : WX} {ds : List D} {vs : List V} {Q : VK} {p : Addr} (t : TrE C e F σ H e1 F1 H1) (h : PostE C W e F σ H (.ok (.v (.tup ds)) e1) Q) (r : RepL C F1 ds vs) (hp : H1 p = none) : Q (.ref p) (upd H1 p (.tup vs)) := by
  have t' := t.newT (o := .tup vs) hp
  have z := (TrE.refl t.sr).newT (o := .tup vs) hp
  refine h _ _ _ t' ?_
  show Rep C _ (.tup ds) _
  rw [Rep]
  exact ⟨p, vs, rfl, .inl (.inl upd_same), r.mono z.fs⟩
theorem PostE.newLst' {W : WX} {ds : List D} {vs : List V} {Q : VK} {p : Addr} (t : TrE C e F σ H e1 F1 H1) (h : PostE C W e F σ H (.ok (.t (.lst ds)) e1) Q) (r : RepL C F1 ds vs) (hp : H1 p = none) : Q (.ref p) (upd H1 p (.lst vs)) := by
  have t' := t.newL (o := .lst vs) hp
  refine h _ _ _ t' ⟨p, rfl, ⟨?_, vs, upd_same, r⟩, ?_, own_there t.sr hp⟩
  · cases q : F1 p with
    | none => rfl
    | some u => rw [t.sr.sub p u q] at hp; cases hp
  · by_cases q : H p = none
    · exact q
    · exact absurd hp (t.there p q)
end
section
variable {T : GT} {C : G0} {n : Nat} {W : WX} {c : CC} {X : Cx}
theorem s_tup {as : List E} {xs : List Expr} {x1} {pos : Pos} (ha : PA X xs (RA T C n W as)) : PE X (.Tuple xs x1 pos) (RE T C n W (.tup as)) := by
  refine (pe_tup ha).to fun σ H Q => ?_
  rintro ⟨e, F, R, q⟩
  refine ⟨e, F, R, PostE.firstA0 (show PostE C W e F σ H ((evA T (callF T n) as e).bd _) Q from q) fun rs e1 vs F1 H1 t1 r1 q => ?_⟩
  obtain ⟨⟨ds, e2⟩, k1, q⟩ := q.opt
  obtain ⟨F2, t2, s2, rl⟩ := frzs_ok t1 r1 k1
  dsimp only at q
  split at q
  · rename_i hz
    exact ⟨by rw [← sizeL_eq, ← rl.len]; exact hz, fun p hp => q.newTup' t2 rl hp⟩
  · exact q.elim
theorem s_lst {as : List E} {xs : List Expr} {pos : Pos} (ha : PA X xs (RA T C n W as)) : PE X (.List xs pos) (RE T C n W (.lst as)) := by
  refine (pe_lst ha).to fun σ H Q => ?_
  rintro ⟨e, F, R, q⟩
  refine ⟨e, F, R, PostE.firstA0 (show PostE C W e F σ H ((evA T (callF T n) as e).bd _) Q from q) fun rs e1 vs F1 H1 t1 r1 q => ?_⟩
  obtain ⟨⟨ds, e2⟩, k1, q⟩ := q.opt
  obtain ⟨F2, t2, s2, rl⟩ := frzs_ok t1 r1 k1
  dsimp only at q
  split at q
  · rename_i hz
    exact ⟨by rw [← sizeL_eq, ← rl.len]; exact hz, fun p hp => q.newLst' t2 rl hp⟩
  · exact q.elim
/-! ### built-in functions -/
theorem conts_len {e : EV} : ∀ {rs : List RV} {ds : List D}, conts e rs = some ds → ds.length = rs.length
  | [], ds, h => by cases h; rfl
  | r :: rs, ds, h => by
    simp only [conts] at h
    obtain ⟨d, _, h⟩ := Option.bind_eq_some_iff.mp h
    cases k : conts e rs with
    | none => rw [k] at h; cases h
    | some l => rw [k] at h; cases h; simp [conts_len k]
theorem RVs.len {H0 F H : Hp} {σ : St} {e : EV} : ∀ {rs : List RV} {vs : List V}, RVs C H0 F σ H e rs vs → rs.length = vs.length
  | [], _, h => by have h : _ = [] := h; subst h; rfl
  | r :: rs, _, ⟨v, ws, e, a, b⟩ => by subst e; simp [RVs.len b]
theorem RVs.get {H0 F H : Hp} {σ : St} {e : EV} : ∀ {rs : List RV} {vs : List V} {i : Nat} {r : RV}, RVs C H0 F σ H e rs vs → rs[i]? = some r → ∃ v, vs[i]? = some v ∧ RVok C H0 F σ H e r v
  | [], _, _, _, h, k => by simp at k
  | r :: rs, _, 0, _, ⟨v, ws, e, a, b⟩, k => by subst e; simp at k; subst k; exact ⟨v, rfl, a⟩
  | r :: rs, _, i + 1, _, ⟨v, ws, e, a, b⟩, k => by
    subst e
    obtain ⟨v', k1, k2⟩ := RVs.get (i := i) b (by simpa using k)
    exact ⟨v', by simpa using k1, k2⟩
theorem conts_get {H0 F H : Hp} {σ : St} {e : EV} (R : SR C e F σ H) : ∀ {rs : List RV} {ds : List D} {vs : List V} {i : Nat} {d : D} {v : V}, conts e rs = some ds → RVs C H0 F σ H e rs vs → ds[i]? = some d → vs[i]? = some v → CRp C F H d v
  | [], ds, vs, i, d, v, h, r, k1, k2 => by cases h; simp at k1
  | r :: rs, ds, vs, i, d, v, h, ⟨v', ws, ev, a, b⟩, k1, k2 => by
    subst ev
    simp only [conts] at h
    obtain ⟨d', h1, h⟩ := Option.bind_eq_some_iff.mp h
    cases k : conts e rs with
    | none => rw [k] at h; cases h
    | some l =>
      rw [k] at h; cases h
      cases i with
      | zero => simp at k1 k2; subst k1; subst k2; exact cont_crp R a h1
      | succ i => exact conts_get (i := i) R k b (by simpa using k1) (by simpa using k2)
theorem s_bi (G : Good T C n W c X) {b : Bi} {a : E} {as : List E} {x : Str} {y : Expr} {xs : List Expr} {p pos : Pos} (hx : x = Str.ofString (biNm b)) (hg : glB c.sc x = true) (hc : c.calm = true) (hgcd : b = .gcd → c.gcd = true) (ha : PA X (y :: xs) (RA T C n W as))
    (he : starEach (y :: xs) X.env = (false, eval y X.env) :: starEach xs X.env) (hpl : (backTo pos (starEach xs X.env)).any (·.1) = false) : PE X (.Call (.Name x p) (y :: xs) [] pos) (RE T C n W (.bi b as)) := by
  obtain ⟨g1, g2, g3⟩ := G.glb hg
  have main : PE X (.Call (.Name x p) (y :: xs) [] pos) (tCB (fun vs H Q => ∃ ds, OpP C W (biF b ds) ds vs H Q ∧ ds.length = vs.length) (RA T C n W as)) := by
    have hb := call_bi (W := W) G.K (G.cm hc) G.hu b
    subst hx
    cases b
    case gcd => exact pe_callBfun hb g1 (G.gl.gcd (hgcd rfl)) ha g2 he hpl
    case tuple => exact pe_callTy hb g1 (G.gl.bi _ (by decide)) (by decide +kernel) ha g3 g2 he hpl
    case list => exact pe_callTy hb g1 (G.gl.bi _ (by decide)) (by decide +kernel) ha g3 g2 he hpl
    case dict1 => exact pe_callTy hb g1 (G.gl.bi _ (by decide)) (by decide +kernel) ha g3 g2 he hpl
    case int1 => exact pe_callTy hb g1 (G.gl.bi _ (by decide)) (by decide +kernel) ha g3 g2 he hpl
    all_goals exact pe_callB hb g1 (G.gl.bi _ (by decide)) (by decide +kernel) ha g3 g2 he hpl
  refine main.to fun σ H Q => ?_
  rintro ⟨e, F, R, q⟩
  refine ⟨e, F, R, PostE.firstA (show PostE C W e F σ H ((evA T (callF T n) as e).bd _) Q from q) fun rs e1 vs F1 H1 t1 r1 q => ?_⟩
  obtain ⟨ds, k1, q⟩ := q.opt
  exact ⟨ds, ⟨e1, F1, σ, t1.sr, fun i d v h1 h2 => conts_get t1.sr k1 r1 h1 h2, q⟩, by rw [conts_len k1, r1.len]⟩
end
end PL
end

section
namespace PL
open PySem PySem.Spec L2

section
variable {C : G0} {e e1 e2 ek : EV} {F F1 F2 H0 H H1 : Hp} {σ : St}
def ArgR (C : G0) (F : Hp) (σ : St) (e : EV) (r : RV) (s : SV) (v : V) : Prop :=
  (∃ d, s = .val d ∧ Rep C F d v ∧ ∀ i, r = .h i → ∃ s0, e[i]? = some s0 ∧ s0.mine = false ∧ s0.dat.isSome = true) ∨
  (∃ i d, r = .h i ∧ s = .bor d ∧ σ[i]? = some (some v) ∧ (e[i]? = some (.own d) ∨ e[i]? = some (.bor d)))
def ArgRs (C : G0) (F : Hp) (σ : St) (e : EV) : List RV → List SV → List V → Prop
  | [], ss, vs => ss = [] ∧ vs = []
  | r :: rs, ss, vs => ∃ s st v vt, ss = s :: st ∧ vs = v :: vt ∧ ArgR C F σ e r s v ∧ ArgRs C F σ e rs st vt
theorem ArgR.mono {r : RV} {s : SV} {v : V} (h : ArgR C F σ e r s v) (k : Sub F F2) : ArgR C F2 σ e r s v := by
  rcases h with ⟨d, h1, h2, h3⟩ | h
  · exact .inl ⟨d, h1, h2.mono k, h3⟩
  · exact .inr h
theorem args_w : ∀ {rs : List RV} {vs : List V} {as : List SV} {Fk : Hp}, TrE C e F σ H e1 Fk H1 → Sub F1 Fk → RVsw C H F1 Fk σ H1 e1 rs vs → argsOf e1 rs = some as → ∃ F2, TrE C e F σ H e1 F2 H1 ∧ Sub Fk F2 ∧ ArgRs C F2 σ e1 rs as vs
  | [], vs, as, Fk, t, s, r, k => by
    cases k
    have r : vs = [] := r
    subst r
    exact ⟨Fk, t, Sub.refl _, rfl, rfl⟩
  | r :: rs, vs, as, Fk, t, s, ⟨v, ws, ev, r1, r2⟩, k => by
    subst ev
    simp only [argsOf] at k
    obtain ⟨a, k1, k⟩ := Option.bind_eq_some_iff.mp k
    cases k2 : argsOf e1 rs with
    | none => rw [k2] at k; cases k
    | some l =>
      rw [k2] at k
      cases k
      have step : ∃ F3, TrE C e F σ H e1 F3 H1 ∧ Sub Fk F3 ∧ ArgR C F3 σ e1 r a v := by
        cases r with
        | v d => cases k1; exact ⟨Fk, t, Sub.refl _, .inl ⟨d, rfl, r1, fun i z => by cases z⟩⟩
        | t d =>
          cases k1
          obtain ⟨a, rfl, m, h0, n⟩ := r1
          obtain ⟨F', q1, q2, q3, q4⟩ := shareT' t.sr s m n
          exact ⟨F', t.grow q2 q3 q4 h0, q2, .inl ⟨d, rfl, q1, fun i z => by cases z⟩⟩
        | h i =>
          obtain ⟨h1, s0, h2, h3⟩ := r1
          have z := t.sr.slot i s0 h2
          simp only [argOf, h2] at k1
          refine ⟨Fk, t, Sub.refl _, ?_⟩
          cases s0 with
          | un => cases k1
          | val d => cases k1; obtain ⟨v', q1, q2⟩ := z; rw [h1] at q1; cases q1; exact .inl ⟨d, rfl, q2, fun j z => by cases z; exact ⟨_, h2, rfl, rfl⟩⟩
          | fro d => cases k1; obtain ⟨v', q1, q2⟩ := z; rw [h1] at q1; cases q1; exact .inl ⟨d, rfl, q2, fun j z => by cases z; exact ⟨_, h2, rfl, rfl⟩⟩
          | own d => cases k1; exact .inr ⟨i, d, rfl, rfl, h1, .inl h2⟩
          | bor d => cases k1; exact .inr ⟨i, d, rfl, rfl, h1, .inr h2⟩
      obtain ⟨F3, t3, s3, ar⟩ := step
      obtain ⟨F4, t4, s4, rl⟩ := args_w t3 (s.trans s3) (r2.imp fun _ _ h => h.grow s3) k2
      exact ⟨F4, t4, s3.trans s4, a, l, v, ws, rfl, rfl, ar.mono s4, rl⟩
theorem ArgRs.get : ∀ {rs : List RV} {as : List SV} {vs : List V} {j : Nat} {s : SV}, ArgRs C F σ e rs as vs → as[j]? = some s → ∃ r v, rs[j]? = some r ∧ vs[j]? = some v ∧ ArgR C F σ e r s v
  | [], _, _, _, _, ⟨h, _⟩, k => by subst h; simp at k
  | r :: rs, _, _, 0, _, ⟨s, st, v, vt, h1, h2, h3, h4⟩, k => by subst h1 h2; simp at k; subst k; exact ⟨r, v, rfl, rfl, h3⟩
  | r :: rs, _, _, j + 1, _, ⟨s, st, v, vt, h1, h2, h3, h4⟩, k => by
    subst h1 h2
    obtain ⟨r', v', k1, k2, k3⟩ := ArgRs.get (j := j) h4 (by simpa using k)
    exact ⟨r', v', by simpa using k1, by simpa using k2, k3⟩
theorem ArgRs.len : ∀ {rs : List RV} {as : List SV} {vs : List V}, ArgRs C F σ e rs as vs → as.length = rs.length ∧ vs.length = rs.length
  | [], _, _, ⟨h, k⟩ => by subst h k; exact ⟨rfl, rfl⟩
  | r :: rs, _, _, ⟨s, st, v, vt, h1, h2, h3, h4⟩ => by subst h1 h2; have := ArgRs.len h4; simp [this.1, this.2]
theorem hands_mem : ∀ {rs : List RV} {i : Nat}, i ∈ hands rs ↔ ∃ j : Nat, rs[j]? = some (RV.h i)
  | [], i => by simp [hands]
  | .h k :: rs, i => by
    simp only [hands, List.mem_cons]
    rw [hands_mem (rs := rs)]
    constructor
    · rintro (rfl | ⟨j, h⟩)
      · exact ⟨0, rfl⟩
      · exact ⟨j + 1, by simpa using h⟩
    · rintro ⟨j, h⟩
      cases j with
      | zero => simp at h; exact .inl h.symm
      | succ j => exact .inr ⟨j, by simpa using h⟩
  | .v d :: rs, i => by
    simp only [hands]
    rw [hands_mem (rs := rs)]
    constructor
    · rintro ⟨j, h⟩; exact ⟨j + 1, by simpa using h⟩
    · rintro ⟨j, h⟩
      cases j with
      | zero => simp at h
      | succ j => exact ⟨j, by simpa using h⟩
  | .t d :: rs, i => by
    simp only [hands]
    rw [hands_mem (rs := rs)]
    constructor
    · rintro ⟨j, h⟩; exact ⟨j + 1, by simpa using h⟩
    · rintro ⟨j, h⟩
      cases j with
      | zero => simp at h
      | succ j => exact ⟨j, by simpa using h⟩
theorem hands_pos : ∀ {rs : List RV} {i j k : Nat}, (hands rs).Nodup → rs[j]? = some (.h i) → rs[k]? = some (.h i) → j = k
  | [], _, _, _, _, h, _ => by simp at h
  | r :: rs, i, j, k, nd, h1, h2 => by
    have tl : (hands rs).Nodup := by
      cases r <;> simp only [hands] at nd
      · exact nd
      · exact nd
      · exact (List.nodup_cons.mp nd).2
    cases j with
    | zero =>
      cases k with
      | zero => rfl
      | succ k =>
        simp at h1; subst h1
        simp only [hands] at nd
        exact absurd (hands_mem.mpr ⟨k, by simpa using h2⟩) (List.nodup_cons.mp nd).1
    | succ j =>
      cases k with
      | zero =>
        simp at h2; subst h2
        simp only [hands] at nd
        exact absurd (hands_mem.mpr ⟨j, by simpa using h1⟩) (List.nodup_cons.mp nd).1
      | succ k => rw [hands_pos (j := j) (k := k) tl (by simpa using h1) (by simpa using h2)]
def back1 (o : Option SV) (s : SV) : Option SV := match o, s with
  | some (.own _), .bor d => some (.own d)
  | some (.bor _), .bor d => some (.bor d)
  | some (.own _), .fro d => some (.val d)
  | some (.bor _), .fro d => some (.fro d)
  | o, _ => o
theorem putBack1_ne {r : RV} {s : SV} {i : Nat} (h : r ≠ .h i) : (putBack1 e r s)[i]? = e[i]? := by
  unfold putBack1
  split
  · rename_i k d
    have hk : k ≠ i := fun q => h (by rw [q])
    split <;> first | rfl | exact getE_set_ne hk
  · rename_i k d
    have hk : k ≠ i := fun q => h (by rw [q])
    split <;> first | rfl | exact getE_set_ne hk
  · rfl
theorem putBack1_eq {s : SV} {i : Nat} : (putBack1 e (.h i) s)[i]? = back1 e[i]? s := by
  unfold putBack1
  cases s with
  | bor d =>
    dsimp only
    split
    · rename_i d' h; rw [getE_set_self h, h]; rfl
    · rename_i d' h; rw [getE_set_self h, h]; rfl
    · rename_i h1 h2
      unfold back1
      split <;> first | rfl | (rename_i h; exact absurd h (by first | exact h1 _ | exact h2 _)) | skip
      all_goals first | rfl | (rename_i hh; simp_all)
  | fro d =>
    dsimp only
    split
    · rename_i d' h; rw [getE_set_self h, h]; rfl
    · rename_i d' h; rw [getE_set_self h, h]; rfl
    · rename_i h1 h2
      unfold back1
      split <;> first | rfl | (rename_i h; exact absurd h (by first | exact h1 _ | exact h2 _)) | skip
      all_goals first | rfl | (rename_i hh; simp_all)
  | un => show e[i]? = back1 e[i]? _; unfold back1; split <;> first | rfl | simp_all
  | val d => show e[i]? = back1 e[i]? _; unfold back1; split <;> first | rfl | simp_all
  | own d => show e[i]? = back1 e[i]? _; unfold back1; split <;> first | rfl | simp_all
theorem putBack1_len {r : RV} {s : SV} : (putBack1 e r s).length = e.length := by
  unfold putBack1
  split
  · split <;> simp
  · split <;> simp
  · rfl
theorem putBack_len : ∀ {rs : List RV} {ss : List SV} {e : EV}, (putBack e rs ss).length = e.length
  | [], _, e => by simp [putBack]
  | r :: rs, [], e => by simp [putBack]
  | r :: rs, s :: ss, e => by rw [putBack, putBack_len, putBack1_len]
theorem putBack_ne : ∀ {rs : List RV} {ss : List SV} {e : EV} {i : Nat}, i ∉ hands rs → (putBack e rs ss)[i]? = e[i]?
  | [], _, e, i, h => by simp [putBack]
  | r :: rs, [], e, i, h => by simp [putBack]
  | r :: rs, s :: ss, e, i, h => by
    rw [putBack, putBack_ne (rs := rs), putBack1_ne]
    · rintro rfl; exact h (by simp [hands])
    · intro q; apply h; cases r <;> simp [hands, q]
theorem putBack_eq : ∀ {rs : List RV} {ss : List SV} {e : EV} {i j : Nat} {s : SV}, (hands rs).Nodup → rs[j]? = some (.h i) → ss[j]? = some s → (putBack e rs ss)[i]? = back1 e[i]? s
  | [], _, e, i, j, s, _, h, _ => by simp at h
  | r :: rs, [], e, i, j, s, _, _, h => by simp at h
  | r :: rs, s' :: ss, e, i, j, s, nd, h1, h2 => by
    have tl : (hands rs).Nodup := by
      cases r <;> simp only [hands] at nd
      · exact nd
      · exact nd
      · exact (List.nodup_cons.mp nd).2
    rw [putBack]
    cases j with
    | zero =>
      simp at h1 h2; subst h1 h2
      simp only [hands] at nd
      rw [putBack_ne (List.nodup_cons.mp nd).1, putBack1_eq]
    | succ j =>
      have h3 : rs[j]? = some (.h i) := by simpa using h1
      rw [putBack_eq (j := j) (s := s) tl h3 (by simpa using h2), putBack1_ne]
      rintro rfl
      simp only [hands] at nd
      exact (List.nodup_cons.mp nd).1 (hands_mem.mpr ⟨j, h3⟩)
theorem call_ok {rs : List RV} {vs : List V} {as : List SV} (t : TrE C e F σ H e1 F1 H1) (r : RVs C H F1 σ H1 e1 rs vs) (nd : (hands rs).Nodup) (ha : argsOf e1 rs = some as) :
    ∃ F2, SR C as F2 (vs.map some) H1 ∧ as.length = vs.length ∧ (∀ s ∈ as, (∃ d, s = .val d) ∨ ∃ d, s = .bor d) ∧ ∀ as' F' H', TrE C as F2 (vs.map some) H1 as' F' H' → TrE C e F σ H (putBack e1 rs as') F' H' ∧
      (∀ d v, RVok C H1 F' (vs.map some) H' as' (.t d) v → RVok C H F' σ H' (putBack e1 rs as') (.t d) v) := by
  obtain ⟨F2, t2, s2, ar⟩ := args_w t (Sub.refl _) r.w ha
  obtain ⟨l1, l2⟩ := ar.len
  have R := t2.sr
  have vm : ∀ {j : Nat} {v : V}, vs[j]? = some v → (vs.map some)[j]? = some (some v) := fun {j v} h => by rw [List.getElem?_map, h]; rfl
  have ownAs : ∀ {b : Addr}, OwnA as (vs.map some) b → ∃ (i : Nat) (s : SV) (j : Nat), rs[j]? = some (RV.h i) ∧ e1[i]? = some s ∧ s.mine = true ∧ σ[i]? = some (some (V.ref b)) := fun {b} ⟨j, s, h1, h2, h3⟩ => by
    obtain ⟨r, v, k1, k2, k3⟩ := ar.get h1
    rw [vm k2] at h3; cases h3
    rcases k3 with ⟨d, rfl, _⟩ | ⟨i, d, rfl, rfl, q1, q2 | q2⟩
    · cases h2
    · exact ⟨i, _, j, k1, q2, rfl, q1⟩
    · exact ⟨i, _, j, k1, q2, rfl, q1⟩
  have ownE : ∀ {b : Addr}, OwnA as (vs.map some) b → OwnA e1 σ b := fun h => by
    obtain ⟨i, s, j, _, h1, h2, h3⟩ := ownAs h
    exact ⟨i, s, h1, h2, h3⟩
  have sr : SR C as F2 (vs.map some) H1 := by
    refine ⟨R.sub, fun j s h => ?_, fun j k s s' a h1 h2 m1 m2 a1 a2 => ?_, by simp [l1, l2]⟩
    · obtain ⟨r, v, k1, k2, k3⟩ := ar.get h
      rw [vm k2]
      rcases k3 with ⟨d, rfl, q, _⟩ | ⟨i, d, rfl, rfl, q1, q2 | q2⟩
      · exact ⟨v, rfl, q⟩
      · obtain ⟨a, z1, z2⟩ := R.slot i _ q2
        rw [q1] at z1; cases z1
        exact ⟨a, rfl, z2⟩
      · obtain ⟨a, z1, z2⟩ := R.slot i _ q2
        rw [q1] at z1; cases z1
        exact ⟨a, rfl, z2⟩
    · obtain ⟨r, v, k1, k2, k3⟩ := ar.get h1
      obtain ⟨r', v', k1', k2', k3'⟩ := ar.get h2
      rw [vm k2] at a1; cases a1
      rw [vm k2'] at a2; cases a2
      rcases k3 with ⟨d, rfl, q, _⟩ | ⟨i, d, rfl, rfl, q1, q2⟩
      · cases m1
      rcases k3' with ⟨d', rfl, q', _⟩ | ⟨i', d', rfl, rfl, q1', q2'⟩
      · cases m2
      have ei : i = i' := by
        rcases q2 with q2 | q2 <;> rcases q2' with q2' | q2' <;> exact R.dis i i' _ _ a q2 q2' rfl rfl q1 q1'
      subst ei
      exact hands_pos nd k1 k1'
  refine ⟨F2, sr, by rw [l1, l2], fun s hs => ?_, fun as' F' H' u => ?_⟩
  · obtain ⟨j, hj⟩ := List.getElem?_of_mem hs
    obtain ⟨r, v, k1, k2, k3⟩ := ar.get hj
    rcases k3 with ⟨d, rfl, _⟩ | ⟨i, d, _, rfl, _⟩
    · exact .inl ⟨d, rfl⟩
    · exact .inr ⟨d, rfl⟩
  · have char : ∀ i : Nat, ((putBack e1 rs as')[i]? = e1[i]? ∧ ∀ s, e1[i]? = some s → s.mine = true → i ∉ hands rs) ∨
        ∃ (j : Nat) (d d' : D) (v : V), vs[j]? = some v ∧ σ[i]? = some (some v) ∧ ((e1[i]? = some (.own d) ∧ ((as'[j]? = some (.bor d') ∧ (putBack e1 rs as')[i]? = some (.own d')) ∨ (as'[j]? = some (.fro d') ∧ (putBack e1 rs as')[i]? = some (.val d')))) ∨
          (e1[i]? = some (.bor d) ∧ ((as'[j]? = some (.bor d') ∧ (putBack e1 rs as')[i]? = some (.bor d')) ∨ (as'[j]? = some (.fro d') ∧ (putBack e1 rs as')[i]? = some (.fro d'))))) := fun i => by
      by_cases hi : i ∈ hands rs
      · obtain ⟨j, hj⟩ := hands_mem.mp hi
        have hjl : j < rs.length := (List.getElem?_eq_some_iff.mp hj).1
        obtain ⟨s, hs⟩ : ∃ s, as[j]? = some s := ⟨as[j]'(by omega), List.getElem?_eq_getElem _⟩
        obtain ⟨r, v, k1, k2, k3⟩ := ar.get hs
        rw [hj] at k1; cases k1
        have hl' : as'.length = as.length := u.len
        obtain ⟨s', hs'⟩ : ∃ s', as'[j]? = some s' := ⟨as'[j]'(by omega), List.getElem?_eq_getElem _⟩
        have pe := putBack_eq (e := e1) nd hj hs'
        rcases k3 with ⟨d, rfl, q, q0⟩ | ⟨i', d, ei, rfl, q1, q2⟩
        · obtain ⟨s0, z1, z2, z3⟩ := q0 i rfl
          refine .inl ⟨?_, fun s1 h1 h2 => ?_⟩
          · rw [pe, z1]
            cases s0 <;> first | cases z2 | skip
            all_goals cases s' <;> rfl
          · rw [z1] at h1; cases h1; rw [z2] at h2; cases h2
        · cases ei
          obtain ⟨_, d', z⟩ := u.bor j d hs
          refine .inr ⟨j, d, d', v, k2, q1, ?_⟩
          rcases q2 with q2 | q2
          · refine .inl ⟨q2, ?_⟩
            rcases z with z | z
            · rw [hs'] at z; cases z; exact .inl ⟨hs', by rw [pe, q2]; rfl⟩
            · rw [hs'] at z; cases z; exact .inr ⟨hs', by rw [pe, q2]; rfl⟩
          · refine .inr ⟨q2, ?_⟩
            rcases z with z | z
            · rw [hs'] at z; cases z; exact .inl ⟨hs', by rw [pe, q2]; rfl⟩
            · rw [hs'] at z; cases z; exact .inr ⟨hs', by rw [pe, q2]; rfl⟩
      · exact .inl ⟨putBack_ne hi, fun _ _ _ => hi⟩
    have nom : ∀ (i : Nat) (s' : SV), (putBack e1 rs as')[i]? = some s' → s'.mine = true → ∃ s, e1[i]? = some s ∧ s.mine = true := fun i s' h m => by
      rcases char i with ⟨q, _⟩ | ⟨j, d, d', v, hv, hσ, ⟨q1, q2 | q2⟩ | ⟨q1, q2 | q2⟩⟩
      · rw [q] at h; exact ⟨s', h, m⟩
      all_goals exact ⟨_, q1, rfl⟩
    have big : TrE C e1 F2 σ H1 (putBack e1 rs as') F' H' := by
      refine ⟨⟨⟨u.sr.sub, fun i s h => ?_, fun i k s s' a h1 h2 m1 m2 a1 a2 => ?_, by rw [putBack_len]; exact R.len⟩, u.fs, fun b o h k => u.keep b o h fun q => k (ownE q), u.there, fun b o h => ?_, fun i d a h1 h2 => ?_, fun i d' h => ?_, fun i d h => ⟨rfl, ?_⟩, fun i d h => ⟨rfl, ?_⟩, putBack_len⟩, fun i s h k => ?_, nom⟩
      · rcases char i with ⟨q, hq⟩ | ⟨j, d, d', v, hv, hσ, ⟨q1, ⟨q2, q3⟩ | ⟨q2, q3⟩⟩ | ⟨q1, ⟨q2, q3⟩ | ⟨q2, q3⟩⟩⟩
        · rw [q] at h
          have z := R.slot i s h
          have stay : ∀ {d : D} {a : Addr}, s.mine = true → σ[i]? = some (some (.ref a)) → Mine C F2 H1 d a → Mine C F' H' d a := fun {d a} ms ea mm => by
            have no : ¬ OwnA as (vs.map some) a := fun oa => by
              obtain ⟨i', s', j, w1, w2, w3, w4⟩ := ownAs oa
              have := R.dis i' i s' s a w2 h w3 ms w4 ea
              subst this
              exact hq s h ms (hands_mem.mpr ⟨j, w1⟩)
            refine mm.mono u.fs ?_ fun o ho => u.keep a o ho no
            cases fa : F' a with
            | none => rfl
            | some o =>
              obtain ⟨o', ho'⟩ := mm.there
              rcases u.new a o fa with w | w | w
              · rw [mm.1] at w; cases w
              · rw [ho'] at w; cases w
              · exact absurd w no
          cases s with
          | un => trivial
          | val d => obtain ⟨v, z1, z2⟩ := z; exact ⟨v, z1, z2.mono u.fs⟩
          | fro d => obtain ⟨v, z1, z2⟩ := z; exact ⟨v, z1, z2.mono u.fs⟩
          | own d => obtain ⟨a, z1, z2⟩ := z; exact ⟨a, z1, stay rfl z1 z2⟩
          | bor d => obtain ⟨a, z1, z2⟩ := z; exact ⟨a, z1, stay rfl z1 z2⟩
        · rw [q3] at h; cases h
          obtain ⟨a, z1, z2⟩ := u.sr.slot j _ q2
          rw [vm hv] at z1; cases z1
          exact ⟨a, hσ, z2⟩
        · rw [q3] at h; cases h
          obtain ⟨v', z1, z2⟩ := u.sr.slot j _ q2
          rw [vm hv] at z1; cases z1
          exact ⟨_, hσ, z2⟩
        · rw [q3] at h; cases h
          obtain ⟨a, z1, z2⟩ := u.sr.slot j _ q2
          rw [vm hv] at z1; cases z1
          exact ⟨a, hσ, z2⟩
        · rw [q3] at h; cases h
          obtain ⟨v', z1, z2⟩ := u.sr.slot j _ q2
          rw [vm hv] at z1; cases z1
          exact ⟨_, hσ, z2⟩
      · obtain ⟨t1, w1, w2⟩ := nom i s h1 m1
        obtain ⟨t2, w3, w4⟩ := nom k s' h2 m2
        exact R.dis i k t1 t2 a w1 w3 w2 w4 a1 a2
      · rcases u.new b o h with w | w | w
        · exact .inl w
        · exact .inr (.inl w)
        · exact .inr (.inr (ownE w))
      · rcases char i with ⟨q, hq⟩ | ⟨j, d0, d', v, hv, hσ, ⟨q1, ⟨q2, q3⟩ | ⟨q2, q3⟩⟩ | ⟨q1, ⟨q2, q3⟩ | ⟨q2, q3⟩⟩⟩
        · rw [q] at h1; exact .inl ⟨i, d, h1, h2⟩
        · exact .inl ⟨i, d0, q1, h2⟩
        all_goals (rw [q3] at h1; cases h1)
      · rcases char i with ⟨q, hq⟩ | ⟨j, d0, d', v, hv, hσ, ⟨q1, ⟨q2, q3⟩ | ⟨q2, q3⟩⟩ | ⟨q1, ⟨q2, q3⟩ | ⟨q2, q3⟩⟩⟩
        · rw [q] at h; exact ⟨d', h⟩
        · rw [q3] at h; cases h
        · rw [q3] at h; cases h
        · exact ⟨d0, q1⟩
        · exact ⟨d0, q1⟩
      · rcases char i with ⟨q, hq⟩ | ⟨j, d0, d', v, hv, hσ, ⟨q1, ⟨q2, q3⟩ | ⟨q2, q3⟩⟩ | ⟨q1, ⟨q2, q3⟩ | ⟨q2, q3⟩⟩⟩
        · exact ⟨d, .inl (by rw [q]; exact h)⟩
        · rw [q1] at h; cases h
        · rw [q1] at h; cases h
        · exact ⟨d', .inl q3⟩
        · exact ⟨d', .inr q3⟩
      · rcases char i with ⟨q, hq⟩ | ⟨j, d0, d', v, hv, hσ, ⟨q1, ⟨q2, q3⟩ | ⟨q2, q3⟩⟩ | ⟨q1, ⟨q2, q3⟩ | ⟨q2, q3⟩⟩⟩
        · rw [q]; exact h
        all_goals (rw [q1] at h; cases h)
      · rcases char i with ⟨q, hq⟩ | ⟨j, d0, d', v, hv, hσ, ⟨q1, ⟨q2, q3⟩ | ⟨q2, q3⟩⟩ | ⟨q1, ⟨q2, q3⟩ | ⟨q2, q3⟩⟩⟩
        · exact ⟨s, by rw [q]; exact h, k⟩
        all_goals exact ⟨_, q3, rfl⟩
    refine ⟨t2.trans big, fun d v h => ?_⟩
    obtain ⟨a, rfl, m, h0, no⟩ := h
    refine ⟨a, rfl, m, ?_, fun q => ?_⟩
    · by_cases z : H a = none
      · exact z
      · exact absurd h0 (t.there a z)
    · obtain ⟨_, o, ho⟩ := R.ownNone (big.ownA' q)
      rw [h0] at ho; cases ho
end
end PL
end

section
/-! what was lent comes back -/
namespace PL
open PySem PySem.Spec L2

variable {C : G0}
mutual
theorem rep_tup {F G : Hp} (k : ∀ b o, F b = some o → (∀ vs, o ≠ .lst vs) → G b = some o) : ∀ {d : D} {v : V}, tupD d = true → Rep C F d v → Rep C G d v
  | .non, _, _, h => by rw [Rep] at h ⊢; exact h
  | .bl _, _, _, h => by rw [Rep] at h ⊢; exact h
  | .int _, _, _, h => by rw [Rep] at h ⊢; exact h
  | .str _, _, _, h => by rw [Rep] at h ⊢; exact h
  | .tup ds, _, t, h => by
    rw [Rep] at h ⊢
    rw [tupD] at t
    obtain ⟨a, vs, e, h1, h2⟩ := h
    refine ⟨a, vs, e, h1.imp (fun r => ?_) id, repl_tup k t h2⟩
    rcases r with r | ⟨o, r⟩
    · exact .inl (k _ _ r (fun vs q => by cases q))
    · exact .inr ⟨o, k _ _ r (fun vs q => by cases q)⟩
  | .lst _, _, t, _ => by simp [tupD] at t
  | .scr _, _, t, _ => by simp [tupD] at t
  | .dk _ _, _, t, _ => by simp [tupD] at t
  | .dt _ _, _, t, _ => by simp [tupD] at t
  | .fn _, _, t, _ => by simp [tupD] at t
  | .exn _ _, _, t, _ => by simp [tupD] at t
theorem repl_tup {F G : Hp} (k : ∀ b o, F b = some o → (∀ vs, o ≠ .lst vs) → G b = some o) : ∀ {ds : List D} {vs : List V}, tupL ds = true → RepL C F ds vs → RepL C G ds vs
  | [], _, _, h => by rw [RepL] at h ⊢; exact h
  | d :: ds, _, t, h => by
    rw [RepL] at h ⊢
    rw [tupL, Bool.and_eq_true] at t
    obtain ⟨v, r, e, h1, h2⟩ := h
    exact ⟨v, r, e, rep_tup k t.1 h1, repl_tup k t.2 h2⟩
end
open Classical in
theorem thaw_ok {as as' : List SV} {F2 F' H1 H' : Hp} {σ : St} (sr : SR C as F2 σ H1) (hv : ∀ s ∈ as, (∃ d, s = .val d) ∨ ∃ d, s = .bor d) (u : TrE C as F2 σ H1 as' F' H') (hp : as'.all purA = true) :
    ∃ G, TrE C as F2 σ H1 (thaw as as') G H' ∧ ∀ d v, tupD d = true → Rep C F' d v → Rep C G d v := by
  have hl : as'.length = as.length := u.len
  have hg : ∀ {j : Nat} {a : SV}, as[j]? = some a → (∃ d, a = .val d) ∨ ∃ d, a = .bor d := fun h => hv _ (List.mem_of_getElem? h)
  have tg : ∀ {j : Nat} {s : SV}, (thaw as as')[j]? = some s → ∃ a b, as[j]? = some a ∧ as'[j]? = some b ∧ s = thaw1 a b := fun {j s} h => by
    unfold thaw at h
    rw [List.getElem?_zipWith] at h
    split at h
    · next a b h1 h2 => cases h; exact ⟨a, b, h1, h2, rfl⟩
    · cases h
  have gt : ∀ {j : Nat} {a b : SV}, as[j]? = some a → as'[j]? = some b → (thaw as as')[j]? = some (thaw1 a b) := fun {j a b} h1 h2 => by
    unfold thaw
    rw [List.getElem?_zipWith, h1, h2]
  have bl : ∀ {j : Nat} {d : D}, as[j]? = some (.bor d) → ∃ x ds vs, σ[j]? = some (some (.ref x)) ∧ (as'[j]? = some (.bor (.lst ds)) ∨ as'[j]? = some (.fro (.lst ds))) ∧ tupL ds = true ∧ H' x = some (.lst vs) ∧ RepL C F' ds vs ∧ (F' x = none ∨ F' x = some (.lst vs)) := fun {j d} h => by
    obtain ⟨_, d', q⟩ := u.bor j d h
    obtain ⟨x, hx, _⟩ := sr.slot j _ h
    rcases q with q | q
    · have pu := List.all_eq_true.mp hp _ (List.mem_of_getElem? q)
      have z := u.sr.slot j _ q
      obtain ⟨y, hy, mm⟩ := z
      rw [hx] at hy; cases hy
      cases d' with
      | lst ds =>
        obtain ⟨m1, vs, m2, m3⟩ := mm
        exact ⟨x, ds, vs, hx, .inl q, pu, m2, m3, .inl m1⟩
      | _ => simp [purA, lstT] at pu
    · have pu := List.all_eq_true.mp hp _ (List.mem_of_getElem? q)
      have z := u.sr.slot j _ q
      obtain ⟨v, hy, mm⟩ := z
      rw [hx] at hy; cases hy
      cases d' with
      | lst ds =>
        rw [Rep] at mm
        obtain ⟨a, vs, e, m2, m3⟩ := mm
        cases e
        exact ⟨x, ds, vs, hx, .inr q, pu, u.sr.sub _ _ m2, m3, .inr m2⟩
      | _ => simp [purA, lstT] at pu
  have ow : ∀ {b : Addr}, OwnA as σ b → ∃ (j : Nat) (d : D), as[j]? = some (SV.bor d) ∧ σ[j]? = some (some (V.ref b)) := fun ⟨j, s, h1, h2, h3⟩ => by
    rcases hg h1 with ⟨d, rfl⟩ | ⟨d, rfl⟩
    · cases h2
    · exact ⟨j, d, h1, h3⟩
  have owF : ∀ {b : Addr}, OwnA as σ b → F' b = none ∨ ∃ vs, F' b = some (.lst vs) := fun h => by
    obtain ⟨j, d, h1, h2⟩ := ow h
    obtain ⟨x, ds, vs, k1, _, _, _, _, k2⟩ := bl h1
    rw [h2] at k1; cases k1
    rcases k2 with k2 | k2
    · exact .inl k2
    · exact .inr ⟨vs, k2⟩
  have km : ∀ b o, F' b = some o → (∀ vs, o ≠ .lst vs) → (fun b => if OwnA as σ b then none else F' b) b = some o := fun b o h1 h2 => by
    show (if OwnA as σ b then none else F' b) = some o
    by_cases hb : OwnA as σ b
    · rcases owF hb with q | ⟨vs, q⟩
      · rw [q] at h1; cases h1
      · rw [q] at h1; cases h1; exact absurd rfl (h2 vs)
    · rw [if_neg hb]; exact h1
  have sG : Sub F2 (fun b => if OwnA as σ b then none else F' b) := fun b o h => by
    show (if OwnA as σ b then none else F' b) = some o
    by_cases hb : OwnA as σ b
    · rw [(sr.ownNone hb).1] at h; cases h
    · rw [if_neg hb]; exact u.fs b o h
  have G' : ∀ b o, (fun b => if OwnA as σ b then none else F' b) b = some o → ¬ OwnA as σ b ∧ F' b = some o := fun b o h => by
    by_cases hb : OwnA as σ b
    · simp only [if_pos hb] at h; cases h
    · simp only [if_neg hb] at h; exact ⟨hb, h⟩
  have mn : ∀ {j : Nat} {s : SV}, (thaw as as')[j]? = some s → s.mine = true → ∃ d, as[j]? = some (.bor d) := fun {j s} h m => by
    obtain ⟨a, b, h1, h2, rfl⟩ := tg h
    rcases hg h1 with ⟨d, rfl⟩ | ⟨d, rfl⟩
    · cases b <;> cases m
    · exact ⟨d, h1⟩
  have ex : ∀ {j : Nat} {a : SV}, as[j]? = some a → ∃ b, as'[j]? = some b := fun {j a} h => by
    have := (List.getElem?_eq_some_iff.mp h).1
    exact ⟨as'[j]'(by omega), List.getElem?_eq_getElem _⟩
  refine ⟨fun b => if OwnA as σ b then none else F' b, ⟨⟨⟨fun b o h => u.sr.sub b o (G' b o h).2, fun j s h => ?_, fun i j s t a h1 h2 m1 m2 a1 a2 => ?_, ?_⟩, sG, u.keep, u.there, fun b o h => u.new b o (G' b o h).2, fun i d a h _ => ?_, fun i d' h => ?_, fun i d h => ⟨rfl, ?_⟩, fun i d h => ?_, ?_⟩, fun i s h k => ?_, fun i s' h m => ?_⟩, fun d v t r => rep_tup km t r⟩
  · obtain ⟨a, b, h1, h2, rfl⟩ := tg h
    rcases hg h1 with ⟨d, rfl⟩ | ⟨d, rfl⟩
    · obtain ⟨v, q1, q2⟩ := sr.slot j _ h1
      have : thaw1 (.val d) b = .val d := by cases b <;> rfl
      rw [this]
      exact ⟨v, q1, q2.mono sG⟩
    · obtain ⟨x, ds, vs, k1, k2, k3, k4, k5, k6⟩ := bl h1
      have : thaw1 (.bor d) b = .bor (.lst ds) := by
        rcases k2 with q | q <;> (rw [h2] at q; cases q; rfl)
      rw [this]
      have hx : OwnA as σ x := ⟨j, _, h1, rfl, k1⟩
      exact ⟨x, k1, if_pos hx, vs, k4, repl_tup km k3 k5⟩
  · obtain ⟨d1, q1⟩ := mn h1 m1
    obtain ⟨d2, q2⟩ := mn h2 m2
    exact sr.dis i j _ _ a q1 q2 rfl rfl a1 a2
  · unfold thaw
    rw [List.length_zipWith, hl, Nat.min_self]; exact sr.len
  · exfalso
    obtain ⟨a, b, h1, h2, e⟩ := tg h
    rcases hg h1 with ⟨d, rfl⟩ | ⟨d, rfl⟩ <;> cases b <;> cases e
  · exact mn h rfl
  · obtain ⟨b, hb⟩ := ex h
    obtain ⟨x, ds, vs, k1, k2, _⟩ := bl h
    refine ⟨.lst ds, .inl ?_⟩
    rcases k2 with q | q <;> exact gt h q
  · rcases hg h with ⟨_, q⟩ | ⟨_, q⟩ <;> cases q
  · unfold thaw
    rw [List.length_zipWith, hl, Nat.min_self]
  · obtain ⟨b, hb⟩ := ex h
    refine ⟨_, gt h hb, ?_⟩
    rcases hg h with ⟨d, rfl⟩ | ⟨d, rfl⟩
    · cases b <;> rfl
    · cases b <;> rfl
  · obtain ⟨d, q⟩ := mn h m
    exact ⟨_, q, rfl⟩
end PL
end

section
namespace PL
open PySem PySem.Spec L2

section
variable {T : GT} {C : G0} {n : Nat} {W : WX} {c : CC} {X : Cx}
theorem callF_stuck {n g : Nat} {as : List SV} (h : T.fns[g]? = none) : callF T n g as = .stuck := by
  cases n with
  | zero => rfl
  | succ n => simp only [callF, h]
theorem callF_len {n g : Nat} {as : List SV} {F : FnD} (h : T.fns[g]? = some F) (k : callF T n g as ≠ .stuck) : as.length = F.ps.length := by
  cases n with
  | zero => exact absurd rfl k
  | succ n =>
    simp only [callF, h] at k
    split at k
    · assumption
    · exact absurd rfl k
/-- what a def asks, from the outcome of the call -/
theorem spi_of {e e1 : EV} {F F1 H H1 : Hp} {σ : St} {rs : List RV} {vs : List V} {g : Nat} {Q : VK} (t : TrE C e F σ H e1 F1 H1) (r : RVs C H F1 σ H1 e1 rs vs)
    (q : PostE C W e F σ H (doCall (callF T n) g rs e1) Q) : ∃ fn, T.fns[g]? = some fn ∧ SpI T C n g fn.ps.length vs H1 Q (WE W σ) := by
  unfold doCall at q
  split at q
  · rename_i nd
    cases ha : argsOf e1 rs with
    | none => rw [ha] at q; exact q.elim
    | some as =>
      rw [ha] at q
      dsimp only at q
      obtain ⟨F2, sr, hl, hv, k⟩ := call_ok t r nd ha
      cases hf : T.fns[g]? with
      | none => rw [callF_stuck hf] at q; exact q.elim
      | some fn =>
        refine ⟨fn, rfl, as, F2, ?_, hv, sr, ?_⟩
        · rw [← hl]
          refine callF_len (n := n) hf fun z => ?_
          rw [z] at q; exact q
        · cases hc : callF T n g as with
          | stuck => rw [hc] at q; exact q
          | exc x p as' =>
            rw [hc] at q
            exact fun F' H' u => q F' H' (k as' F' H' u).1
          | ok z as' =>
            rw [hc] at q
            intro v F' H' u rv
            obtain ⟨k1, k2⟩ := k as' F' H' u
            refine q v F' H' k1 ?_
            cases z with
            | v d => exact rv
            | t d => exact k2 d v rv
            | h i =>
              exfalso
              have : ∀ as o, fin as o ≠ .ok (.h i) as' := fun as o => by
                unfold fin
                split <;> simp
              cases n with
              | zero => cases hc
              | succ n =>
                simp only [callF, hf] at hc
                split at hc
                · exact this _ _ hc
                · cases hc
  · exact q.elim
/-! ### no stars -/
theorem spi_ofT {e e1 : EV} {F F1 H H1 : Hp} {σ : St} {rs : List RV} {vs : List V} {g : Nat} {Q : VK} (t : TrE C e F σ H e1 F1 H1) (r : RVs C H F1 σ H1 e1 rs vs)
    (q : PostE C W e F σ H (doCallT (callF T n) g rs e1) Q) : ∃ fn, T.fns[g]? = some fn ∧ SpI T C n g fn.ps.length vs H1 Q (WE W σ) := by
  unfold doCallT at q
  split at q
  · rename_i nd
    cases ha : argsOf e1 rs with
    | none => rw [ha] at q; exact q.elim
    | some as =>
      rw [ha] at q
      dsimp only at q
      obtain ⟨F2, sr, hl, hv, k⟩ := call_ok t r nd ha
      cases hf : T.fns[g]? with
      | none => rw [callF_stuck hf] at q; exact q.elim
      | some fn =>
        refine ⟨fn, rfl, as, F2, ?_, hv, sr, ?_⟩
        · rw [← hl]
          refine callF_len (n := n) hf fun z => ?_
          rw [z] at q; exact q
        · cases hc : callF T n g as with
          | stuck => rw [hc] at q; exact q
          | exc x p as' =>
            rw [hc] at q
            exact fun F' H' u => q F' H' (k as' F' H' u).1
          | ok z as' =>
            rw [hc] at q
            intro v F' H' u rv
            cases z with
            | v d =>
              dsimp only at q
              split at q
              · rename_i hq
                rw [Bool.and_eq_true] at hq
                obtain ⟨G, k1, k2⟩ := thaw_ok sr hv u hq.2
                exact q v G H' (k _ G H' k1).1 (k2 d v hq.1 rv)
              · exact q.elim
            | t d => exact q.elim
            | h i => exact q.elim
  · exact q.elim
def nst : Expr → Bool
  | .Starred .. => false
  | _ => true
theorem star_cons {x : Expr} {xs : List Expr} {env : Env} (h : nst x = true) : starEach (x :: xs) env = (false, eval x env) :: starEach xs env := by
  cases x <;> first | rfl | cases h
theorem star_any {pos : Pos} {env : Env} : ∀ {xs : List Expr}, xs.all nst = true → (backTo pos (starEach xs env)).any (·.1) = false
  | [], _ => rfl
  | x :: xs, h => by
    rw [List.all_cons, Bool.and_eq_true] at h
    rw [star_cons h.1]
    show (false || (backTo pos (starEach xs env)).any (·.1)) = false
    rw [star_any h.2]; rfl
theorem star_all {pos : Pos} {env : Env} : ∀ {xs : List Expr}, xs.all nst = true → (backTo pos (starEach xs env)).all (fun x => !x.1) = true
  | [], _ => rfl
  | x :: xs, h => by
    rw [List.all_cons, Bool.and_eq_true] at h
    rw [star_cons h.1]
    show (!false && (backTo pos (starEach xs env)).all (fun x => !x.1)) = true
    rw [star_all h.2]; rfl
theorem run_sp (G : Good T C n W c X) (hc : c.calm = true) {g : Nat} {fn : FnD} {pins : List (Addr × Obj)} {σ : St} {H : Hp} {s : Shared} {Q : VK} {us : List Value} {vs : List V} (hf : T.fns[g]? = some fn)
    (I : Inv X pins σ H s) (r : Vals vs us) (h : SpI T C n g fn.ps.length vs H Q (WE W σ)) : wpAny (model X.prog X.w) X.A (call (.ref (C.gv g)) us) (EP X pins σ Q) X.xe s := by
  obtain ⟨hk, fd, F, hb, _⟩ := G.gl.fns g fn hf
  rw [← G.K] at F hb
  exact run_fnSD (E := WE W) F (G.room hc) hb .nil (passAt G.tk σ) I r (by rw [List.append_nil]; exact h)
/-- the arguments, then the call -/
theorem call_with (G : Good T C n W c X) (hc : c.calm = true) {g : Nat} (hlt : g < T.fns.length) {as : List E} {xs : List Expr} {pos : Pos} {pins : List (Addr × Obj)} {σ : St} {H : Hp} {s : Shared} {Q : VK} (ha : PA X xs (RA T C n W as)) (hs : xs.all nst = true) (hl : as.length = xs.length)
    (I : Inv X pins σ H s) {e : EV} {F : Hp} (R : SR C e F σ H) (q : PostE C W e F σ H ((evA T (callF T n) as e).bd fun rs e1 => doCall (callF T n) g rs e1) Q) :
    wpAny (model X.prog X.w) X.A (callWith pos (.ref (C.gv g)) [] (backTo pos (starEach xs X.env)) (backToKw pos (keywordEach [] X.env))) (EP X pins σ Q) X.xe s := by
  have hk : ∀ {fn}, T.fns[g]? = some fn → PySem.W.keepIn X.K (.ref (C.gv g)) = true := fun {fn} hf => by rw [G.K]; exact (G.gl.fns g fn hf).1
  cases xs with
  | nil =>
    cases as with
    | cons a as => cases hl
    | nil =>
      simp only [evA, bd_ok] at q
      obtain ⟨fn, hf, sp⟩ := spi_of (TrE.refl R) (show RVs C H F σ H e [] [] from rfl) q
      exact PySem.W.callWith_K0 I.kIn (hk hf) (run_sp G hc hf I .nil sp)
  | cons x xs =>
    rw [List.all_cons, Bool.and_eq_true] at hs
    have main : RA T C n W as σ H fun vs H1 => ∃ fn, T.fns[g]? = some fn ∧ SpI T C n g fn.ps.length vs H1 Q (WE W σ) :=
      ⟨e, F, R, PostE.firstA0 q fun rs e1 vs F1 H1 t1 r1 q => spi_of t1 r1 q⟩
    refine PySem.W.callWith_K (h₀ := X.base) I.ok.mod.kin (hk (List.getElem?_eq_getElem hlt)) (thn (ha.run pos pins s σ H _ I main) fun us s1 ⟨vs, H1, I1, r, q⟩ => ⟨I1.kIn, ?_⟩) (star_cons hs.1) (star_any hs.2)
    obtain ⟨fn, hf, sp⟩ := q
    exact run_sp G hc hf I1 r sp
theorem s_call (G : Good T C n W c X) (hc : c.calm = true) {g : Nat} {as : List E} {x : Str} {xs : List Expr} {p pos : Pos} (h : c.fn[g]? = some x) (hg : glB c.sc x = true) (ha : PA X xs (RA T C n W as)) (hs : xs.all nst = true) (hl : as.length = xs.length) :
    PE X (.Call (.Name x p) xs [] pos) (RE T C n W (.call g as)) := by
  obtain ⟨g1, g2, g3⟩ := G.glb hg
  obtain ⟨hm, hlt⟩ := G.gl.names g x h
  refine ⟨fun pins s σ H Q I ⟨e, F, R, q⟩ => ?_⟩
  refine wpAny_Call_Name_kw (ld_glob I g1 hm ?_ g2)
  exact call_with G hc hlt ha hs hl I R (by simpa only [evE, tst_false] using q)
theorem call_withT (G : Good T C n W c X) (hc : c.calm = true) {g : Nat} (hlt : g < T.fns.length) {as : List E} {xs : List Expr} {pos : Pos} {pins : List (Addr × Obj)} {σ : St} {H : Hp} {s : Shared} {Q : VK} (ha : PA X xs (RA T C n W as)) (hs : xs.all nst = true) (hl : as.length = xs.length)
    (I : Inv X pins σ H s) {e : EV} {F : Hp} (R : SR C e F σ H) (q : PostE C W e F σ H ((evA T (callF T n) as e).bd fun rs e1 => doCallT (callF T n) g rs e1) Q) :
    wpAny (model X.prog X.w) X.A (callWith pos (.ref (C.gv g)) [] (backTo pos (starEach xs X.env)) (backToKw pos (keywordEach [] X.env))) (EP X pins σ Q) X.xe s := by
  have hk : ∀ {fn}, T.fns[g]? = some fn → PySem.W.keepIn X.K (.ref (C.gv g)) = true := fun {fn} hf => by rw [G.K]; exact (G.gl.fns g fn hf).1
  cases xs with
  | nil =>
    cases as with
    | cons a as => cases hl
    | nil =>
      simp only [evA, bd_ok] at q
      obtain ⟨fn, hf, sp⟩ := spi_ofT (TrE.refl R) (show RVs C H F σ H e [] [] from rfl) q
      exact PySem.W.callWith_K0 I.kIn (hk hf) (run_sp G hc hf I .nil sp)
  | cons x xs =>
    rw [List.all_cons, Bool.and_eq_true] at hs
    have main : RA T C n W as σ H fun vs H1 => ∃ fn, T.fns[g]? = some fn ∧ SpI T C n g fn.ps.length vs H1 Q (WE W σ) :=
      ⟨e, F, R, PostE.firstA0 q fun rs e1 vs F1 H1 t1 r1 q => spi_ofT t1 r1 q⟩
    refine PySem.W.callWith_K (h₀ := X.base) I.ok.mod.kin (hk (List.getElem?_eq_getElem hlt)) (thn (ha.run pos pins s σ H _ I main) fun us s1 ⟨vs, H1, I1, r, q⟩ => ⟨I1.kIn, ?_⟩) (star_cons hs.1) (star_any hs.2)
    obtain ⟨fn, hf, sp⟩ := q
    exact run_sp G hc hf I1 r sp
theorem s_callt (G : Good T C n W c X) (hc : c.calm = true) {g : Nat} {as : List E} {x : Str} {xs : List Expr} {p pos : Pos} (h : c.fn[g]? = some x) (hg : glB c.sc x = true) (ha : PA X xs (RA T C n W as)) (hs : xs.all nst = true) (hl : as.length = xs.length) :
    PE X (.Call (.Name x p) xs [] pos) (RE T C n W (.callt g as)) := by
  obtain ⟨g1, g2, g3⟩ := G.glb hg
  obtain ⟨hm, hlt⟩ := G.gl.names g x h
  refine ⟨fun pins s σ H Q I ⟨e, F, R, q⟩ => ?_⟩
  refine wpAny_Call_Name_kw (ld_glob I g1 hm ?_ g2)
  exact call_withT G hc hlt ha hs hl I R (by simpa only [evE, tst_false] using q)
theorem s_calld (G : Good T C n W c X) (hc : c.calm = true) {i : Nat} {as : List E} {x : Str} {xs : List Expr} {p pos : Pos} (h : nmB c i x = true) (ha : PA X xs (RA T C n W as)) (hs : xs.all nst = true) (hl : as.length = xs.length) :
    PE X (.Call (.Name x p) xs [] pos) (RE T C n W (.calld i as)) := by
  refine ⟨fun pins s σ H Q I ⟨e, F, R, q⟩ => ?_⟩
  simp only [evE, tst_false] at q
  split at q
  · rename_i g eg
    obtain ⟨v, h1, h2⟩ := R.slot i _ eg
    rw [Rep] at h2
    subst h2
    refine wpAny_Call_Name_kw (thn ((G.nm (pos := p) h).run pins s σ H (fun v H1 => v = .ref (C.gv g) ∧ H1 = H) I ⟨_, h1, rfl, rfl⟩) fun u s1 ⟨v, H1, I1, r1, q1⟩ => ?_)
    obtain ⟨rfl, rfl⟩ := q1
    cases r1
    split at q
    · rename_i hlt
      exact call_with G hc hlt ha hs hl I1 R q
    · exact q.elim
  · exact q.elim
end
end PL
end

section
namespace PL
open PySem PySem.Spec L2

/-! ### calls with keywords -/
theorem Paired.lookup {α β : Type} {R : α → β → Prop} {p : Str} : ∀ {ks : List Str} {xs : List α} {ys : List β}, Paired R xs ys → ((ks.zip xs).lookup p = none ∧ (ks.zip ys).lookup p = none) ∨ ∃ x y, (ks.zip xs).lookup p = some x ∧ (ks.zip ys).lookup p = some y ∧ R x y
  | [], _, _, _ => .inl ⟨rfl, rfl⟩
  | k :: ks, _, _, .nil => .inl ⟨rfl, rfl⟩
  | k :: ks, x :: xs, y :: ys, .cons r t => by
    simp only [List.zip_cons_cons, List.lookup_cons]
    cases p == k with
    | true => exact .inr ⟨x, y, rfl, rfl, r⟩
    | false => exact Paired.lookup t
theorem Paired.fm {α β : Type} {R : α → β → Prop} {ks : List Str} {xs : List α} {ys : List β} (h : Paired R xs ys) : ∀ ps : List Str, Paired R (ps.filterMap fun p => (ks.zip xs).lookup p) (ps.filterMap fun p => (ks.zip ys).lookup p)
  | [] => .nil
  | p :: ps => by
    rcases Paired.lookup (p := p) (ks := ks) h with ⟨h1, h2⟩ | ⟨x, y, h1, h2, r⟩
    · simp only [List.filterMap_cons, h1, h2]; exact Paired.fm h ps
    · simp only [List.filterMap_cons, h1, h2]; exact .cons r (Paired.fm h ps)
theorem Paired.app {α β : Type} {R : α → β → Prop} {xs xs' : List α} {ys ys' : List β} (h : Paired R xs ys) (k : Paired R xs' ys') : Paired R (xs ++ xs') (ys ++ ys') := by
  induction h with
  | nil => exact k
  | cons r t ih => exact .cons r ih
theorem Paired.kw {α β : Type} {R : α → β → Prop} {ps ks : List Str} {xs zs : List α} {ys ws : List β} (h : Paired R xs ys) (k : Paired R zs ws) : Paired R (kwSort ps ks xs zs) (kwSort ps ks ys ws) := by
  unfold kwSort
  rw [Paired.length h]
  exact Paired.app h (Paired.fm k _)
theorem RVs.pair {C : G0} {H0 F H : Hp} {σ : St} {e : EV} : ∀ {rs : List RV} {vs : List V}, RVs C H0 F σ H e rs vs → Paired (RVok C H0 F σ H e) rs vs
  | [], _, h => by have h : _ = [] := h; subst h; exact .nil
  | r :: rs, _, ⟨v, ws, e, a, b⟩ => by subst e; exact .cons a (RVs.pair b)
theorem RVs.ofPair {C : G0} {H0 F H : Hp} {σ : St} {e : EV} : ∀ {rs : List RV} {vs : List V}, Paired (RVok C H0 F σ H e) rs vs → RVs C H0 F σ H e rs vs
  | _, _, .nil => rfl
  | _, _, .cons a b => ⟨_, _, rfl, a, RVs.ofPair b⟩
section
variable {T : GT} {C : G0} {n : Nat} {W : WX} {c : CC} {X : Cx}
theorem evA_len {cf : Nat → List SV → CO} : ∀ {as : List E} {e e' : EV} {rs : List RV}, evA T cf as e = .ok rs e' → rs.length = as.length
  | [], e, e', rs, h => by simp only [evA] at h; cases h; rfl
  | a :: as, e, e', rs, h => by
    simp only [evA] at h
    obtain ⟨r, e1, _, h⟩ := bd_eq h
    obtain ⟨rs', e2, h1, h⟩ := bd_eq h
    cases h
    simp [evA_len h1]
theorem run_fnkS {CX : CXT} {k : Nat} {f : Addr} {fd : FuncData} {ps ks : List Str} {sp : Sp} {E : St → XK} {g : List Value → List Value → List Value} {gV : List V → List V → List V} {pins : List (Addr × Obj)} {σ : St} {H : Hp} {s : Shared} {Q : VK} {us ws : List Value} {vs zs : List V} (F : FnOk X.prog X.w X.K X.mg X.base CX k f fd ps sp) (hr : Room k X.A) (hb : KBinds X.K fd ps ks g gV) (hx : PassesAt CX X σ (E σ))
    (I : Inv X pins σ H s) (r : Vals vs us) (rz : Vals zs ws) (h : sp (gV vs zs) H Q (E σ)) : wpAny (model X.prog X.w) X.A (call (.ref f) us (ks.zip ws)) (EP X pins σ Q) X.xe s := by
  have r2 := hb.rel r rz
  have hl : (g us ws).length = ps.length := by rw [← r2.length]; exact F.len _ _ _ _ h
  refine wpAny_call (codeAny_mono (F.run X.A X.stack s H ⟨us, ks.zip ws⟩ (g us ws) (gV vs zs) Q (E σ) hr I.env0 (hb.to s us ws I.kIn hl) r2 h) fun r s' hq => ?_)
  cases r with
  | error e => exact hx pins H s e s' I hq
  | ok fl =>
    cases fl with
    | ret u => exact I.after hq
    | next => exact False.elim hq
    | brk => exact False.elim hq
    | cont => exact False.elim hq
/-- keywords with names -/
def kwNames : List Keyword → List Str → Bool
  | [], [] => true
  | ⟨some n, _, _⟩ :: xs, k :: ks => decide (k = n) && kwNames xs ks
  | _, _ => false
theorem kw_all {pos : Pos} {env : Env} : ∀ {kws : List Keyword} {ks : List Str}, kwNames kws ks = true → (backToKw pos (keywordEach kws env)).all (·.1.isSome) = true ∧ (backToKw pos (keywordEach kws env)).filterMap (·.1) = ks ∧ (backToKw pos (keywordEach kws env)).any (·.1.isNone) = false
  | [], [], _ => ⟨rfl, rfl, rfl⟩
  | ⟨some n, x, p⟩ :: xs, k :: ks, h => by
    simp only [kwNames, Bool.and_eq_true] at h
    obtain ⟨h1, h2, h3⟩ := kw_all (pos := pos) (env := env) h.2
    have e := of_decide_eq_true h.1
    subst e
    refine ⟨?_, ?_, ?_⟩
    · show (true && (backToKw pos (keywordEach xs env)).all (·.1.isSome)) = true; rw [h1]; rfl
    · show k :: (backToKw pos (keywordEach xs env)).filterMap (·.1) = _; rw [h2]
    · show (false || (backToKw pos (keywordEach xs env)).any (·.1.isNone)) = false; rw [h3]; rfl
  | [], _ :: _, h => by simp [kwNames] at h
  | ⟨none, _, _⟩ :: _, _, h => by simp [kwNames] at h
  | ⟨some _, _, _⟩ :: _, [], h => by simp [kwNames] at h
theorem s_knil : PK X [] (RA T C n W []) := ⟨fun pos pins s σ H Q I ⟨e, F, R, q⟩ => by
  simp only [evA] at q
  exact pk_nil.run pos pins s σ H Q I (q [] F H (TrE.refl R) rfl)⟩
theorem s_kcons {a : E} {as : List E} {x : Expr} {nm : Option Str} {kp : Pos} {kws : List Keyword} (ha : PE X x (RE T C n W a)) (hr : PK X kws (RA T C n W as)) : PK X (⟨nm, x, kp⟩ :: kws) (RA T C n W (a :: as)) := ⟨fun pos pins s σ H Q I ⟨e, F, R, q⟩ => by
  refine (pk_cons ha hr).run pos pins s σ H Q I ⟨e, F, R, ?_⟩
  simp only [evA] at q
  revert q
  generalize evE T (callF T n) false a e = o
  intro q
  cases o with
  | exc c p e' => exact q
  | stuck => exact q
  | ok r e1 =>
    intro v F1 H1 t r1
    refine ⟨e1, F1, t.sr, ?_⟩
    simp only [bd_ok] at q
    revert q
    generalize evA T (callF T n) as e1 = o
    intro q
    cases o with
    | exc c p e' => exact fun F' H' t' => q F' H' (t.trans t')
    | stuck => exact q
    | ok rs e2 => exact fun vs F2 H2 t2 r2 => q (v :: vs) F2 H2 (t.trans t2) ⟨v, vs, rfl, r1.mono t2, r2.back t.there⟩⟩
theorem s_callk (G : Good T C n W c X) (hc : c.calm = true) {g : Nat} {as ws : List E} {ks : List Str} {x : Str} {xs : List Expr} {kws : List Keyword} {p pos : Pos} (h : c.fn[g]? = some x) (hg : glB c.sc x = true) (ha : PA X xs (RA T C n W as)) (hs : xs.all nst = true) (hl : as.length = xs.length)
    (hk : PK X kws (RA T C n W ws)) (hn : kwNames kws ks = true) (hw : ws.length = ks.length) (hkw : (g, ks, as.length) ∈ c.kw) : PE X (.Call (.Name x p) xs kws pos) (RE T C n W (.callk g as ks ws)) := by
  obtain ⟨g1, g2, g3⟩ := G.glb hg
  obtain ⟨hm, hlt⟩ := G.gl.names g x h
  obtain ⟨fn, hf⟩ : ∃ fn, T.fns[g]? = some fn := ⟨_, List.getElem?_eq_getElem hlt⟩
  obtain ⟨hkp, fd, F, hb, kb⟩ := G.gl.fns g fn hf
  have kb := kb ks as.length hkw
  rw [← G.K] at F kb hkp
  obtain ⟨n1, n2, n3⟩ := kw_all (pos := pos) (env := X.env) hn
  refine ⟨fun pins s σ H Q I ⟨e, F0, R, q⟩ => ?_⟩
  refine wpAny_Call_Name_kw (ld_glob I g1 hm ?_ g2)
  simp only [evE, tst_false] at q
  have inner : ∀ rs e1 vs F1 H1, rs.length = as.length → TrE C e F0 σ H e1 F1 H1 → RVs C H F1 σ H1 e1 rs vs → PostE C W e F0 σ H ((evA T (callF T n) ws e1).bd fun qs e2 => opt T.fns[g]? fun F => doCall (callF T n) g (kwSort F.ps ks rs qs) e2) Q →
      RA T C n W ws σ H1 fun zs H2 => zs.length = ks.length ∧ SpI T C n g fn.ps.length (kwSort fn.ps ks vs zs) H2 Q (WE W σ) := fun rs e1 vs F1 H1 hrl t1 r1 q => by
    refine ⟨e1, F1, t1.sr, ?_⟩
    cases ho : evA T (callF T n) ws e1 with
    | exc z p e' => rw [ho] at q; exact fun F' H' t' => q F' H' (t1.trans t')
    | stuck => rw [ho] at q; exact q
    | ok qs e2 =>
      rw [ho] at q
      simp only [bd_ok, hf, opt_some] at q
      intro zs F2 H2 t2 r2
      obtain ⟨fn', hf', sp⟩ := spi_of (t1.trans t2) (RVs.ofPair (Paired.kw (ps := fn.ps) (ks := ks) (r1.mono t2).pair (r2.back t1.there).pair)) q
      rw [hf] at hf'; cases hf'
      exact ⟨by rw [← r2.len, evA_len ho, hw], sp⟩
  have fin : ∀ {s2 : Shared} {H2 : Hp} {us uz : List Value} {vs zs : List V}, Inv X pins σ H2 s2 → Vals vs us → Vals zs uz → vs.length = as.length → zs.length = ks.length ∧ SpI T C n g fn.ps.length (kwSort fn.ps ks vs zs) H2 Q (WE W σ) →
      wpAny (model X.prog X.w) X.A (call (.ref (C.gv g)) us (ks.zip uz)) (EP X pins σ Q) X.xe s2 := fun {s2 H2 us uz vs zs} I2 r rz hvl q => by
    refine run_fnkS (E := WE W) F (G.room hc) kb (passAt G.tk σ) I2 r rz ?_
    unfold kwG
    rw [if_pos ⟨hvl, q.1⟩]
    exact q.2
  cases xs with
  | nil =>
    cases as with
    | cons a as => cases hl
    | nil =>
      simp only [evA, bd_ok] at q
      have q := inner [] e [] F0 H rfl (TrE.refl R) rfl q
      refine PySem.W.callWith_KW0 (h₀ := X.base) I.ok.mod.kin hkp n1 (thn (hk.run pos pins s σ H _ I q) fun uz s2 ⟨zs, H2, I2, rz, q2⟩ => ⟨I2.kIn, ?_⟩) (by rw [n3, Bool.or_false]; rfl)
      rw [n2]
      exact fin I2 .nil rz rfl q2
  | cons y xs =>
    rw [List.all_cons, Bool.and_eq_true] at hs
    have main : RA T C n W as σ H fun vs H1 => vs.length = as.length ∧ RA T C n W ws σ H1 fun zs H2 => zs.length = ks.length ∧ SpI T C n g fn.ps.length (kwSort fn.ps ks vs zs) H2 Q (WE W σ) := by
      refine ⟨e, F0, R, ?_⟩
      cases ho : evA T (callF T n) as e with
      | exc z p e' => rw [ho] at q; exact q
      | stuck => rw [ho] at q; exact q
      | ok rs e1 =>
        rw [ho] at q
        intro vs F1 H1 t1 r1
        exact ⟨by rw [← r1.len, evA_len ho], inner rs e1 vs F1 H1 (evA_len ho) t1 r1 q⟩
    refine PySem.W.callWith_KW (h₀ := X.base) I.ok.mod.kin hkp n1 (thn (ha.run pos pins s σ H _ I main) fun us s1 ⟨vs, H1, I1, r, hvl, q⟩ => ?_) (by rw [n3, star_any (by rw [List.all_cons, hs.1, hs.2]; rfl)]; rfl) (star_cons hs.1)
    refine thn (hk.run pos pins s1 σ H1 _ I1 q) fun uz s2 ⟨zs, H2, I2, rz, q2⟩ => ⟨I2.kIn, ?_⟩
    rw [n2]
    exact fin I2 r rz hvl q2
/-! ### isinstance -/
theorem tyX_rep {H : Hp} {d : D} {v : V} {t : String} (h : Rep C H d v) (k : tyNm d = some t) : TyX C.K H v (.type t) := by
  have sql : ∀ {a : Addr} {xs : List V}, SqL C.K H a xs → TyX C.K H (.ref a) (.type "list") := fun {a xs} h => by
    rcases h with (h | ⟨o, h⟩) | ⟨o, its, n, h1, h2, _⟩
    · exact .base (.lst h)
    · exact .base (.frz h)
    · exact .kList h1 h2
  cases d <;> simp only [tyNm] at k <;> cases k <;> rw [Rep] at h
  case non => subst h; exact .base .non
  case bl => subst h; exact .base (.bl _)
  case int => subst h; exact .base (.int _)
  case str => subst h; exact .base (.str _)
  case tup =>
    obtain ⟨a, vs, rfl, h1, h2⟩ := h
    rcases h1 with (h | ⟨o, h⟩) | ⟨o, its, n, h1, h2, _⟩
    · exact .base (.tup h)
    · exact .fTuple h
    · exact .kTuple h1 h2
  case lst => obtain ⟨a, vs, rfl, h1, h2⟩ := h; exact .base (.lst h1)
  case scr => obtain ⟨a, rfl, h1⟩ := h; exact sql h1
  case dk => obtain ⟨a, vs, rfl, h1, l, h2⟩ := h; exact .base (.dK h1)
theorem kit_nm {d : D} {t s : String} (k : tyNm d = some t) (h : tyOk.contains s = true) : kitB t s = some (isTy t s) := by
  have hs : s ∈ tyOk := List.contains_iff_mem.mp h
  have all : ∀ t ∈ ["NoneType", "bool", "int", "str", "tuple", "list", "dict"], ∀ s ∈ tyOk, kitB t s = some (isTy t s) := by decide +kernel
  refine all t ?_ s hs
  cases d <;> simp only [tyNm] at k <;> cases k <;> simp
theorem ty_boot : ∀ s ∈ tyOk, bootBuiltins (Str.ofString s) = some (.type s) ∧ s ∈ bnames := by decide +kernel
theorem s_ty (G : Good T C n W c X) {s : String} {x : Str} {p : Pos} (h : tyOk.contains s = true) (hx : x = Str.ofString s) (hg : glB c.sc x = true) : PE X (.Name x p) (tC (.ty s)) := by
  have hs : s ∈ tyOk := List.contains_iff_mem.mp h
  obtain ⟨g1, g2, g3⟩ := G.glb hg
  subst hx
  exact pe_bltn g1 (G.gl.bi s (ty_boot s hs).2) (ty_boot s hs).1 rfl g3 g2
theorem s_isi1 (G : Good T C n W c X) {a : E} {s : String} {y : Expr} {z : Str} {zp p pos : Pos} (ha : PE X y (RE T C n W a)) (hy : nst y = true) (hg : glB c.sc "isinstance" = true) (hs : tyOk.contains s = true) (hz : z = Str.ofString s) (hgz : glB c.sc z = true) :
    PE X (.Call (.Name "isinstance" p) [y, .Name z zp] [] pos) (RE T C n W (.isi a [s])) := by
  obtain ⟨g1, g2, g3⟩ := G.glb hg
  have hpa : PA X [y, .Name z zp] (tCons (RE T C n W a) (tCons (tC (.ty s)) tNil)) := pa_cons ha (pa_cons (s_ty G hs hz hgz) pa_nil) (star_cons hy)
  have hstar : [Expr.Name z zp].all nst = true := rfl
  refine (pe_callB call_isi g1 (G.gl.bi "isinstance" (by decide)) (by decide +kernel) hpa g3 g2 (star_cons hy) (star_any hstar)).to fun σ H Q => ?_
  rintro ⟨e, F, R, q⟩
  refine ⟨e, F, R, PostE.first (show PostE C W e F σ H ((evE T (callF T n) false a e).bd _) Q from q) fun ra e1 v1 F1 H1 t1 r1 q => ?_⟩
  obtain ⟨t, k1, q⟩ := q.opt
  obtain ⟨d, k1, k2⟩ := Option.bind_eq_some_iff.mp k1
  rw [if_pos (by rw [List.all_cons, hs]; rfl)] at q
  refine ⟨v1, .ty s, .type t, .type s, isTy t s, rfl, .ty s, ?_, kit_ty (kit_nm k2 hs), ?_⟩
  · rw [G.K]; exact tyX_rep (cont_rep t1.sr r1 k1) k2
  · have := q.val t1.sr (v := .bl (isTy t s)) (by simp only [List.any_cons, List.any_nil, Bool.or_false]; exact rep_bl)
    exact this
theorem kit_any {K : PySem.W.Frag} {d : D} {t : String} (k : tyNm d = some t) : ∀ {cs : List String}, cs.all tyOk.contains = true → PySem.W.kitAny K (.type t) (cs.map Value.type) = some (cs.any (isTy t))
  | [], _ => rfl
  | s :: cs, h => by
    rw [List.all_cons, Bool.and_eq_true] at h
    refine kitAny_cons (kit_ty (kit_nm k h.1)) (fun hf => ?_) fun ht => ?_
    · rw [List.any_cons, hf, Bool.false_or]; exact kit_any k h.2
    · rw [List.any_cons, ht, Bool.true_or]
theorem clsV_all : ∀ cs : List String, Paired ClsV (cs.map V.ty) (cs.map Value.type)
  | [] => .nil
  | s :: cs => .cons (.ty s) (clsV_all cs)
theorem names_pa (G : Good T C n W c X) : ∀ {cs : List String} {zs : List Expr}, cs.all tyOk.contains = true → tyNames cs zs = true → gNames c zs = true → PA X zs (fun _ H Q => Q (cs.map V.ty) H)
  | [], [], _, _, _ => pa_nil
  | s :: cs, .Name z p :: zs, h, h1, h2 => by
    rw [List.all_cons, Bool.and_eq_true] at h
    simp only [tyNames, tyName, Bool.and_eq_true] at h1
    simp only [gNames, Bool.and_eq_true] at h2
    exact pa_cons (s_ty G h.1 (of_decide_eq_true h1.1) h2.1) (names_pa G h.2 h1.2 h2.2)
  | [], _ :: _, _, h, _ => by simp [tyNames] at h
  | _ :: _, [], _, h, _ => by simp [tyNames] at h
  | s :: cs, z :: zs, h, h1, h2 => by
    cases z <;> first | (simp [gNames] at h2; done) | skip
    rename_i z p
    rw [List.all_cons, Bool.and_eq_true] at h
    simp only [tyNames, tyName, Bool.and_eq_true] at h1
    simp only [gNames, Bool.and_eq_true] at h2
    exact pa_cons (s_ty G h.1 (of_decide_eq_true h1.1) h2.1) (names_pa G h.2 h1.2 h2.2)
theorem s_isiT (G : Good T C n W c X) {a : E} {cs : List String} {y : Expr} {zs : List Expr} {k} {zp p pos : Pos} (ha : PE X y (RE T C n W a)) (hy : nst y = true) (hg : glB c.sc "isinstance" = true) (hz : tyNames cs zs = true) (hgz : gNames c zs = true) (hlen : cs.length ≤ 100) (hs : cs.all tyOk.contains = true) :
    PE X (.Call (.Name "isinstance" p) [y, .Tuple zs k zp] [] pos) (RE T C n W (.isi a cs)) := by
  obtain ⟨g1, g2, g3⟩ := G.glb hg
  have hpa : PA X [y, .Tuple zs k zp] (tCons (RE T C n W a) (tCons (tTup fun _ H Q => Q (cs.map V.ty) H) tNil)) := pa_cons ha (pa_cons (pe_tup (names_pa G hs hz hgz)) pa_nil) (star_cons hy)
  have hstar : [Expr.Tuple zs k zp].all nst = true := rfl
  refine (pe_callB call_isiT g1 (G.gl.bi "isinstance" (by decide)) (by decide +kernel) hpa g3 g2 (star_cons hy) (star_any hstar)).to fun σ H Q => ?_
  rintro ⟨e, F, R, q⟩
  refine ⟨e, F, R, PostE.first (show PostE C W e F σ H ((evE T (callF T n) false a e).bd _) Q from q) fun ra e1 v1 F1 H1 t1 r1 q => ?_⟩
  obtain ⟨t, k1, q⟩ := q.opt
  obtain ⟨d, k1, k2⟩ := Option.bind_eq_some_iff.mp k1
  rw [if_pos hs] at q
  refine ⟨by rw [List.length_map, ← sizeL_eq]; unfold sizeL; omega, fun tp htp => ?_⟩
  have t2 := (TrE.refl t1.sr).newT (o := .tup (cs.map V.ty)) htp
  refine ⟨v1, tp, cs.map V.ty, .type t, cs.map Value.type, cs.any (isTy t), rfl, upd_same, clsV_all cs, ?_, kit_any k2 hs, ?_⟩
  · rw [G.K]; exact tyX_rep ((cont_rep t1.sr r1 k1).mono fun b o h => by rw [upd_ne (ne_of_none h htp)]; exact h) k2
  · exact q (.bl _) _ _ t2 (show Rep C (upd F1 tp (.tup (cs.map V.ty))) (.bl _) (.bl _) from rep_bl)
theorem s_lrg (G : Good T C n W c X) {t : Bool} {a : E} {y w : Str} {z : Expr} {q q2 p2 pos : Pos} (hy : y = Str.ofString (if t then "tuple" else "list")) (hw : w = "range") (g1 : glB c.sc y = true) (g2 : glB c.sc w = true) (hc : c.calm = true) (hn : nst z = true) (ha : PE X z (RE T C n W a)) :
    PE X (.Call (.Name y q) [.Call (.Name w q2) [z] [] p2] [] pos) (RE T C n W (.lrg t a)) := by
  subst hw
  obtain ⟨k1, _, _⟩ := G.glb g1
  obtain ⟨k2, _, _⟩ := G.glb g2
  have m2 := G.gl.bi "range" (by decide)
  have hr : PRg X (.Call (.Name "range" q2) [z] [] p2) (tRg1 (RE T C n W a)) := prg_1 k2 m2 ha (star_cons hn)
  have na : starEach [Expr.Call (.Name "range" q2) [z] [] p2] X.env = (false, eval (.Call (.Name "range" q2) [z] [] p2) X.env) :: starEach [] X.env := rfl
  have rv : ∀ (F : Hp) (m : Int), RepL C F (rgI m) (rgV 0 m) := fun F m => by
    have e1 : rgI m = ((List.range m.toNat).map fun (k : Nat) => (0 + (k : Int))).map D.int := by unfold rgI; rw [List.map_map]; rfl
    have e2 : rgV 0 m = ((List.range m.toNat).map fun (k : Nat) => (0 + (k : Int))).map V.int := by unfold rgV; rw [List.map_map, Int.sub_zero]; rfl
    rw [e1, e2]; exact repL_ints _
  cases t with
  | false =>
    have hy : y = ("list" : Str) := hy
    subst hy
    have m1 := G.gl.bi "list" (by decide)
    refine (pe_listRg (G.cm hc) k1 m1 hr na).to fun σ H Q => ?_
    rintro ⟨e, F, R, h⟩
    refine ⟨e, F, R, PostE.first (show PostE C W e F σ H ((evE T (callF T n) false a e).bd _) Q from h) fun ra e1 v1 F1 H1 t1 r1 h => ?_⟩
    obtain ⟨m, km, h⟩ := h.opt
    obtain ⟨d, kd, ki⟩ := Option.bind_eq_some_iff.mp km
    have cr := cont_crp t1.sr r1 kd
    cases d <;> cases ki
    refine ⟨m, cr.int, ?_⟩
    split at h
    · rename_i hz
      rw [Bool.and_eq_true] at hz
      have z1 := of_decide_eq_true hz.1
      have z2 := of_decide_eq_true hz.2
      exact ⟨⟨by omega, by omega, z1, by omega, by omega⟩, fun p hp => PostE.newLst t1.sr (show PostE C W e1 F1 σ H1 (.ok (.t (.lst (rgI m))) e1) Q from h) (rv F1 m) hp⟩
    · exact h.elim
  | true =>
    have hy : y = ("tuple" : Str) := hy
    subst hy
    have m1 := G.gl.bi "tuple" (by decide)
    refine (pe_tupRg (G.cm hc) k1 m1 hr na).to fun σ H Q => ?_
    rintro ⟨e, F, R, h⟩
    refine ⟨e, F, R, PostE.first (show PostE C W e F σ H ((evE T (callF T n) false a e).bd _) Q from h) fun ra e1 v1 F1 H1 t1 r1 h => ?_⟩
    obtain ⟨m, km, h⟩ := h.opt
    obtain ⟨d, kd, ki⟩ := Option.bind_eq_some_iff.mp km
    have cr := cont_crp t1.sr r1 kd
    cases d <;> cases ki
    refine ⟨m, cr.int, ?_⟩
    split at h
    · rename_i hz
      rw [Bool.and_eq_true] at hz
      have z1 := of_decide_eq_true hz.1
      have z2 := of_decide_eq_true hz.2
      exact ⟨⟨by omega, by omega, z1, by omega, by omega⟩, fun p hp => PostE.newTup t1.sr (show PostE C W e1 F1 σ H1 (.ok (.v (.tup (rgI m))) e1) Q from h) (rv F1 m) hp⟩
    · exact h.elim
/-! sets of rows -/
theorem sub_upd {H : Hp} {a : Addr} {o : HO} (h : H a = none) : Sub H (upd H a o) := fun b u k => by rw [upd_ne (ne_of_none k h)]; exact k
theorem s_setT (G : Good T C n W c X) {a : E} {z : Expr} {q2 p2 : Pos} (g2 : glB c.sc "set" = true) (hc : c.calm = true) (hn : nst z = true) (ha : PE X z (RE T C n W a)) :
    PE X (.Call (.Name "set" q2) [z] [] p2) (tCB (rSetOfT X.K X.prog X.w) (tCons (RE T C n W a) tNil)) := by
  obtain ⟨k1, k2, k3⟩ := G.glb g2
  exact pe_callTy (cr_setOfT (G.cm hc) G.hu) k1 (G.gl.bi "set" (by decide)) (by decide +kernel) (pa_cons ha pa_nil (star_cons hn)) k3 k2 (star_cons hn) rfl
theorem rows_in (G : Good T C n W c X) {e1 : EV} {F1 H1 : Hp} {σ : St} {r : RV} {v : V} {l : List (List Int)} (R : SR C e1 F1 σ H1) {H0 : Hp} (r1 : RVok C H0 F1 σ H1 e1 r v) (k : (cont e1 r).bind rowsD = some l) :
    ∃ (a : Addr) (ks : List (Addr × List Int)), v = V.ref a ∧ SqL X.K H1 a (ks.map fun p => V.ref p.1) ∧ ks.map (·.2) = l ∧ (∀ p ∈ ks, SqT C.K F1 p.1 (p.2.map V.int)) ∧ (∀ p ∈ ks, SqT X.K H1 p.1 (p.2.map V.int)) := by
  obtain ⟨d, kd, ki⟩ := Option.bind_eq_some_iff.mp k
  have cr := cont_crp R r1 kd
  cases d <;> first | (cases ki; done) | skip
  obtain ⟨a, ws, rfl, ha, ra⟩ := cr.lst R.sub
  rw [intsT_eq ki] at ra
  obtain ⟨ks, rfl, e, h⟩ := rows_rep ra
  exact ⟨a, ks, rfl, .inl (.inl ha), e, h, fun p m => by rw [G.K]; exact R.sub.sqT (h p m)⟩
theorem s_lset (G : Good T C n W c X) {a : E} {z : Expr} {q q2 p2 pos : Pos} (g1 : glB c.sc "len" = true) (g2 : glB c.sc "set" = true) (hc : c.calm = true) (hn : nst z = true) (ha : PE X z (RE T C n W a)) :
    PE X (.Call (.Name "len" q) [.Call (.Name "set" q2) [z] [] p2] [] pos) (RE T C n W (.lset a)) := by
  obtain ⟨k1, k2, k3⟩ := G.glb g1
  refine (pe_callB cr_lenT k1 (G.gl.bi "len" (by decide)) (by decide +kernel) (pa_cons (s_setT (q2 := q2) (p2 := p2) G g2 hc hn ha) pa_nil) k3 k2 rfl rfl).to fun σ H Q => ?_
  rintro ⟨e, F, R, h⟩
  refine ⟨e, F, R, PostE.first (show PostE C W e F σ H ((evE T (callF T n) false a e).bd _) Q from h) fun ra e1 v1 F1 H1 t1 r1 h => ?_⟩
  obtain ⟨l, km, h⟩ := h.opt
  obtain ⟨k, kn, h⟩ := h.opt
  obtain ⟨b, ks, rfl, hb, hl, hf, hk⟩ := rows_in G t1.sr r1 km
  unfold lsetN at kn
  split at kn <;> cases kn
  rename_i hz
  refine ⟨b, ks, rfl, hb, hk, by rw [← hl, List.length_map] at hz; exact hz, fun s L hs hL1 hL2 => ?_⟩
  have sb := sub_upd (o := SetTO X.prog X.w s L) hs
  refine ⟨s, L, rfl, upd_same, fun p m => sb.sqT (hk p (hL1 p m)), fun nd => ?_⟩
  have e2 : L.length = (ded l).length := by
    rw [← (set_perm hl hL1 hL2 nd).length_eq, List.length_map]
  rw [e2]
  exact h (.int _) _ _ ((TrE.refl t1.sr).newL hs) (show Rep C F1 (.int _) (.int _) from rep_int)
theorem s_sset (G : Good T C n W c X) {a : E} {z : Expr} {q q2 p2 pos : Pos} (g1 : glB c.sc "sorted" = true) (g2 : glB c.sc "set" = true) (hc : c.calm = true) (hn : nst z = true) (ha : PE X z (RE T C n W a)) :
    PE X (.Call (.Name "sorted" q) [.Call (.Name "set" q2) [z] [] p2] [] pos) (RE T C n W (.sset a)) := by
  obtain ⟨k1, k2, k3⟩ := G.glb g1
  have both : CallR X (.builtin "sorted") (fun vs H Q => rSortedT X.K X.prog X.w vs H Q ∨ ∃ (a : Addr) (L : List (Addr × List Int)) (k : List Int), vs = [V.ref a] ∧ H a = some (SetTO X.prog X.w a L) ∧ L ≠ [] ∧ (∀ p ∈ L, p.2 = k ∧ SqT X.K H p.1 (p.2.map V.int)) ∧
      ∀ t p, (t, k) ∈ L → H p = none → Q (.ref p) (upd H p (.lst [V.ref t]))) := by
    intro pins s σ H vs us Q I r h
    rcases h with h | h
    · exact cr_sortedT (G.cm hc) pins s σ H vs us Q I r h
    · exact cr_sorted1 (G.cm hc) pins s σ H vs us Q I r h
  refine (pe_callB both k1 (G.gl.bi "sorted" (by decide)) (by decide +kernel) (pa_cons (s_setT (q2 := q2) (p2 := p2) G g2 hc hn ha) pa_nil) k3 k2 rfl rfl).to fun σ H Q => ?_
  rintro ⟨e, F, R, h⟩
  refine ⟨e, F, R, PostE.first (show PostE C W e F σ H ((evE T (callF T n) false a e).bd _) Q from h) fun ra e1 v1 F1 H1 t1 r1 h => ?_⟩
  obtain ⟨l, km, h⟩ := h.opt
  obtain ⟨k, kn, h⟩ := h.opt
  have h9 : PostE C W e1 F1 σ H1 (.ok (.t (.lst (k.map rowD))) e1) Q := h
  clear h
  obtain ⟨b, ks, rfl, hb, hl, hf, hk⟩ := rows_in G t1.sr r1 km
  cases l with
  | nil => cases kn
  | cons x l =>
    simp only [ssort] at kn
    split at kn
    case isFalse => cases kn
    rename_i hz
    have hz' : ks.length < 64 := by
      have := congrArg List.length hl
      rw [List.length_map, List.length_cons] at this
      omega
    refine ⟨b, ks, rfl, hb, hk, hz', fun s L hs hL1 hL2 => ?_⟩
    have sb := sub_upd (o := SetTO X.prog X.w s L) hs
    have fin : ∀ (L' : List (Addr × List Int)) (p : Addr), (∀ q ∈ L', q ∈ ks) → L'.map (·.2) = k → upd H1 s (SetTO X.prog X.w s L) p = none → Q (.ref p) (upd (upd H1 s (SetTO X.prog X.w s L)) p (.lst (L'.map fun q => V.ref q.1))) := fun L' p hm hk' hp => by
      have t2 := (TrE.refl t1.sr).newL (o := SetTO X.prog X.w s L) hs
      refine PostE.newLst' t2 h9 ?_ hp
      rw [← hk']
      exact rep_rows fun q m => hf q (hm q m)
    have nd0 : (L.map (·.2)).Nodup → (L.map (·.2)).Perm (ded (x :: l)) := set_perm hl hL1 hL2
    by_cases hg : (0 < x.length && (x :: l).all (fun t => t.length == x.length && t.all fun k => decide (0 ≤ k) && decide (k < cdB))) = true
    · rw [if_pos hg] at kn
      cases kn
      rw [Bool.and_eq_true, decide_eq_true_eq] at hg
      have good : ∀ y ∈ x :: l, y.length = x.length ∧ TS.Bd cdB y := fun y m => by
        have := List.all_eq_true.mp hg.2 y m
        rw [Bool.and_eq_true, beq_iff_eq] at this
        refine ⟨this.1, fun k hk => ?_⟩
        have := List.all_eq_true.mp this.2 k hk
        rw [Bool.and_eq_true, decide_eq_true_eq, decide_eq_true_eq] at this
        exact this
      have inL : ∀ p ∈ L, p.2 ∈ x :: l := fun p m => by rw [← hl]; exact List.mem_map.mpr ⟨p, hL1 p m, rfl⟩
      refine .inl ⟨s, L, x.length, cdB, rfl, upd_same, fun p m => sb.sqT (hk p (hL1 p m)), hg.1, fun p m => good _ (inL p m), fun L' p pm nd hlt pw hp => ?_⟩
      refine fin L' p (fun q m => hL1 q (pm.mem_iff.mp m)) ?_ hp
      have pm2 : (L'.map (·.2)).Perm (L.map (·.2)) := pm.map _
      obtain ⟨g1, g2⟩ := sortC_ok (ded (x :: l))
      refine code_uniq (B := cdB) (n := x.length) (pm2.trans ((nd0 (pm2.nodup_iff.mp nd)).trans g1.symm)) (fun y m => ?_) (List.pairwise_map.mpr pw) g2
      obtain ⟨q, hq, rfl⟩ := List.mem_map.mp m
      exact good _ (inL q (pm.mem_iff.mp hq))
    · rw [if_neg hg] at kn
      split at kn <;> cases kn
      rename_i ha1
      -- one row alone
      have one : ∀ p ∈ ks, p.2 = x := fun p m => by
        have : p.2 ∈ x :: l := by rw [← hl]; exact List.mem_map.mpr ⟨p, m, rfl⟩
        rcases List.mem_cons.mp this with q | q
        · exact q
        · exact beq_iff_eq.mp (List.all_eq_true.mp ha1 _ q)
      have kne : ks ≠ [] := fun z => by subst z; simp at hl
      refine .inr ⟨s, L, x, rfl, upd_same, fun z => ?_, fun p m => ⟨one p (hL1 p m), sb.sqT (hk p (hL1 p m))⟩, fun t p m hp => ?_⟩
      · cases ks with
        | nil => exact kne rfl
        | cons p _ =>
          have := hL2 p (by simp)
          rw [z] at this; simp at this
      · exact fin [(t, x)] p (fun q hq => by cases List.mem_singleton.mp hq; exact hL1 _ m) rfl hp
end
end PL
end

section
namespace PL
open PySem PySem.Spec L2

section
variable {C : G0} {e e1 : EV} {F F1 H H1 : Hp} {σ σ1 : St}
theorem upS_self {i : Nat} {s : SV} {d : D} (h : e[i]? = some s) (m : s.mine = true) : ∃ s', (upS e i d)[i]? = some s' ∧ s'.mine = true ∧ s'.dat = some d ∧ ((∃ x, s = .own x) ↔ s' = .own d) ∧ ((∃ x, s = .bor x) ↔ s' = .bor d) := by
  cases s <;> first | cases m | skip
  · rename_i x
    refine ⟨.own d, ?_, rfl, rfl, by simp, by simp⟩
    unfold upS; rw [h]; exact getE_set_self h
  · rename_i x
    refine ⟨.bor d, ?_, rfl, rfl, by simp, by simp⟩
    unfold upS; rw [h]; exact getE_set_self h
theorem upS_ne {i j : Nat} {d : D} (h : i ≠ j) : (upS e i d)[j]? = e[j]? := by
  unfold upS; split <;> first | rfl | exact getE_set_ne h
theorem upS_len {i : Nat} {d : D} : (upS e i d).length = e.length := by
  unfold upS; split <;> simp
/-- a thing of one's own is changed -/
theorem mut_ok {i : Nat} {s : SV} {a : Addr} {d : D} {o : HO} (R : SR C e F σ H) (h : e[i]? = some s) (m : s.mine = true) (ha : σ[i]? = some (some (.ref a))) (mm : Mine C F (upd H a o) d a) :
    TrE C e F σ H (upS e i d) F (upd H a o) := by
  have own : OwnA e σ a := ⟨i, s, h, m, ha⟩
  obtain ⟨hF, o0, h0⟩ := R.ownNone own
  obtain ⟨s', g1, g2, g3, g4, g5⟩ := upS_self (d := d) h m
  have sub' : Sub F (upd H a o) := fun b u q => by
    rw [upd_ne fun e => by subst e; rw [hF] at q; cases q]; exact R.sub b u q
  have back : ∀ (j : Nat) (t : SV), (upS e i d)[j]? = some t → t.mine = true → ∃ t0, e[j]? = some t0 ∧ t0.mine = true := fun j t q mt => by
    by_cases ej : i = j
    · subst ej; exact ⟨s, h, m⟩
    · rw [upS_ne ej] at q; exact ⟨t, q, mt⟩
  refine ⟨⟨⟨sub', fun j t q => ?_, fun j k t u b q1 q2 m1 m2 a1 a2 => ?_, by rw [upS_len]; exact R.len⟩, Sub.refl _, fun b u q n => ?_, fun b q => ?_, fun b u q => .inl q, fun j d' b q1 q2 => ?_, fun j d' q => ?_, fun j d' q => ⟨rfl, ?_⟩, fun j d' q => ⟨rfl, ?_⟩, upS_len⟩, fun j t q dt => ?_, back⟩
  · by_cases ej : i = j
    · subst ej
      rw [g1] at q; cases q
      cases s' <;> first | cases g2 | skip
      · cases g3; exact ⟨a, ha, mm⟩
      · cases g3; exact ⟨a, ha, mm⟩
    · rw [upS_ne ej] at q
      have z := R.slot j t q
      cases t with
      | un => trivial
      | val d' => exact z
      | fro d' => exact z
      | own d' =>
        obtain ⟨b, q1, q2⟩ := z
        have hne : b ≠ a := fun eb => ej (R.dis i j s _ a h q m rfl ha (by rw [← eb]; exact q1))
        exact ⟨b, q1, q2.mono (Sub.refl _) q2.1 fun o ho => by rw [upd_ne hne]; exact ho⟩
      | bor d' =>
        obtain ⟨b, q1, q2⟩ := z
        have hne : b ≠ a := fun eb => ej (R.dis i j s _ a h q m rfl ha (by rw [← eb]; exact q1))
        exact ⟨b, q1, q2.mono (Sub.refl _) q2.1 fun o ho => by rw [upd_ne hne]; exact ho⟩
  · obtain ⟨t0, w1, w2⟩ := back j t q1 m1
    obtain ⟨u0, w3, w4⟩ := back k u q2 m2
    exact R.dis j k t0 u0 b w1 w3 w2 w4 a1 a2
  · rw [upd_ne fun e => by subst e; exact n own]; exact q
  · by_cases e : b = a
    · subst e; rw [upd_same]; simp
    · rw [upd_ne e]; exact q
  · by_cases ej : i = j
    · subst ej
      rw [g1] at q1; cases q1
      have q3 := R.slot i s h
      cases s <;> first | cases m | skip
      · exact .inl ⟨i, _, h, q2⟩
      · have := g5.mp ⟨_, rfl⟩; cases this
    · rw [upS_ne ej] at q1; exact .inl ⟨j, d', q1, q2⟩
  · by_cases ej : i = j
    · subst ej
      rw [g1] at q; cases q
      cases s <;> first | cases m | skip
      · have := g4.mp ⟨_, rfl⟩; cases this
      · exact ⟨_, h⟩
    · rw [upS_ne ej] at q; exact ⟨d', q⟩
  · by_cases ej : i = j
    · subst ej
      rw [h] at q; cases q
      have := g5.mp ⟨_, rfl⟩
      exact ⟨d, .inl (by rw [g1, this])⟩
    · exact ⟨d', .inl (by rw [upS_ne ej]; exact q)⟩
  · by_cases ej : i = j
    · subst ej; rw [h] at q; cases q; cases m
    · rw [upS_ne ej]; exact q
  · by_cases ej : i = j
    · subst ej; exact ⟨s', g1, by rw [g3]; rfl⟩
    · exact ⟨t, by rw [upS_ne ej]; exact q, dt⟩
theorem mineD_eq {i : Nat} {d : D} (h : mineD e i = some d) : ∃ s, e[i]? = some s ∧ s.mine = true ∧ s.dat = some d := by
  unfold mineD at h
  split at h
  · rename_i d' q; cases h; exact ⟨_, q, rfl, rfl⟩
  · rename_i d' q; cases h; exact ⟨_, q, rfl, rfl⟩
  · cases h
/-- the thing in the slot -/
theorem mineD_ok {i : Nat} {d : D} (R : SR C e F σ H) (h : mineD e i = some d) : ∃ s a, e[i]? = some s ∧ s.mine = true ∧ σ[i]? = some (some (.ref a)) ∧ Mine C F H d a := by
  obtain ⟨s, h1, h2, h3⟩ := mineD_eq h
  obtain ⟨d', a, k1, k2, k3⟩ := R.mine h1 h2
  rw [h3] at k1; cases k1
  exact ⟨s, a, h1, h2, k2, k3⟩
theorem Mine.lst' {a : Addr} {xs : List D} (h : Mine C F H (.lst xs) a) : F a = none ∧ ∃ vs, H a = some (.lst vs) ∧ RepL C F xs vs := h
end
section
variable {T : GT} {C : G0} {n : Nat} {W : WX} {c : CC} {X : Cx}
theorem PostE.fin {e e1 : EV} {F F1 H H1 : Hp} {σ : St} {d : D} {v : V} {Q : VK} (h : PostE C W e F σ H (.ok (.v d) e1) Q) (t : TrE C e F σ H e1 F1 H1) (r : Rep C F1 d v) : Q v H1 := h v F1 H1 t r
theorem s_dnew {t : Bool} {pos : Pos} : PE X (.Dict [] [] pos) (RE T C n W (.dnew t)) := by
  have new : ∀ {σ : St} {H : Hp} {e : EV} {F : Hp} {Q : VK} {d : D} {o : HO}, SR C e F σ H → PostE C W e F σ H (.ok (.t d) e) Q → (∀ p, H p = none → F p = none → Mine C F (upd H p o) d p) → ∀ p, H p = none → Q (.ref p) (upd H p o) := fun {σ H e F Q d o} R q hm p hp => by
    have t := (TrE.refl R).newL (o := o) hp
    have hF : F p = none := by
      cases z : F p with
      | none => rfl
      | some u => rw [R.sub p u z] at hp; cases hp
    exact q _ _ _ t ⟨p, rfl, hm p hp hF, hp, own_there R hp⟩
  cases t with
  | false =>
    refine pe_dnewK.to fun σ H Q ⟨e, F, R, q⟩ => ?_
    exact new R (d := .dk [] []) (show PostE C W e F σ H (.ok (.t (.dk [] [])) e) Q from q) fun p hp hF => ⟨hF, [], upd_same, rfl, .nil⟩
  | true =>
    refine pe_dnewT.to fun σ H Q ⟨e, F, R, q⟩ => ?_
    exact new R (d := .dt [] []) (show PostE C W e F σ H (.ok (.t (.dt [] [])) e) Q from q) fun p hp hF => ⟨hF, [], upd_same, rfl, .nil⟩
/-- one argument -/
theorem pa_one {y : Expr} {te : TE} (h : PE X y te) (hy : nst y = true) : PA X [y] (tCons te tNil) := pa_cons h pa_nil (star_cons hy)
theorem few_one {y : Expr} {pos : Pos} (hy : nst y = true) : ((backTo pos (starEach [y] X.env)).all (fun x => !x.1) && (backToKw pos (keywordEach [] X.env)).all (fun x => x.1.isSome)
      && decide ([y].length + ([] : List Keyword).length + (if ([] : List Keyword).isEmpty then 0 else 1) < 30)) = true := by
  rw [star_cons hy]; rfl

theorem lstAt_ok {i : Nat} {e : EV} {F H : Hp} {σ : St} (R : SR C e F σ H) (h : lstAt e i = true) : ∃ a, σ[i]? = some (some (.ref a)) ∧ ∃ vs, H a = some (.lst vs) := by
  unfold lstAt at h
  split at h
  · rename_i xs hx
    obtain ⟨s, a, h1, h2, h3, m⟩ := mineD_ok R hx
    obtain ⟨_, vs, h4, _⟩ := m.lst'
    exact ⟨a, h3, vs, h4⟩
  · cases h
theorem dkAt_ok {i : Nat} {e : EV} {F H : Hp} {σ : St} (R : SR C e F σ H) (h : dkAt e i = true) : ∃ a, σ[i]? = some (some (.ref a)) ∧ ∃ kvs, H a = some (.dK kvs) := by
  unfold dkAt at h
  split at h
  · rename_i ks xs hx
    obtain ⟨s, a, h1, h2, h3, m⟩ := mineD_ok R hx
    obtain ⟨_, vs, h4, _⟩ := m
    exact ⟨a, h3, _, h4⟩
  · cases h
theorem s_app (G : Good T C n W c X) {i : Nat} {a : E} {x : Str} {y : Expr} {xp ap pos : Pos} (hx : nmB c i x = true) (hm : mthB ap pos = true) (ha : PE X y (RE T C n W a)) (hy : nst y = true) :
    PE X (.Call (.Attribute (.Name x xp) "append" ap) [y] [] pos) (RE T C n W (.app i a)) := by
  refine (pe_bm (T := "list") PySem.F.plainAttrs_list PySem.F.slot_list_append PySem.F.type_list_append mt_append (G.nm hx) (pa_one ha hy) rfl (few_one hy) hm (star_cons hy) rfl).to fun σ H Q => ?_
  rintro ⟨e, F, R, q⟩
  simp only [evE, tst_false] at q
  split at q
  · rename_i hl
    obtain ⟨p, h1, vs, h2⟩ := lstAt_ok R hl
    refine ⟨.ref p, h1, .inl ⟨rfl, vs, .inl (.inl h2)⟩, e, F, R, PostE.first0 q fun r e1 v F1 H1 t1 r1 q => ?_⟩
    obtain ⟨⟨d, e2⟩, k1, q⟩ := q.opt
    obtain ⟨F2, t2, rp, s2⟩ := frz_ok t1 r1 k1
    dsimp only at q
    split at q
    · rename_i xs hx
      split at q
      · rename_i hz
        obtain ⟨s, p', g1, g2, g3, m⟩ := mineD_ok t2.sr hx
        rw [h1] at g3; cases g3
        obtain ⟨hF, ws, g4, g5⟩ := m.lst'
        exact ⟨p, ws, v, rfl, rfl, g4, by rw [← sizeL_eq, ← g5.len]; exact hz, q.fin (t2.trans (mut_ok t2.sr g1 g2 h1 ⟨hF, _, upd_same, g5.append (.cons rp .nil)⟩)) rep_non⟩
      · exact q.elim
    · exact q.elim
  · exact q.elim
theorem s_ext (G : Good T C n W c X) {i : Nat} {a : E} {x : Str} {y : Expr} {xp ap pos : Pos} (hx : nmB c i x = true) (hm : mthB ap pos = true) (ha : PE X y (RE T C n W a)) (hy : nst y = true) :
    PE X (.Call (.Attribute (.Name x xp) "extend" ap) [y] [] pos) (RE T C n W (.ext i a)) := by
  refine (pe_bm (T := "list") PySem.F.plainAttrs_list PySem.F.slot_list_extend PySem.F.type_list_extend mt_extend (G.nm hx) (pa_one ha hy) rfl (few_one hy) hm (star_cons hy) rfl).to fun σ H Q => ?_
  rintro ⟨e, F, R, q⟩
  simp only [evE, tst_false] at q
  split at q
  · rename_i hl
    obtain ⟨p, h1, vs, h2⟩ := lstAt_ok R hl
    refine ⟨.ref p, h1, .inl ⟨rfl, vs, .inl (.inl h2)⟩, e, F, R, PostE.first0 q fun r e1 v F1 H1 t1 r1 q => ?_⟩
    obtain ⟨d, k1, q⟩ := q.opt
    have z := cont_crp t1.sr r1 k1
    split at q
    · rename_i xs ys hx
      split at q
      · rename_i hz
        obtain ⟨s, p', g1, g2, g3, m⟩ := mineD_ok t1.sr hx
        rw [h1] at g3; cases g3
        obtain ⟨hF, ws, g4, g5⟩ := m.lst'
        obtain ⟨b, zs, rfl, hb, rb⟩ := z.lst t1.sr.sub
        exact ⟨p, b, ws, zs, rfl, rfl, g4, hb, by rw [← sizeL_eq, ← g5.len, ← rb.len]; exact hz, q.fin (t1.trans (mut_ok t1.sr g1 g2 h1 ⟨hF, _, upd_same, g5.append rb⟩)) rep_non⟩
      · exact q.elim
    · exact q.elim
  · exact q.elim
theorem s_pop (G : Good T C n W c X) {i : Nat} {x : Str} {xp ap pos : Pos} (hx : nmB c i x = true) (hm : mthB ap pos = true) : PE X (.Call (.Attribute (.Name x xp) "pop" ap) [] [] pos) (RE T C n W (.pop i)) := by
  refine (pe_bm0 (T := "list") PySem.F.plainAttrs_list PySem.F.slot_list_pop PySem.F.type_list_pop mt_pop (G.nm hx) rfl hm).to fun σ H Q => ?_
  rintro ⟨e, F, R, q⟩
  simp only [evE, tst_false] at q
  split at q
  · rename_i xs hx
    obtain ⟨d, k1, q⟩ := q.opt
    obtain ⟨s, p, g1, g2, g3, m⟩ := mineD_ok R hx
    obtain ⟨hF, ws, g4, g5⟩ := m.lst'
    obtain ⟨v, k2, k3⟩ := g5.get k1
    exact ⟨.ref p, g3, .inl ⟨rfl, ws, .inl (.inl g4)⟩, p, ws, v, rfl, rfl, g4, by rw [← g5.len]; exact k2, q.fin (mut_ok R g1 g2 g3 ⟨hF, _, upd_same, g5.dropLast⟩) k3⟩
  · exact q.elim
theorem s_popat (G : Good T C n W c X) {i : Nat} {a : E} {x : Str} {y : Expr} {xp ap pos : Pos} (hx : nmB c i x = true) (hm : mthB ap pos = true) (ha : PE X y (RE T C n W a)) (hy : nst y = true) :
    PE X (.Call (.Attribute (.Name x xp) "pop" ap) [y] [] pos) (RE T C n W (.popat i a)) := by
  refine (pe_bm (T := "list") PySem.F.plainAttrs_list PySem.F.slot_list_pop PySem.F.type_list_pop mt_popAt (G.nm hx) (pa_one ha hy) rfl (few_one hy) hm (star_cons hy) rfl).to fun σ H Q => ?_
  rintro ⟨e, F, R, q⟩
  simp only [evE, tst_false] at q
  split at q
  · rename_i hl
    obtain ⟨p, h1, vs, h2⟩ := lstAt_ok R hl
    refine ⟨.ref p, h1, .inl ⟨rfl, vs, .inl (.inl h2)⟩, e, F, R, PostE.first0 q fun r e1 v F1 H1 t1 r1 q => ?_⟩
    obtain ⟨k, k1, q⟩ := q.opt
    obtain ⟨d, k1, k2⟩ := Option.bind_eq_some_iff.mp k1
    have z := cont_crp t1.sr r1 k1
    cases d <;> cases k2
    cases z.int
    split at q
    · rename_i xs hx
      split at q
      · rename_i hz
        rw [Bool.and_eq_true] at hz
        obtain ⟨j, j1, q⟩ := q.opt
        obtain ⟨d, j2, q⟩ := q.opt
        obtain ⟨s, p', g1, g2, g3, m⟩ := mineD_ok t1.sr hx
        rw [h1] at g3; cases g3
        obtain ⟨hF, ws, g4, g5⟩ := m.lst'
        obtain ⟨v, k2, k3⟩ := g5.get j2
        exact ⟨p, ws, _, j, v, rfl, rfl, g4, of_decide_eq_true hz.1, of_decide_eq_true hz.2, by rw [← g5.len]; exact (L2.ixN_seq j1).1, k2, q.fin (t1.trans (mut_ok t1.sr g1 g2 h1 ⟨hF, _, upd_same, g5.eraseIdx _⟩)) k3⟩
      · exact q.elim
    · exact q.elim
  · exact q.elim
end
end PL
end

section
namespace PL
open PySem PySem.Spec L2

/-! ## slots are set -/
section
variable {C : G0} {e e1 : EV} {F F1 H H1 : Hp} {σ σ1 : St}
theorem setOk_not {i : Nat} (h : setOk e i = true) : i < e.length ∧ (∀ d, e[i]? ≠ some (.bor d)) ∧ ∀ d, e[i]? ≠ some (.fro d) := by
  unfold setOk at h
  split at h <;> first | (rename_i q; exact ⟨(List.getElem?_eq_some_iff.mp q).1, fun d z => by (rw [q] at z; cases z), fun d z => by (rw [q] at z; cases z)⟩) | cases h
theorem set0 {i : Nat} {s' : SV} {o : Option V} (t : Tr C e F σ H e1 F1 σ1 H1) (hl : i < e1.length) (nb : ∀ d, e[i]? ≠ some (.bor d)) (nf : ∀ d, e[i]? ≠ some (.fro d))
    (hs : (s' = .un) ∨ (∃ d v, s' = .val d ∧ o = some v ∧ Rep C F1 d v) ∨ ∃ d a, s' = .own d ∧ o = some (.ref a) ∧ Mine C F1 H1 d a ∧ ¬ OwnA e1 σ1 a ∧ ((∃ (j : Nat) (d' : D), e[j]? = some (.own d') ∧ σ[j]? = some (some (.ref a))) ∨ H a = none)) :
    Tr C e F σ H (e1.set i s') F1 (σ1.set i o) H1 := by
  have R := t.sr
  have hlσ : i < σ1.length := by rw [← R.len]; exact hl
  have ge : (e1.set i s')[i]? = some s' := by simp [hl]
  have gσ : (σ1.set i o)[i]? = some o := by simp [hlσ]
  have notown : ∀ {a : Addr} {j : Nat} {s : SV}, s'.mine = true → o = some (.ref a) → e1[j]? = some s → s.mine = true → σ1[j]? = some (some (.ref a)) → False := fun {a j s} m ho h1 h2 h3 => by
    rcases hs with rfl | ⟨d, v, rfl, _⟩ | ⟨d, a', rfl, e, mm, no, _⟩
    · cases m
    · cases m
    · rw [ho] at e; cases e; exact no ⟨j, s, h1, h2, h3⟩
  refine ⟨⟨R.sub, fun j s q => ?_, fun j k s s2 a q1 q2 m1 m2 a1 a2 => ?_, by simp [R.len]⟩, t.fs, t.keep, t.there, t.new, fun j d a q1 q2 => ?_, fun j d q => ?_, fun j d q => ?_, fun j d q => ?_, by simp [t.len]⟩
  · by_cases ej : i = j
    · subst ej
      rw [ge] at q; cases q
      rw [gσ]
      rcases hs with rfl | ⟨d, v, rfl, rfl, r⟩ | ⟨d, a', rfl, rfl, mm, no, _⟩
      · trivial
      · exact ⟨v, rfl, r⟩
      · exact ⟨a', rfl, mm⟩
    · rw [getE_set_ne ej] at q
      rw [getE_set_ne ej]
      exact R.slot j s q
  · by_cases ej : i = j
    · by_cases ek : i = k
      · rw [← ej, ← ek]
      · subst ej
        rw [ge] at q1; cases q1
        rw [gσ] at a1; cases a1
        rw [getE_set_ne ek] at q2 a2
        exact (notown m1 rfl q2 m2 a2).elim
    · by_cases ek : i = k
      · subst ek
        rw [ge] at q2; cases q2
        rw [gσ] at a2; cases a2
        rw [getE_set_ne ej] at q1 a1
        exact (notown m2 rfl q1 m1 a1).elim
      · rw [getE_set_ne ej] at q1 a1
        rw [getE_set_ne ek] at q2 a2
        exact R.dis j k s s2 a q1 q2 m1 m2 a1 a2
  · by_cases ej : i = j
    · subst ej
      rw [ge] at q1; cases q1
      rw [gσ] at q2; cases q2
      rcases hs with h | ⟨d, v, h, _⟩ | ⟨d', a', h, e, mm, no, hh⟩
      · cases h
      · cases h
      · cases e; exact hh
    · rw [getE_set_ne ej] at q1 q2
      exact t.own j d a q1 q2
  · by_cases ej : i = j
    · subst ej
      rw [ge] at q; cases q
      rcases hs with h | ⟨d, v, h, _⟩ | ⟨d', a', h, _⟩ <;> cases h
    · rw [getE_set_ne ej] at q
      exact t.nob j d q
  · obtain ⟨h1, d', h2⟩ := t.bor j d q
    have ej : i ≠ j := fun ej => by
      subst ej
      exact nb _ q
    rw [getE_set_ne ej, getE_set_ne ej]
    exact ⟨h1, d', h2⟩
  · obtain ⟨h1, h2⟩ := t.fro j d q
    have ej : i ≠ j := fun ej => by
      subst ej; exact nf _ q
    rw [getE_set_ne ej, getE_set_ne ej]
    exact ⟨h1, h2⟩
theorem set1 {i : Nat} {s' : SV} {o : Option V} (t : Tr C e F σ H e1 F1 σ1 H1) (ok : setOk e1 i = true)
    (hs : (s' = .un) ∨ (∃ d v, s' = .val d ∧ o = some v ∧ Rep C F1 d v) ∨ ∃ d a, s' = .own d ∧ o = some (.ref a) ∧ Mine C F1 H1 d a ∧ ¬ OwnA e1 σ1 a ∧ ((∃ (j : Nat) (d' : D), e[j]? = some (.own d') ∧ σ[j]? = some (some (.ref a))) ∨ H a = none)) :
    Tr C e F σ H (e1.set i s') F1 (σ1.set i o) H1 := by
  obtain ⟨hl, nb, nf⟩ := setOk_not ok
  refine set0 t hl (fun d q => ?_) (fun d q => ?_) hs
  · obtain ⟨_, d', h | h⟩ := t.bor i d q
    · exact nb _ h
    · exact nf _ h
  · exact nf _ (t.fro i d q).2
/-- what a store changes -/
structure AsgR (ix : List Nat) (e1 : EV) (σ1 : St) (e2 : EV) (σ2 : St) : Prop where
  len : σ2.length = σ1.length
  same : ∀ j, j ∉ ix → σ2[j]? = σ1[j]? ∧ e2[j]? = e1[j]?
  mine : ∀ (j : Nat) (s : SV), e2[j]? = some s → s.mine = true → e1[j]? = some s ∧ σ2[j]? = σ1[j]?
theorem AsgR.refl (ix : List Nat) (e : EV) (σ : St) : AsgR ix e σ e σ := ⟨rfl, fun _ _ => ⟨rfl, rfl⟩, fun _ _ h _ => ⟨h, rfl⟩⟩
theorem AsgR.trans {ix : List Nat} {e1 e2 e3 : EV} {σ1 σ2 σ3 : St} (a : AsgR ix e1 σ1 e2 σ2) (b : AsgR ix e2 σ2 e3 σ3) : AsgR ix e1 σ1 e3 σ3 :=
  ⟨b.len.trans a.len, fun j h => ⟨(b.same j h).1.trans (a.same j h).1, (b.same j h).2.trans (a.same j h).2⟩, fun j s h m => by
    obtain ⟨h1, h2⟩ := b.mine j s h m
    obtain ⟨h3, h4⟩ := a.mine j s h1 m
    exact ⟨h3, h2.trans h4⟩⟩
theorem AsgR.one {ix : List Nat} {i : Nat} {s' : SV} {o : Option V} (hi : i ∈ ix) (m : s'.mine = false) : AsgR ix e σ (e.set i s') (σ.set i o) :=
  ⟨by simp, fun j h => by
    have hne : i ≠ j := fun z => h (by rw [← z]; exact hi)
    exact ⟨getE_set_ne hne, getE_set_ne hne⟩, fun j s h ms => by
    by_cases z : i = j
    · subst z
      rw [List.getElem?_set_self'] at h
      cases q : e[i]? with
      | none => rw [q] at h; cases h
      | some u => rw [q] at h; cases h; exact absurd (show s'.mine = true from ms) (by rw [m]; simp)
    · rw [getE_set_ne z] at h; exact ⟨h, getE_set_ne z⟩⟩
/-- a target that is a name, several names -/
def gNms : List Nat → TGs
  | [] => gNil
  | i :: is => gCons (gName i) (gNms is)
def gTg (K : PySem.W.Frag) : Tg → TG
  | .nm i => gName i
  | .tp is => gTup K is.length (gNms is)
theorem setVals_ok : ∀ {is : List Nat} {ds : List D} {vs : List V} {e1 e2 : EV} {σ1 : St} {Q : St → Hp → Prop}, Tr C e F σ H e1 F1 σ1 H1 → RepL C F1 ds vs → setVals is ds e1 = some e2 → (∀ σ2, Tr C e F σ H e2 F1 σ2 H1 → AsgR is e1 σ1 e2 σ2 → Q σ2 H1) → gNms is vs σ1 H1 Q
  | [], [], vs, e1, e2, σ1, Q, t, r, k, q => by
    cases k
    rw [RepL] at r
    exact ⟨r, q σ1 t (AsgR.refl _ _ _)⟩
  | i :: is, d :: ds, vs, e1, e2, σ1, Q, t, r, k, q => by
    rw [RepL] at r
    obtain ⟨v, ws, rfl, r1, r2⟩ := r
    simp only [setVals] at k
    split at k
    · rename_i ok
      refine ⟨v, ws, rfl, setVals_ok (set1 t ok (.inr (.inl ⟨d, v, rfl, rfl, r1⟩))) r2 k fun σ2 t2 a => q σ2 t2 ?_⟩
      refine (AsgR.one (ix := i :: is) (by simp) rfl).trans ⟨a.len, fun j h => a.same j fun z => h (by simp [z]), a.mine⟩
    · cases k
  | [], _ :: _, _, _, _, _, _, _, _, k, _ => by simp [setVals] at k
  | _ :: _, [], _, _, _, _, _, _, _, k, _ => by simp [setVals] at k
theorem setVals_len : ∀ {is : List Nat} {ds : List D} {e1 e2 : EV}, setVals is ds e1 = some e2 → is.length = ds.length
  | [], [], _, _, _ => rfl
  | i :: is, d :: ds, e1, e2, k => by
    simp only [setVals] at k
    split at k
    · simp [setVals_len k]
    · cases k
  | [], _ :: _, _, _, k => by simp [setVals] at k
  | _ :: _, [], _, _, k => by simp [setVals] at k
theorem asg_ok {tg : Tg} {d : D} {v : V} {e2 : EV} {Q : St → Hp → Prop} (t : Tr C e F σ H e1 F1 σ1 H1) (r : Rep C F1 d v) (k : asg tg d e1 = some e2) (q : ∀ σ2, Tr C e F σ H e2 F1 σ2 H1 → AsgR (tgIx tg) e1 σ1 e2 σ2 → Q σ2 H1) : gTg C.K tg v σ1 H1 Q := by
  cases tg with
  | nm i =>
    simp only [asg] at k
    split at k
    · rename_i ok
      cases k
      exact q _ (set1 t ok (.inr (.inl ⟨d, v, rfl, rfl, r⟩))) (AsgR.one (by simp [tgIx]) rfl)
    · cases k
  | tp is =>
    cases d <;> simp only [asg] at k <;> first | cases k | skip
    rw [Rep] at r
    obtain ⟨a, vs, rfl, h1, h2⟩ := r
    exact ⟨a, vs, rfl, t.sr.sub.sqT h1, by rw [← h2.len, setVals_len k], setVals_ok t h2 k q⟩
end
section
variable {T : GT} {C : G0} {n : Nat} {W : WX} {c : CC} {X : Cx}
theorem s_tgName (G : Good T C n W c X) {i : Nat} {x : Str} {pos : Pos} (h : stB c i x = true) : PG X (.Name x pos) (gName i) := by
  obtain ⟨h1, h2⟩ := G.st i x h
  unfold stB at h
  rw [Bool.and_eq_true, Bool.and_eq_true] at h
  exact pg_name (by rw [G.N]; exact G.nd) (by rw [G.N]; exact of_decide_eq_true h.1.1) h1 h2
theorem s_tgNames (G : Good T C n W c X) : ∀ {is : List Nat} {xs : List Expr}, trTg.trNs c is xs = true → PGs X xs (gNms is) ∧ (assignEach xs X.env).length = is.length ∧ (assignEach xs X.env).findIdx? (·.1) = none
  | [], [], _ => ⟨pgs_nil, rfl, rfl⟩
  | i :: is, .Name x p :: xs, h => by
    simp only [trTg.trNs, Bool.and_eq_true] at h
    obtain ⟨h1, h2, h3⟩ := s_tgNames G h.2
    refine ⟨pgs_cons (s_tgName G h.1) h1, ?_, ?_⟩
    · show (assignEach xs X.env).length + 1 = _; rw [h2]; rfl
    · show List.findIdx? (·.1) ((false, _) :: assignEach xs X.env) = none
      rw [List.findIdx?_cons, h3]; rfl
  | [], _ :: _, h => by simp [trTg.trNs] at h
  | _ :: _, [], h => by simp [trTg.trNs] at h
  | i :: is, x :: xs, h => by
    cases x <;> first | (simp [trTg.trNs] at h; done) | skip
    rename_i x p
    simp only [trTg.trNs, Bool.and_eq_true] at h
    obtain ⟨h1, h2, h3⟩ := s_tgNames G h.2
    refine ⟨pgs_cons (s_tgName G h.1) h1, ?_, ?_⟩
    · show (assignEach xs X.env).length + 1 = _; rw [h2]; rfl
    · show List.findIdx? (·.1) ((false, _) :: assignEach xs X.env) = none
      rw [List.findIdx?_cons, h3]; rfl
theorem s_tg (G : Good T C n W c X) (hc : c.calm = true) {tg : Tg} {x : Expr} (h : trTg c tg x = true) : PG X x (gTg C.K tg) := by
  cases tg with
  | nm i =>
    cases x <;> simp only [trTg] at h <;> first | cases h | skip
    exact s_tgName G h
  | tp is =>
    cases x <;> simp only [trTg] at h <;> first | cases h | skip
    obtain ⟨h1, h2, h3⟩ := s_tgNames G h
    rw [← G.K]
    exact pg_tup (G.cm hc) h1 h2 h3
/-! ### what is walked -/
def YD (C : G0) (F1 : Hp) (ds : List D) : Nat → Hp → V → Hp → Prop := fun i H x H' => ∃ d, ds[i]? = some d ∧ ((H' = H ∧ Rep C F1 d x) ∨
  ∃ p d1 d2 x1 x2, x = .ref p ∧ H p = none ∧ H' = upd H p (.tup [x1, x2]) ∧ d = .tup [d1, d2] ∧ Rep C F1 d1 x1 ∧ Rep C F1 d2 x2)
def WalkD (C : G0) (F1 : Hp) (J : L2.It) (ds : List D) : Prop := Walk J ds.length (fun H => Sub F1 H) (YD C F1 ds)
def PostI (C : G0) (W : WX) (e : EV) (F : Hp) (σ : St) (H : Hp) (o : Out (List D)) (R : L2.It → Hp → Prop) : Prop := match o with
  | .ok ds e' => ∀ J F' H', TrE C e F σ H e' F' H' → WalkD C F' J ds → R J H'
  | .exc c p e' => ∀ F' H', TrE C e F σ H e' F' H' → ExW C W c p σ H'
  | .stuck => False
def RI (T : GT) (C : G0) (n : Nat) (W : WX) (it : It) : TI := fun σ H R => ∃ e F, SR C e F σ H ∧ PostI C W e F σ H (evI T (callF T n) it e) R
theorem PostI.opt {e : EV} {F : Hp} {σ : St} {H : Hp} {α : Type} {o : Option α} {f : α → Out (List D)} {R : L2.It → Hp → Prop} (h : PostI C W e F σ H (PL.opt o f) R) : ∃ a, o = some a ∧ PostI C W e F σ H (f a) R := by
  cases o with
  | none => exact h.elim
  | some a => exact ⟨a, rfl, h⟩
theorem PostI.first {e : EV} {F : Hp} {σ : St} {H : Hp} {x : Out RV} {f : RV → EV → Out (List D)} {R : L2.It → Hp → Prop} {Q1 : VK} (h : PostI C W e F σ H (x.bd f) R)
    (k : ∀ r e1 v F1 H1, x = .ok r e1 → TrE C e F σ H e1 F1 H1 → RVok C H F1 σ H1 e1 r v → PostI C W e F σ H (f r e1) R → Q1 v H1) : PostE C W e F σ H x Q1 := by
  cases x with
  | ok r e1 => exact fun v F1 H1 t r1 => k r e1 v F1 H1 rfl t r1 h
  | exc c p e1 => exact h
  | stuck => exact h
theorem PostI.firstA {e : EV} {F : Hp} {σ : St} {H : Hp} {x : Out (List RV)} {f : List RV → EV → Out (List D)} {R : L2.It → Hp → Prop} {Q1 : List V → Hp → Prop} (h : PostI C W e F σ H (x.bd f) R)
    (k : ∀ rs e1 vs F1 H1, x = .ok rs e1 → TrE C e F σ H e1 F1 H1 → RVs C H F1 σ H1 e1 rs vs → PostI C W e F σ H (f rs e1) R → Q1 vs H1) : PostA C W e F σ H x Q1 := by
  cases x with
  | ok r e1 => exact fun v F1 H1 t r1 => k r e1 v F1 H1 rfl t r1 h
  | exc c p e1 => exact h
  | stuck => exact h
theorem walkD_list {F1 : Hp} {a : Addr} {vs : List V} {ds : List D} (h : SqL C.K F1 a vs) (r : RepL C F1 ds vs) : WalkD C F1 (Itl C.K a) ds := by
  unfold WalkD
  rw [r.len]
  exact walk_list.mono (fun H s => s.sqL h) fun i H x H' hi s y => by
    obtain ⟨d, k1, k2⟩ := r.get' y.2
    exact ⟨d, k1, .inl ⟨y.1, k2⟩⟩
theorem walkD_tup {F1 : Hp} {a : Addr} {vs : List V} {ds : List D} (h : SqT C.K F1 a vs) (r : RepL C F1 ds vs) : WalkD C F1 (Itt C.K a) ds := by
  unfold WalkD
  rw [r.len]
  exact walk_tup.mono (fun H s => s.sqT h) fun i H x H' hi s y => by
    obtain ⟨d, k1, k2⟩ := r.get' y.2
    exact ⟨d, k1, .inl ⟨y.1, k2⟩⟩
theorem walkD_range {F1 : Hp} {lo : Int} {m : Nat} : WalkD C F1 (Itr lo m) ((List.range m).map fun (k : Nat) => .int (lo + (k : Int))) := by
  have hl : ((List.range m).map fun (k : Nat) => D.int (lo + (k : Int))).length = m := by simp
  unfold WalkD
  rw [hl]
  exact walk_range.mono (fun H s => trivial) fun i H x H' hi s y => ⟨.int (lo + i), by simp [hi], .inl ⟨y.1, by rw [y.2]; exact rep_int⟩⟩
theorem walkD_enum {F1 : Hp} {a : Addr} {vs : List V} {ds : List D} (h : SqL C.K F1 a vs) (r : RepL C F1 ds vs) : WalkD C F1 (Ite C.K a) (enumD ds) := by
  have hl : (enumD ds).length = vs.length := by simp [enumD, r.len]
  unfold WalkD
  rw [hl]
  exact walk_enum.mono (fun H s => s.sqL h) fun i H x H' hi s y => by
    obtain ⟨p, x1, x2, e1, e2, e3, e4, e5⟩ := y
    cases e4
    obtain ⟨d, k1, k2⟩ := r.get' e5
    refine ⟨.tup [.int i, d], ?_, .inr ⟨p, .int i, d, _, x2, e1, e2, e3, rfl, rep_int, k2⟩⟩
    have hi' : i < ds.length := by rw [r.len]; exact hi
    simp [enumD, List.getElem?_zipWith, hi']
    exact (List.getElem?_eq_some_iff.mp k1).2
theorem walkD_zip {F1 : Hp} {J : L2.It} {vs ws : List V} {xs ys : List D} (r1 : RepL C F1 xs vs) (r2 : RepL C F1 ys ws) {n : Nat} (hn : n = min vs.length ws.length) (w : Walk J n (fun H => Sub F1 H) (YPair (fun i => vs[i]?) (fun i => ws[i]?))) : WalkD C F1 J (zipD xs ys) := by
  have hl : (zipD xs ys).length = n := by simp [zipD, r1.len, r2.len, hn]
  unfold WalkD
  rw [hl]
  exact w.mono (fun H s => s) fun i H x H' hi s y => by
    obtain ⟨p, x1, x2, e1, e2, e3, e4, e5⟩ := y
    obtain ⟨d1, k1, k2⟩ := r1.get' e4
    obtain ⟨d2, k3, k4⟩ := r2.get' e5
    refine ⟨.tup [d1, d2], ?_, .inr ⟨p, d1, d2, x1, x2, e1, e2, e3, rfl, k2, k4⟩⟩
    simp [zipD, List.getElem?_zipWith, k1, k3]
theorem s_itE (G : Good T C n W c X) {a : E} {x tg : Expr} (ha : PE X x (RE T C n W a)) : PI X tg x (RI T C n W (.e a)) := by
  refine ⟨fun pins s σ H R I ⟨e, F, R0, q⟩ => ?_⟩
  simp only [evI] at q
  have hK := G.K
  cases he : evE T (callF T n) false a e with
  | exc z p e' =>
    rw [he] at q
    exact (pi_list ha).run pins s σ H R I ⟨e, F, R0, by rw [he]; exact q⟩
  | stuck => rw [he] at q; exact q.elim
  | ok r e1 =>
    rw [he] at q
    simp only [bd_ok] at q
    obtain ⟨⟨d, e2⟩, k1, q⟩ := q.opt
    obtain ⟨ds, k2, q⟩ := q.opt
    cases d <;> simp only [seqD] at k2 <;> cases k2
    case ok.tup.refl =>
      refine (pi_tup ha).run pins s σ H R I ⟨e, F, R0, ?_⟩
      rw [he]
      intro v F1 H1 t1 r1
      obtain ⟨F2, t2, rp, s2⟩ := frz_ok t1 r1 k1
      rw [Rep] at rp
      obtain ⟨a, vs, rfl, h1, h2⟩ := rp
      rw [hK]
      exact ⟨a, rfl, ⟨vs, t2.sr.sub.sqT h1⟩, q _ F2 H1 t2 (walkD_tup h1 h2)⟩
    case ok.lst.refl =>
      refine (pi_list ha).run pins s σ H R I ⟨e, F, R0, ?_⟩
      rw [he]
      intro v F1 H1 t1 r1
      obtain ⟨F2, t2, rp, s2⟩ := frz_ok t1 r1 k1
      rw [Rep] at rp
      obtain ⟨a, vs, rfl, h1, h2⟩ := rp
      have h1 : SqL C.K F2 a vs := .inl (.inl h1)
      rw [hK]
      exact ⟨a, rfl, ⟨vs, t2.sr.sub.sqL h1⟩, q _ F2 H1 t2 (walkD_list h1 h2)⟩
    case ok.scr.refl =>
      refine (pi_list ha).run pins s σ H R I ⟨e, F, R0, ?_⟩
      rw [he]
      intro v F1 H1 t1 r1
      obtain ⟨F2, t2, rp, s2⟩ := frz_ok t1 r1 k1
      rw [Rep] at rp
      obtain ⟨a, rfl, h1⟩ := rp
      rw [hK]
      exact ⟨a, rfl, ⟨_, t2.sr.sub.sqL h1⟩, q _ F2 H1 t2 (walkD_list h1 (repL_ints _))⟩
theorem conts_int {e : EV} {F H0 H : Hp} {σ : St} (R : SR C e F σ H) {rs : List RV} {vs : List V} {i : Int} (k : conts e rs = some [.int i]) (r : RVs C H0 F σ H e rs vs) : vs = [.int i] := by
  have l1 := conts_len k
  have l2 := r.len
  match vs, l2 with
  | [v], _ => rw [(conts_get (i := 0) R k r rfl rfl).int]
  | [], l2 => rw [← l1] at l2; cases l2
  | _ :: _ :: _, l2 => rw [← l1] at l2; simp at l2
theorem conts_int2 {e : EV} {F H0 H : Hp} {σ : St} (R : SR C e F σ H) {rs : List RV} {vs : List V} {i j : Int} (k : conts e rs = some [.int i, .int j]) (r : RVs C H0 F σ H e rs vs) : vs = [.int i, .int j] := by
  have l1 := conts_len k
  have l2 := r.len
  match vs, l2 with
  | [v, w], _ => rw [(conts_get (i := 0) R k r rfl rfl).int, (conts_get (i := 1) R k r rfl rfl).int]
  | [], l2 => rw [← l1] at l2; cases l2
  | [_], l2 => rw [← l1] at l2; cases l2
  | _ :: _ :: _ :: _, l2 => rw [← l1] at l2; simp at l2
theorem walkD_rangeC {F1 : Hp} {lo k : Int} {m : Nat} : WalkD C F1 (Itc lo k m) ((List.range m).map fun (j : Nat) => .int (lo + (j : Int) * k)) := by
  have hl : ((List.range m).map fun (j : Nat) => D.int (lo + (j : Int) * k)).length = m := by simp
  unfold WalkD
  rw [hl]
  exact walk_rangeC.mono (fun H s => trivial) fun i H x H' hi s y => ⟨.int (lo + i * k), by simp [hi], .inl ⟨y.1, by rw [y.2]; exact rep_int⟩⟩
theorem conts_int3 {e : EV} {F H0 H : Hp} {σ : St} (R : SR C e F σ H) {rs : List RV} {vs : List V} {i j l : Int} (k : conts e rs = some [.int i, .int j, .int l]) (r : RVs C H0 F σ H e rs vs) : vs = [.int i, .int j, .int l] := by
  have l1 := conts_len k
  have l2 := r.len
  match vs, l2 with
  | [v, w, u], _ => rw [(conts_get (i := 0) R k r rfl rfl).int, (conts_get (i := 1) R k r rfl rfl).int, (conts_get (i := 2) R k r rfl rfl).int]
  | [], l2 => rw [← l1] at l2; cases l2
  | [_], l2 => rw [← l1] at l2; cases l2
  | [_, _], l2 => rw [← l1] at l2; simp at l2
  | _ :: _ :: _ :: _ :: _, l2 => rw [← l1] at l2; simp at l2
theorem s_itR (G : Good T C n W c X) {as : List E} {xs : List Expr} {tg : Expr} {p pos : Pos} (hg : glB c.sc "range" = true) (ha : PA X xs (RA T C n W as)) (hs : xs.all nst = true) (hl : (xs.length == 1 || xs.length == 2 || xs.length == 3) = true) (hla : as.length = xs.length) :
    PI X tg (.Call (.Name "range" p) xs [] pos) (RI T C n W (.rng as)) := by
  obtain ⟨g1, g2, g3⟩ := G.glb hg
  have hm := G.gl.bi "range" (by decide)
  match xs, hl, hs, ha, hla with
  | [x], _, hs, ha, hla =>
    rw [List.all_cons, Bool.and_eq_true] at hs
    refine ⟨fun pins s σ H R I ⟨e, F, R0, q⟩ => (pi_range1 g1 hm ha (star_cons hs.1)).run pins s σ H R I ⟨e, F, R0, PostI.firstA (by simpa only [evI] using q) fun rs e1 vs F1 H1 hx t1 r1 q => ?_⟩⟩
    obtain ⟨ds, k1, q⟩ := q.opt
    obtain ⟨zs, k2, q⟩ := q.opt
    unfold rngD at k2
    split at k2
    · rename_i j
      split at k2 <;> cases k2
      rename_i hz
      rw [Bool.and_eq_true] at hz
      refine ⟨j, conts_int t1.sr k1 r1, of_decide_eq_true hz.1, of_decide_eq_true hz.2, q _ F1 H1 t1 walkD_range⟩
    · have h := (conts_len k1).trans ((evA_len hx).trans hla); simp at h
    · have h := (conts_len k1).trans ((evA_len hx).trans hla); simp at h
    · cases k2
  | [x, y], _, hs, ha, hla =>
    rw [List.all_cons, Bool.and_eq_true, List.all_cons, Bool.and_eq_true] at hs
    refine ⟨fun pins s σ H R I ⟨e, F, R0, q⟩ => (pi_range2 g1 hm ha (by rw [star_cons hs.1, star_cons hs.2.1]; rfl) (by rw [star_cons hs.2.1]; rfl)).run pins s σ H R I ⟨e, F, R0, PostI.firstA (by simpa only [evI] using q) fun rs e1 vs F1 H1 hx t1 r1 q => ?_⟩⟩
    obtain ⟨ds, k1, q⟩ := q.opt
    obtain ⟨zs, k2, q⟩ := q.opt
    unfold rngD at k2
    split at k2
    · have h := (conts_len k1).trans ((evA_len hx).trans hla); simp at h
    · rename_i i j
      split at k2 <;> cases k2
      rename_i hz
      simp only [Bool.and_eq_true] at hz
      refine ⟨i, j, conts_int2 t1.sr k1 r1, ⟨of_decide_eq_true hz.1.1.1, of_decide_eq_true hz.1.1.2, of_decide_eq_true hz.1.2, of_decide_eq_true hz.2⟩, q _ F1 H1 t1 walkD_range⟩
    · have h := (conts_len k1).trans ((evA_len hx).trans hla); simp at h
    · cases k2
  | [x, y, z], _, hs, ha, hla =>
    rw [List.all_cons, Bool.and_eq_true, List.all_cons, Bool.and_eq_true, List.all_cons, Bool.and_eq_true] at hs
    refine ⟨fun pins s σ H R I ⟨e, F, R0, q⟩ => (pi_range3 g1 hm ha (by rw [star_cons hs.1, star_cons hs.2.1]; first | done | rfl | (rw [star_cons hs.2.2.1]; rfl)) (by first | rfl | (rw [star_cons hs.2.1, star_cons hs.2.2.1]; rfl))).run pins s σ H R I ⟨e, F, R0, PostI.firstA (by simpa only [evI] using q) fun rs e1 vs F1 H1 hx t1 r1 q => ?_⟩⟩
    obtain ⟨ds, k1, q⟩ := q.opt
    obtain ⟨zs, k2, q⟩ := q.opt
    unfold rngD at k2
    split at k2
    · have h := (conts_len k1).trans ((evA_len hx).trans hla); simp at h
    · have h := (conts_len k1).trans ((evA_len hx).trans hla); simp at h
    · rename_i i j l
      split at k2 <;> cases k2
      rename_i hz
      simp only [Bool.and_eq_true, decide_eq_true_eq] at hz
      obtain ⟨⟨⟨⟨⟨⟨⟨z1, z2⟩, z3⟩, z4⟩, z5⟩, z6⟩, z7⟩, z8⟩ := hz
      exact ⟨i, j, l, _, conts_int3 t1.sr k1 r1, ⟨by omega, by omega, z7, (Int.toNat_of_nonneg z8).symm⟩, q _ F1 H1 t1 walkD_rangeC⟩
    · cases k2
theorem seqL_ok {F H0 H : Hp} {d : D} {v : V} {xs : List D} (s : Sub F H) (k : seqL d = some xs) (r : Rep C F d v) : ∃ a vs, v = .ref a ∧ SqL C.K F a vs ∧ RepL C F xs vs := by
  cases d <;> simp only [seqL] at k <;> cases k <;> rw [Rep] at r
  · obtain ⟨a, vs, rfl, h1, h2⟩ := r
    exact ⟨a, vs, rfl, .inl (.inl h1), h2⟩
  · obtain ⟨a, rfl, h1⟩ := r
    exact ⟨a, _, rfl, h1, repL_ints _⟩
theorem s_itN (G : Good T C n W c X) {a : E} {x : Expr} {elts : List Expr} {k : Nat} {tp p pos : Pos} (hg : glB c.sc "enumerate" = true) (ha : PE X x (RE T C n W a)) (hx : nst x = true) :
    PI X (.Tuple elts k tp) (.Call (.Name "enumerate" p) [x] [] pos) (RI T C n W (.enum a)) := by
  obtain ⟨g1, g2, g3⟩ := G.glb hg
  have hm := G.gl.bi "enumerate" (by decide)
  refine ⟨fun pins s σ H R I ⟨e, F, R0, q⟩ => (pi_enum g1 hm (pa_one ha hx) (star_cons hx)).run pins s σ H R I ⟨e, F, R0, PostI.first (by simpa only [evI] using q) fun r e1 v F1 H1 hx t1 r1 q => ?_⟩⟩
  obtain ⟨⟨d, e2⟩, k1, q⟩ := q.opt
  obtain ⟨ds, k2, q⟩ := q.opt
  obtain ⟨F2, t2, rp, s2⟩ := frz_ok t1 r1 k1
  obtain ⟨a, vs, rfl, h1, h2⟩ := seqL_ok (H0 := H) t2.sr.sub k2 rp
  rw [G.K]
  exact ⟨a, vs, rfl, t2.sr.sub.sqL h1, q _ F2 H1 t2 (walkD_enum h1 h2)⟩
theorem s_itZ (G : Good T C n W c X) {as : List E} {xs : List Expr} {elts : List Expr} {k : Nat} {tp p pos : Pos} (hg : glB c.sc "zip" = true) (ha : PA X xs (RA T C n W as)) (hs : xs.all nst = true) (hl : (xs.length == 2) = true) :
    PI X (.Tuple elts k tp) (.Call (.Name "zip" p) xs [] pos) (RI T C n W (.zip as)) := by
  obtain ⟨g1, g2, g3⟩ := G.glb hg
  have hm := G.gl.bi "zip" (by decide)
  match xs, hl, hs, ha with
  | [x, y], _, hs, ha =>
    have hs0 := hs
    rw [List.all_cons, Bool.and_eq_true, List.all_cons, Bool.and_eq_true] at hs
    refine ⟨fun pins s σ H R I ⟨e, F, R0, q⟩ => (RZ.pi_zipA g1 hm ha (star_cons hs.1) (star_any (by simp only [List.all_cons, hs.2.1, List.all_nil, Bool.and_self]))).run pins s σ H R I ⟨e, F, R0, PostI.firstA (by simpa only [evI] using q) fun rs e1 vs F1 H1 hx t1 r1 q => ?_⟩⟩
    obtain ⟨⟨ds, e2⟩, k1, q⟩ := q.opt
    obtain ⟨F2, t2, s2, rl⟩ := frzs_ok t1 r1 k1
    have two : ∀ {d1 d2 : D}, ds = [d1, d2] → ∃ v1 v2, vs = [v1, v2] ∧ Rep C F2 d1 v1 ∧ Rep C F2 d2 v2 := fun {d1 d2} e => by
      subst e
      simp only [RepL] at rl
      obtain ⟨v1, r, rfl, h1, v2, r2, rfl, h2, rfl⟩ := rl
      exact ⟨v1, v2, rfl, h1, h2⟩
    rw [G.K]
    dsimp only at q
    split at q
    · rename_i ys zs
      obtain ⟨v1, v2, rfl, h1, h2⟩ := two rfl
      rw [Rep] at h1 h2
      obtain ⟨a, us, rfl, p1, p2⟩ := h1
      obtain ⟨b, ws, rfl, p3, p4⟩ := h2
      refine ⟨a, b, us, ws, rfl, .inr ⟨t2.sr.sub.sqT p1, t2.sr.sub.sqT p3, q _ F2 H1 t2 (walkD_zip p2 p4 rfl ?_)⟩⟩
      refine ⟨fun i H hi q => ?_, fun H q => ⟨us, ws, q.sqT p1, q.sqT p3, by omega⟩, fun i H v H' hi q y => ?_⟩
      · have h1 : i < us.length := by omega
        have h2 : i < ws.length := by omega
        exact ⟨us, ws, us[i], ws[i], q.sqT p1, q.sqT p3, by simp [h1], by simp [h2]⟩
      · obtain ⟨T, x, z, h1, h2, h3, h4, h5⟩ := y
        exact ⟨T, x, z, h1, h2, h3, h4 us (q.sqT p1), h5 ws (q.sqT p3)⟩
    · rename_i d1 d2 _
      obtain ⟨v1, v2, rfl, h1, h2⟩ := two rfl
      obtain ⟨ys, k2, q⟩ := q.opt
      obtain ⟨zs, k3, q⟩ := q.opt
      obtain ⟨a, us, rfl, p1, p2⟩ := seqL_ok (H0 := H) t2.sr.sub k2 h1
      obtain ⟨b, ws, rfl, p3, p4⟩ := seqL_ok (H0 := H) t2.sr.sub k3 h2
      exact ⟨a, b, us, ws, rfl, .inl ⟨t2.sr.sub.sqL p1, t2.sr.sub.sqL p3, q _ F2 H1 t2 (walkD_zip p2 p4 rfl ((walk_zip rfl).mono (fun H s => ⟨s.sqL p1, s.sqL p3⟩) fun _ _ _ _ _ _ y => y))⟩⟩
    · exact q.elim
end
end PL
end

section
namespace PL
open PySem PySem.Spec L2

section
variable {C : G0} {e e0 e1 : EV} {F F0 F1 H H0 H1 : Hp} {σ σ0 σ1 : St}
theorem wipe_get : ∀ {own : List Nat} {σ : St} {j : Nat}, j < σ.length → (wipe σ own)[j]? = if j ∈ own then some none else σ[j]?
  | [], σ, j, h => by simp [wipe]
  | i :: own, σ, j, h => by
    rw [wipe]
    by_cases e : i = j
    · subst e
      have : i < (wipe σ own).length := by rw [wipe_length]; exact h
      simp [this]
    · rw [getE_set_ne e, wipe_get h]
      have : j ≠ i := Ne.symm e
      simp [this]
theorem wipeE_len : ∀ {own : List Nat} {e : EV}, (wipeE e own).length = e.length
  | [], e => rfl
  | i :: own, e => by rw [wipeE, List.length_set, wipeE_len]
theorem wipeE_get : ∀ {own : List Nat} {e : EV} {j : Nat}, j < e.length → (wipeE e own)[j]? = if j ∈ own then some .un else e[j]?
  | [], e, j, h => by simp [wipeE]
  | i :: own, e, j, h => by
    rw [wipeE]
    by_cases q : i = j
    · subst q
      have : i < (wipeE e own).length := by rw [wipeE_len]; exact h
      simp [this]
    · rw [getE_set_ne q, wipeE_get h]
      have : j ≠ i := Ne.symm q
      simp [this]
theorem wipe_congr {own : List Nat} {σ2 : St} (hl : σ2.length = σ.length) (h : ∀ j, j ∉ own → σ2[j]? = σ[j]?) : wipe σ2 own = wipe σ own := by
  apply List.ext_getElem?
  intro j
  by_cases hj : j < σ.length
  · rw [wipe_get hj, wipe_get (by rw [hl]; exact hj)]
    split
    · rfl
    · rename_i q; exact h j q
  · rw [List.getElem?_eq_none (by rw [wipe_length, hl]; omega), List.getElem?_eq_none (by rw [wipe_length]; omega)]
theorem wipe_wipe {own : List Nat} : wipe (wipe σ own) own = wipe σ own := wipe_congr (wipe_length _ _) fun j h => by
  by_cases hj : j < σ.length
  · rw [wipe_get hj, if_neg h]
  · rw [List.getElem?_eq_none (by rw [wipe_length]; omega), List.getElem?_eq_none (by omega)]
theorem SR.unset {i : Nat} (R : SR C e F σ H) : SR C (e.set i .un) F (σ.set i none) H := by
  have old : ∀ (j : Nat) (t : SV), (e.set i .un)[j]? = some t → t.mine = true → j ≠ i ∧ e[j]? = some t := fun j t q mt => by
    by_cases ej : i = j
    · subst ej
      rw [List.getElem?_set_self'] at q
      cases z : e[i]? with
      | none => rw [z] at q; cases q
      | some u => rw [z] at q; cases q; cases mt
    · rw [getE_set_ne ej] at q; exact ⟨Ne.symm ej, q⟩
  refine ⟨R.sub, fun j s q => ?_, fun j k s t a q1 q2 m1 m2 a1 a2 => ?_, by simp [R.len]⟩
  · by_cases ej : i = j
    · subst ej
      rw [List.getElem?_set_self'] at q
      cases z : e[i]? with
      | none => rw [z] at q; cases q
      | some u => rw [z] at q; cases q; trivial
    · rw [getE_set_ne ej] at q; rw [getE_set_ne ej]; exact R.slot j s q
  · obtain ⟨n1, o1⟩ := old j s q1 m1
    obtain ⟨n2, o2⟩ := old k t q2 m2
    rw [getE_set_ne (Ne.symm n1)] at a1
    rw [getE_set_ne (Ne.symm n2)] at a2
    exact R.dis j k s t a o1 o2 m1 m2 a1 a2
theorem SR.wipe (R : SR C e F σ H) : ∀ own : List Nat, SR C (wipeE e own) F (L2.wipe σ own) H
  | [] => R
  | i :: own => (SR.wipe R own).unset
theorem Tr.wipe (t : Tr C e0 F0 σ0 H0 e F σ H) : ∀ own : List Nat, (∀ i ∈ own, ∀ d, e0[i]? ≠ some (.bor d) ∧ e0[i]? ≠ some (.fro d)) → Tr C e0 F0 σ0 H0 (wipeE e own) F (L2.wipe σ own) H
  | [], _ => t
  | i :: own, h => by
    have ih := Tr.wipe t own fun j hj => h j (by simp [hj])
    by_cases hl : i < (wipeE e own).length
    · exact set0 ih hl (fun d => (h i (by simp) d).1) (fun d => (h i (by simp) d).2) (.inl rfl)
    · have h2 : ¬ i < (L2.wipe σ own).length := by rw [wipe_length]; rw [wipeE_len] at hl; rw [← t.sr.len]; exact hl
      rw [wipeE, L2.wipe, List.set_eq_of_length_le (by omega), List.set_eq_of_length_le (by omega)]
      exact ih
theorem Tr.pad {p : Addr} {o : HO} (t : Tr C e F σ H e1 F1 σ1 H1) (hp : H p = none) (hF : F1 p = none) (hn : ¬ OwnA e1 σ1 p) : Tr C e F σ H e1 F1 σ1 (upd H1 p o) := by
  have R := t.sr
  refine ⟨⟨fun b u q => ?_, fun j s q => ?_, R.dis, R.len⟩, t.fs, fun b u q n => ?_, fun b q => ?_, t.new, t.own, t.nob, t.bor, t.fro, t.len⟩
  · rw [upd_ne fun e => by subst e; rw [hF] at q; cases q]; exact R.sub b u q
  · have z := R.slot j s q
    cases s with
    | un => trivial
    | val d' => exact z
    | fro d' => exact z
    | own d' =>
      obtain ⟨b, q1, q2⟩ := z
      have hne : b ≠ p := fun e => hn ⟨j, _, q, rfl, by rw [← e]; exact q1⟩
      exact ⟨b, q1, q2.mono (Sub.refl _) q2.1 fun o ho => by rw [upd_ne hne]; exact ho⟩
    | bor d' =>
      obtain ⟨b, q1, q2⟩ := z
      have hne : b ≠ p := fun e => hn ⟨j, _, q, rfl, by rw [← e]; exact q1⟩
      exact ⟨b, q1, q2.mono (Sub.refl _) q2.1 fun o ho => by rw [upd_ne hne]; exact ho⟩
  · rw [upd_ne (ne_of_none q hp)]; exact t.keep b u q n
  · by_cases e : b = p
    · subst e; rw [upd_same]; simp
    · rw [upd_ne e]; exact t.there b q
/-- what a turn leaves alone, but for its own slots -/
def Dn (own : List Nat) (e e' : EV) : Prop := (∀ (i : Nat) (s : SV), i ∉ own → e[i]? = some s → s.dat.isSome = true → ∃ s', e'[i]? = some s' ∧ s'.dat.isSome = true) ∧
  ∀ (i : Nat) (s' : SV), i ∉ own → e'[i]? = some s' → s'.mine = true → ∃ s, e[i]? = some s ∧ s.mine = true
theorem Dn.refl (own : List Nat) (e : EV) : Dn own e e := ⟨fun i s _ h k => ⟨s, h, k⟩, fun i s _ h k => ⟨s, h, k⟩⟩
theorem Dn.trans {own : List Nat} {a b d : EV} (x : Dn own a b) (y : Dn own b d) : Dn own a d :=
  ⟨fun i s n h k => by obtain ⟨s1, h1, k1⟩ := x.1 i s n h k; exact y.1 i s1 n h1 k1, fun i s n h k => by obtain ⟨s1, h1, k1⟩ := y.2 i s n h k; exact x.2 i s1 n h1 k1⟩
theorem Dn.same {own : List Nat} {a b : EV} (h : ∀ j, j ∉ own → b[j]? = a[j]?) : Dn own a b :=
  ⟨fun i s n q k => ⟨s, by rw [h i n]; exact q, k⟩, fun i s n q k => ⟨s, by rw [← h i n]; exact q, k⟩⟩
theorem Dn.ofE {own : List Nat} {H' F' : Hp} {e' : EV} (t : TrE C e F σ H e' F' H') : Dn own e e' := ⟨fun i s _ => t.dat i s, fun i s _ => t.nom i s⟩
theorem Dn.wipe {own : List Nat} {a : EV} : Dn own a (wipeE a own) := Dn.same fun j h => by
  by_cases hj : j < a.length
  · rw [wipeE_get hj, if_neg h]
  · rw [List.getElem?_eq_none (by rw [wipeE_len]; omega), List.getElem?_eq_none (by omega)]
theorem unwipe_len : ∀ {own : List Nat} {a b : EV}, (unwipe a b own).length = b.length
  | [], a, b => rfl
  | i :: own, a, b => by
    rw [unwipe]
    split
    · rw [List.length_set, unwipe_len]
    · rw [unwipe_len]
theorem unwipe_get : ∀ {own : List Nat} {a b : EV} {j : Nat}, a.length = b.length → j < b.length → (unwipe a b own)[j]? = if j ∈ own then a[j]? else b[j]?
  | [], a, b, j, _, h => by simp [unwipe]
  | i :: own, a, b, j, hl, h => by
    rw [unwipe]
    split
    · rename_i s hs
      by_cases q : i = j
      · subst q
        have : i < (unwipe a b own).length := by rw [unwipe_len]; exact h
        simp [this, hs]
      · rw [getE_set_ne q, unwipe_get hl h]
        have : j ≠ i := Ne.symm q
        simp [this]
    · rename_i hs
      have : j ≠ i := fun q => by subst q; rw [List.getElem?_eq_getElem (by omega)] at hs; cases hs
      rw [unwipe_get hl h]
      simp [this]
/-- behind a block -/
theorem unwipe_ok {own : List Nat} {eL : EV} {FL HL : Hp} (R : SR C e1 F1 σ H1) (u : Tr C (wipeE e1 own) F1 (wipe σ own) H1 eL FL (wipe σ own) HL) (dn : Dn own (wipeE e1 own) eL) : TrE C e1 F1 σ H1 (unwipe e1 eL own) FL HL := by
  have hlL : eL.length = e1.length := by rw [u.len, wipeE_len]
  have lt : ∀ {j : Nat} {s : SV} {l : EV}, l.length = e1.length → l[j]? = some s → j < e1.length := fun {j s l} h q => by rw [← h]; exact (List.getElem?_eq_some_iff.mp q).1
  have gu : ∀ {j : Nat}, j < e1.length → (unwipe e1 eL own)[j]? = if j ∈ own then e1[j]? else eL[j]? := fun {j} h => unwipe_get hlL.symm (by rw [hlL]; exact h)
  have ge : ∀ {j : Nat}, j < e1.length → (wipeE e1 own)[j]? = if j ∈ own then some .un else e1[j]? := fun {j} h => wipeE_get h
  have gs : ∀ {j : Nat}, j < e1.length → (L2.wipe σ own)[j]? = if j ∈ own then some none else σ[j]? := fun {j} h => wipe_get (by rw [← R.len]; exact h)
  have lu : (unwipe e1 eL own).length = e1.length := by rw [unwipe_len, hlL]
  have ownW : ∀ {b : Addr}, OwnA (wipeE e1 own) (L2.wipe σ own) b → ∃ (j : Nat) (s : SV), j ∉ own ∧ e1[j]? = some s ∧ s.mine = true ∧ σ[j]? = some (some (.ref b)) := fun {b} ⟨j, s, h1, h2, h3⟩ => by
    have hj := lt (wipeE_len) h1
    rw [ge hj] at h1
    rw [gs hj] at h3
    by_cases ho : j ∈ own
    · rw [if_pos ho] at h1; cases h1; cases h2
    · rw [if_neg ho] at h1 h3; exact ⟨j, s, ho, h1, h2, h3⟩
  have ownE : ∀ {b : Addr}, OwnA (wipeE e1 own) (L2.wipe σ own) b → OwnA e1 σ b := fun h => by
    obtain ⟨j, s, _, h1, h2, h3⟩ := ownW h
    exact ⟨j, s, h1, h2, h3⟩
  -- a mine slot of the end: own slot as it was, or another one
  have nom : ∀ (i : Nat) (s' : SV), (unwipe e1 eL own)[i]? = some s' → s'.mine = true → ∃ s, e1[i]? = some s ∧ s.mine = true := fun i s' h m => by
    have hi := lt lu h
    rw [gu hi] at h
    by_cases ho : i ∈ own
    · rw [if_pos ho] at h; exact ⟨s', h, m⟩
    · rw [if_neg ho] at h
      obtain ⟨s, h1, h2⟩ := dn.2 i s' ho h m
      rw [ge hi, if_neg ho] at h1
      exact ⟨s, h1, h2⟩
  refine ⟨⟨⟨u.sr.sub, fun i s h => ?_, fun i k s s' a h1 h2 m1 m2 a1 a2 => ?_, by rw [lu]; exact R.len⟩, u.fs, fun b o h n => u.keep b o h fun q => n (ownE q), u.there, fun b o h => ?_, fun i d a h1 h2 => ?_, fun i d h => ?_, fun i d h => ⟨rfl, ?_⟩, fun i d h => ⟨rfl, ?_⟩, lu⟩, fun i s h k => ?_, nom⟩
  · have hi := lt lu h
    rw [gu hi] at h
    by_cases ho : i ∈ own
    · rw [if_pos ho] at h
      have z := R.slot i s h
      have stay : ∀ {d : D} {a : Addr}, s.mine = true → σ[i]? = some (some (.ref a)) → Mine C F1 H1 d a → Mine C FL HL d a := fun {d a} ms ea mm => by
        have no : ¬ OwnA (wipeE e1 own) (L2.wipe σ own) a := fun oa => by
          obtain ⟨j, s', w0, w1, w2, w3⟩ := ownW oa
          have := R.dis j i s' s a w1 h w2 ms w3 ea
          subst this
          exact w0 ho
        refine mm.mono u.fs ?_ fun o ho => u.keep a o ho no
        cases fa : FL a with
        | none => rfl
        | some o =>
          obtain ⟨o', ho'⟩ := mm.there
          rcases u.new a o fa with w | w | w
          · rw [mm.1] at w; cases w
          · rw [ho'] at w; cases w
          · exact absurd w no
      cases s with
      | un => trivial
      | val d => obtain ⟨v, z1, z2⟩ := z; exact ⟨v, z1, z2.mono u.fs⟩
      | fro d => obtain ⟨v, z1, z2⟩ := z; exact ⟨v, z1, z2.mono u.fs⟩
      | own d => obtain ⟨a, z1, z2⟩ := z; exact ⟨a, z1, stay rfl z1 z2⟩
      | bor d => obtain ⟨a, z1, z2⟩ := z; exact ⟨a, z1, stay rfl z1 z2⟩
    · rw [if_neg ho] at h
      have z := u.sr.slot i s h
      rw [gs hi, if_neg ho] at z
      exact z
  · obtain ⟨t1, w1, w2⟩ := nom i s h1 m1
    obtain ⟨t2, w3, w4⟩ := nom k s' h2 m2
    exact R.dis i k t1 t2 a w1 w3 w2 w4 a1 a2
  · rcases u.new b o h with w | w | w
    · exact .inl w
    · exact .inr (.inl w)
    · exact .inr (.inr (ownE w))
  · have hi := lt lu h1
    have h0 := h1
    rw [gu hi] at h1
    by_cases ho : i ∈ own
    · rw [if_pos ho] at h1; exact .inl ⟨i, d, h1, h2⟩
    · rw [if_neg ho] at h1
      rcases u.own i d a h1 (by rw [gs hi, if_neg ho]; exact h2) with ⟨j, d', k1, k2⟩ | k
      · have hj := lt wipeE_len k1
        rw [ge hj] at k1
        rw [gs hj] at k2
        by_cases hjo : j ∈ own
        · rw [if_pos hjo] at k1; cases k1
        · rw [if_neg hjo] at k1 k2; exact .inl ⟨j, d', k1, k2⟩
      · exact .inr k
  · have hi := lt lu h
    rw [gu hi] at h
    by_cases ho : i ∈ own
    · rw [if_pos ho] at h; exact ⟨d, h⟩
    · rw [if_neg ho] at h
      obtain ⟨d', k⟩ := u.nob i d h
      rw [ge hi, if_neg ho] at k
      exact ⟨d', k⟩
  · have hi := lt rfl h
    rw [gu hi]
    by_cases ho : i ∈ own
    · rw [if_pos ho]; exact ⟨d, .inl h⟩
    · rw [if_neg ho]
      exact (u.bor i d (by rw [ge hi, if_neg ho]; exact h)).2
  · have hi := lt rfl h
    rw [gu hi]
    by_cases ho : i ∈ own
    · rw [if_pos ho]; exact h
    · rw [if_neg ho]
      exact (u.fro i d (by rw [ge hi, if_neg ho]; exact h)).2
  · have hi := lt rfl h
    rw [gu hi]
    by_cases ho : i ∈ own
    · rw [if_pos ho]; exact ⟨s, h, k⟩
    · rw [if_neg ho]
      exact dn.1 i s ho (by rw [ge hi, if_neg ho]; exact h) k
end
end PL
end

section
namespace PL
open PySem PySem.Spec L2

section
variable {T : GT} {C : G0} {n : Nat} {W : WX} {c : CC} {X : Cx}
abbrev W0 : WX := fun _ _ _ _ => False
theorem takes0 : Takes X W0 := fun u s' ⟨a, B, sI, pins, σ, H, cls, d, e, I, nb, up, sky, na, os, ag, w⟩ => w.elim
theorem Good.blk (G : Good T C n W c X) (scope : Scope) (s : Shared) (H : Hp) (cl : List (Str × Addr)) (p : Addr) (fp : List Addr) : Good T C n W0 (blkCC c scope) (X.blk s H scope (compEnvC scope cl p X.env) fp) where
  K := G.K
  N := G.N
  nd := G.nd
  sc := by
    show relS scope X.env.scope = relS scope c.sc
    rw [G.sc]
  st := fun i x h => by
    unfold stB at h
    rw [Bool.and_eq_true, Bool.and_eq_true] at h
    obtain ⟨⟨h1, h2⟩, h3⟩ := h
    have e : (X.blk s H scope (compEnvC scope cl p X.env) fp).env.scope = relS scope c.sc := by
      show relS scope X.env.scope = relS scope c.sc
      rw [G.sc]
    rw [e]
    have h3 : locB scope x = true := h3
    refine ⟨?_, ?_⟩
    · have h2 : locB (relS scope c.sc) x = true := h2
      unfold locB at h2
      split at h2 <;> first | exact .inl (by assumption) | exact .inr (by assumption) | cases h2
    · unfold locB at h3
      split at h3
      · rename_i q
        exact .inr (lookup_relS_keep (by simp) q)
      · rename_i q
        exact .inl (by show (scope.names.lookup x == some .cell) = true; rw [q]; rfl)
      · cases h3
  cm := G.cm
  hu := G.hu
  room := G.room
  tk := takes0
  gl := ⟨G.gl.names, G.gl.fns, G.gl.cons, G.gl.bi, G.gl.gcd, G.gl.dcs⟩
def RC (T : GT) (C : G0) (n : Nat) (W : WX) (a : Option E) : TT := fun σ H Q => ∃ e F, SR C e F σ H ∧ PostB C W e F σ H (evC T (callF T n) a e) Q
theorem s_no : PTs X [] (RC T C n W none) := ⟨fun pins s σ H Q I ⟨e, F, R, q⟩ => by
  simp only [evC] at q
  exact pts_nil.run pins s σ H Q I (q F H (TrE.refl R))⟩
theorem s_one {a : E} {x : Expr} (h : PT X x (RT T C n W a)) : PTs X [x] (RC T C n W (some a)) := ⟨fun pins s σ H Q I ⟨e, F, R, q⟩ => by
  simp only [evC] at q
  exact (pts_one h).run pins s σ H Q I ⟨e, F, R, q⟩⟩
def isSetE : Expr → Bool
  | .Set .. => true
  | _ => false
theorem folded_no {x : Expr} (h : isSetE x = false) {env : Env} : ∀ v, foldedSetIterable x env v = pure v := fun v => by
  cases x <;> first | rfl | cases h
/-- the turns' function -/
def turnF (T : GT) (n : Nat) (tg : Tg) (cond : Option E) (elt : E) : D → EV → Out (Option D) := fun d e => opt (asg tg d e) fun e1 => (evC T (callF T n) cond e1).bd fun k e2 => if k then (evE T (callF T n) false elt e2).bd fun r e3 => opt (frz e3 r) fun (x, e4) => .ok (some x) e4 else .ok none e2
theorem s_lcTurns {own : List Nat} {tg : Tg} {cond : Option E} {elt : E} {e1 : EV} {F1 H1 : Hp} {σ : St} {Q : VK} {J : L2.It} {ds : List D} (hix : (tgIx tg).all own.contains = true)
    (R1 : SR C e1 F1 σ H1) (wk : WalkD C F1 J ds) {D0 : Addr} (hD : H1 D0 = none) (q : match compL (turnF T n tg cond elt) own ds (wipeE e1 own) [] with
      | .ok acc eL => ∀ FL HL accV, Tr C (wipeE e1 own) F1 (wipe σ own) H1 eL FL (wipe σ own) HL → Dn own (wipeE e1 own) eL → HL D0 = some (.lst accV) → RepL C FL acc accV → FL D0 = none → ¬ OwnA eL (wipe σ own) D0 → Q (.ref D0) HL
      | _ => False) :
    ∃ W : Nat → Nat → Hp → Prop, (∃ m, W 0 m (upd H1 D0 (.lst []))) ∧ ∀ i m H, W i m H →
      (J.stop i H ∧ Q (.ref D0) H) ∨ (J.go i H ∧ ∃ Nx : Hp → Prop, (∀ H', Nx H' → ∃ m', m' < m ∧ W (i + 1) m' H') ∧ ∀ x H', J.yld i H x H' → gTg C.K tg x (wipe σ own) H' fun σ2 H2 => wipe σ2 own = wipe σ own ∧ RC T C n W0 cond σ2 H2 fun b H3 =>
        if b = true then RE T C n W0 elt σ2 H3 fun y H4 => ∃ acc, H4 D0 = some (.lst acc) ∧ acc.length < sizeLine ∧ Nx (upd H4 D0 (.lst (acc ++ [y]))) else Nx H3) := by
  have Rw : SR C (wipeE e1 own) F1 (wipe σ own) H1 := R1.wipe own
  have hF1 : F1 D0 = none := by
    cases z : F1 D0 with
    | none => rfl
    | some u => rw [R1.sub _ _ z] at hD; cases hD
  have nown0 : ¬ OwnA (wipeE e1 own) (wipe σ own) D0 := fun oa => by
    obtain ⟨_, o, h⟩ := Rw.ownNone oa
    rw [hD] at h; cases h
  have nob : ∀ i ∈ own, ∀ d, (wipeE e1 own)[i]? ≠ some (.bor d) ∧ (wipeE e1 own)[i]? ≠ some (.fro d) := fun i hi d => by
    by_cases hl : i < e1.length
    · rw [wipeE_get hl, if_pos hi]; simp
    · rw [List.getElem?_eq_none (by rw [wipeE_len]; omega)]; simp
  refine lc_it (Qd := fun H => Q (.ref D0) H) wk (fun i H => ∃ e' F' acc accV, Tr C (wipeE e1 own) F1 (wipe σ own) H1 e' F' (wipe σ own) H ∧ Dn own (wipeE e1 own) e' ∧ H D0 = some (.lst accV) ∧ RepL C F' acc accV ∧ F' D0 = none ∧ ¬ OwnA e' (wipe σ own) D0 ∧
      (match compL (turnF T n tg cond elt) own (ds.drop i) e' acc with
      | .ok acc eL => ∀ FL HL accV, Tr C (wipeE e1 own) F1 (wipe σ own) H1 eL FL (wipe σ own) HL → Dn own (wipeE e1 own) eL → HL D0 = some (.lst accV) → RepL C FL acc accV → FL D0 = none → ¬ OwnA eL (wipe σ own) D0 → Q (.ref D0) HL
      | _ => False)) ?_ ?_ ?_ ?_
  · exact ⟨wipeE e1 own, F1, [], [], (Tr.refl Rw).pad hD hF1 nown0, Dn.refl _ _, upd_same, .nil, hF1, nown0, by simpa using q⟩
  · rintro i H hi ⟨e', F', acc, accV, t, _⟩
    exact t.fs.trans t.sr.sub
  · rintro i x H H' hi ⟨e', F', acc, accV, t, dn, hd, racc, fd, no, q⟩ ⟨d, hdi, hy⟩
    have hdrop : ds.drop i = d :: ds.drop (i + 1) := by
      rw [List.drop_eq_getElem_cons hi]
      rw [List.getElem?_eq_getElem hi] at hdi; cases hdi; rfl
    rw [hdrop, compL] at q
    -- the state behind the yield
    obtain ⟨F'', t2, s2, rx, hd', fd'⟩ : ∃ F'', Tr C (wipeE e1 own) F1 (wipe σ own) H1 e' F'' (wipe σ own) H' ∧ Sub F' F'' ∧ Rep C F'' d x ∧ H' D0 = some (.lst accV) ∧ F'' D0 = none := by
      rcases hy with ⟨rfl, r⟩ | ⟨p, d1, d2, x1, x2, rfl, hp, rfl, rfl, r1, r2⟩
      · exact ⟨F', t, Sub.refl _, r.mono t.fs, hd, fd⟩
      · have u := (TrE.refl t.sr).newT (o := .tup [x1, x2]) hp
        have hne : D0 ≠ p := fun e => by subst e; rw [hd] at hp; cases hp
        refine ⟨_, t.trans u.toTr, u.fs, ?_, by rw [upd_ne hne]; exact hd, by rw [upd_ne hne]; exact fd⟩
        rw [Rep]
        exact ⟨p, [x1, x2], rfl, .inl (.inl upd_same), (RepL.cons r1 (.cons r2 .nil)).mono (t.fs.trans u.fs)⟩
    have racc := racc.mono s2
    cases ka : asg tg d e' with
    | none => simp only [turnF, ka, opt_none] at q
    | some e2 =>
      simp only [turnF, ka, opt_some] at q
      refine asg_ok t2 rx ka fun σ2 t3 ar => ⟨?_, e2, F'', t3.sr, ?_⟩
      · have : L2.wipe σ2 own = L2.wipe (L2.wipe σ own) own := wipe_congr ar.len fun j hj => (ar.same j fun z => hj (List.contains_iff_mem.mp (List.all_eq_true.mp hix j z))).1
        rw [this, wipe_wipe]
      have hw : L2.wipe σ2 own = L2.wipe σ own := by
        have : L2.wipe σ2 own = L2.wipe (L2.wipe σ own) own := wipe_congr ar.len fun j hj => (ar.same j fun z => hj (List.contains_iff_mem.mp (List.all_eq_true.mp hix j z))).1
        rw [this, wipe_wipe]
      have dn2 : Dn own (wipeE e1 own) e2 := dn.trans (Dn.same fun j hj => (ar.same j fun z => hj (List.contains_iff_mem.mp (List.all_eq_true.mp hix j z))).2)
      have no2 : ¬ OwnA e2 σ2 D0 := fun ⟨j, s, h1, h2, h3⟩ => by
        obtain ⟨k1, k2⟩ := ar.mine j s h1 h2
        exact no ⟨j, s, k1, h2, by rw [← k2]; exact h3⟩
      -- what an evaluation leaves of the new list
      have after : ∀ {e4 : EV} {F4 H4 : Hp}, TrE C e2 F'' σ2 H' e4 F4 H4 → H4 D0 = some (.lst accV) ∧ F4 D0 = none ∧ ¬ OwnA e4 σ2 D0 := fun {e4 F4 H4} u => by
        refine ⟨u.keep _ _ hd' no2, ?_, fun z => no2 (u.ownA' z)⟩
        cases z : F4 D0 with
        | none => rfl
        | some o =>
          rcases u.new _ _ z with w | w | w
          · rw [fd'] at w; cases w
          · rw [hd'] at w; cases w
          · exact absurd w no2
      have nown3 : ∀ {e4 : EV}, ¬ OwnA e4 σ2 D0 → ¬ OwnA (wipeE e4 own) (L2.wipe σ own) D0 := fun {e4} h ⟨j, s, h1, h2, h3⟩ => by
        have hj : j < (wipeE e4 own).length := (List.getElem?_eq_some_iff.mp h1).1
        rw [wipeE_len] at hj
        have hjs : j < (L2.wipe σ own).length := (List.getElem?_eq_some_iff.mp h3).1
        rw [← hw, wipe_length] at hjs
        rw [wipeE_get hj] at h1
        rw [← hw, wipe_get hjs] at h3
        by_cases ho : j ∈ own
        · rw [if_pos ho] at h1; cases h1; cases h2
        · rw [if_neg ho] at h1 h3; exact h ⟨j, s, h1, h2, h3⟩
      revert q
      generalize evC T (callF T n) cond e2 = o
      intro q
      cases o with
      | exc z p e' => exact q.elim
      | stuck => exact q.elim
      | ok b e3 =>
        intro F3 H3 t4
        simp only [bd_ok] at q
        cases b with
        | false =>
          simp only [Bool.false_eq_true, if_false] at q ⊢
          obtain ⟨a1, a2, a3⟩ := after t4
          refine ⟨wipeE e3 own, F3, acc, accV, ?_, dn2.trans ((Dn.ofE t4).trans Dn.wipe), a1, racc.mono t4.fs, a2, nown3 a3, q⟩
          have := (t3.trans t4.toTr).wipe own nob
          rw [hw] at this
          exact this
        | true =>
          simp only [if_true] at q ⊢
          refine ⟨e3, F3, t4.sr, ?_⟩
          revert q
          generalize evE T (callF T n) false elt e3 = o
          intro q
          cases o with
          | exc z p e' => exact q.elim
          | stuck => exact q.elim
          | ok r e4 =>
            intro v F4 H4 t5 r5
            simp only [bd_ok] at q
            cases kf : frz e4 r with
            | none => rw [kf] at q; exact q.elim
            | some z =>
              obtain ⟨xd, e5⟩ := z
              rw [kf] at q
              simp only [opt_some] at q
              obtain ⟨F5, t6, rp, s6⟩ := frz_ok t5 r5 kf
              obtain ⟨a1, a2, a3⟩ := after (t4.trans t6)
              by_cases hz : acc.length < sizeL
              · rw [if_pos hz] at q
                have racc := racc.mono (t4.trans t6).fs
                refine ⟨accV, a1, by rw [← sizeL_eq, ← racc.len]; exact hz, wipeE e5 own, F5, acc ++ [xd], accV ++ [v], ?_, dn2.trans (((Dn.ofE t4).trans (Dn.ofE t6)).trans Dn.wipe), upd_same, racc.append (.cons rp .nil), a2, nown3 a3, q⟩
                have := (t3.trans (t4.trans t6).toTr).wipe own nob
                rw [hw] at this
                exact this.pad hD a2 (nown3 a3)
              · rw [if_neg hz] at q; exact q.elim
  · rintro H ⟨e', F', acc, accV, t, dn, hd, racc, fd, no, q⟩
    rw [List.drop_length, compL] at q
    exact q F' H accV t dn hd racc fd no
/-- the iterable is walked; what the block gives -/
theorem rd_comp {own : List Nat} {it : It} {tg : Tg} {cond : Option E} {elt : E} {σ : St} {H : Hp} {Q : VK} (hix : (tgIx tg).all own.contains = true) (h : RE T C n W (.comp own it tg cond elt) σ H Q) :
    tLc (RI T C n W it) (gTg C.K tg) (RC T C n W0 cond) (RE T C n W0 elt) own σ H Q := by
  obtain ⟨e, F, R, q⟩ := h
  refine ⟨e, F, R, ?_⟩
  have q : PostE C W e F σ H ((evI T (callF T n) it e).bd fun ds e1 => (compL (turnF T n tg cond elt) own ds (wipeE e1 own) []).bd fun acc e2 => .ok (.t (.lst acc)) (unwipe e1 e2 own)) Q := q
  revert q
  generalize evI T (callF T n) it e = o
  intro q
  cases o with
  | exc z p e' => exact q
  | stuck => exact q
  | ok ds e1 =>
    intro J F1 H1 t1 wk D0 hD
    refine s_lcTurns (T := T) (n := n) hix t1.sr wk hD ?_
    simp only [bd_ok] at q
    revert q
    generalize ho : compL (turnF T n tg cond elt) own ds (wipeE e1 own) [] = o
    intro q
    cases o with
    | exc z p e' =>
      have : ∀ (ds : List D) (e : EV) (acc : List D), compL (turnF T n tg cond elt) own ds e acc ≠ .exc z p e' := fun ds => by
        induction ds with
        | nil => intro e acc; rw [compL]; simp
        | cons d ds ih =>
          intro e acc
          rw [compL]
          split
          · split
            · exact ih _ _
            · simp
          · exact ih _ _
          · simp
      exact absurd ho (this _ _ _)
    | stuck => exact q
    | ok acc eL =>
      intro FL HL accV t dn hd racc fd no
      have tt := t1.trans (unwipe_ok t1.sr t dn)
      refine q _ FL HL tt ⟨D0, rfl, ⟨fd, accV, hd, racc⟩, ?_, fun z => ?_⟩
      · by_cases z : H D0 = none
        · exact z
        · exact absurd hD (t1.there _ z)
      · obtain ⟨_, o, ho⟩ := t1.sr.ownNone ((unwipe_ok t1.sr t dn).ownA' z)
        rw [hD] at ho; cases ho
/-! ### two clauses -/
theorem Dn.weak {own own1 : List Nat} {a b : EV} (h : ∀ i ∈ own1, i ∈ own) (d : Dn own1 a b) : Dn own a b := ⟨fun i s n => d.1 i s fun m => n (h i m), fun i s n => d.2 i s fun m => n (h i m)⟩
theorem wipe_in {own own1 : List Nat} {σ : St} (h : ∀ i ∈ own1, i ∈ own) : wipe (wipe σ own1) own = wipe σ own := wipe_congr (wipe_length _ _) fun j hj => by
  by_cases hl : j < σ.length
  · rw [wipe_get hl, if_neg fun m => hj (h j m)]
  · rw [List.getElem?_eq_none (by rw [wipe_length]; omega), List.getElem?_eq_none (by omega)]
theorem nown_wipe {own : List Nat} {e4 : EV} {σ σ2 : St} {D0 : Addr} (hw : L2.wipe σ2 own = L2.wipe σ own) (h : ¬ OwnA e4 σ2 D0) : ¬ OwnA (wipeE e4 own) (L2.wipe σ own) D0 := fun ⟨j, s, h1, h2, h3⟩ => by
  have hj : j < (wipeE e4 own).length := (List.getElem?_eq_some_iff.mp h1).1
  rw [wipeE_len] at hj
  have hjs : j < (L2.wipe σ own).length := (List.getElem?_eq_some_iff.mp h3).1
  rw [← hw, wipe_length] at hjs
  rw [wipeE_get hj] at h1
  rw [← hw, wipe_get hjs] at h3
  by_cases ho : j ∈ own
  · rw [if_pos ho] at h1; cases h1; cases h2
  · rw [if_neg ho] at h1 h3; exact h ⟨j, s, h1, h2, h3⟩
/-- turns of any kind -/
theorem itG {J : L2.It} {m : Nat} {Gd : Hp → Prop} {Y : Nat → Hp → V → Hp → Prop} (w : Walk J m Gd Y) {H1 : Hp} {Qd : Hp → Prop} (Bo : V → Hp → (Hp → Prop) → Prop) (P : Nat → Hp → Prop) (h0 : P 0 H1) (hG : ∀ i H, i ≤ m → P i H → Gd H)
    (hs : ∀ i x H H', i < m → P i H → Y i H x H' → Bo x H' (P (i + 1))) (hd : ∀ H, P m H → Qd H) :
    ∃ W : Nat → Nat → Hp → Prop, (∃ k, W 0 k H1) ∧ ∀ i k H, W i k H → (J.stop i H ∧ Qd H) ∨ (J.go i H ∧ ∃ Nx : Hp → Prop, (∀ H', Nx H' → ∃ k', k' < k ∧ W (i + 1) k' H') ∧ ∀ x H', J.yld i H x H' → Bo x H' Nx) := by
  refine ⟨fun i k H => k + i = m ∧ P i H, ⟨m, rfl, h0⟩, fun i k H z => ?_⟩
  obtain ⟨rfl, p⟩ := z
  have gd := hG i H (by omega) p
  cases k with
  | zero =>
    rw [Nat.zero_add] at *
    exact .inl ⟨w.stops H gd, hd H p⟩
  | succ k =>
    have lt : i < k + 1 + i := by omega
    exact .inr ⟨w.goes i H lt gd, P (i + 1), fun H' p' => ⟨k, by omega, by omega, p'⟩, fun x H' y => hs i x H H' lt p (w.yields i H x H' lt gd y)⟩
/-- behind a yield -/
theorem yld_ok {eB : EV} {FB HB F1 F' H H' : Hp} {σB σ' : St} {e' : EV} {D0 : Addr} {d : D} {x : V} {acc : List D} {accV : List V} (t : Tr C eB FB σB HB e' F' σ' H) (s0 : Sub F1 F') (hd : H D0 = some (.lst accV)) (fd : F' D0 = none)
    (hy : (H' = H ∧ Rep C F1 d x) ∨ ∃ p d1 d2 x1 x2, x = .ref p ∧ H p = none ∧ H' = upd H p (.tup [x1, x2]) ∧ d = .tup [d1, d2] ∧ Rep C F1 d1 x1 ∧ Rep C F1 d2 x2) :
    ∃ F'', Tr C eB FB σB HB e' F'' σ' H' ∧ Sub F' F'' ∧ Rep C F'' d x ∧ H' D0 = some (.lst accV) ∧ F'' D0 = none := by
  rcases hy with ⟨rfl, r⟩ | ⟨p, d1, d2, x1, x2, rfl, hp, rfl, rfl, r1, r2⟩
  · exact ⟨F', t, Sub.refl _, r.mono s0, hd, fd⟩
  · have u := (TrE.refl t.sr).newT (o := .tup [x1, x2]) hp
    have hne : D0 ≠ p := fun e => by subst e; rw [hd] at hp; cases hp
    refine ⟨_, t.trans u.toTr, u.fs, ?_, by rw [upd_ne hne]; exact hd, by rw [upd_ne hne]; exact fd⟩
    rw [Rep]
    exact ⟨p, [x1, x2], rfl, .inl (.inl upd_same), (RepL.cons r1 (.cons r2 .nil)).mono (s0.trans u.fs)⟩
theorem s_lcIn {own : List Nat} {tg : Tg} {cond : Option E} {elt : E} {eB : EV} {FB HB : Hp} {σB : St} {e1 : EV} {F1 H1 : Hp} {σ : St} {Qd : Hp → Prop} {J : L2.It} {ds : List D} (hix : (tgIx tg).all own.contains = true)
    (nob : ∀ i ∈ own, ∀ d, eB[i]? ≠ some (.bor d) ∧ eB[i]? ≠ some (.fro d)) (t1 : Tr C eB FB σB HB e1 F1 σ H1) (wk : WalkD C F1 J ds) {D0 : Addr} (hB : HB D0 = none) {acc0 : List D} {accV0 : List V} (hd0 : H1 D0 = some (.lst accV0)) (r0 : RepL C F1 acc0 accV0) (f0 : F1 D0 = none) (n0 : ¬ OwnA e1 σ D0)
    (q : match compL (turnF T n tg cond elt) own ds (wipeE e1 own) acc0 with
      | .ok acc eL => ∀ FL HL accV, Tr C eB FB σB HB eL FL (wipe σ own) HL → Dn own (wipeE e1 own) eL → HL D0 = some (.lst accV) → RepL C FL acc accV → FL D0 = none → ¬ OwnA eL (wipe σ own) D0 → Qd HL
      | _ => False) :
    ∃ W : Nat → Nat → Hp → Prop, (∃ m, W 0 m H1) ∧ ∀ i m H, W i m H →
      (J.stop i H ∧ Qd H) ∨ (J.go i H ∧ ∃ Nx : Hp → Prop, (∀ H', Nx H' → ∃ m', m' < m ∧ W (i + 1) m' H') ∧ ∀ x H', J.yld i H x H' → gTg C.K tg x (wipe σ own) H' fun σ2 H2 => wipe σ2 own = wipe σ own ∧ RC T C n W0 cond σ2 H2 fun b H3 =>
        if b = true then RE T C n W0 elt σ2 H3 fun y H4 => ∃ acc, H4 D0 = some (.lst acc) ∧ acc.length < sizeLine ∧ Nx (upd H4 D0 (.lst (acc ++ [y]))) else Nx H3) := by
  refine itG wk (Qd := Qd) (fun x H' Nx => gTg C.K tg x (wipe σ own) H' fun σ2 H2 => wipe σ2 own = wipe σ own ∧ RC T C n W0 cond σ2 H2 fun b H3 =>
        if b = true then RE T C n W0 elt σ2 H3 fun y H4 => ∃ acc, H4 D0 = some (.lst acc) ∧ acc.length < sizeLine ∧ Nx (upd H4 D0 (.lst (acc ++ [y]))) else Nx H3) (fun i H => ∃ e' F' acc accV, Tr C eB FB σB HB e' F' (wipe σ own) H ∧ Sub F1 F' ∧ Dn own (wipeE e1 own) e' ∧ H D0 = some (.lst accV) ∧ RepL C F' acc accV ∧ F' D0 = none ∧ ¬ OwnA e' (wipe σ own) D0 ∧
      (match compL (turnF T n tg cond elt) own (ds.drop i) e' acc with
      | .ok acc eL => ∀ FL HL accV, Tr C eB FB σB HB eL FL (wipe σ own) HL → Dn own (wipeE e1 own) eL → HL D0 = some (.lst accV) → RepL C FL acc accV → FL D0 = none → ¬ OwnA eL (wipe σ own) D0 → Qd HL
      | _ => False)) ?_ ?_ ?_ ?_
  · exact ⟨wipeE e1 own, F1, acc0, accV0, t1.wipe own nob, Sub.refl _, Dn.refl _ _, hd0, r0, f0, nown_wipe rfl n0, by simpa using q⟩
  · rintro i H hi ⟨e', F', acc, accV, t, s0, _⟩
    exact s0.trans t.sr.sub
  · rintro i x H H' hi ⟨e', F', acc, accV, t, s0, dn, hd, racc, fd, no, q⟩ ⟨d, hdi, hy⟩
    have hdrop : ds.drop i = d :: ds.drop (i + 1) := by
      rw [List.drop_eq_getElem_cons hi]
      rw [List.getElem?_eq_getElem hi] at hdi; cases hdi; rfl
    rw [hdrop, compL] at q
    obtain ⟨F'', t2, s2, rx, hd', fd'⟩ := yld_ok (acc := acc) t s0 hd fd hy
    have racc := racc.mono s2
    cases ka : asg tg d e' with
    | none => simp only [turnF, ka, opt_none] at q
    | some e2 =>
      simp only [turnF, ka, opt_some] at q
      refine asg_ok t2 rx ka fun σ2 t3 ar => ⟨?_, e2, F'', t3.sr, ?_⟩
      · have : L2.wipe σ2 own = L2.wipe (L2.wipe σ own) own := wipe_congr ar.len fun j hj => (ar.same j fun z => hj (List.contains_iff_mem.mp (List.all_eq_true.mp hix j z))).1
        rw [this, wipe_wipe]
      have hw : L2.wipe σ2 own = L2.wipe σ own := by
        have : L2.wipe σ2 own = L2.wipe (L2.wipe σ own) own := wipe_congr ar.len fun j hj => (ar.same j fun z => hj (List.contains_iff_mem.mp (List.all_eq_true.mp hix j z))).1
        rw [this, wipe_wipe]
      have dn2 : Dn own (wipeE e1 own) e2 := dn.trans (Dn.same fun j hj => (ar.same j fun z => hj (List.contains_iff_mem.mp (List.all_eq_true.mp hix j z))).2)
      have no2 : ¬ OwnA e2 σ2 D0 := fun ⟨j, s, h1, h2, h3⟩ => by
        obtain ⟨k1, k2⟩ := ar.mine j s h1 h2
        exact no ⟨j, s, k1, h2, by rw [← k2]; exact h3⟩
      have after : ∀ {e4 : EV} {F4 H4 : Hp}, TrE C e2 F'' σ2 H' e4 F4 H4 → H4 D0 = some (.lst accV) ∧ F4 D0 = none ∧ ¬ OwnA e4 σ2 D0 := fun {e4 F4 H4} u => by
        refine ⟨u.keep _ _ hd' no2, ?_, fun z => no2 (u.ownA' z)⟩
        cases z : F4 D0 with
        | none => rfl
        | some o =>
          rcases u.new _ _ z with w | w | w
          · rw [fd'] at w; cases w
          · rw [hd'] at w; cases w
          · exact absurd w no2
      revert q
      generalize evC T (callF T n) cond e2 = o
      intro q
      cases o with
      | exc z p e' => exact q.elim
      | stuck => exact q.elim
      | ok b e3 =>
        intro F3 H3 t4
        simp only [bd_ok] at q
        cases b with
        | false =>
          simp only [Bool.false_eq_true, if_false] at q ⊢
          obtain ⟨a1, a2, a3⟩ := after t4
          refine ⟨wipeE e3 own, F3, acc, accV, ?_, (s0.trans s2).trans t4.fs, dn2.trans ((Dn.ofE t4).trans Dn.wipe), a1, racc.mono t4.fs, a2, nown_wipe hw a3, q⟩
          have := (t3.trans t4.toTr).wipe own nob
          rw [hw] at this
          exact this
        | true =>
          simp only [if_true] at q ⊢
          refine ⟨e3, F3, t4.sr, ?_⟩
          revert q
          generalize evE T (callF T n) false elt e3 = o
          intro q
          cases o with
          | exc z p e' => exact q.elim
          | stuck => exact q.elim
          | ok r e4 =>
            intro v F4 H4 t5 r5
            simp only [bd_ok] at q
            cases kf : frz e4 r with
            | none => rw [kf] at q; exact q.elim
            | some z =>
              obtain ⟨xd, e5⟩ := z
              rw [kf] at q
              simp only [opt_some] at q
              obtain ⟨F5, t6, rp, s6⟩ := frz_ok t5 r5 kf
              obtain ⟨a1, a2, a3⟩ := after (t4.trans t6)
              by_cases hz : acc.length < sizeL
              · rw [if_pos hz] at q
                have racc := racc.mono (t4.trans t6).fs
                refine ⟨accV, a1, by rw [← sizeL_eq, ← racc.len]; exact hz, wipeE e5 own, F5, acc ++ [xd], accV ++ [v], ?_, (s0.trans s2).trans (t4.trans t6).fs, dn2.trans (((Dn.ofE t4).trans (Dn.ofE t6)).trans Dn.wipe), upd_same, racc.append (.cons rp .nil), a2, nown_wipe hw a3, q⟩
                have := (t3.trans (t4.trans t6).toTr).wipe own nob
                rw [hw] at this
                exact this.pad hB a2 (nown_wipe hw a3)
              · rw [if_neg hz] at q; exact q.elim
  · rintro H ⟨e', F', acc, accV, t, s0, dn, hd, racc, fd, no, q⟩
    rw [List.drop_length, compL] at q
    exact q F' H accV t dn hd racc fd no
/-- the first clause's turn -/
def turnA (T : GT) (n : Nat) (tg : Tg) (cond : Option E) (it1 : It) : D → EV → Out (Option (List D)) := fun d e => opt (asg tg d e) fun e1 => (evC T (callF T n) cond e1).bd fun k e2 => if k then (evI T (callF T n) it1 e2).bd fun xs e3 => .ok (some xs) e3 else .ok none e2
theorem s_lc2Turns {own own1 : List Nat} {tg tg1 : Tg} {cond cond1 : Option E} {it1 : It} {elt : E} {e1 : EV} {F1 H1 : Hp} {σ : St} {Q : VK} {J : L2.It} {ds : List D} (hix : (tgIx tg).all own.contains = true) (hix1 : (tgIx tg1).all own1.contains = true) (hoo : ∀ i ∈ own1, i ∈ own)
    (R1 : SR C e1 F1 σ H1) (wk : WalkD C F1 J ds) {D0 : Addr} (hD : H1 D0 = none) (q : match comp2L (turnA T n tg cond it1) (turnF T n tg1 cond1 elt) own own1 ds (wipeE e1 own) [] with
      | .ok acc eL => ∀ FL HL accV, Tr C (wipeE e1 own) F1 (wipe σ own) H1 eL FL (wipe σ own) HL → Dn own (wipeE e1 own) eL → HL D0 = some (.lst accV) → RepL C FL acc accV → FL D0 = none → ¬ OwnA eL (wipe σ own) D0 → Q (.ref D0) HL
      | _ => False) :
    ∃ W : Nat → Nat → Hp → Prop, (∃ m, W 0 m (upd H1 D0 (.lst []))) ∧ ∀ i m H, W i m H →
      (J.stop i H ∧ Q (.ref D0) H) ∨ (J.go i H ∧ ∃ Nx : Hp → Prop, (∀ H', Nx H' → ∃ m', m' < m ∧ W (i + 1) m' H') ∧ ∀ x H', J.yld i H x H' → gTg C.K tg x (wipe σ own) H' fun σ2 H2 => wipe σ2 own = wipe σ own ∧ RC T C n W0 cond σ2 H2 fun b H3 =>
        if b = true then RI T C n W0 it1 σ2 H3 fun J1 H4 => ∃ W1 : Nat → Nat → Hp → Prop, (∃ m, W1 0 m H4) ∧ ∀ j k H, W1 j k H →
          (J1.stop j H ∧ Nx H) ∨ (J1.go j H ∧ ∃ Nx1 : Hp → Prop, (∀ H', Nx1 H' → ∃ k', k' < k ∧ W1 (j + 1) k' H') ∧ ∀ x H', J1.yld j H x H' → gTg C.K tg1 x (wipe σ2 own1) H' fun σ3 H5 => wipe σ3 own1 = wipe σ2 own1 ∧ RC T C n W0 cond1 σ3 H5 fun b H6 =>
            if b = true then RE T C n W0 elt σ3 H6 fun y H7 => ∃ acc, H7 D0 = some (.lst acc) ∧ acc.length < sizeLine ∧ Nx1 (upd H7 D0 (.lst (acc ++ [y]))) else Nx1 H6)
        else Nx H3) := by
  have Rw : SR C (wipeE e1 own) F1 (wipe σ own) H1 := R1.wipe own
  have hF1 : F1 D0 = none := by
    cases z : F1 D0 with
    | none => rfl
    | some u => rw [R1.sub _ _ z] at hD; cases hD
  have nown0 : ¬ OwnA (wipeE e1 own) (wipe σ own) D0 := fun oa => by
    obtain ⟨_, o, h⟩ := Rw.ownNone oa
    rw [hD] at h; cases h
  have nob : ∀ i ∈ own, ∀ d, (wipeE e1 own)[i]? ≠ some (.bor d) ∧ (wipeE e1 own)[i]? ≠ some (.fro d) := fun i hi d => by
    by_cases hl : i < e1.length
    · rw [wipeE_get hl, if_pos hi]; simp
    · rw [List.getElem?_eq_none (by rw [wipeE_len]; omega)]; simp
  refine itG wk (Qd := fun H => Q (.ref D0) H) (fun x H' Nx => gTg C.K tg x (wipe σ own) H' fun σ2 H2 => wipe σ2 own = wipe σ own ∧ RC T C n W0 cond σ2 H2 fun b H3 =>
        if b = true then RI T C n W0 it1 σ2 H3 fun J1 H4 => ∃ W1 : Nat → Nat → Hp → Prop, (∃ m, W1 0 m H4) ∧ ∀ j k H, W1 j k H →
          (J1.stop j H ∧ Nx H) ∨ (J1.go j H ∧ ∃ Nx1 : Hp → Prop, (∀ H', Nx1 H' → ∃ k', k' < k ∧ W1 (j + 1) k' H') ∧ ∀ x H', J1.yld j H x H' → gTg C.K tg1 x (wipe σ2 own1) H' fun σ3 H5 => wipe σ3 own1 = wipe σ2 own1 ∧ RC T C n W0 cond1 σ3 H5 fun b H6 =>
            if b = true then RE T C n W0 elt σ3 H6 fun y H7 => ∃ acc, H7 D0 = some (.lst acc) ∧ acc.length < sizeLine ∧ Nx1 (upd H7 D0 (.lst (acc ++ [y]))) else Nx1 H6)
        else Nx H3) (fun i H => ∃ e' F' acc accV, Tr C (wipeE e1 own) F1 (wipe σ own) H1 e' F' (wipe σ own) H ∧ Dn own (wipeE e1 own) e' ∧ H D0 = some (.lst accV) ∧ RepL C F' acc accV ∧ F' D0 = none ∧ ¬ OwnA e' (wipe σ own) D0 ∧
      (match comp2L (turnA T n tg cond it1) (turnF T n tg1 cond1 elt) own own1 (ds.drop i) e' acc with
      | .ok acc eL => ∀ FL HL accV, Tr C (wipeE e1 own) F1 (wipe σ own) H1 eL FL (wipe σ own) HL → Dn own (wipeE e1 own) eL → HL D0 = some (.lst accV) → RepL C FL acc accV → FL D0 = none → ¬ OwnA eL (wipe σ own) D0 → Q (.ref D0) HL
      | _ => False)) ?_ ?_ ?_ ?_
  · exact ⟨wipeE e1 own, F1, [], [], (Tr.refl Rw).pad hD hF1 nown0, Dn.refl _ _, upd_same, .nil, hF1, nown0, by simpa using q⟩
  · rintro i H hi ⟨e', F', acc, accV, t, _⟩
    exact t.fs.trans t.sr.sub
  · rintro i x H H' hi ⟨e', F', acc, accV, t, dn, hd, racc, fd, no, q⟩ ⟨d, hdi, hy⟩
    have hdrop : ds.drop i = d :: ds.drop (i + 1) := by
      rw [List.drop_eq_getElem_cons hi]
      rw [List.getElem?_eq_getElem hi] at hdi; cases hdi; rfl
    rw [hdrop, comp2L] at q
    obtain ⟨F'', t2, s2, rx, hd', fd'⟩ := yld_ok (acc := acc) t t.fs hd fd hy
    have racc := racc.mono s2
    cases ka : asg tg d e' with
    | none => simp only [turnA, ka, opt_none] at q
    | some e2 =>
      simp only [turnA, ka, opt_some] at q
      refine asg_ok t2 rx ka fun σ2 t3 ar => ⟨?_, e2, F'', t3.sr, ?_⟩
      · have : L2.wipe σ2 own = L2.wipe (L2.wipe σ own) own := wipe_congr ar.len fun j hj => (ar.same j fun z => hj (List.contains_iff_mem.mp (List.all_eq_true.mp hix j z))).1
        rw [this, wipe_wipe]
      have hw : L2.wipe σ2 own = L2.wipe σ own := by
        have : L2.wipe σ2 own = L2.wipe (L2.wipe σ own) own := wipe_congr ar.len fun j hj => (ar.same j fun z => hj (List.contains_iff_mem.mp (List.all_eq_true.mp hix j z))).1
        rw [this, wipe_wipe]
      have dn2 : Dn own (wipeE e1 own) e2 := dn.trans (Dn.same fun j hj => (ar.same j fun z => hj (List.contains_iff_mem.mp (List.all_eq_true.mp hix j z))).2)
      have no2 : ¬ OwnA e2 σ2 D0 := fun ⟨j, s, h1, h2, h3⟩ => by
        obtain ⟨k1, k2⟩ := ar.mine j s h1 h2
        exact no ⟨j, s, k1, h2, by rw [← k2]; exact h3⟩
      have after : ∀ {e4 : EV} {F4 H4 : Hp}, TrE C e2 F'' σ2 H' e4 F4 H4 → H4 D0 = some (.lst accV) ∧ F4 D0 = none ∧ ¬ OwnA e4 σ2 D0 := fun {e4 F4 H4} u => by
        refine ⟨u.keep _ _ hd' no2, ?_, fun z => no2 (u.ownA' z)⟩
        cases z : F4 D0 with
        | none => rfl
        | some o =>
          rcases u.new _ _ z with w | w | w
          · rw [fd'] at w; cases w
          · rw [hd'] at w; cases w
          · exact absurd w no2
      revert q
      generalize evC T (callF T n) cond e2 = o
      intro q
      cases o with
      | exc z p e' => exact q.elim
      | stuck => exact q.elim
      | ok b e3 =>
        intro F3 H3 t4
        simp only [bd_ok] at q
        cases b with
        | false =>
          simp only [Bool.false_eq_true, if_false] at q ⊢
          obtain ⟨a1, a2, a3⟩ := after t4
          refine ⟨wipeE e3 own, F3, acc, accV, ?_, dn2.trans ((Dn.ofE t4).trans Dn.wipe), a1, racc.mono t4.fs, a2, nown_wipe hw a3, q⟩
          have := (t3.trans t4.toTr).wipe own nob
          rw [hw] at this
          exact this
        | true =>
          simp only [if_true] at q ⊢
          refine ⟨e3, F3, t4.sr, ?_⟩
          revert q
          generalize evI T (callF T n) it1 e3 = o
          intro q
          cases o with
          | exc z p e' => exact q.elim
          | stuck => exact q.elim
          | ok xs e4 =>
            intro J1 F4 H4 t5 wk1
            simp only [bd_ok] at q
            obtain ⟨a1, a2, a3⟩ := after (t4.trans t5)
            refine s_lcIn (T := T) (n := n) hix1 (fun i hi => nob i (hoo i hi)) (t3.trans (t4.trans t5).toTr) wk1 hD a1 (racc.mono (t4.trans t5).fs) a2 a3 ?_
            revert q
            generalize compL (turnF T n tg1 cond1 elt) own1 xs (wipeE e4 own1) acc = o
            intro q
            cases o with
            | exc z p e' => exact q.elim
            | stuck => exact q.elim
            | ok acc1 eL =>
              intro FL HL accV1 tL dnL hdL rL fL nL
              have ww : L2.wipe (L2.wipe σ2 own1) own = L2.wipe σ own := (wipe_in hoo).trans hw
              refine ⟨wipeE eL own, FL, acc1, accV1, ?_, dn2.trans (((Dn.ofE t4).trans (Dn.ofE t5)).trans (((Dn.wipe (own := own1)).trans dnL).weak hoo |>.trans Dn.wipe)), hdL, rL, fL, nown_wipe ww nL, q⟩
              have := tL.wipe own nob
              rw [ww] at this
              exact this
  · rintro H ⟨e', F', acc, accV, t, dn, hd, racc, fd, no, q⟩
    rw [List.drop_length, comp2L] at q
    exact q F' H accV t dn hd racc fd no
theorem comp2L_noexc {f : D → EV → Out (Option (List D))} {g : D → EV → Out (Option D)} {own own1 : List Nat} {z : Nat} {p : List D} {e' : EV} : ∀ (ds : List D) (e : EV) (acc : List D), comp2L f g own own1 ds e acc ≠ .exc z p e'
  | [], e, acc => by rw [comp2L]; simp
  | d :: ds, e, acc => by
    rw [comp2L]
    split
    · split
      · exact comp2L_noexc ds _ _
      · simp
    · exact comp2L_noexc ds _ _
    · simp
theorem rd_comp2 {own own1 : List Nat} {it it1 : It} {tg tg1 : Tg} {cond cond1 : Option E} {elt : E} {σ : St} {H : Hp} {Q : VK} (hix : (tgIx tg).all own.contains = true) (hix1 : (tgIx tg1).all own1.contains = true) (hoo : ∀ i ∈ own1, i ∈ own) (h : RE T C n W (.comp2 own it tg cond own1 it1 tg1 cond1 elt) σ H Q) :
    tLc2 (RI T C n W it) (gTg C.K tg) (RC T C n W0 cond) (RI T C n W0 it1) (gTg C.K tg1) (RC T C n W0 cond1) (RE T C n W0 elt) own own1 σ H Q := by
  obtain ⟨e, F, R, q⟩ := h
  refine ⟨e, F, R, ?_⟩
  have q : PostE C W e F σ H ((evI T (callF T n) it e).bd fun ds e1 => (comp2L (turnA T n tg cond it1) (turnF T n tg1 cond1 elt) own own1 ds (wipeE e1 own) []).bd fun acc e2 => .ok (.t (.lst acc)) (unwipe e1 e2 own)) Q := q
  revert q
  generalize evI T (callF T n) it e = o
  intro q
  cases o with
  | exc z p e' => exact q
  | stuck => exact q
  | ok ds e1 =>
    intro J F1 H1 t1 wk D0 hD
    refine s_lc2Turns (T := T) (n := n) hix hix1 hoo t1.sr wk hD ?_
    simp only [bd_ok] at q
    revert q
    generalize ho : comp2L (turnA T n tg cond it1) (turnF T n tg1 cond1 elt) own own1 ds (wipeE e1 own) [] = o
    intro q
    cases o with
    | exc z p e' => exact absurd ho (comp2L_noexc _ _ _)
    | stuck => exact q
    | ok acc eL =>
      intro FL HL accV t dn hd racc fd no
      have tt := t1.trans (unwipe_ok t1.sr t dn)
      refine q _ FL HL tt ⟨D0, rfl, ⟨fd, accV, hd, racc⟩, ?_, fun z => ?_⟩
      · by_cases z : H D0 = none
        · exact z
        · exact absurd hD (t1.there _ z)
      · obtain ⟨_, o, ho⟩ := t1.sr.ownNone ((unwipe_ok t1.sr t dn).ownA' z)
        rw [hD] at ho; cases ho
/-! ### a written dict, looked up -/
theorem repL_toV {F : Hp} : ∀ {ds : List D} {vs : List Expr}, valLs ds vs = true → RepL C F ds (ds.map toV)
  | [], _, _ => .nil
  | d :: ds, v :: vs, h => by
    cases d <;> cases v <;> first | (simp [valLs] at h; done) | skip
    all_goals (rename_i c0 _ _ ; cases c0 <;> first | (simp [valLs] at h; done) | skip)
    all_goals (simp only [valLs, Bool.and_eq_true] at h)
    · exact .cons (show Rep C F .non .non from rep_non) (repL_toV h)
    · exact .cons (show Rep C F (.bl _) (.bl _) from rep_bl) (repL_toV h.2)
    · exact .cons (show Rep C F (.int _) (.int _) from rep_int) (repL_toV h.2)
    · exact .cons (show Rep C F (.str _) (.str _) from rep_str) (repL_toV h.2)
  | d :: ds, [], h => by cases d <;> simp [valLs] at h
def litT (ks : List Key) (vs : List D) : List (TE × TE) := (ks.zip vs).map fun p => (tC (kV p.1), tC (toV p.2))
theorem pe_key {k : Key} {x : Expr} {ks : List Key} {r : List (Option Expr)} (h : keyLs (k :: ks) (some x :: r) = true) : PE X x (tC (kV k)) ∧ keyLs ks r = true := by
  cases k <;> cases x <;> first | (simp [keyLs] at h; done) | skip
  all_goals (rename_i c0 _ _ ; cases c0 <;> first | (simp [keyLs] at h; done) | skip)
  all_goals (simp only [keyLs, Bool.and_eq_true, decide_eq_true_eq] at h; obtain ⟨rfl, h⟩ := h)
  · exact ⟨pe_int, h⟩
  · exact ⟨pe_str, h⟩
theorem pe_lval {d : D} {x : Expr} {ds : List D} {r : List Expr} (h : valLs (d :: ds) (x :: r) = true) : PE X x (tC (toV d)) ∧ valLs ds r = true := by
  cases d <;> cases x <;> first | (simp [valLs] at h; done) | skip
  all_goals (rename_i c0 _ _ ; cases c0 <;> first | (simp [valLs] at h; done) | skip)
  · simp only [valLs] at h; exact ⟨pe_non, h⟩
  all_goals (simp only [valLs, Bool.and_eq_true, decide_eq_true_eq] at h; obtain ⟨rfl, h⟩ := h)
  · exact ⟨pe_bl, h⟩
  · exact ⟨pe_int, h⟩
  · exact ⟨pe_str, h⟩
theorem lit_pps {pos : Pos} : ∀ {ks : List Key} {vs : List D} {keys : List (Option Expr)} {values : List Expr}, keyLs ks keys = true → valLs vs values = true → ks.length = vs.length → PPs X pos keys values (litT ks vs) ∧ keys.all (·.isSome) = true ∧ keys.length = ks.length ∧ values.length = vs.length
  | [], [], [], [], _, _, _ => ⟨pps_nil, rfl, rfl, rfl⟩
  | k :: ks, d :: vs, some x :: keys, y :: values, h1, h2, hl => by
    obtain ⟨a1, a2⟩ := pe_key (X := X) h1
    obtain ⟨b1, b2⟩ := pe_lval (X := X) h2
    obtain ⟨p1, p2, p3, p4⟩ := lit_pps (pos := pos) a2 b2 (by simpa using hl)
    exact ⟨pps_cons a1 b1 p1, by rw [List.all_cons, p2]; rfl, by simp [p3], by simp [p4]⟩
  | k :: ks, d :: vs, none :: keys, _, h1, _, _ => by cases k <;> simp [keyLs] at h1
  | k :: ks, d :: vs, [], _, h1, _, _ => by cases k <;> simp [keyLs] at h1
  | [], [], _ :: _, _, h1, _, _ => by simp [keyLs] at h1
  | [], [], [], _ :: _, _, h2, _ => by simp [valLs] at h2
  | k :: ks, d :: vs, some x :: keys, [], _, h2, _ => by cases d <;> simp [valLs] at h2
  | [], _ :: _, _, _, _, _, hl => by cases hl
  | _ :: _, [], _, _, _, _, hl => by cases hl
theorem lit_pairs {σ : St} {H : Hp} : ∀ (l : List (Key × D)) (Q : List (V × V) → Hp → Prop), Q (l.map fun p => (kV p.1, toV p.2)) H → tPairs (l.map fun p => (tC (kV p.1), tC (toV p.2))) σ H Q
  | [], _, h => h
  | p :: l, Q, h => lit_pairs l (fun ps H3 => Q ((kV p.1, toV p.2) :: ps) H3) h
theorem merge_nodup : ∀ {l acc : List (Key × V)}, (acc.map (·.1) ++ l.map (·.1)).Nodup → mergeK acc l = acc ++ l
  | [], acc, _ => by simp [mergeK]
  | p :: l, acc, h => by
    have hn : valV acc p.1 = none := by
      unfold valV
      have : acc.find? (fun kv => decide (kv.1 = p.1)) = none := by
        rw [List.find?_eq_none]
        intro q hq e
        have e := of_decide_eq_true e
        have := (List.nodup_append.mp h).2.2 q.1 (List.mem_map.mpr ⟨q, hq, rfl⟩) p.1 (by simp)
        exact this e
      rw [this]; rfl
    show mergeK (putK acc p.1 p.2) l = _
    rw [putK_new p.2 hn, merge_nodup]
    · simp
    · simpa using h
theorem TrE.pad {e e1 : EV} {F F1 H H1 : Hp} {σ : St} {p : Addr} {o : HO} (t : TrE C e F σ H e1 F1 H1) (hp : H p = none) (hF : F1 p = none) (hn : ¬ OwnA e1 σ p) : TrE C e F σ H e1 F1 (upd H1 p o) := ⟨t.toTr.pad hp hF hn, t.dat, t.nom⟩
/-- the display is laid, then looked up -/
theorem rd_lit {ks : List Key} {vs : List D} {values : List Expr} {e : EV} {F H : Hp} {σ : St} (R : SR C e F σ H) (hv : valLs vs values = true) (hl : ks.length = vs.length) (hn : ks.Nodup) (h15 : ks.length ≤ 15) {Q : VK}
    (k : ∀ p, H p = none → ∀ H1, TrE C e F σ H e F H1 → H1 p = some (.dK (ks.zip (vs.map toV))) → Q (.ref p) H1) : tDisp (litT ks vs) σ H Q := fun p hp => by
  refine lit_pairs _ _ ⟨upd_same, ks.zip (vs.map toV), ?_, ?_, ?_⟩
  · rw [List.zip_map_right, List.map_map]
    rfl
  · rw [List.length_zip]; omega
  · have hm : mergeK [] (ks.zip (vs.map toV)) = ks.zip (vs.map toV) := by
      rw [merge_nodup]
      · rfl
      · simp only [List.map_nil, List.nil_append]
        rw [List.map_fst_zip (by simp [hl])]
        exact hn
    rw [hm, upd_upd]
    exact k p hp _ ((TrE.refl R).newL hp) upd_same
theorem own_lit {e : EV} {F H : Hp} {σ : St} (R : SR C e F σ H) {p : Addr} (hp : H p = none) : ¬ OwnA e σ p := fun q => by
  obtain ⟨_, o, ho⟩ := R.ownNone q
  rw [hp] at ho; cases ho
theorem dlook_none {H : Hp} {ks : List Key} {vs : List D} {ws : List V} {k : Key} (hl : ks.length = vs.length) (r : RepL C H vs ws) (h : dlook ks vs k = none) : valV (ks.zip ws) k = none := by
  obtain ⟨h1, _⟩ := dlook_val (k := k) hl r
  rw [h] at h1
  cases z : valV (ks.zip ws) k with
  | none => rfl
  | some v => rw [z] at h1; cases h1
theorem s_dd1 (G : Good T C n W c X) {a b : E} {y z : Expr} {pos : Pos} (ha : PE X y (RE T C n W a)) (hb : PE X z (RE T C n W b)) : PE X (.Dict [some y] [z] pos) (RE T C n W (.dd1 a b)) := by
  refine (pe_disp (pps_cons ha hb pps_nil) rfl rfl (fun e => by cases e) (Nat.le_of_ble_eq_true rfl)).to fun σ H Q => ?_
  rintro ⟨e, F, R, q⟩ p hp
  have q : PostE C W e F σ H ((evE T (callF T n) false a e).bd fun rk e1 => (evE T (callF T n) false b e1).bd fun rv e2 => opt ((cont e2 rk).bind keyOf) fun x => opt (frz e2 rv) fun (d, e3) => .ok (.t (.dk [x] [d])) e3) Q := q
  have t0 := (TrE.refl R).newL (o := .dK []) hp
  have no0 : ¬ OwnA e σ p := own_lit R hp
  have hF : F p = none := by
    cases z : F p with
    | none => rfl
    | some u => rw [R.sub p u z] at hp; cases hp
  refine ⟨e, F, t0.sr, ?_⟩
  cases hx : evE T (callF T n) false a e with
  | exc c' p' e1 =>
    rw [hx] at q
    exact PostE.shift (o := .exc c' p' e1) t0 q
  | stuck => rw [hx] at q; exact q.elim
  | ok rk e1 =>
    rw [hx] at q
    simp only [bd_ok] at q
    intro v1 F1 H1 t1 r1
    have T1 := t0.trans t1
    refine ⟨e1, F1, t1.sr, ?_⟩
    cases hy : evE T (callF T n) false b e1 with
    | exc c' p' e2 =>
      rw [hy] at q
      exact PostE.shift (o := .exc c' p' e2) T1 q
    | stuck => rw [hy] at q; exact q.elim
    | ok rv e2 =>
      rw [hy] at q
      simp only [bd_ok] at q
      intro v2 F2 H2 t2 r2
      obtain ⟨x, k1, q⟩ := q.opt
      obtain ⟨⟨d, e3⟩, k2, q⟩ := q.opt
      obtain ⟨F3, t3, rp, s3⟩ := frz_ok t2 r2 k2
      obtain ⟨dk, k3, k4⟩ := Option.bind_eq_some_iff.mp k1
      have hk : v1 = kV x := keyOf_V (cont_rep t2.sr (r1.mono t2) k3) k4
      have g1 : H1 p = some (.dK []) := t1.keep _ _ upd_same no0
      have no1 : ¬ OwnA e1 σ p := fun z => no0 (t1.ownA' z)
      have g2 : H2 p = some (.dK []) := t2.keep _ _ g1 no1
      have t13 := t1.trans t3
      have no3 : ¬ OwnA e3 σ p := fun z => no0 (t13.ownA' z)
      have hF3 : F3 p = none := by
        cases z : F3 p with
        | none => rfl
        | some u =>
          rcases t13.new p u z with w | w | w
          · rw [hF] at w; cases w
          · rw [upd_same] at w; cases w
          · exact (no0 w).elim
      refine ⟨g2, [(x, v2)], by rw [hk]; rfl, Nat.le_of_ble_eq_true rfl, ?_⟩
      have T3 := (t0.trans t13).pad (o := .dK [(x, v2)]) hp hF3 no3
      have hm : mergeK [] [(x, v2)] = [(x, v2)] := rfl
      rw [hm]
      exact q _ _ _ T3 ⟨p, rfl, ⟨hF3, [v2], upd_same, rfl, .cons rp .nil⟩, hp, no3⟩
theorem s_dlit1 (G : Good T C n W c X) {ks : List Key} {vs : List D} {a : E} {keys : List (Option Expr)} {values : List Expr} {y : Expr} {dp ap pos : Pos} (hm : mthB ap pos = true) (h1 : keyLs ks keys = true) (h2 : valLs vs values = true) (hn : ks.Nodup) (hl : ks.length = vs.length) (h15 : ks.length ≤ 15) (h0 : ks ≠ [])
    (ha : PE X y (RE T C n W a)) (hy : nst y = true) : PE X (.Call (.Attribute (.Dict keys values dp) "get" ap) [y] [] pos) (RE T C n W (.dlit ks vs a none)) := by
  obtain ⟨p1, p2, p3, p4⟩ := lit_pps (X := X) (pos := dp) h1 h2 hl
  have m : M1 X (.Dict keys values dp) "get" ap y pos := ⟨rfl, few_one hy, hm, by rw [star_cons hy]; rfl⟩
  refine (pe_dget1 (by have := G.hu; omega) (pe_disp p1 p2 (by rw [p3, p4, hl]) (fun e => h0 (by cases ks; rfl; subst e; simp at p3)) (by rw [p3]; exact h15)) ha m).to fun σ H Q => ?_
  rintro ⟨e, F, R, q⟩
  refine rd_lit R h2 hl hn h15 fun p hp H1 t1 g1 => ⟨p, rfl, .inl ⟨_, .inl g1⟩, e, F, t1.sr, ?_⟩
  simp only [evE, tst_false] at q
  refine PostE.first0 (f := fun rx e1 => (evM T (callF T n) none e1).bd fun rd e2 => opt ((cont e2 rx).bind keyOf) fun k => match dlook ks vs k with
        | some y => .ok (.v y) e2
        | none => opt (frz e2 rd) fun (y, e3) => .ok (.v y) e3) (PostE.shift t1 q) fun rx e2 v2 F2 H2 t2 r2 q => ?_
  simp only [evM, bd_ok] at q
  obtain ⟨k, k1, q⟩ := q.opt
  obtain ⟨d, k1, k2⟩ := Option.bind_eq_some_iff.mp k1
  have hk := keyOf_V (cont_rep t2.sr r2 k1) k2
  have g2 := t2.keep _ _ g1 (fun q => own_lit R hp q)
  refine ⟨valV (ks.zip (vs.map toV)) k, by rw [hk]; exact DGet.k g2, ?_⟩
  have rl : RepL C F2 vs (vs.map toV) := repL_toV h2
  cases hd : dlook ks vs k with
  | some y =>
    rw [hd] at q
    obtain ⟨v, z1, z2⟩ := (dlook_val (k := k) hl rl).2 y hd
    rw [z1]
    exact q v F2 H2 t2 z2
  | none =>
    rw [hd] at q
    rw [dlook_none hl rl hd]
    exact q .non F2 H2 t2 (show Rep C F2 .non .non from rep_non)
theorem s_dlit2 (G : Good T C n W c X) {ks : List Key} {vs : List D} {a b : E} {keys : List (Option Expr)} {values : List Expr} {y z : Expr} {dp ap pos : Pos} (hm : mthB ap pos = true) (h1 : keyLs ks keys = true) (h2 : valLs vs values = true) (hn : ks.Nodup) (hl : ks.length = vs.length) (h15 : ks.length ≤ 15) (h0 : ks ≠ [])
    (ha : PE X y (RE T C n W a)) (hy : nst y = true) (hb : PE X z (RE T C n W b)) (hz : nst z = true) : PE X (.Call (.Attribute (.Dict keys values dp) "get" ap) [y, z] [] pos) (RE T C n W (.dlit ks vs a (some b))) := by
  obtain ⟨p1, p2, p3, p4⟩ := lit_pps (X := X) (pos := dp) h1 h2 hl
  have m : M2 X (.Dict keys values dp) "get" ap y z pos := ⟨rfl, by rw [star_cons hy, star_cons hz]; rfl, hm, by rw [star_cons hy, star_cons hz]; rfl⟩
  refine (pe_dget2 (by have := G.hu; omega) (pe_disp p1 p2 (by rw [p3, p4, hl]) (fun e => h0 (by cases ks; rfl; subst e; simp at p3)) (by rw [p3]; exact h15)) ha hb m).to fun σ H Q => ?_
  rintro ⟨e, F, R, q⟩
  refine rd_lit R h2 hl hn h15 fun p hp H1 t1 g1 => ⟨p, rfl, .inl ⟨_, .inl g1⟩, e, F, t1.sr, ?_⟩
  simp only [evE, tst_false] at q
  have q := PostE.shift t1 q
  revert q
  generalize evE T (callF T n) false a e = o
  intro q
  cases o with
  | exc c p e' => exact q
  | stuck => exact q
  | ok rx e2 =>
    intro v2 F2 H2 t2 r2
    refine ⟨e2, F2, t2.sr, ?_⟩
    simp only [evM, bd_ok] at q
    revert q
    generalize evE T (callF T n) false b e2 = o
    intro q
    cases o with
    | exc c p e' => exact fun F' H' t => q F' H' (t2.trans t)
    | stuck => exact q
    | ok rd e3 =>
      intro v3 F3 H3 t3 r3
      simp only [bd_ok] at q
      obtain ⟨k, k1, q⟩ := q.opt
      obtain ⟨d, k1, k2⟩ := Option.bind_eq_some_iff.mp k1
      have t23 := t2.trans t3
      have hk := keyOf_V (cont_rep t3.sr (r2.mono t3) k1) k2
      have g2 := t23.keep _ _ g1 (fun q => own_lit R hp q)
      refine ⟨valV (ks.zip (vs.map toV)) k, by rw [hk]; exact DGet.k g2, ?_⟩
      have rl : RepL C F3 vs (vs.map toV) := repL_toV h2
      cases hd : dlook ks vs k with
      | some y =>
        rw [hd] at q
        obtain ⟨v, z1, z2⟩ := (dlook_val (k := k) hl rl).2 y hd
        rw [z1]
        exact q v F3 H3 t23 z2
      | none =>
        rw [hd] at q
        rw [dlook_none hl rl hd]
        obtain ⟨⟨y, e4⟩, kf, q⟩ := PostE.opt (show PostE C W e F σ H1 (opt _ _) Q from q)
        obtain ⟨F4, t4, rp, _⟩ := frz_ok t23 (r3.back t2.there) kf
        exact q v3 F4 H3 t4 rp
end
end PL
end

section
namespace PL
open PySem PySem.Spec L2

/-! ## what the checker has seen -/
section
variable {c : CC} {x : Expr}
theorem inv_var {i : Nat} (h : trE c (.var i) x = true) : ∃ y p, x = .Name y p ∧ nmB c i y = true := by
  cases x <;> first | (simp only [trE] at h; cases h; done) | skip
  simp only [trE] at h
  exact ⟨_, _, rfl, h⟩
theorem inv_int {k : Int} (h : trE c (.int k) x = true) : ∃ z p, x = .Constant (.int k) z p := by
  cases x <;> first | (simp only [trE] at h; cases h; done) | skip
  rename_i v z p
  cases v <;> first | (simp only [trE] at h; cases h; done) | skip
  simp only [trE] at h
  exact ⟨_, _, by rw [of_decide_eq_true h]⟩
theorem inv_bl {k : Bool} (h : trE c (.bl k) x = true) : ∃ z p, x = .Constant (.bool k) z p := by
  cases x <;> first | (simp only [trE] at h; cases h; done) | skip
  rename_i v z p
  cases v <;> first | (simp only [trE] at h; cases h; done) | skip
  simp only [trE] at h
  exact ⟨_, _, by rw [of_decide_eq_true h]⟩
theorem inv_non (h : trE c .non x = true) : ∃ z p, x = .Constant .none z p := by
  cases x <;> first | (simp only [trE] at h; cases h; done) | skip
  rename_i v z p
  cases v <;> first | (simp only [trE] at h; cases h; done) | skip
  exact ⟨_, _, rfl⟩
theorem inv_str {k : Str} (h : trE c (.str k) x = true) : ∃ z p, x = .Constant (.str k) z p := by
  cases x <;> first | (simp only [trE] at h; cases h; done) | skip
  rename_i v z p
  cases v <;> first | (simp only [trE] at h; cases h; done) | skip
  simp only [trE] at h
  exact ⟨_, _, by rw [of_decide_eq_true h]⟩
theorem inv_con {k : Nat} (h : trE c (.con k) x = true) : ∃ y p, x = .Name y p ∧ c.cn[k]? = some y ∧ glB c.sc y = true := by
  cases x <;> first | (simp only [trE] at h; cases h; done) | skip
  simp only [trE, Bool.and_eq_true] at h
  exact ⟨_, _, rfl, of_decide_eq_true h.1, h.2⟩
theorem inv_dd1 {a b : E} (h : trE c (.dd1 a b) x = true) : ∃ y z p, x = .Dict [some y] [z] p ∧ trE c a y = true ∧ trE c b z = true := by
  cases x <;> first | (simp only [trE] at h; cases h; done) | skip
  rename_i ks vs p
  match ks, vs, h with
  | [some y], [z], h =>
    simp only [trE, Bool.and_eq_true] at h
    exact ⟨_, _, _, rfl, h.1, h.2⟩
theorem inv_lrg {t : Bool} {a : E} (h : trE c (.lrg t a) x = true) : ∃ y q w q2 z p2 p, x = .Call (.Name y q) [.Call (.Name w q2) [z] [] p2] [] p ∧ y = Str.ofString (if t then "tuple" else "list") ∧ w = "range" ∧ glB c.sc y = true ∧ glB c.sc w = true ∧ c.calm = true ∧ trE c a z = true := by
  cases x <;> first | (simp only [trE] at h; cases h; done) | skip
  rename_i f xs ks p
  cases f <;> first | (simp only [trE] at h; cases h; done) | skip
  match xs, ks, h with
  | [.Call (.Name w q2) [z] [] p2], [], h =>
    simp only [trE, Bool.and_eq_true] at h
    exact ⟨_, _, _, _, _, _, _, rfl, of_decide_eq_true h.1.1.1.1.1, of_decide_eq_true h.1.1.1.1.2, h.1.1.1.2, h.1.1.2, h.1.2, h.2⟩
theorem inv_lset {a : E} (h : trE c (.lset a) x = true) : ∃ q q2 z p2 p, x = .Call (.Name "len" q) [.Call (.Name "set" q2) [z] [] p2] [] p ∧ glB c.sc "len" = true ∧ glB c.sc "set" = true ∧ c.calm = true ∧ trE c a z = true := by
  cases x <;> first | (simp only [trE] at h; cases h; done) | skip
  rename_i f xs ks p
  cases f <;> first | (simp only [trE] at h; cases h; done) | skip
  match xs, ks, h with
  | [.Call (.Name w q2) [z] [] p2], [], h =>
    simp only [trE, Bool.and_eq_true] at h
    have e1 := of_decide_eq_true h.1.1.1.1.1
    have e2 := of_decide_eq_true h.1.1.1.1.2
    subst e1
    subst e2
    exact ⟨_, _, _, _, _, rfl, h.1.1.1.2, h.1.1.2, h.1.2, h.2⟩
theorem inv_sset {a : E} (h : trE c (.sset a) x = true) : ∃ q q2 z p2 p, x = .Call (.Name "sorted" q) [.Call (.Name "set" q2) [z] [] p2] [] p ∧ glB c.sc "sorted" = true ∧ glB c.sc "set" = true ∧ c.calm = true ∧ trE c a z = true := by
  cases x <;> first | (simp only [trE] at h; cases h; done) | skip
  rename_i f xs ks p
  cases f <;> first | (simp only [trE] at h; cases h; done) | skip
  match xs, ks, h with
  | [.Call (.Name w q2) [z] [] p2], [], h =>
    simp only [trE, Bool.and_eq_true] at h
    have e1 := of_decide_eq_true h.1.1.1.1.1
    have e2 := of_decide_eq_true h.1.1.1.1.2
    subst e1
    subst e2
    exact ⟨_, _, _, _, _, rfl, h.1.1.1.2, h.1.1.2, h.1.2, h.2⟩
theorem inv_dix {k : Nat} {a : E} (h : trE c (.dix k a) x = true) : ∃ y p z q, x = .Subscript (.Name y p) z q ∧ c.dn[k]? = some y ∧ glB c.sc y = true ∧ trE c a z = true := by
  cases x <;> first | (simp only [trE] at h; cases h; done) | skip
  rename_i v z p
  cases v <;> first | (simp only [trE] at h; cases h; done) | skip
  simp only [trE, Bool.and_eq_true] at h
  exact ⟨_, _, _, _, rfl, of_decide_eq_true h.1.1, h.1.2, h.2⟩
theorem inv_fnv {k : Nat} (h : trE c (.fnv k) x = true) : ∃ y p, x = .Name y p ∧ c.fn[k]? = some y ∧ glB c.sc y = true := by
  cases x <;> first | (simp only [trE] at h; cases h; done) | skip
  simp only [trE, Bool.and_eq_true] at h
  exact ⟨_, _, rfl, of_decide_eq_true h.1, h.2⟩
theorem inv_bin {o : Bop} {a b : E} (h : trE c (.bin o a b) x = true) : ∃ y z p, x = .BinOp y (opOf o) z p ∧ trE c a y = true ∧ trE c b z = true := by
  cases x <;> first | (simp only [trE] at h; cases h; done) | skip
  simp only [trE, Bool.and_eq_true] at h
  exact ⟨_, _, _, by rw [of_decide_eq_true h.1.1], h.1.2, h.2⟩
theorem inv_neg {a : E} (h : trE c (.neg a) x = true) : ∃ y p, x = .UnaryOp .USub y p ∧ trE c a y = true := by
  cases x <;> first | (simp only [trE] at h; cases h; done) | skip
  rename_i o y p
  cases o <;> first | (simp only [trE] at h; cases h; done) | skip
  simp only [trE] at h
  exact ⟨_, _, rfl, h⟩
theorem inv_not {a : E} (h : trE c (.not_ a) x = true) : ∃ y p, x = .UnaryOp .Not y p ∧ trE c a y = true := by
  cases x <;> first | (simp only [trE] at h; cases h; done) | skip
  rename_i o y p
  cases o <;> first | (simp only [trE] at h; cases h; done) | skip
  simp only [trE] at h
  exact ⟨_, _, rfl, h⟩
theorem inv_cmp {o : CmpOp} {a b : E} (h : trE c (.cmp o a b) x = true) : ∃ y z p, x = .Compare y [o] [z] p ∧ trE c a y = true ∧ trE c b z = true := by
  cases x <;> first | (simp only [trE] at h; cases h; done) | skip
  rename_i y os zs p
  match os, zs, h with
  | [o'], [z], h =>
    simp only [trE, Bool.and_eq_true] at h
    exact ⟨_, _, _, by rw [of_decide_eq_true h.1.1], h.1.2, h.2⟩
  | [], _, h => simp only [trE] at h; cases h
  | [_], [], h => simp only [trE] at h; cases h
  | [_], _ :: _ :: _, h => simp only [trE] at h; cases h
  | _ :: _ :: _, _, h => simp only [trE] at h; cases h
theorem inv_chain {o o2 : CmpOp} {a b d : E} (h : trE c (.chain o o2 a b d) x = true) : ∃ y z w p, x = .Compare y [o, o2] [z, w] p ∧ trE c a y = true ∧ trE c b z = true ∧ trE c d w = true := by
  cases x <;> first | (simp only [trE] at h; cases h; done) | skip
  rename_i y os zs p
  match os, zs, h with
  | [o', o2'], [z, w], h =>
    simp only [trE, Bool.and_eq_true] at h
    exact ⟨_, _, _, _, by rw [of_decide_eq_true h.1.1.1.1, of_decide_eq_true h.1.1.1.2], h.1.1.2, h.1.2, h.2⟩
  | [], _, h => simp only [trE] at h; cases h
  | [_], _, h => simp only [trE] at h; cases h
  | [_, _], [], h => simp only [trE] at h; cases h
  | [_, _], [_], h => simp only [trE] at h; cases h
  | [_, _], _ :: _ :: _ :: _, h => simp only [trE] at h; cases h
  | _ :: _ :: _ :: _, _, h => simp only [trE] at h; cases h
theorem inv_andor {k : Bool} {es : List E} (h : trE c (.andor k es) x = true) : ∃ xs p, x = .BoolOp (bopOf k) xs p ∧ trA c es xs = true := by
  cases x <;> first | (simp only [trE] at h; cases h; done) | skip
  simp only [trE, Bool.and_eq_true] at h
  exact ⟨_, _, by rw [← of_decide_eq_true h.1]; rfl, h.2⟩
theorem inv_ite {d a b : E} (h : trE c (.ite d a b) x = true) : ∃ y z w p, x = .IfExp y z w p ∧ trE c d y = true ∧ trE c a z = true ∧ trE c b w = true := by
  cases x <;> first | (simp only [trE] at h; cases h; done) | skip
  simp only [trE, Bool.and_eq_true] at h
  exact ⟨_, _, _, _, rfl, h.1.1, h.1.2, h.2⟩
theorem inv_tup {es : List E} (h : trE c (.tup es) x = true) : ∃ xs k p, x = .Tuple xs k p ∧ trA c es xs = true := by
  cases x <;> first | (simp only [trE] at h; cases h; done) | skip
  simp only [trE] at h
  exact ⟨_, _, _, rfl, h⟩
theorem inv_lst {es : List E} (h : trE c (.lst es) x = true) : ∃ xs p, x = .List xs p ∧ trA c es xs = true := by
  cases x <;> first | (simp only [trE] at h; cases h; done) | skip
  simp only [trE] at h
  exact ⟨_, _, rfl, h⟩
theorem inv_ix {a i : E} (h : trE c (.ix a i) x = true) : ∃ y z p, x = .Subscript y z p ∧ trE c a y = true ∧ trE c i z = true := by
  cases x <;> first | (simp only [trE] at h; cases h; done) | skip
  simp only [trE, Bool.and_eq_true] at h
  exact ⟨_, _, _, rfl, h.1, h.2⟩
theorem inv_sl {a : E} {lo hi : Option E} (h : trE c (.sl a lo hi) x = true) : ∃ y l u p2 p, x = .Subscript y (.Slice l u none p2) p ∧ trE c a y = true ∧ trO c lo l = true ∧ trO c hi u = true := by
  cases x <;> first | (simp only [trE] at h; cases h; done) | skip
  rename_i y z p
  cases z <;> first | (simp only [trE] at h; cases h; done) | skip
  rename_i l u st p2
  cases st <;> first | (simp only [trE] at h; cases h; done) | skip
  simp only [trE, Bool.and_eq_true] at h
  exact ⟨_, _, _, _, _, rfl, h.1.1, h.1.2, h.2⟩
theorem inv_rev {a : E} (h : trE c (.rev a) x = true) : ∃ y k p1 p2 p3 p, x = .Subscript y (.Slice none none (some (.UnaryOp .USub (.Constant (.int 1) k p1) p2)) p3) p ∧ trE c a y = true := by
  cases x <;> first | (simp only [trE] at h; cases h; done) | skip
  rename_i y z p
  cases z <;> first | (simp only [trE] at h; cases h; done) | skip
  rename_i l u st p3
  cases l <;> first | (simp only [trE] at h; cases h; done) | skip
  cases u <;> first | (simp only [trE] at h; cases h; done) | skip
  cases st <;> first | (simp only [trE] at h; cases h; done) | skip
  rename_i w
  cases w <;> first | (simp only [trE] at h; cases h; done) | skip
  rename_i o w p2
  cases o <;> first | (simp only [trE] at h; cases h; done) | skip
  cases w <;> first | (simp only [trE] at h; cases h; done) | skip
  rename_i v k p1
  cases v <;> first | (simp only [trE] at h; cases h; done) | skip
  simp only [trE, Bool.and_eq_true] at h
  exact ⟨_, _, _, _, _, _, by rw [of_decide_eq_true h.2], h.1⟩
theorem inv_call {g : Nat} {es : List E} (h : trE c (.call g es) x = true) : ∃ y q xs p, x = .Call (.Name y q) xs [] p ∧ c.fn[g]? = some y ∧ glB c.sc y = true ∧ c.calm = true ∧ trA c es xs = true := by
  cases x <;> first | (simp only [trE] at h; cases h; done) | skip
  rename_i f xs kws p
  cases f <;> first | (simp only [trE] at h; cases h; done) | skip
  cases kws <;> first | (simp only [trE] at h; cases h; done) | skip
  simp only [trE, Bool.and_eq_true] at h
  exact ⟨_, _, _, _, rfl, of_decide_eq_true h.1.1.1, h.1.1.2, h.1.2, h.2⟩
theorem inv_callt {g : Nat} {es : List E} (h : trE c (.callt g es) x = true) : ∃ y q xs p, x = .Call (.Name y q) xs [] p ∧ c.fn[g]? = some y ∧ glB c.sc y = true ∧ c.calm = true ∧ trA c es xs = true := by
  cases x <;> first | (simp only [trE] at h; cases h; done) | skip
  rename_i f xs kws p
  cases f <;> first | (simp only [trE] at h; cases h; done) | skip
  cases kws <;> first | (simp only [trE] at h; cases h; done) | skip
  simp only [trE, Bool.and_eq_true] at h
  exact ⟨_, _, _, _, rfl, of_decide_eq_true h.1.1.1, h.1.1.2, h.1.2, h.2⟩
theorem inv_callk {g : Nat} {es ws : List E} {ks : List Str} (h : trE c (.callk g es ks ws) x = true) : ∃ y q xs kws p, x = .Call (.Name y q) xs kws p ∧ c.fn[g]? = some y ∧ glB c.sc y = true ∧ c.calm = true ∧ trA c es xs = true ∧ trK c ks ws kws = true ∧ c.kw.contains (g, ks, es.length) = true := by
  cases x <;> first | (simp only [trE] at h; cases h; done) | skip
  rename_i f xs kws p
  cases f <;> first | (simp only [trE] at h; cases h; done) | skip
  simp only [trE, Bool.and_eq_true] at h
  exact ⟨_, _, _, _, _, rfl, of_decide_eq_true h.1.1.1.1.1, h.1.1.1.1.2, h.1.1.1.2, h.1.1.2, h.1.2, h.2⟩
theorem inv_calld {i : Nat} {es : List E} (h : trE c (.calld i es) x = true) : ∃ y q xs p, x = .Call (.Name y q) xs [] p ∧ nmB c i y = true ∧ c.calm = true ∧ trA c es xs = true := by
  cases x <;> first | (simp only [trE] at h; cases h; done) | skip
  rename_i f xs kws p
  cases f <;> first | (simp only [trE] at h; cases h; done) | skip
  cases kws <;> first | (simp only [trE] at h; cases h; done) | skip
  simp only [trE, Bool.and_eq_true] at h
  exact ⟨_, _, _, _, rfl, h.1.1.1, h.1.1.2, h.2⟩
theorem inv_bi {b : Bi} {es : List E} (h : trE c (.bi b es) x = true) : ∃ y q xs p, x = .Call (.Name y q) xs [] p ∧ y = Str.ofString (biNm b) ∧ glB c.sc y = true ∧ c.calm = true ∧ es.isEmpty = false ∧ (c.gcd || b != .gcd) = true ∧ trA c es xs = true := by
  cases x <;> first | (simp only [trE] at h; cases h; done) | skip
  rename_i f xs kws p
  cases f <;> first | (simp only [trE] at h; cases h; done) | skip
  cases kws <;> first | (simp only [trE] at h; cases h; done) | skip
  simp only [trE, Bool.and_eq_true] at h
  exact ⟨_, _, _, _, rfl, of_decide_eq_true h.1.1.1.1.1, h.1.1.1.1.2, h.1.1.1.2, by simpa using h.1.1.2, h.1.2, h.2⟩
end
end PL
end

section
namespace PL
open PySem PySem.Spec L2

section
variable {c : CC} {x : Expr}
theorem inv_isi {a : E} {cs : List String} (h : trE c (.isi a cs) x = true) : (∃ s q y z zp p, cs = [s] ∧ x = .Call (.Name "isinstance" q) [y, .Name z zp] [] p ∧ glB c.sc "isinstance" = true ∧ trE c a y = true ∧ glB c.sc z = true ∧ z = Str.ofString s ∧ tyOk.contains s = true) ∨
    ∃ q y zs k zp p, x = .Call (.Name "isinstance" q) [y, .Tuple zs k zp] [] p ∧ glB c.sc "isinstance" = true ∧ trE c a y = true ∧ gNames c zs = true ∧ tyNames cs zs = true ∧ cs.all tyOk.contains = true ∧ cs.length ≤ 100 := by
  cases x <;> first | (simp only [trE] at h; cases h; done) | skip
  rename_i f xs kws p
  cases f <;> first | (simp only [trE] at h; cases h; done) | skip
  rename_i fn fp
  match xs, kws, h with
  | [y, z], [], h =>
    match cs, h with
    | [s], h =>
      simp only [trE, Bool.and_eq_true] at h
      obtain ⟨⟨⟨⟨⟨h1, h2⟩, h3⟩, h4⟩, h5⟩, h6⟩ := h
      cases z <;> first | (simp only [tyName] at h5; cases h5; done) | skip
      simp only [gNames, Bool.and_eq_true] at h4
      have e := of_decide_eq_true h1
      subst e
      exact .inl ⟨s, _, _, _, _, _, rfl, rfl, h2, h3, h4.1, of_decide_eq_true h5, h6⟩
    | [], h =>
      cases z <;> first | (simp only [trE] at h; cases h; done) | skip
      simp only [trE, Bool.and_eq_true] at h
      obtain ⟨⟨⟨⟨⟨⟨h1, h2⟩, h3⟩, h4⟩, h5⟩, h6⟩, h7⟩ := h
      have e := of_decide_eq_true h1
      subst e
      exact .inr ⟨_, _, _, _, _, _, rfl, h2, h3, h4, h5, h6, of_decide_eq_true h7⟩
    | s :: s' :: cs, h =>
      cases z <;> first | (simp only [trE] at h; cases h; done) | skip
      simp only [trE, Bool.and_eq_true] at h
      obtain ⟨⟨⟨⟨⟨⟨h1, h2⟩, h3⟩, h4⟩, h5⟩, h6⟩, h7⟩ := h
      have e := of_decide_eq_true h1
      subst e
      exact .inr ⟨_, _, _, _, _, _, rfl, h2, h3, h4, h5, h6, of_decide_eq_true h7⟩
  | [], _, h => simp only [trE] at h; cases h
  | [_], _, h => simp only [trE] at h; cases h
  | _ :: _ :: _ :: _, _, h => simp only [trE] at h; cases h
  | [_, _], _ :: _, h => simp only [trE] at h; cases h
theorem inv_dnew {t : Bool} (h : trE c (.dnew t) x = true) : ∃ p, x = .Dict [] [] p := by
  cases x <;> first | (simp only [trE] at h; cases h; done) | skip
  rename_i ks vs p
  match ks, vs, h with
  | [], [], h => exact ⟨_, rfl⟩
  | _ :: _, _, h => simp only [trE] at h; cases h
  | [], _ :: _, h => simp only [trE] at h; cases h
theorem inv_app {i : Nat} {a : E} (h : trE c (.app i a) x = true) : ∃ z xp ap y p, x = .Call (.Attribute (.Name z xp) "append" ap) [y] [] p ∧ nmB c i z = true ∧ mthB ap p = true ∧ trE c a y = true := by
  cases x <;> first | (simp only [trE] at h; cases h; done) | skip
  rename_i f xs kws p
  cases f <;> first | (simp only [trE] at h; cases h; done) | skip
  rename_i o m ap
  cases o <;> first | (simp only [trE] at h; cases h; done) | skip
  match xs, kws, h with
  | [y], [], h =>
    simp only [trE, Bool.and_eq_true] at h
    have e := of_decide_eq_true h.1.1.2
    subst e
    exact ⟨_, _, _, _, _, rfl, h.1.1.1, h.1.2, h.2⟩
  | [], _, h => simp only [trE] at h; cases h
  | _ :: _ :: _, _, h => simp only [trE] at h; cases h
  | [_], _ :: _, h => simp only [trE] at h; cases h
theorem inv_ext {i : Nat} {a : E} (h : trE c (.ext i a) x = true) : ∃ z xp ap y p, x = .Call (.Attribute (.Name z xp) "extend" ap) [y] [] p ∧ nmB c i z = true ∧ mthB ap p = true ∧ trE c a y = true := by
  cases x <;> first | (simp only [trE] at h; cases h; done) | skip
  rename_i f xs kws p
  cases f <;> first | (simp only [trE] at h; cases h; done) | skip
  rename_i o m ap
  cases o <;> first | (simp only [trE] at h; cases h; done) | skip
  match xs, kws, h with
  | [y], [], h =>
    simp only [trE, Bool.and_eq_true] at h
    have e := of_decide_eq_true h.1.1.2
    subst e
    exact ⟨_, _, _, _, _, rfl, h.1.1.1, h.1.2, h.2⟩
  | [], _, h => simp only [trE] at h; cases h
  | _ :: _ :: _, _, h => simp only [trE] at h; cases h
  | [_], _ :: _, h => simp only [trE] at h; cases h
theorem inv_popat {i : Nat} {a : E} (h : trE c (.popat i a) x = true) : ∃ z xp ap y p, x = .Call (.Attribute (.Name z xp) "pop" ap) [y] [] p ∧ nmB c i z = true ∧ mthB ap p = true ∧ trE c a y = true := by
  cases x <;> first | (simp only [trE] at h; cases h; done) | skip
  rename_i f xs kws p
  cases f <;> first | (simp only [trE] at h; cases h; done) | skip
  rename_i o m ap
  cases o <;> first | (simp only [trE] at h; cases h; done) | skip
  match xs, kws, h with
  | [y], [], h =>
    simp only [trE, Bool.and_eq_true] at h
    have e := of_decide_eq_true h.1.1.2
    subst e
    exact ⟨_, _, _, _, _, rfl, h.1.1.1, h.1.2, h.2⟩
  | [], _, h => simp only [trE] at h; cases h
  | _ :: _ :: _, _, h => simp only [trE] at h; cases h
  | [_], _ :: _, h => simp only [trE] at h; cases h
theorem inv_pop {i : Nat} (h : trE c (.pop i) x = true) : ∃ z xp ap p, x = .Call (.Attribute (.Name z xp) "pop" ap) [] [] p ∧ nmB c i z = true ∧ mthB ap p = true := by
  cases x <;> first | (simp only [trE] at h; cases h; done) | skip
  rename_i f xs kws p
  cases f <;> first | (simp only [trE] at h; cases h; done) | skip
  rename_i o m ap
  cases o <;> first | (simp only [trE] at h; cases h; done) | skip
  match xs, kws, h with
  | [], [], h =>
    simp only [trE, Bool.and_eq_true] at h
    have e := of_decide_eq_true h.1.2
    subst e
    exact ⟨_, _, _, _, rfl, h.1.1, h.2⟩
  | _ :: _, _, h => simp only [trE] at h; cases h
  | [], _ :: _, h => simp only [trE] at h; cases h
theorem inv_comp {own : List Nat} {it : It} {tg : Tg} {cond : Option E} {elt : E} (h : trE c (.comp own it tg cond elt) x = true) : ∃ y t i ifs scope p, x = .ListComp y [⟨t, i, ifs, 0⟩] scope p ∧ c.calm = true ∧ blkC c.N c.sc scope (ownP c own) = true ∧ trI c it i = true ∧ (tgIx tg).all own.contains = true ∧
    trTg (blkCC c scope) tg t = true ∧ itTup it tg = true ∧ trC (blkCC c scope) cond ifs = true ∧ trE (blkCC c scope) elt y = true := by
  cases x <;> first | (simp only [trE] at h; cases h; done) | skip
  rename_i y gs scope p
  match gs, h with
  | [⟨t, i, ifs, z⟩], h =>
    by_cases hz : z = 0
    · subst hz
      simp only [trE, Bool.and_eq_true] at h
      obtain ⟨⟨⟨⟨⟨⟨⟨h1, h2⟩, h3⟩, h4⟩, h5⟩, h6⟩, h7⟩, h8⟩ := h
      exact ⟨_, _, _, _, _, _, rfl, h1, h2, h3, h4, h5, h6, h7, h8⟩
    · exfalso
      unfold trE at h
      split at h
      all_goals first | (cases h; done) | (rename_i q; cases q; exact hz rfl) | (rename_i q _ ; cases q; exact hz rfl) | simp_all
  | [], h => simp only [trE] at h; cases h
  | _ :: _ :: _, h => simp only [trE] at h; cases h
theorem inv_comp2 {own : List Nat} {it : It} {tg : Tg} {cond : Option E} {own1 : List Nat} {it1 : It} {tg1 : Tg} {cond1 : Option E} {elt : E} (h : trE c (.comp2 own it tg cond own1 it1 tg1 cond1 elt) x = true) :
    ∃ y t i ifs t1 i1 ifs1 scope p, x = .ListComp y [⟨t, i, ifs, 0⟩, ⟨t1, i1, ifs1, 0⟩] scope p ∧ c.calm = true ∧ blkC c.N c.sc scope (ownP c own) = true ∧ trI c it i = true ∧ (tgIx tg).all own.contains = true ∧
    trTg (blkCC c scope) tg t = true ∧ itTup it tg = true ∧ trC (blkCC c scope) cond ifs = true ∧ own1.all own.contains = true ∧ trI (blkCC c scope) it1 i1 = true ∧ (tgIx tg1).all own1.contains = true ∧
    trTg (blkCC c scope) tg1 t1 = true ∧ itTup it1 tg1 = true ∧ trC (blkCC c scope) cond1 ifs1 = true ∧ trE (blkCC c scope) elt y = true := by
  cases x <;> first | (simp only [trE] at h; cases h; done) | skip
  rename_i y gs scope p
  match gs, h with
  | [⟨t, i, ifs, z⟩, ⟨t1, i1, ifs1, z1⟩], h =>
    by_cases hz : z = 0 ∧ z1 = 0
    · obtain ⟨rfl, rfl⟩ := hz
      simp only [trE, Bool.and_eq_true] at h
      obtain ⟨⟨⟨⟨⟨⟨⟨⟨⟨⟨⟨⟨⟨h1, h2⟩, h3⟩, h4⟩, h5⟩, h6⟩, h7⟩, h8⟩, h9⟩, h10⟩, h11⟩, h12⟩, h13⟩, h14⟩ := h
      exact ⟨_, _, _, _, _, _, _, _, _, rfl, h1, h2, h3, h4, h5, h6, h7, h8, h9, h10, h11, h12, h13, h14⟩
    · exfalso
      unfold trE at h
      split at h
      all_goals first | (cases h; done) | (rename_i q; cases q; exact hz ⟨rfl, rfl⟩) | (rename_i q _ ; cases q; exact hz ⟨rfl, rfl⟩) | simp_all
  | [], h => simp only [trE] at h; cases h
  | [_], h => simp only [trE] at h; cases h
  | _ :: _ :: _ :: _, h => simp only [trE] at h; cases h
theorem inv_isx {i k : Nat} {o : Bool} (h : trE c (.isx i k o) x = true) : False := by
  cases x <;> (simp only [trE] at h; cases h)
theorem inv_dlit {ks : List Key} {vs : List D} {a : E} {d : Option E} (h : trE c (.dlit ks vs a d) x = true) : ∃ keys values dp ap y r p, x = .Call (.Attribute (.Dict keys values dp) "get" ap) (y :: r) [] p ∧ mthB ap p = true ∧ keyLs ks keys = true ∧ valLs vs values = true ∧ ks.Nodup ∧ ks.length = vs.length ∧ ks.length ≤ 15 ∧ ks ≠ [] ∧ trE c a y = true ∧ trC c d r = true := by
  cases x <;> first | (simp only [trE] at h; cases h; done) | skip
  rename_i f xs kws p
  cases f <;> first | (simp only [trE] at h; cases h; done) | skip
  rename_i o m ap
  cases o <;> first | (simp only [trE] at h; cases h; done) | skip
  match xs, kws, h with
  | y :: r, [], h =>
    simp only [trE, Bool.and_eq_true, decide_eq_true_eq] at h
    obtain ⟨⟨⟨⟨⟨⟨⟨⟨⟨h1, h2⟩, h3⟩, h4⟩, h5⟩, h6⟩, h7⟩, h8⟩, h9⟩, h10⟩ := h
    subst h1
    exact ⟨_, _, _, _, _, _, _, rfl, h2, h3, h4, h5, h6, h7, (by intro e; subst e; simp at h8), h9, h10⟩
  | [], _, h => simp only [trE] at h; cases h
  | _ :: _, _ :: _, h => simp only [trE] at h; cases h
/-! iterables -/
theorem inv_rng {es : List E} (h : trI c (.rng es) x = true) : ∃ q xs p, x = .Call (.Name "range" q) xs [] p ∧ glB c.sc "range" = true ∧ trA c es xs = true ∧ (xs.length == 1 || xs.length == 2 || xs.length == 3) = true := by
  cases x <;> first | (simp only [trI] at h; cases h; done) | skip
  rename_i f xs kws p
  cases f <;> first | (simp only [trI] at h; cases h; done) | skip
  cases kws <;> first | (simp only [trI] at h; cases h; done) | skip
  simp only [trI, Bool.and_eq_true] at h
  have e := of_decide_eq_true h.1.1.1
  subst e
  exact ⟨_, _, _, rfl, h.1.1.2, h.1.2, h.2⟩
theorem inv_zip {es : List E} (h : trI c (.zip es) x = true) : ∃ q xs p, x = .Call (.Name "zip" q) xs [] p ∧ glB c.sc "zip" = true ∧ trA c es xs = true ∧ (xs.length == 2) = true := by
  cases x <;> first | (simp only [trI] at h; cases h; done) | skip
  rename_i f xs kws p
  cases f <;> first | (simp only [trI] at h; cases h; done) | skip
  cases kws <;> first | (simp only [trI] at h; cases h; done) | skip
  simp only [trI, Bool.and_eq_true] at h
  have e := of_decide_eq_true h.1.1.1
  subst e
  exact ⟨_, _, _, rfl, h.1.1.2, h.1.2, h.2⟩
theorem inv_enum {a : E} (h : trI c (.enum a) x = true) : ∃ q y p, x = .Call (.Name "enumerate" q) [y] [] p ∧ glB c.sc "enumerate" = true ∧ trE c a y = true := by
  cases x <;> first | (simp only [trI] at h; cases h; done) | skip
  rename_i f xs kws p
  cases f <;> first | (simp only [trI] at h; cases h; done) | skip
  match xs, kws, h with
  | [y], [], h =>
    simp only [trI, Bool.and_eq_true] at h
    have e := of_decide_eq_true h.1.1
    subst e
    exact ⟨_, _, _, rfl, h.1.2, h.2⟩
  | [], _, h => simp only [trI] at h; cases h
  | _ :: _ :: _, _, h => simp only [trI] at h; cases h
  | [_], _ :: _, h => simp only [trI] at h; cases h
end
end PL
end

section
namespace PL
open PySem PySem.Spec L2

section
variable {c : CC} {x : Expr}
theorem tr_nst {a : E} (h : trE c a x = true) : nst x = true := by
  cases x <;> first | rfl | (exfalso; cases a <;> (simp only [trE] at h; cases h))
theorem tr_set {a : E} (h : trE c a x = true) : isSetE x = false := by
  cases x <;> first | rfl | (exfalso; cases a <;> (simp only [trE] at h; cases h))
theorem set_no {it : It} (h : trI c it x = true) : isSetE x = false := by
  cases it with
  | e a => simp only [trI] at h; exact tr_set h
  | rng es => obtain ⟨q, xs, p, rfl, _⟩ := inv_rng h; rfl
  | enum a => obtain ⟨q, xs, p, rfl, _⟩ := inv_enum h; rfl
  | zip es => obtain ⟨q, xs, p, rfl, _⟩ := inv_zip h; rfl
def isSl : Expr → Bool
  | .Slice .. => true
  | _ => false
theorem tr_slice {a : E} (h : trE c a x = true) : isSl x = false := by
  cases x <;> first | rfl | (exfalso; cases a <;> (simp only [trE] at h; cases h))
theorem marks_no {o : CmpOp} (h : isSetE x = false) : behindInMarks o x = false := by
  cases x <;> first | rfl | cases h
theorem plain_ix (h : isSl x = false) : PlainIx x := fun o i => by
  cases x <;> first | rfl | cases h
theorem tr_len : ∀ {as : List E} {xs : List Expr}, trA c as xs = true → as.length = xs.length ∧ xs.all nst = true
  | [], [], _ => ⟨rfl, rfl⟩
  | a :: as, x :: xs, h => by
    simp only [trA, Bool.and_eq_true] at h
    obtain ⟨h1, h2⟩ := tr_len h.2
    exact ⟨by simp [h1], by rw [List.all_cons, tr_nst h.1, h2]; rfl⟩
  | [], _ :: _, h => by simp only [trA] at h; cases h
  | _ :: _, [], h => by simp only [trA] at h; cases h
theorem trK_names : ∀ {ks : List Str} {as : List E} {kws : List Keyword}, trK c ks as kws = true → kwNames kws ks = true ∧ as.length = ks.length
  | [], [], [], _ => ⟨rfl, rfl⟩
  | k :: ks, a :: as, ⟨some n, x, p⟩ :: kws, h => by
    simp only [trK, Bool.and_eq_true] at h
    obtain ⟨h1, h2⟩ := trK_names h.2
    refine ⟨?_, by simp [h2]⟩
    simp only [kwNames, Bool.and_eq_true]
    exact ⟨h.1.1, h1⟩
  | [], [], _ :: _, h => by simp only [trK] at h; cases h
  | [], _ :: _, _, h => by simp only [trK] at h; cases h
  | _ :: _, [], _, h => by simp only [trK] at h; cases h
  | _ :: _, _ :: _, [], h => by simp only [trK] at h; cases h
  | _ :: _, _ :: _, ⟨none, _, _⟩ :: _, h => by simp only [trK] at h; cases h
theorem inv_tp {is : List Nat} (h : trTg c (.tp is) x = true) : ∃ xs k p, x = .Tuple xs k p := by
  cases x <;> first | (simp only [trTg] at h; cases h; done) | exact ⟨_, _, _, rfl⟩
end
variable {T : GT} {C : G0} {n : Nat}
mutual
theorem s_E : ∀ (a : E) {c : CC} {W : WX} {X : Cx} (G : Good T C n W c X) {x : Expr} (h : trE c a x = true), PE X x (RE T C n W a) ∧ PT X x (RT T C n W a)
  | .var i, c, W, X, G, x, h => by
    obtain ⟨y, p, rfl, h⟩ := inv_var h
    exact ⟨s_var G h, s_plain G (s_var G h) (fun _ => rfl) fun _ => rfl⟩
  | .int k, c, W, X, G, x, h => by
    obtain ⟨z, p, rfl⟩ := inv_int h
    exact ⟨s_int, s_plain G s_int (fun _ => rfl) fun _ => rfl⟩
  | .bl k, c, W, X, G, x, h => by
    obtain ⟨z, p, rfl⟩ := inv_bl h
    exact ⟨s_bl, s_plain G s_bl (fun _ => rfl) fun _ => rfl⟩
  | .non, c, W, X, G, x, h => by
    obtain ⟨z, p, rfl⟩ := inv_non h
    exact ⟨s_non, s_plain G s_non (fun _ => rfl) fun _ => rfl⟩
  | .str k, c, W, X, G, x, h => by
    obtain ⟨z, p, rfl⟩ := inv_str h
    exact ⟨s_str, s_plain G s_str (fun _ => rfl) fun _ => rfl⟩
  | .con k, c, W, X, G, x, h => by
    obtain ⟨y, p, rfl, h1, h2⟩ := inv_con h
    exact ⟨s_con G h1 h2, s_plain G (s_con G h1 h2) (fun _ => rfl) fun _ => rfl⟩
  | .fnv k, c, W, X, G, x, h => by
    obtain ⟨y, p, rfl, h1, h2⟩ := inv_fnv h
    exact ⟨s_fnv G h1 h2, s_plain G (s_fnv G h1 h2) (fun _ => rfl) fun _ => rfl⟩
  | .bin o a b, c, W, X, G, x, h => by
    obtain ⟨y, z, p, rfl, h1, h2⟩ := inv_bin h
    have k := s_bin (pos := p) G (o := o) (s_E a G h1).1 (s_E b G h2).1
    exact ⟨k, s_plain G k (fun _ => rfl) fun _ => rfl⟩
  | .neg a, c, W, X, G, x, h => by
    obtain ⟨y, p, rfl, h1⟩ := inv_neg h
    have k := s_neg (pos := p) (s_E a G h1).1
    exact ⟨k, s_plain G k (fun _ => rfl) fun _ => rfl⟩
  | .cmp o a b, c, W, X, G, x, h => by
    obtain ⟨y, z, p, rfl, h1, h2⟩ := inv_cmp h
    exact s_cmp G (s_E a G h1).1 (s_E b G h2).1 (marks_no (tr_set h2))
  | .chain o o2 a b d, c, W, X, G, x, h => by
    obtain ⟨y, z, w, p, rfl, h1, h2, h3⟩ := inv_chain h
    exact s_chain G (s_E a G h1).1 (s_E b G h2).1 (s_E d G h3).1 (marks_no (tr_set h3))
  | .andor k es, c, W, X, G, x, h => by
    obtain ⟨xs, p, rfl, h1⟩ := inv_andor h
    by_cases he : es = []
    · subst he
      have e0 : ∀ m e, evE T (callF T n) m (.andor k []) e = .stuck := fun m e => rfl
      refine ⟨?_, t_no (e0 true)⟩
      exact PE.to (t := fun _ _ _ => False) ⟨fun _ _ _ _ _ _ q => q.elim⟩ fun σ H Q ⟨e, F, R, q⟩ => by rw [e0] at q; exact q
    · obtain ⟨k1, k2⟩ := s_V es k p G h1 he
      exact ⟨k1, k2.pt⟩
  | .not_ a, c, W, X, G, x, h => by
    obtain ⟨y, p, rfl, h1⟩ := inv_not h
    obtain ⟨k1, k2⟩ := s_E a G h1
    exact ⟨s_not G k1, t_not k2⟩
  | .ite d a b, c, W, X, G, x, h => by
    obtain ⟨y, z, w, p, rfl, h1, h2, h3⟩ := inv_ite h
    exact ⟨s_ite (s_E d G h1).2 (s_E a G h2).1 (s_E b G h3).1, t_no fun _ => rfl⟩
  | .tup es, c, W, X, G, x, h => by
    obtain ⟨xs, k, p, rfl, h1⟩ := inv_tup h
    have k := s_tup (x1 := k) (pos := p) (s_A es G h1)
    exact ⟨k, s_plain G k (fun _ => rfl) fun _ => rfl⟩
  | .lst es, c, W, X, G, x, h => by
    obtain ⟨xs, p, rfl, h1⟩ := inv_lst h
    have k := s_lst (pos := p) (s_A es G h1)
    exact ⟨k, s_plain G k (fun _ => rfl) fun _ => rfl⟩
  | .ix a i, c, W, X, G, x, h => by
    obtain ⟨y, z, p, rfl, h1, h2⟩ := inv_ix h
    have k := s_ix (pos := p) G (s_E a G h1).1 (s_E i G h2).1 (plain_ix (tr_slice h2))
    exact ⟨k, s_plain G k (fun _ => rfl) fun _ => rfl⟩
  | .dd1 a b, c, W, X, G, x, h => by
    obtain ⟨y, z, p, rfl, h1, h2⟩ := inv_dd1 h
    have k := s_dd1 (pos := p) G (s_E a G h1).1 (s_E b G h2).1
    exact ⟨k, s_plain G k (fun _ => rfl) fun _ => rfl⟩
  | .lset a, c, W, X, G, x, h => by
    obtain ⟨q, q2, z, p2, p, rfl, h1, h2, h3, h4⟩ := inv_lset h
    have k := s_lset (q := q) (q2 := q2) (p2 := p2) (pos := p) G h1 h2 h3 (tr_nst h4) (s_E a G h4).1
    exact ⟨k, s_plain G k (fun _ => rfl) fun _ => rfl⟩
  | .sset a, c, W, X, G, x, h => by
    obtain ⟨q, q2, z, p2, p, rfl, h1, h2, h3, h4⟩ := inv_sset h
    have k := s_sset (q := q) (q2 := q2) (p2 := p2) (pos := p) G h1 h2 h3 (tr_nst h4) (s_E a G h4).1
    exact ⟨k, s_plain G k (fun _ => rfl) fun _ => rfl⟩
  | .lrg t a, c, W, X, G, x, h => by
    obtain ⟨y, q, w, q2, z, p2, p, rfl, h1, h2, h3, h4, h5, h6⟩ := inv_lrg h
    have k := s_lrg (q := q) (q2 := q2) (p2 := p2) (pos := p) G h1 h2 h3 h4 h5 (tr_nst h6) (s_E a G h6).1
    exact ⟨k, s_plain G k (fun _ => rfl) fun _ => rfl⟩
  | .dix k i, c, W, X, G, x, h => by
    obtain ⟨y, p1, z, p, rfl, h1, h2, h3⟩ := inv_dix h
    have k := s_dix (p := p1) (pos := p) G h1 h2 (s_E i G h3).1 (plain_ix (tr_slice h3))
    exact ⟨k, s_plain G k (fun _ => rfl) fun _ => rfl⟩
  | .sl a lo hi, c, W, X, G, x, h => by
    obtain ⟨y, l, u, p2, p, rfl, h1, h2, h3⟩ := inv_sl h
    have k := s_sl (p2 := p2) (pos := p) G (s_E a G h1).1 (s_O lo G h2) (s_O hi G h3)
    exact ⟨k, s_plain G k (fun _ => rfl) fun _ => rfl⟩
  | .rev a, c, W, X, G, x, h => by
    obtain ⟨y, k, p1, p2, p3, p, rfl, h1⟩ := inv_rev h
    have k := s_rev (k := k) (p1 := p1) (p2 := p2) (p3 := p3) (pos := p) G (s_E a G h1).1
    exact ⟨k, s_plain G k (fun _ => rfl) fun _ => rfl⟩
  | .call g es, c, W, X, G, x, h => by
    obtain ⟨y, q, xs, p, rfl, h1, h2, h3, h4⟩ := inv_call h
    obtain ⟨l1, l2⟩ := tr_len h4
    have k := s_call (p := q) (pos := p) G h3 h1 h2 (s_A es G h4) l2 l1
    exact ⟨k, s_plain G k (fun _ => rfl) fun _ => rfl⟩
  | .callt g es, c, W, X, G, x, h => by
    obtain ⟨y, q, xs, p, rfl, h1, h2, h3, h4⟩ := inv_callt h
    obtain ⟨l1, l2⟩ := tr_len h4
    have k := s_callt (p := q) (pos := p) G h3 h1 h2 (s_A es G h4) l2 l1
    exact ⟨k, s_plain G k (fun _ => rfl) fun _ => rfl⟩
  | .callk g es ks ws, c, W, X, G, x, h => by
    obtain ⟨y, q, xs, kws, p, rfl, h1, h2, h3, h4, h5, h6⟩ := inv_callk h
    obtain ⟨l1, l2⟩ := tr_len h4
    obtain ⟨l3, l4⟩ := trK_names h5
    have k := s_callk (p := q) (pos := p) G h3 h1 h2 (s_A es G h4) l2 l1 (s_K ws G h5) l3 l4 (List.contains_iff_mem.mp h6)
    exact ⟨k, s_plain G k (fun _ => rfl) fun _ => rfl⟩
  | .calld i es, c, W, X, G, x, h => by
    obtain ⟨y, q, xs, p, rfl, h1, h2, h3⟩ := inv_calld h
    obtain ⟨l1, l2⟩ := tr_len h3
    have k := s_calld (p := q) (pos := p) G h2 h1 (s_A es G h3) l2 l1
    exact ⟨k, s_plain G k (fun _ => rfl) fun _ => rfl⟩
  | .bi b es, c, W, X, G, x, h => by
    obtain ⟨y, q, xs, p, rfl, h1, h2, h3, h4, h5, h6⟩ := inv_bi h
    obtain ⟨l1, l2⟩ := tr_len h6
    cases xs with
    | nil => cases es <;> simp at h4 l1
    | cons z zs =>
      have l3 := l2
      rw [List.all_cons, Bool.and_eq_true] at l3
      have k := s_bi (a := .non) (p := q) (pos := p) G h1 h2 h3 (fun e => by subst e; simpa using h5) (s_A es G h6) (star_cons l3.1) (star_any l3.2)
      exact ⟨k, s_plain G k (fun _ => rfl) fun _ => rfl⟩
  | .isi a cs, c, W, X, G, x, h => by
    rcases inv_isi h with ⟨s, q, y, z, zp, p, rfl, rfl, h1, h2, h3, h4, h5⟩ | ⟨q, y, zs, k, zp, p, rfl, h1, h2, h3, h4, h5, h6⟩
    · have k := s_isi1 (zp := zp) (p := q) (pos := p) G (s_E a G h2).1 (tr_nst h2) h1 h5 h4 h3
      exact ⟨k, s_plain G k (fun _ => rfl) fun _ => rfl⟩
    · have k := s_isiT (k := k) (zp := zp) (p := q) (pos := p) G (s_E a G h2).1 (tr_nst h2) h1 h4 h3 h6 h5
      exact ⟨k, s_plain G k (fun _ => rfl) fun _ => rfl⟩
  | .isx i k o, c, W, X, G, x, h => (inv_isx h).elim
  | .dnew t, c, W, X, G, x, h => by
    obtain ⟨p, rfl⟩ := inv_dnew h
    have k : PE X (.Dict [] [] p) (RE T C n W (.dnew t)) := s_dnew
    exact ⟨k, s_plain G k (fun _ => rfl) fun _ => rfl⟩
  | .dlit ks vs a none, c, W, X, G, x, h => by
    obtain ⟨keys, values, dp, ap, y, r, p, rfl, h1, h2, h3, h4, h5, h6, h7, h8, h9⟩ := inv_dlit h
    cases r with
    | cons _ _ => simp only [trC] at h9; cases h9
    | nil =>
      have k := s_dlit1 (dp := dp) G h1 h2 h3 h4 h5 h6 h7 (s_E a G h8).1 (tr_nst h8)
      exact ⟨k, s_plain G k (fun _ => rfl) fun _ => rfl⟩
  | .dlit ks vs a (some b), c, W, X, G, x, h => by
    obtain ⟨keys, values, dp, ap, y, r, p, rfl, h1, h2, h3, h4, h5, h6, h7, h8, h9⟩ := inv_dlit h
    match r, h9 with
    | [z], h9 =>
      simp only [trC] at h9
      have k := s_dlit2 (dp := dp) G h1 h2 h3 h4 h5 h6 h7 (s_E a G h8).1 (tr_nst h8) (s_E b G h9).1 (tr_nst h9)
      exact ⟨k, s_plain G k (fun _ => rfl) fun _ => rfl⟩
    | [], h9 => simp only [trC] at h9; cases h9
    | _ :: _ :: _, h9 => simp only [trC] at h9; cases h9
  | .app i a, c, W, X, G, x, h => by
    obtain ⟨z, xp, ap, y, p, rfl, h1, h2, h3⟩ := inv_app h
    have k := s_app (xp := xp) G h1 h2 (s_E a G h3).1 (tr_nst h3)
    exact ⟨k, s_plain G k (fun _ => rfl) fun _ => rfl⟩
  | .ext i a, c, W, X, G, x, h => by
    obtain ⟨z, xp, ap, y, p, rfl, h1, h2, h3⟩ := inv_ext h
    have k := s_ext (xp := xp) G h1 h2 (s_E a G h3).1 (tr_nst h3)
    exact ⟨k, s_plain G k (fun _ => rfl) fun _ => rfl⟩
  | .pop i, c, W, X, G, x, h => by
    obtain ⟨z, xp, ap, p, rfl, h1, h2⟩ := inv_pop h
    have k : PE X _ (RE T C n W (.pop i)) := s_pop (xp := xp) G h1 h2
    exact ⟨k, s_plain G k (fun _ => rfl) fun _ => rfl⟩
  | .popat i a, c, W, X, G, x, h => by
    obtain ⟨z, xp, ap, y, p, rfl, h1, h2, h3⟩ := inv_popat h
    have k := s_popat (xp := xp) G h1 h2 (s_E a G h3).1 (tr_nst h3)
    exact ⟨k, s_plain G k (fun _ => rfl) fun _ => rfl⟩
  | .comp own it tg cond elt, c, W, X, G, x, h => by
    obtain ⟨y, t, i, ifs, scope, p, rfl, h1, h2, h3, h4, h5, h6, h7, h8⟩ := inv_comp h
    obtain ⟨k1, k2⟩ := s_I it (tg := tg) (t := t) G h3 ⟨_, h5⟩ h6
    have hown : (ownP c own).map (·.2) = own := by
      unfold ownP
      rw [List.map_map]
      exact (List.map_congr_left (g := id) fun _ _ => rfl).trans (List.map_id _)
    have k : PE X (.ListComp y [⟨t, i, ifs, 0⟩] scope p) (RE T C n W (.comp own it tg cond elt)) := by
      refine (pe_lc (own := ownP c own) (G.cm h1) (by rw [G.N]; exact G.nd) k1 (blkOk_by (by rw [G.N, G.sc]; exact h2)) (fun s H C' cl fp => s_tg (G.blk scope s H cl C' fp) h1 h5)
        (fun s H C' cl fp => s_C cond (G.blk scope s H cl C' fp) h7) (fun s H C' cl fp => (s_E elt (G.blk scope s H cl C' fp) h8).1) (folded_no k2)).to fun σ H Q q => ?_
      rw [hown]
      exact rd_comp h4 q
    exact ⟨k, s_plain G k (fun _ => rfl) fun _ => rfl⟩
  | .comp2 own it tg cond own1 it1 tg1 cond1 elt, c, W, X, G, x, h => by
    obtain ⟨y, t, i, ifs, t1, i1, ifs1, scope, p, rfl, h1, h2, h3, h4, h5, h6, h7, h8, h9, h10, h11, h12, h13, h14⟩ := inv_comp2 h
    obtain ⟨k1, k2⟩ := s_I it (tg := tg) (t := t) G h3 ⟨_, h5⟩ h6
    have kk : ∀ (s : Shared) (H : Hp) (C' : Addr) (cl : List (Str × Addr)) (fp : List Addr), PI (X.blk s H scope (compEnvC scope cl C' X.env) fp) t1 i1 (RI T C n W0 it1) ∧ isSetE i1 = false := fun s H C' cl fp => s_I it1 (tg := tg1) (t := t1) (G.blk scope s H cl C' fp) h9 ⟨_, h11⟩ h12
    have hoo : ∀ i ∈ own1, i ∈ own := fun i hi => List.contains_iff_mem.mp (List.all_eq_true.mp h8 i hi)
    have hown : (ownP c own).map (·.2) = own := by
      unfold ownP
      rw [List.map_map]
      exact (List.map_congr_left (g := id) fun _ _ => rfl).trans (List.map_id _)
    have k : PE X (.ListComp y [⟨t, i, ifs, 0⟩, ⟨t1, i1, ifs1, 0⟩] scope p) (RE T C n W (.comp2 own it tg cond own1 it1 tg1 cond1 elt)) := by
      refine (pe_lc2 (own := ownP c own) (vs1 := own1) (G.cm h1) (by rw [G.N]; exact G.nd) k1 (blkOk_by (by rw [G.N, G.sc]; exact h2)) (by rw [hown]; exact hoo) (fun s H C' cl fp => s_tg (G.blk scope s H cl C' fp) h1 h5)
        (fun s H C' cl fp => s_C cond (G.blk scope s H cl C' fp) h7) (fun s H C' cl fp => (kk s H C' cl fp).1) (fun s H C' cl fp => s_tg (G.blk scope s H cl C' fp) h1 h11) (fun s H C' cl fp => s_C cond1 (G.blk scope s H cl C' fp) h13)
        (fun s H C' cl fp => (s_E elt (G.blk scope s H cl C' fp) h14).1) (folded_no k2) (fun env => folded_no (set_no h9))).to fun σ H Q q => ?_
      rw [hown]
      exact rd_comp2 h4 h10 hoo q
    exact ⟨k, s_plain G k (fun _ => rfl) fun _ => rfl⟩
theorem s_A : ∀ (as : List E) {c : CC} {W : WX} {X : Cx} (G : Good T C n W c X) {xs : List Expr} (h : trA c as xs = true), PA X xs (RA T C n W as)
  | [], c, W, X, G, [], h => s_nil
  | a :: as, c, W, X, G, x :: xs, h => by
    simp only [trA, Bool.and_eq_true] at h
    exact s_cons (s_E a G h.1).1 (s_A as G h.2) (star_cons (tr_nst h.1))
  | [], _, _, _, _, _ :: _, h => by simp only [trA] at h; cases h
  | _ :: _, _, _, _, _, [], h => by simp only [trA] at h; cases h
theorem s_K : ∀ (as : List E) {c : CC} {W : WX} {X : Cx} (G : Good T C n W c X) {ks : List Str} {kws : List Keyword} (h : trK c ks as kws = true), PK X kws (RA T C n W as)
  | [], c, W, X, G, [], [], h => s_knil
  | a :: as, c, W, X, G, k :: ks, ⟨some m, x, p⟩ :: kws, h => by
    simp only [trK, Bool.and_eq_true] at h
    exact s_kcons (s_E a G h.1.2).1 (s_K as G h.2)
  | [], _, _, _, _, [], _ :: _, h => by simp only [trK] at h; cases h
  | [], _, _, _, _, _ :: _, _, h => by simp only [trK] at h; cases h
  | _ :: _, _, _, _, _, [], _, h => by simp only [trK] at h; cases h
  | _ :: _, _, _, _, _, _ :: _, [], h => by simp only [trK] at h; cases h
  | _ :: _, _, _, _, _, _ :: _, ⟨none, _, _⟩ :: _, h => by simp only [trK] at h; cases h
theorem s_V : ∀ (as : List E) (k : Bool) (p : Pos) {c : CC} {W : WX} {X : Cx} (G : Good T C n W c X) {xs : List Expr} (h : trA c as xs = true) (he : as ≠ []), PE X (.BoolOp (bopOf k) xs p) (RE T C n W (.andor k as)) ∧ PW X (.BoolOp (bopOf k) xs p) (RT T C n W (.andor k as))
  | [], _, _, _, _, _, _, _, _, he => absurd rfl he
  | a :: as, k, p, c, W, X, G, x :: xs, h, he => by
    simp only [trA, Bool.and_eq_true] at h
    obtain ⟨k1, k2⟩ := s_E a G h.1
    cases as with
    | nil =>
      cases xs with
      | nil => exact ⟨s_andor1 k1, t_andor1 k2⟩
      | cons _ _ => simp only [trA] at h; cases h.2
    | cons b bs =>
      cases xs with
      | nil => simp only [trA] at h; cases h.2
      | cons y ys =>
        obtain ⟨m1, m2⟩ := s_V (b :: bs) k p G h.2 (by simp)
        exact ⟨s_andor G k1 m1, t_andor k2 m2⟩
  | _ :: _, _, _, _, _, _, _, [], h, _ => by simp only [trA] at h; cases h
theorem s_O : ∀ (a : Option E) {c : CC} {W : WX} {X : Cx} (G : Good T C n W c X) {x : Option Expr} (h : trO c a x = true), PO X x (RO T C n W a)
  | none, c, W, X, G, none, h => s_po0
  | some a, c, W, X, G, some x, h => by
    simp only [trO] at h
    exact s_po1 (s_E a G h).1
  | none, _, _, _, _, some _, h => by simp only [trO] at h; cases h
  | some _, _, _, _, _, none, h => by simp only [trO] at h; cases h
theorem s_C : ∀ (a : Option E) {c : CC} {W : WX} {X : Cx} (G : Good T C n W c X) {xs : List Expr} (h : trC c a xs = true), PTs X xs (RC T C n W a)
  | none, c, W, X, G, [], h => s_no
  | some a, c, W, X, G, [x], h => by
    simp only [trC] at h
    exact s_one (s_E a G h).2
  | none, _, _, _, _, _ :: _, h => by simp only [trC] at h; cases h
  | some _, _, _, _, _, [], h => by simp only [trC] at h; cases h
  | some _, _, _, _, _, _ :: _ :: _, h => by simp only [trC] at h; cases h
theorem s_I : ∀ (it : It) {c : CC} {W : WX} {X : Cx} {tg : Tg} {t : Expr} (G : Good T C n W c X) {x : Expr} (h : trI c it x = true) (ht : ∃ c', trTg c' tg t = true) (hp : itTup it tg = true), PI X t x (RI T C n W it) ∧ isSetE x = false
  | .e a, c, W, X, tg, t, G, x, h, ht, hp => by
    simp only [trI] at h
    exact ⟨s_itE G (s_E a G h).1, tr_set h⟩
  | .rng es, c, W, X, tg, t, G, x, h, ht, hp => by
    obtain ⟨q, xs, p, rfl, h1, h2, h3⟩ := inv_rng h
    obtain ⟨l1, l2⟩ := tr_len h2
    exact ⟨s_itR G h1 (s_A es G h2) l2 h3 l1, rfl⟩
  | .enum a, c, W, X, tg, t, G, x, h, ht, hp => by
    obtain ⟨q, y, p, rfl, h1, h2⟩ := inv_enum h
    cases tg with
    | nm i => simp only [itTup] at hp; cases hp
    | tp is =>
      obtain ⟨c', ht⟩ := ht
      obtain ⟨ts, k, tp, rfl⟩ := inv_tp ht
      exact ⟨s_itN G h1 (s_E a G h2).1 (tr_nst h2), rfl⟩
  | .zip es, c, W, X, tg, t, G, x, h, ht, hp => by
    obtain ⟨q, xs, p, rfl, h1, h2, h3⟩ := inv_zip h
    obtain ⟨l1, l2⟩ := tr_len h2
    cases tg with
    | nm i => simp only [itTup] at hp; cases hp
    | tp is =>
      obtain ⟨c', ht⟩ := ht
      obtain ⟨ts, k, tp, rfl⟩ := inv_tp ht
      exact ⟨s_itZ G h1 (s_A es G h2) l2 h3, rfl⟩
end
end PL
end

section
namespace PL
open PySem PySem.Spec L2

/-! ## statements: what is wanted -/
section
variable {C : G0} {e e1 : EV} {F F1 H H1 : Hp} {σ σ1 : St} {W : WX}
def RetOk (C : G0) (e : EV) (σ : St) (H F' : Hp) (σ' : St) (H' : Hp) (e' : EV) (r : RV) (v : V) : Prop := match r with
  | .v d => Rep C F' d v
  | .t d => ∃ a, v = .ref a ∧ Mine C F' H' d a ∧ ¬ OwnA e' σ' a ∧ ((∃ (j : Nat) (d' : D), e[j]? = some (.own d') ∧ σ[j]? = some (some (.ref a))) ∨ H a = none)
  | .h _ => False
def PostS (C : G0) (W : WX) (e : EV) (F : Hp) (σ : St) (H : Hp) (o : Out Fl) (E : Ends) : Prop := match o with
  | .ok .next e' => ∀ F' σ' H', Tr C e F σ H e' F' σ' H' → E.nx σ' H'
  | .ok .brk e' => ∀ F' σ' H', Tr C e F σ H e' F' σ' H' → E.bk σ' H'
  | .ok .cnt e' => ∀ F' σ' H', Tr C e F σ H e' F' σ' H' → E.ct σ' H'
  | .ok (.ret r) e' => ∀ F' σ' H' v, Tr C e F σ H e' F' σ' H' → RetOk C e σ H F' σ' H' e' r v → E.rt v H'
  | .exc c p e' => ∀ F' σ' H', Tr C e F σ H e' F' σ' H' → ExW C W c p σ' H'
  | .stuck => False
theorem PostS.shift {o : Out Fl} {E : Ends} (t : Tr C e F σ H e1 F1 σ1 H1) (h : PostS C W e F σ H o E) : PostS C W e1 F1 σ1 H1 o E := by
  cases o with
  | ok f e' =>
    cases f with
    | next => exact fun F' σ' H' u => h F' σ' H' (t.trans u)
    | brk => exact fun F' σ' H' u => h F' σ' H' (t.trans u)
    | cnt => exact fun F' σ' H' u => h F' σ' H' (t.trans u)
    | ret r =>
      refine fun F' σ' H' v u k => h F' σ' H' v (t.trans u) ?_
      cases r with
      | v d => exact k
      | h i => exact k
      | t d =>
        obtain ⟨a, q1, q2, q3, q4⟩ := k
        refine ⟨a, q1, q2, q3, ?_⟩
        rcases q4 with ⟨j, d', k1, k2⟩ | k
        · exact t.own j d' a k1 k2
        · by_cases z : H a = none
          · exact .inr z
          · exact absurd k (t.there a z)
  | exc c p e' => exact fun F' σ' H' u => h F' σ' H' (t.trans u)
  | stuck => exact h
theorem PostS.opt {α : Type} {o : Option α} {f : α → Out Fl} {E : Ends} (h : PostS C W e F σ H (PL.opt o f) E) : ∃ a, o = some a ∧ PostS C W e F σ H (f a) E := by
  cases o with
  | none => exact h.elim
  | some a => exact ⟨a, rfl, h⟩
theorem PostS.first {x : Out RV} {f : RV → EV → Out Fl} {E : Ends} {Q1 : VK} (h : PostS C W e F σ H (x.bd f) E)
    (k : ∀ r e1 v F1 H1, TrE C e F σ H e1 F1 H1 → RVok C H F1 σ H1 e1 r v → PostS C W e F σ H (f r e1) E → Q1 v H1) : PostE C W e F σ H x Q1 := by
  cases x with
  | ok r e1 => exact fun v F1 H1 t r1 => k r e1 v F1 H1 t r1 h
  | exc c p e1 => exact fun F' H' t => h F' σ H' t.toTr
  | stuck => exact h
theorem PostS.firstB {x : Out Bool} {f : Bool → EV → Out Fl} {E : Ends} {Q1 : Bool → Hp → Prop} (h : PostS C W e F σ H (x.bd f) E)
    (k : ∀ r e1 F1 H1, TrE C e F σ H e1 F1 H1 → PostS C W e1 F1 σ H1 (f r e1) E → Q1 r H1) : PostB C W e F σ H x Q1 := by
  cases x with
  | ok r e1 => exact fun F1 H1 t => k r e1 F1 H1 t (PostS.shift t.toTr h)
  | exc c p e1 => exact fun F' H' t => h F' σ H' t.toTr
  | stuck => exact h
theorem PostS.firstI {x : Out (List D)} {f : List D → EV → Out Fl} {E : Ends} {R : L2.It → Hp → Prop} (h : PostS C W e F σ H (x.bd f) E)
    (k : ∀ ds e1 J F1 H1, TrE C e F σ H e1 F1 H1 → WalkD C F1 J ds → PostS C W e1 F1 σ H1 (f ds e1) E → R J H1) : PostI C W e F σ H x R := by
  cases x with
  | ok ds e1 => exact fun J F1 H1 t w => k ds e1 J F1 H1 t w (PostS.shift t.toTr h)
  | exc c p e1 => exact fun F' H' t => h F' σ H' t.toTr
  | stuck => exact h
/-- a result goes into a slot -/
theorem put_ok {r : RV} {v : V} {i : Nat} {r' : RV} {e2 e3 : EV} (t : TrE C e F σ H e1 F1 H1) (h : RVok C H F1 σ H1 e1 r v) (k1 : fzR e1 r = some (r', e2)) (k2 : setR i r' e2 = some e3) :
    ∃ F2, Tr C e F σ H e3 F2 (σ.set i (some v)) H1 := by
  cases r with
  | v d =>
    cases k1
    unfold setR at k2
    split at k2 <;> cases k2
    rename_i ok
    exact ⟨F1, set1 t.toTr ok (.inr (.inl ⟨d, v, rfl, rfl, h⟩))⟩
  | t d =>
    cases k1
    obtain ⟨a, rfl, m, h0, n⟩ := h
    unfold setR at k2
    split at k2 <;> cases k2
    rename_i ok
    exact ⟨F1, set1 t.toTr ok (.inr (.inr ⟨d, a, rfl, rfl, m, n, .inr h0⟩))⟩
  | h j =>
    simp only [fzR] at k1
    cases k3 : frz e1 (.h j) with
    | none => rw [k3] at k1; cases k1
    | some z =>
      obtain ⟨d, e4⟩ := z
      rw [k3] at k1
      cases k1
      obtain ⟨F2, t2, rp, s2⟩ := frz_ok t h k3
      unfold setR at k2
      split at k2 <;> cases k2
      rename_i ok
      exact ⟨F2, set1 t2.toTr ok (.inr (.inl ⟨d, v, rfl, rfl, rp⟩))⟩
end
section
variable (T : GT) (C : G0) (n : Nat) (W : WX)
def RS (s : S) : TS := fun E σ H => ∃ e F, SR C e F σ H ∧ PostS C W e F σ H (exS T (callF T n) s e) E
def RB (ss : List S) : TS := fun E σ H => ∃ e F, SR C e F σ H ∧ PostS C W e F σ H (exB T (callF T n) ss e) E
end
theorem _root_.L2.PS.to {X : Cx} {x : Stmt} {t t' : TS} (h : PS X x t) (k : ∀ E σ H, t' E σ H → t E σ H) : PS X x t' := ⟨fun pins s σ H E I q => h.run pins s σ H E I (k E σ H q)⟩
theorem _root_.L2.PSs.to {X : Cx} {x : List Stmt} {t t' : TS} (h : PSs X x t) (k : ∀ E σ H, t' E σ H → t E σ H) : PSs X x t' := ⟨fun pins s σ H E I q => h.run pins s σ H E I (k E σ H q)⟩
/-- in a def's body -/
structure GoodS (T : GT) (C : G0) (n : Nat) (W : WX) (c : CC) (X : Cx) : Prop extends Good T C n W c X where
  kind : X.env.scope.kind = .function
  po : PassesOwn (model X.prog X.w) X.A X.env X.xe
  stk : X.stack = X.env :: X.outer
  fr : X.env.frame = some X.env.locals
  cl : X.calm = true
  bs : c.bs = none
  fnx : ∀ x, X.fn x = true
section
variable {T : GT} {C : G0} {n : Nat} {W : WX} {c : CC} {X : Cx}
theorem GoodS.blk (G : GoodS T C n W c X) : X.env.blockKind = .function := by
  unfold Env.blockKind
  rw [G.kind]
  rfl
/-! ### simple statements -/
theorem s_ex (G : GoodS T C n W c X) {a : E} {x : Expr} {pos : Pos} (ha : PE X x (RE T C n W a)) (hd : ∀ l : Nat, swapsWith x none l X.env = pure false) : PS X (.Expr x pos) (RS T C n W (.ex a)) := by
  refine (ps_expr ha (hd _)).to fun E σ H => ?_
  rintro ⟨e, F, R, q⟩
  exact ⟨e, F, R, PostS.first (f := fun _ e1 => .ok .next e1) (by simpa only [exS] using q) fun r e1 v F1 H1 t1 r1 q => q F1 σ H1 t1.toTr⟩
theorem rd_set {i : Nat} {a : E} {E : Ends} {σ : St} {H : Hp} (h : RS T C n W (.set i a) E σ H) : RE T C n W a σ H fun v H1 => gName i v σ H1 E.nx := by
  obtain ⟨e, F, R, q⟩ := h
  refine ⟨e, F, R, PostS.first (by simpa only [exS] using q) fun r e1 v F1 H1 t1 r1 q => ?_⟩
  obtain ⟨⟨r', e2⟩, k1, q⟩ := q.opt
  obtain ⟨e3, k2, q⟩ := q.opt
  obtain ⟨F2, t2⟩ := put_ok t1 r1 k1 k2
  exact q F2 _ H1 t2
theorem stB_ix {i : Nat} {x : Str} (h : stB c i x = true) : c.N[i]? = some x := by
  unfold stB at h
  rw [Bool.and_eq_true, Bool.and_eq_true] at h
  exact of_decide_eq_true h.1.1
theorem swaps_no {x : Expr} (h : isLC x = false) {t : Expr} {l : Nat} {env : Env} (hc : ∀ a b c d, x ≠ .SetComp a b c d) (hd : ∀ a b c d e, x ≠ .DictComp a b c d e) : swapsWith x (some t) l env = pure false := by
  cases x <;> first | rfl | exact absurd rfl (hc _ _ _ _) | exact absurd rfl (hd _ _ _ _ _) | (cases h; done)
theorem swaps_no0 {x : Expr} (h : isLC x = false) {l : Nat} {env : Env} (hc : ∀ a b c d, x ≠ .SetComp a b c d) (hd : ∀ a b c d e, x ≠ .DictComp a b c d e) : swapsWith x none l env = pure false := by
  cases x <;> first | rfl | exact absurd rfl (hc _ _ _ _) | exact absurd rfl (hd _ _ _ _ _) | (cases h; done)
theorem tr_nosc {a : E} {x : Expr} (h : trE c a x = true) : (∀ a b c d, x ≠ .SetComp a b c d) ∧ ∀ a b c d e, x ≠ .DictComp a b c d e := by
  refine ⟨fun a1 b1 c1 d1 e => ?_, fun a1 b1 c1 d1 e1 e => ?_⟩
  · subst e; cases a <;> (simp only [trE] at h; cases h)
  · subst e; cases a <;> (simp only [trE] at h; cases h)
theorem s_set (G : GoodS T C n W c X) {i : Nat} {a : E} {x : Str} {y : Expr} {px p : Pos} (hx : stB c i x = true) (h : trE c a y = true) : PS X (.Assign [.Name x px] y p) (RS T C n W (.set i a)) := by
  obtain ⟨l1, l2⟩ := G.st i x hx
  have hi : X.N[i]? = some x := by rw [G.N]; exact stB_ix hx
  have hN : X.N.Nodup := by rw [G.N]; exact G.nd
  by_cases hlc : isLC y = true
  · cases y <;> first | cases hlc | skip
    rename_i elt gs scope lp
    by_cases hsw : (X.env.scope.names.lookup x == some .local && px.line == lp.line && !(scope.names.any fun (n, k) => n == x && (k == .local || k == .cell))) = true
    · -- swapped
      cases a <;> first | (simp only [trE] at h; cases h; done) | skip
      case comp own it tg cond el =>
        obtain ⟨y, t, i', ifs, scope', p', e0, h1, h2, h3, h4, h5, h6, h7, h8⟩ := inv_comp h
        cases e0
        obtain ⟨k1, k2⟩ := s_I it (tg := tg) (t := t) G.toGood h3 ⟨_, h5⟩ h6
        have hown : (ownP c own).map (·.2) = own := by
          unfold ownP
          rw [List.map_map]
          exact (List.map_congr_left (g := id) fun _ _ => rfl).trans (List.map_id _)
        rw [Bool.and_eq_true, Bool.and_eq_true] at hsw
        have hl : X.env.scope.names.lookup x = some .local := by simpa using hsw.1.1
        refine (ps_setLc (own := ownP c own) G.cl hN hi hl ?_ k1 (blkOk_by (by rw [G.N, G.sc]; exact h2)) (fun s H C' cl fp => s_tg (G.toGood.blk scope s H cl C' fp) h1 h5)
          (fun s H C' cl fp => s_C cond (G.toGood.blk scope s H cl C' fp) h7) (fun s H C' cl fp => (s_E el (G.toGood.blk scope s H cl C' fp) h8).1) (folded_no k2)).to fun E σ H q => ?_
        · show (pure (X.env.blockKind == .function && X.env.kindOf x == some .local && px.line == lp.line && !(scope.names.any fun (n, k) => n == x && (k == .local || k == .cell))) : Sem Bool) = pure true
          have e1 : X.env.kindOf x = some .local := hl
          rw [G.blk, e1, hsw.1.2, hsw.2]
          rfl
        · have := rd_set q
          rw [hown]
          exact rd_comp h4 this
      case comp2 own it tg cond own1 it1 tg1 cond1 el =>
        obtain ⟨y, t, i', ifs, t1, i1, ifs1, scope', p', e0, h1, h2, h3, h4, h5, h6, h7, h8, h9, h10, h11, h12, h13, h14⟩ := inv_comp2 h
        cases e0
        obtain ⟨k1, k2⟩ := s_I it (tg := tg) (t := t) G.toGood h3 ⟨_, h5⟩ h6
        have hown : (ownP c own).map (·.2) = own := by
          unfold ownP
          rw [List.map_map]
          exact (List.map_congr_left (g := id) fun _ _ => rfl).trans (List.map_id _)
        rw [Bool.and_eq_true, Bool.and_eq_true] at hsw
        have hl : X.env.scope.names.lookup x = some .local := by simpa using hsw.1.1
        have kk : ∀ (s : Shared) (H : Hp) (C' : Addr) (cl : List (Str × Addr)) (fp : List Addr), PI (X.blk s H scope (compEnvC scope cl C' X.env) fp) t1 i1 (RI T C n W0 it1) ∧ isSetE i1 = false := fun s H C' cl fp => s_I it1 (tg := tg1) (t := t1) (G.toGood.blk scope s H cl C' fp) h9 ⟨_, h11⟩ h12
        have hoo : ∀ i ∈ own1, i ∈ own := fun i hi => List.contains_iff_mem.mp (List.all_eq_true.mp h8 i hi)
        refine (ps_setLc2 (own := ownP c own) (vs1 := own1) G.cl hN hi hl ?_ k1 (blkOk_by (by rw [G.N, G.sc]; exact h2)) (by rw [hown]; exact hoo) (fun s H C' cl fp => s_tg (G.toGood.blk scope s H cl C' fp) h1 h5)
          (fun s H C' cl fp => s_C cond (G.toGood.blk scope s H cl C' fp) h7) (fun s H C' cl fp => (kk s H C' cl fp).1) (fun s H C' cl fp => s_tg (G.toGood.blk scope s H cl C' fp) h1 h11) (fun s H C' cl fp => s_C cond1 (G.toGood.blk scope s H cl C' fp) h13)
          (fun s H C' cl fp => (s_E el (G.toGood.blk scope s H cl C' fp) h14).1) (folded_no k2) (fun env => folded_no (set_no h9))).to fun E σ H q => ?_
        · show (pure (X.env.blockKind == .function && X.env.kindOf x == some .local && px.line == lp.line && !(scope.names.any fun (n, k) => n == x && (k == .local || k == .cell))) : Sem Bool) = pure true
          have e1 : X.env.kindOf x = some .local := hl
          rw [G.blk, e1, hsw.1.2, hsw.2]
          rfl
        · have := rd_set q
          rw [hown]
          exact rd_comp2 h4 h10 hoo this
    · refine (ps_set hN hi l1 (s_E a G.toGood h).1 ?_ l2).to fun E σ H q => rd_set q
      show (pure (X.env.blockKind == .function && X.env.kindOf x == some .local && px.line == lp.line && !(scope.names.any fun (n, k) => n == x && (k == .local || k == .cell))) : Sem Bool) = pure false
      rw [G.blk]
      have : (X.env.kindOf x == some .local && px.line == lp.line && !(scope.names.any fun (n, k) => n == x && (k == .local || k == .cell))) = false := Bool.eq_false_iff.mpr hsw
      rw [show (ScopeKind.function == ScopeKind.function) = true from rfl, Bool.true_and, this]
  · have hlc : isLC y = false := by simpa using hlc
    obtain ⟨n1, n2⟩ := tr_nosc h
    exact (ps_set hN hi l1 (s_E a G.toGood h).1 (swaps_no hlc n1 n2) l2).to fun E σ H q => rd_set q
end
end PL
end

section
namespace PL
open PySem PySem.Spec L2
section
variable {T : GT} {C : G0} {n : Nat} {W : WX} {c : CC} {X : Cx}
theorem ids_len : ∀ {is : List Nat} {ts : List Expr}, trTg.trNs c is ts = true → is.length = ts.length ∧ (idsOf ts).length = ts.length
  | [], [], _ => ⟨rfl, rfl⟩
  | i :: is, t :: ts, h => by
    cases t <;> first | (simp only [trTg.trNs] at h; cases h; done) | skip
    rename_i x p
    simp only [trTg.trNs, Bool.and_eq_true] at h
    obtain ⟨h1, h2⟩ := ids_len h.2
    exact ⟨by simp [h1], by show (idsOf ts).length + 1 = _; rw [h2]; rfl⟩
  | [], _ :: _, h => by simp [trTg.trNs] at h
  | _ :: _, [], h => by simp [trTg.trNs] at h
def nmF (env : Env) (line : Nat) : Expr → Option Str
  | .Name id pos => if env.kindOf id == some .local && pos.line == line then some id else none
  | _ => none
theorem names_all {env : Env} {line : Nat} (hs : env.scope = c.sc) : ∀ {is : List Nat} {ts : List Expr}, trTg.trNs c is ts = true → (ts.all fun t => t.pos.line == line) = true → (locAll c ts = true → ts.filterMap (nmF env line) = idsOf ts) ∧ (locAll c ts = false → (ts.filterMap (nmF env line)).length < ts.length) ∧ (ts.filterMap (nmF env line)).length ≤ ts.length
  | [], [], _, _ => ⟨fun _ => rfl, fun h => by simp [locAll] at h, Nat.le_refl _⟩
  | i :: is, t :: ts, h, hl => by
    cases t <;> first | (simp only [trTg.trNs] at h; cases h; done) | skip
    rename_i x p
    simp only [trTg.trNs, Bool.and_eq_true] at h
    rw [List.all_cons, Bool.and_eq_true] at hl
    obtain ⟨h1, h2, h3⟩ := names_all hs h.2 hl.2
    have hp : (p.line == line) = true := hl.1
    have hk : env.kindOf x = c.sc.names.lookup x := by show env.scope.names.lookup x = _; rw [hs]
    have hla : locAll c (.Name x p :: ts) = ((c.sc.names.lookup x == some .local) && locAll c ts) := rfl
    have hid : idsOf (.Name x p :: ts) = x :: idsOf ts := rfl
    by_cases hx : (c.sc.names.lookup x == some .local) = true
    · have hf : nmF env line (.Name x p) = some x := by simp only [nmF, hk, hx, hp]; rfl
      rw [List.filterMap_cons_some hf, hla, hx, Bool.true_and, hid]
      exact ⟨fun q => by rw [h1 q], fun q => Nat.succ_lt_succ (h2 q), Nat.succ_le_succ h3⟩
    · have hx : (c.sc.names.lookup x == some .local) = false := by simpa using hx
      have hf : nmF env line (.Name x p) = none := by simp only [nmF, hk, hx]; rfl
      rw [List.filterMap_cons_none hf, hla, hx, Bool.false_and]
      exact ⟨fun q => by simp at q, fun _ => Nat.lt_succ_of_le h3, Nat.le_succ_of_le h3⟩
  | [], _ :: _, h, _ => by simp [trTg.trNs] at h
  | _ :: _, [], h, _ => by simp [trTg.trNs] at h
theorem any_star : ∀ {vs : List Expr}, vs.all nst = true → (vs.any fun | .Starred .. => true | _ => false) = false
  | [], _ => rfl
  | v :: vs, h => by
    rw [List.all_cons, Bool.and_eq_true] at h
    rw [List.any_cons, any_star h.2, Bool.or_false]
    cases v <;> first | rfl | cases h.1
theorem swapped_eq (G : GoodS T C n W c X) {is : List Nat} {ts vs : List Expr} {k k2 : Nat} {p p2 : Pos} (ht : trTg.trNs c is ts = true) (hv : vs.all nst = true) (hl : vs.length = ts.length) (hp : parB c ts vs = true) :
    swappedStores [.Tuple ts k p] (.Tuple vs k2 p2) X.env = pure (if swN c ts vs then some (idsOf ts) else none) := by
  unfold parB at hp
  rw [Bool.and_eq_true, Bool.and_eq_true] at hp
  obtain ⟨⟨p1, p2'⟩, p3⟩ := hp
  obtain ⟨l1, l2⟩ := ids_len ht
  obtain ⟨n1, n2, n3⟩ := names_all (env := X.env) (line := (ts.head?.map fun (t : Expr) => t.pos.line).getD 0) G.sc ht p1
  unfold swappedStores
  simp only [G.blk, hl]
  show (if (!(ts.length == 2 || ts.length == 3) || ts.length != ts.length || (ScopeKind.function != ScopeKind.function)) = true then _ else _) = _
  have hb : (ScopeKind.function != ScopeKind.function) = false := rfl
  rw [hb]
  simp only [bne_self_eq_false, Bool.or_false]
  by_cases hlen : (ts.length == 2 || ts.length == 3) = true
  · rw [hlen]
    simp only [Bool.not_true, Bool.false_eq_true, if_false]
    split
    · rename_i h; exact absurd h (Bool.eq_false_iff.mp (any_star hv))
    show (if ((ts.filterMap (nmF X.env ((ts.head?.map (·.pos.line)).getD 0))).length != ts.length || (ts.filterMap (nmF X.env ((ts.head?.map (·.pos.line)).getD 0))).eraseDups.length != (ts.filterMap (nmF X.env ((ts.head?.map (·.pos.line)).getD 0))).length) = true then pure none else _) = _
    cases hla : locAll c ts with
    | false =>
      have := n2 hla
      have hne : ((ts.filterMap (nmF X.env ((ts.head?.map (·.pos.line)).getD 0))).length != ts.length) = true := bne_iff_ne.mpr (Nat.ne_of_lt this)
      rw [hne, Bool.true_or, if_pos rfl]
      simp [swN, hla]
    | true =>
      rw [n1 hla, l2]
      have e2 : (idsOf ts).eraseDups.length = ts.length := by simpa using p2'
      rw [e2]
      simp only [bne_self_eq_false, Bool.or_false, Bool.false_eq_true, if_false]
      cases hf : vs.all (foldedForSure 8) with
      | true => simp [swN, hla, hlen, hf]
      | false =>
        have hsn : swN c ts vs = true := by simp only [swN, hla, hlen, hf]; rfl
        rw [hsn] at p3
        have hc : vs.all (constantsAlone 8) = false := by simpa using p3
        simp only [hc]
        show (pure (some (ts.filterMap (nmF X.env ((ts.head?.map fun (t : Expr) => t.pos.line).getD 0)))) : Sem (Option (List Str))) = _
        rw [n1 hla, hsn]
        rfl
  · have hlen : (ts.length == 2 || ts.length == 3) = false := by simpa using hlen
    rw [hlen]
    simp only [Bool.not_false, if_true]
    simp only [swN, hlen, Bool.and_false, Bool.false_and]
    rfl

/-! ### several stores -/
theorem len_two {α : Type} {l : List α} (h : l.length = 2) : ∃ a b, l = [a, b] := by
  match l, h with
  | [a, b], _ => exact ⟨a, b, rfl⟩
theorem len_three {α : Type} {l : List α} (h : l.length = 3) : ∃ a b c, l = [a, b, c] := by
  match l, h with
  | [a, b, c], _ => exact ⟨a, b, c, rfl⟩
def DisT (rs : List RV) (vs : List V) : Prop := ∀ (i j : Nat) (d d' : D), rs[i]? = some (.t d) → rs[j]? = some (.t d') → i ≠ j → vs[i]? ≠ vs[j]?
def PostA2 (C : G0) (W : WX) (e : EV) (F : Hp) (σ : St) (H : Hp) (o : Out (List RV)) (Q : List V → Hp → Prop) : Prop := match o with
  | .ok rs e' => ∀ vs F' H', TrE C e F σ H e' F' H' → RVs C H F' σ H' e' rs vs → DisT rs vs → Q vs H'
  | .exc c p e' => ∀ F' H', TrE C e F σ H e' F' H' → ExW C W c p σ H'
  | .stuck => False
def RA2 (T : GT) (C : G0) (n : Nat) (W : WX) (as : List E) : TA := fun σ H Q => ∃ e F, SR C e F σ H ∧ PostA2 C W e F σ H (evA T (callF T n) as e) Q
theorem s_nil2 : PA X [] (RA2 T C n W []) := pa_nil.to fun σ H Q ⟨e, F, R, q⟩ => by
  simp only [evA] at q
  exact q [] F H (TrE.refl R) rfl fun i j d d' h => by simp at h
theorem RVs.tnew {H0 F H : Hp} {σ : St} {e : EV} {rs : List RV} {vs : List V} {j : Nat} {d : D} (h : RVs C H0 F σ H e rs vs) (k : rs[j]? = some (.t d)) : ∃ a, vs[j]? = some (.ref a) ∧ H0 a = none := by
  obtain ⟨v, k1, a, rfl, _, h0, _⟩ := h.get k
  exact ⟨a, k1, h0⟩
theorem s_cons2 {a : E} {as : List E} {x : Expr} {xs : List Expr} (ha : PE X x (RE T C n W a)) (hr : PA X xs (RA2 T C n W as)) (hs : starEach (x :: xs) X.env = (false, eval x X.env) :: starEach xs X.env) : PA X (x :: xs) (RA2 T C n W (a :: as)) := by
  refine (pa_cons ha hr hs).to fun σ H Q => ?_
  rintro ⟨e, F, R, q⟩
  simp only [evA] at q
  refine ⟨e, F, R, ?_⟩
  revert q
  generalize evE T (callF T n) false a e = o
  intro q
  cases o with
  | exc c p e' => exact q
  | stuck => exact q
  | ok r e1 =>
    intro v F1 H1 t r1
    refine ⟨e1, F1, t.sr, ?_⟩
    simp only [bd_ok] at q
    revert q
    generalize evA T (callF T n) as e1 = o
    intro q
    cases o with
    | exc c p e' => exact fun F' H' t' => q F' H' (t.trans t')
    | stuck => exact q
    | ok rs e2 =>
      intro vs F2 H2 t2 r2 ds
      refine q (v :: vs) F2 H2 (t.trans t2) ⟨v, vs, rfl, r1.mono t2, r2.back t.there⟩ ?_
      have key : ∀ (j : Nat) (d d' : D), r = .t d → rs[j]? = some (.t d') → some v ≠ vs[j]? := fun j d d' hr hj z => by
        subst hr
        obtain ⟨b, rfl, m, _⟩ := r1
        obtain ⟨o, ho⟩ := m.there
        obtain ⟨b', k1, k2⟩ := r2.tnew hj
        rw [k1] at z; cases z
        rw [ho] at k2; cases k2
      intro i j d d' hi hj hne
      cases i with
      | zero =>
        cases j with
        | zero => exact absurd rfl hne
        | succ j => simp at hi hj; simpa using key j d d' hi hj
      | succ i =>
        cases j with
        | zero => simp at hi hj; simpa using (key i d' d hj hi).symm
        | succ j => simp at hi hj; simpa using ds i j d d' hi hj (by omega)
theorem s_A2 (G : Good T C n W c X) : ∀ {as : List E} {xs : List Expr} (h : trA c as xs = true), PA X xs (RA2 T C n W as)
  | [], [], h => s_nil2
  | a :: as, x :: xs, h => by
    simp only [trA, Bool.and_eq_true] at h
    exact s_cons2 (s_E a G h.1).1 (s_A2 G h.2) (star_cons (tr_nst h.1))
  | [], _ :: _, h => by simp only [trA] at h; cases h
  | _ :: _, [], h => by simp only [trA] at h; cases h
theorem fzRs_ok {e : EV} {F H H1 : Hp} {σ : St} : ∀ {rs : List RV} {vs : List V} {rs' : List RV} {ek e2 : EV} {Fk : Hp}, TrE C e F σ H ek Fk H1 → RVs C H Fk σ H1 ek rs vs → fzRs ek rs = some (rs', e2) →
    ∃ F2, TrE C e F σ H e2 F2 H1 ∧ TrE C ek Fk σ H1 e2 F2 H1 ∧ RVs C H F2 σ H1 e2 rs' vs ∧ ∀ (j : Nat) (d : D), rs'[j]? = some (.t d) → rs[j]? = some (.t d)
  | [], vs, rs', ek, e2, Fk, t, r, k => by
    cases k
    exact ⟨Fk, t, TrE.refl t.sr, r, fun _ _ h => h⟩
  | r :: rs, vs, rs', ek, e2, Fk, t, ⟨v, ws, ev, r1, r2⟩, k => by
    subst ev
    simp only [fzRs] at k
    obtain ⟨⟨r', e3⟩, k1, k⟩ := Option.bind_eq_some_iff.mp k
    cases k2 : fzRs e3 rs with
    | none => rw [k2] at k; cases k
    | some z =>
      obtain ⟨l, e4⟩ := z
      rw [k2] at k
      cases k
      have step : ∃ F3, TrE C ek Fk σ H1 e3 F3 H1 ∧ RVok C H F3 σ H1 e3 r' v ∧ ∀ d, r' = .t d → r = .t d := by
        cases r with
        | v d => cases k1; exact ⟨Fk, TrE.refl t.sr, r1, fun d z => by cases z⟩
        | t d => cases k1; exact ⟨Fk, TrE.refl t.sr, r1, fun d z => z⟩
        | h i =>
          simp only [fzR] at k1
          cases k3 : frz ek (.h i) with
          | none => rw [k3] at k1; cases k1
          | some z =>
            obtain ⟨d, e5⟩ := z
            rw [k3] at k1
            cases k1
            obtain ⟨F', q1, q2, _⟩ := frz_ok (TrE.refl t.sr) (show RVok C H1 Fk σ H1 ek (.h i) v from r1) k3
            exact ⟨F', q1, q2, fun d z => by cases z⟩
      obtain ⟨F3, t3, q3, q4⟩ := step
      obtain ⟨F4, t4, t4', r4, s4⟩ := fzRs_ok (t.trans t3) (r2.mono t3) k2
      refine ⟨F4, t4, t3.trans t4', ⟨v, ws, rfl, q3.mono t4', r4⟩, fun j d h => ?_⟩
      cases j with
      | zero => simp at h; simp [q4 d h]
      | succ j => simp at h; simpa using s4 j d h
def sets : List Nat → List V → St → St
  | i :: is, v :: vs, σ => sets is vs (σ.set i (some v))
  | _, _, σ => σ
theorem setRs_ok {e : EV} {F H H1 Fk : Hp} {σ : St} : ∀ {is : List Nat} {rs : List RV} {vs : List V} {ek e3 : EV} {σk : St}, Tr C e F σ H ek Fk σk H1 →
    (∀ (j : Nat) (r : RV) (v : V), rs[j]? = some r → vs[j]? = some v → (∃ d, r = .v d ∧ Rep C Fk d v) ∨ (∃ d a, r = .t d ∧ v = .ref a ∧ Mine C Fk H1 d a ∧ H a = none ∧ ¬ OwnA ek σk a) ∨ ∃ i, r = .h i) →
    rs.length = vs.length → DisT rs vs → setRs is rs ek = some e3 → is.length = vs.length ∧ Tr C e F σ H e3 Fk (sets is vs σk) H1
  | [], [], vs, ek, e3, σk, t, _, hl, _, k => by
    cases k
    cases vs with
    | nil => exact ⟨rfl, t⟩
    | cons _ _ => cases hl
  | i :: is, r :: rs, vs, ek, e3, σk, t, p, hl, ds, k => by
    cases vs with
    | nil => cases hl
    | cons v vs =>
      simp only [setRs] at k
      obtain ⟨e4, k1, k2⟩ := Option.bind_eq_some_iff.mp k
      have hl' : rs.length = vs.length := by simpa using hl
      have ds' : DisT rs vs := fun a b d d' h1 h2 hne => by
        have := ds (a + 1) (b + 1) d d' (by simpa using h1) (by simpa using h2) (by omega)
        simpa using this
      unfold setR at k1
      split at k1
      · rename_i ok
        rcases p 0 r v rfl rfl with ⟨d, rfl, rp⟩ | ⟨d, a, rfl, rfl, m, h0, no⟩ | ⟨i', rfl⟩
        · cases k1
          have t1 := set1 t ok (.inr (.inl ⟨d, v, rfl, rfl, rp⟩))
          obtain ⟨z1, z2⟩ := setRs_ok t1 (fun j r' v' h1 h2 => by
            rcases p (j + 1) r' v' (by simpa using h1) (by simpa using h2) with h | ⟨d', a', e1, e2, m', h0', no'⟩ | h
            · exact .inl h
            · refine .inr (.inl ⟨d', a', e1, e2, m', h0', fun ⟨q, s, w1, w2, w3⟩ => ?_⟩)
              by_cases z : i = q
              · subst z
                have hlt := (setOk_not ok).1
                rw [List.getElem?_set_self hlt] at w1; cases w1; cases w2
              · rw [getE_set_ne z] at w1 w3; exact no' ⟨q, s, w1, w2, w3⟩
            · exact .inr (.inr h)) hl' ds' k2
          exact ⟨by simp [z1], z2⟩
        · cases k1
          have t1 := set1 t ok (.inr (.inr ⟨d, a, rfl, rfl, m, no, .inr h0⟩))
          obtain ⟨z1, z2⟩ := setRs_ok t1 (fun j r' v' h1 h2 => by
            rcases p (j + 1) r' v' (by simpa using h1) (by simpa using h2) with h | ⟨d', a', e1, e2, m', h0', no'⟩ | h
            · exact .inl h
            · refine .inr (.inl ⟨d', a', e1, e2, m', h0', fun ⟨q, s, w1, w2, w3⟩ => ?_⟩)
              by_cases z : i = q
              · subst z
                have hlt := (setOk_not ok).1
                have hlt2 : i < σk.length := by rw [← t.sr.len]; exact hlt
                rw [List.getElem?_set_self hlt2] at w3
                cases w3
                subst e1 e2
                have := ds 0 (j + 1) d d' rfl (by simpa using h1) (by omega)
                apply this
                simp [h2]
              · rw [getE_set_ne z] at w1 w3; exact no' ⟨q, s, w1, w2, w3⟩
            · exact .inr (.inr h)) hl' ds' k2
          exact ⟨by simp [z1], z2⟩
        · cases k1
      · cases k1
  | [], _ :: _, _, _, _, _, _, _, _, _, k => by simp [setRs] at k
  | _ :: _, [], _, _, _, _, _, _, _, _, k => by simp [setRs] at k
theorem rd_par {is : List Nat} {as : List E} {E : Ends} {σ : St} {H : Hp} (h : RS T C n W (.par is as) E σ H) :
    RA2 T C n W as σ H fun vs H1 => is.length = vs.length ∧ E.nx (sets is vs σ) H1 ∧ ∀ p o, H1 p = none → E.nx (sets is vs σ) (upd H1 p o) := by
  obtain ⟨e, F, R, q⟩ := h
  refine ⟨e, F, R, ?_⟩
  simp only [exS] at q
  revert q
  generalize evA T (callF T n) as e = o
  intro q
  cases o with
  | exc c p e' => exact fun F' H' t => q F' σ H' t.toTr
  | stuck => exact q
  | ok rs e1 =>
    intro vs F1 H1 t1 r1 ds
    simp only [bd_ok] at q
    obtain ⟨⟨rs', e2⟩, k1, q⟩ := q.opt
    obtain ⟨e3, k2, q⟩ := q.opt
    obtain ⟨F2, t2, t2', r2, sh⟩ := fzRs_ok t1 r1 k1
    obtain ⟨hl, t3⟩ := setRs_ok t2.toTr (fun j r v h1 h2 => by
      obtain ⟨v', k3, k4⟩ := r2.get h1
      rw [h2] at k3; cases k3
      cases r with
      | v d => exact .inl ⟨d, rfl, k4⟩
      | t d => obtain ⟨a, e1, m, h0, no⟩ := k4; exact .inr (.inl ⟨d, a, rfl, e1, m, h0, no⟩)
      | h i => exact .inr (.inr ⟨i, rfl⟩)) r2.len (fun i j d d' h1 h2 => ds i j d d' (sh i d h1) (sh j d' h2)) k2
    refine ⟨hl, q _ _ _ t3, fun p o hp => q _ _ _ (t3.pad ?_ ?_ (own_there t3.sr hp))⟩
    · by_cases z : H p = none
      · exact z
      · exact absurd hp (t3.there p z)
    · cases z : F2 p with
      | none => rfl
      | some u => rw [t3.sr.sub p u z] at hp; cases hp
theorem gNms_sets {E : St → Hp → Prop} {H : Hp} : ∀ {is : List Nat} {vs : List V} {σ : St}, is.length = vs.length → E (sets is vs σ) H → gNms is vs σ H E
  | [], [], σ, _, h => ⟨rfl, h⟩
  | i :: is, v :: vs, σ, hl, h => ⟨v, vs, rfl, gNms_sets (by simpa using hl) h⟩
  | [], _ :: _, _, hl, _ => by cases hl
  | _ :: _, [], _, hl, _ => by cases hl
theorem loc_ix : ∀ {is : List Nat} {ts : List Expr}, trTg.trNs c is ts = true → locAll c ts = true → ∀ (j i : Nat) (x : Str), is[j]? = some i → (idsOf ts)[j]? = some x → c.N[i]? = some x ∧ c.sc.names.lookup x = some .local
  | [], [], _, _, j, i, x, h1, _ => by simp at h1
  | i :: is, t :: ts, h, hl, j, i', x', h1, h2 => by
    cases t <;> first | (simp only [trTg.trNs] at h; cases h; done) | skip
    rename_i x p
    simp only [trTg.trNs, Bool.and_eq_true] at h
    have hl : ((c.sc.names.lookup x == some .local) && locAll c ts) = true := hl
    rw [Bool.and_eq_true] at hl
    cases j with
    | zero =>
      simp at h1; subst h1
      have h2 : (x :: idsOf ts)[0]? = some x' := h2
      simp at h2; subst h2
      exact ⟨stB_ix h.1, by simpa using hl.1⟩
    | succ j => exact loc_ix h.2 hl.2 j i' x' (by simpa using h1) (by have h2 : (x :: idsOf ts)[j + 1]? = some x' := h2; simpa using h2)
  | [], _ :: _, h, _, _, _, _, _, _ => by simp [trTg.trNs] at h
  | _ :: _, [], h, _, _, _, _, _, _ => by simp [trTg.trNs] at h
theorem s_par (G : GoodS T C n W c X) {is : List Nat} {as : List E} {ts xs : List Expr} {k k2 : Nat} {tp p2 pos : Pos} (ht : trTg.trNs c is ts = true) (ha : trA c as xs = true) (hl : as.length = is.length) (hnd : is.Nodup) (h100 : is.length ≤ 100) (hp : parB c ts xs = true) :
    PS X (.Assign [.Tuple ts k tp] (.Tuple xs k2 p2) pos) (RS T C n W (.par is as)) := by
  obtain ⟨a1, a2⟩ := tr_len ha
  obtain ⟨l1, l2⟩ := ids_len ht
  have hw := swapped_eq G (k := k) (k2 := k2) (p := tp) (p2 := p2) ht a2 (by rw [← a1, hl, l1]) hp
  have hA := s_A2 G.toGood ha
  have hN : X.N.Nodup := by rw [G.N]; exact G.nd
  by_cases hs : swN c ts xs = true
  · rw [hs, if_pos rfl] at hw
    unfold swN at hs
    rw [Bool.and_eq_true, Bool.and_eq_true] at hs
    obtain ⟨⟨h1, h2⟩, h3⟩ := hs
    have lx := loc_ix ht h1
    have hlen : is.length = 2 ∨ is.length = 3 := by
      rw [Bool.or_eq_true, beq_iff_eq, beq_iff_eq] at h2; omega
    rcases hlen with hlen | hlen
    · obtain ⟨i, j, rfl⟩ := len_two hlen
      obtain ⟨t1, t2, rfl⟩ := len_two (l1.symm.trans hlen)
      obtain ⟨x1, x2, rfl⟩ := len_two (a1.symm.trans (hl.trans hlen))
      cases t1 <;> first | (simp only [trTg.trNs] at ht; cases ht; done) | skip
      rename_i n1 q1
      cases t2 <;> first | (simp [trTg.trNs] at ht; done) | skip
      rename_i n2 q2
      obtain ⟨u1, v1⟩ := lx 0 i n1 rfl rfl
      obtain ⟨u2, v2⟩ := lx 1 j n2 rfl rfl
      have hne : i ≠ j := by simpa using hnd
      refine (ps_par G.cl hN (by rw [G.N]; exact u1) (by rw [G.N]; exact u2) hne (by rw [G.sc]; exact v1) (by rw [G.sc]; exact v2) hA hw).to fun E σ H q => ?_
      obtain ⟨e, F, R, q⟩ := rd_par q
      refine ⟨e, F, R, ?_⟩
      revert q
      generalize evA T (callF T n) as e = o
      intro q
      cases o with
      | exc c p e' => exact q
      | stuck => exact q
      | ok rs e1 =>
        intro vs F1 H1 t r d
        obtain ⟨z1, z2, _⟩ := q vs F1 H1 t r d
        match vs, z1, z2 with
        | [v, w], _, z2 => exact ⟨v, w, rfl, z2⟩
    · obtain ⟨i, j, l, rfl⟩ := len_three hlen
      obtain ⟨t1, t2, t3, rfl⟩ := len_three (l1.symm.trans hlen)
      obtain ⟨x1, x2, x3, rfl⟩ := len_three (a1.symm.trans (hl.trans hlen))
      cases t1 <;> first | (simp only [trTg.trNs] at ht; cases ht; done) | skip
      rename_i n1 q1
      cases t2 <;> first | (simp [trTg.trNs] at ht; done) | skip
      rename_i n2 q2
      cases t3 <;> first | (simp [trTg.trNs] at ht; done) | skip
      rename_i n3 q3
      obtain ⟨u1, v1⟩ := lx 0 i n1 rfl rfl
      obtain ⟨u2, v2⟩ := lx 1 j n2 rfl rfl
      obtain ⟨u3, v3⟩ := lx 2 l n3 rfl rfl
      have n12 : i ≠ j := fun e => by subst e; simp at hnd
      have n13 : i ≠ l := fun e => by subst e; simp at hnd
      have n23 : j ≠ l := fun e => by subst e; simp at hnd
      refine (ps_par3 G.cl hN (by rw [G.N]; exact u1) (by rw [G.N]; exact u2) (by rw [G.N]; exact u3) n12 n13 n23 (by rw [G.sc]; exact v1) (by rw [G.sc]; exact v2) (by rw [G.sc]; exact v3) hA hw).to fun E σ H q => ?_
      obtain ⟨e, F, R, q⟩ := rd_par q
      refine ⟨e, F, R, ?_⟩
      revert q
      generalize evA T (callF T n) as e = o
      intro q
      cases o with
      | exc c p e' => exact q
      | stuck => exact q
      | ok rs e1 =>
        intro vs F1 H1 t r d
        obtain ⟨z1, z2, _⟩ := q vs F1 H1 t r d
        match vs, z1, z2 with
        | [u, v, w], _, z2 => exact ⟨u, v, w, rfl, z2⟩
  · have hs : swN c ts xs = false := by simpa using hs
    rw [hs, if_neg (by simp)] at hw
    obtain ⟨h1, h2, h3⟩ := s_tgNames G.toGood ht
    refine (ps_asg (pe_tup hA) (pg_tup G.cl h1 h2 h3) rfl hw rfl).to fun E σ H q => ?_
    obtain ⟨e, F, R, q⟩ := rd_par q
    refine ⟨e, F, R, ?_⟩
    have hlen : ∀ rs e1, evA T (callF T n) as e = .ok rs e1 → rs.length = as.length := fun rs e1 h => evA_len h
    revert q hlen
    generalize evA T (callF T n) as e = o
    intro q hlen
    cases o with
    | exc c p e' => exact q
    | stuck => exact q
    | ok rs e1 =>
      intro vs F1 H1 t r d
      obtain ⟨z1, _, z3⟩ := q vs F1 H1 t r d
      have hle : vs.length ≤ sizeLine := by
        rw [← sizeL_eq, ← r.len, hlen rs e1 rfl, hl]
        unfold sizeL
        omega
      refine ⟨hle, fun p hp => ⟨p, vs, rfl, .inl (.inl upd_same), z1.symm, ?_⟩⟩
      exact gNms_sets z1 (z3 p _ hp)
end
end PL
end

section
namespace PL
open PySem PySem.Spec L2

section
variable {T : GT} {C : G0} {n : Nat} {W : WX} {c : CC} {X : Cx}
theorem s_unp (G : GoodS T C n W c X) {is : List Nat} {a : E} {ts : List Expr} {y : Expr} {k : Nat} {tp pos : Pos} (ht : trTg.trNs c is ts = true) (ha : trE c a y = true) (hy : isTup y = false) : PS X (.Assign [.Tuple ts k tp] y pos) (RS T C n W (.unp is a)) := by
  obtain ⟨h1, h2, h3⟩ := s_tgNames G.toGood ht
  have hs : swapsWithSole [.Tuple ts k tp] y pos.line X.env = pure false := by
    show swapsWith y (some (.Tuple ts k tp)) pos.line X.env = pure false
    cases y <;> rfl
  have hw : swappedStores [.Tuple ts k tp] y X.env = pure none := by
    cases y <;> first | rfl | cases hy
  refine (ps_asg (s_E a G.toGood ha).1 (pg_tup G.cl h1 h2 h3) hs hw rfl).to fun E σ H => ?_
  rintro ⟨e, F, R, q⟩
  refine ⟨e, F, R, PostS.first (by simpa only [exS] using q) fun r e1 v F1 H1 t1 r1 q => ?_⟩
  obtain ⟨d, k1, q⟩ := q.opt
  have z := cont_crp t1.sr r1 k1
  cases d <;> try exact q.elim
  rename_i ds
  obtain ⟨e2, k2, q⟩ := PostS.opt (show PostS C W e F σ H (opt _ _) E from q)
  obtain ⟨p, vs, rfl, p1, p2⟩ := z.tup
  rw [G.K]
  exact ⟨p, vs, rfl, t1.sr.sub.sqT p1, by rw [← p2.len, setVals_len k2], setVals_ok t1.toTr p2 k2 fun σ2 t2 _ => q F1 σ2 H1 t2⟩
def rIp (o : Bop) : TIp := fun x y H Q => ∃ i j z, x = .int i ∧ y = .int j ∧ augop o (.int i) (.int j) = some (.int z) ∧ Q (.int z) H
theorem ip_ok (o : Bop) (ho : (o == .add || o == .sub) = true) : PIp X (opOf o) (rIp o) := by
  intro pins s σ H x y v u Q I r1 r2 h
  obtain ⟨i, j, z, rfl, rfl, k, q⟩ := h
  cases o <;> first | (simp at ho; done) | skip
  · cases k; exact ip_add pins s σ H _ _ v u Q I r1 r2 ⟨i, j, rfl, rfl, q⟩
  · cases k; exact ip_sub pins s σ H _ _ v u Q I r1 r2 ⟨i, j, rfl, rfl, q⟩
theorem s_aug (G : GoodS T C n W c X) {i : Nat} {o : Bop} {a : E} {x : Str} {y : Expr} {p pos : Pos} (hx : stB c i x = true) (ho : (o == .add || o == .sub) = true) (ha : trE c a y = true) : PS X (.AugAssign (.Name x p) (opOf o) y pos) (RS T C n W (.aug i o a)) := by
  obtain ⟨l1, l2⟩ := G.st i x hx
  refine (ps_aug (by rw [G.N]; exact G.nd) (by rw [G.N]; exact stB_ix hx) l1 (s_E a G.toGood ha).1 (ip_ok o ho) l2).to fun E σ H => ?_
  rintro ⟨e, F, R, q⟩
  simp only [exS] at q
  split at q
  · rename_i d ed
    obtain ⟨v0, h1, h2⟩ := R.slot i _ ed
    refine ⟨v0, h1, e, F, R, PostS.first q fun r e1 v F1 H1 t1 r1 q => ?_⟩
    obtain ⟨y, k1, q⟩ := q.opt
    obtain ⟨z, k2, qz⟩ := q.opt
    obtain ⟨e2, k3, qf⟩ := qz.opt
    have hz := cont_crp t1.sr r1 k1
    unfold augop at k2
    split at k2 <;> cases k2
    · rw [Rep] at h2; subst h2; cases hz.int
      obtain ⟨F2, t2⟩ := put_ok (r := .v (.int _)) (v := .int _) t1 (show Rep C F1 _ _ from rep_int) rfl k3
      exact ⟨_, _, _, rfl, rfl, rfl, qf F2 _ H1 t2⟩
    · rw [Rep] at h2; subst h2; cases hz.int
      obtain ⟨F2, t2⟩ := put_ok (r := .v (.int _)) (v := .int _) t1 (show Rep C F1 _ _ from rep_int) rfl k3
      exact ⟨_, _, _, rfl, rfl, rfl, qf F2 _ H1 t2⟩
  · exact q.elim
theorem pset_or {X : Cx} {r r' : TSet} (h : PSet X r) (h' : PSet X r') : PSet X (fun o i v H Q => r o i v H Q ∨ r' o i v H Q) := by
  intro pins s σ H o i v ov iv u Q I ro ri rv q
  rcases q with q | q
  · exact h pins s σ H o i v ov iv u Q I ro ri rv q
  · exact h' pins s σ H o i v ov iv u Q I ro ri rv q
theorem s_six (G : GoodS T C n W c X) {i : Nat} {k a : E} {x : Str} {y z : Expr} {p tp pos : Pos} (hx : nmB c i x = true) (hk : trE c k y = true) (ha : trE c a z = true) (hsl : isSl y = false) : PS X (.Assign [.Subscript (.Name x p) y tp] z pos) (RS T C n W (.six i k a)) := by
  have hs : swapsWithSole [.Subscript (.Name x p) y tp] z pos.line X.env = pure false := by
    show swapsWith z (some (.Subscript (.Name x p) y tp)) pos.line X.env = pure false
    cases z <;> rfl
  have hw : swappedStores [.Subscript (.Name x p) y tp] z X.env = pure none := by
    cases z <;> rfl
  refine (ps_asg (s_E a G.toGood ha).1 (pg_sub (G.nm hx) (s_E k G.toGood hk).1 (pset_or set_list (set_dict (by have := G.hu; omega))) (by intro v; cases y <;> first | rfl | cases hsl)) hs hw rfl).to fun E σ H => ?_
  rintro ⟨e, F, R, q⟩
  refine ⟨e, F, R, PostS.first (by simpa only [exS] using q) fun r e1 v F1 H1 t1 r1 q => ?_⟩
  obtain ⟨⟨d, e2⟩, k1, q⟩ := q.opt
  obtain ⟨F2, t2, rp, s2⟩ := frz_ok t1 r1 k1
  dsimp only at q
  split at q
  · rename_i hl
    have hl : ∃ a, σ[i]? = some (some (.ref a)) := by
      rw [Bool.or_eq_true] at hl
      rcases hl with hl | hl
      · obtain ⟨a, h1, _⟩ := lstAt_ok t2.sr hl; exact ⟨a, h1⟩
      · obtain ⟨a, h1, _⟩ := dkAt_ok t2.sr hl; exact ⟨a, h1⟩
    obtain ⟨a, h1⟩ := hl
    refine ⟨.ref a, h1, e2, F2, t2.sr, PostS.first (PostS.shift t2.toTr q) fun rk e3 v3 F3 H3 t3 r3 q => ?_⟩
    obtain ⟨kd, k2, q⟩ := q.opt
    obtain ⟨e4, k3, qf⟩ := q.opt
    have hz := cont_crp t3.sr r3 k2
    unfold sixE at k3
    split at k3
    · rename_i xs hxs
      obtain ⟨zi, k4, k6⟩ := Option.bind_eq_some_iff.mp k3
      cases kd <;> cases k4
      cases hz.int
      cases k5 : ixN xs.length zi with
      | none => rw [k5] at k6; cases k6
      | some j =>
        rw [k5] at k6
        cases k6
        obtain ⟨s, a', g1, g2, g3, m⟩ := mineD_ok t3.sr hxs
        rw [h1] at g3; cases g3
        obtain ⟨hF, ws, g4, g5⟩ := m.lst'
        have mm := mut_ok t3.sr g1 g2 h1 (d := .lst (xs.set j d)) (o := .lst (ws.set j v)) ⟨hF, _, upd_same, g5.set (rp.mono t3.fs) j⟩
        exact .inl ⟨a, ws, zi, j, rfl, rfl, g4, by rw [← g5.len]; exact k5, qf F3 σ _ (t3.trans mm).toTr⟩
    · rename_i ks xs hxs
      obtain ⟨zk, k4, k6⟩ := Option.bind_eq_some_iff.mp k3
      split at k6
      · rename_i hsz
        cases k6
        obtain ⟨s, a', g1, g2, g3, m⟩ := mineD_ok t3.sr hxs
        rw [h1] at g3; cases g3
        obtain ⟨hF, vs, g4, g5, g6⟩ := m
        obtain ⟨ws, p1, p2, p3⟩ := dput_rep (x := zk) (rp.mono t3.fs) g5 g6
        have hv3 : v3 = kV zk := by
          cases kd <;> simp only [keyOf] at k4 <;> cases k4
          · exact hz.int
          · exact hz.str
        have hlen : (ks.zip vs).length < sizeLine := by
          have e := sizeL_eq
          rw [List.length_zip, ← g6.len, ← g5, Nat.min_self]
          omega
        have mm := mut_ok t3.sr g1 g2 h1 (d := .dk (dput ks xs zk d).1 (dput ks xs zk d).2) (o := .dK (putK (ks.zip vs) zk v)) ⟨hF, ws, by rw [p1]; exact upd_same, p2, p3⟩
        exact .inr ⟨a, _, rfl, by rw [hv3]; exact DPut.k g4 hlen, qf F3 σ _ (t3.trans mm).toTr⟩
      · cases k6
    · cases k3
  · exact q.elim
/-! ### control -/
theorem s_if {d : E} {a b : List S} {x : Expr} {ys zs : List Stmt} {pos : Pos} (hd : PT X x (RT T C n W d)) (ha : PSs X ys (RB T C n W a)) (hb : PSs X zs (RB T C n W b)) : PS X (.If x ys zs pos) (RS T C n W (.if_ d a b)) := by
  refine (ps_if hd ha hb).to fun E σ H => ?_
  rintro ⟨e, F, R, q⟩
  refine ⟨e, F, R, PostS.firstB (by simpa only [exS] using q) fun k e1 F1 H1 t1 q => ?_⟩
  cases k with
  | true => exact ⟨e1, F1, t1.sr, q⟩
  | false => exact ⟨e1, F1, t1.sr, q⟩
theorem s_ret {a : E} {x : Expr} {pos : Pos} (ha : PE X x (RE T C n W a)) : PS X (.Return (some x) pos) (RS T C n W (.ret a)) := by
  refine (ps_ret ha).to fun E σ H => ?_
  rintro ⟨e, F, R, q⟩
  refine ⟨e, F, R, PostS.first (by simpa only [exS] using q) fun r e1 v F1 H1 t1 r1 q => ?_⟩
  obtain ⟨⟨r2, e2⟩, k1, q⟩ := q.opt
  cases r with
  | v d => cases k1; exact q F1 σ H1 v t1.toTr r1
  | t d =>
    cases k1
    obtain ⟨a, rfl, m, h0, no⟩ := r1
    exact q F1 σ H1 _ t1.toTr ⟨a, rfl, m, no, .inr h0⟩
  | h i =>
    have r0 := r1
    obtain ⟨h1, s, h2, h3⟩ := r1
    have hz := t1.sr.slot i s h2
    simp only [retR, h2] at k1
    cases s with
    | un => cases k1
    | val d => cases k1; obtain ⟨v', z1, z2⟩ := hz; rw [h1] at z1; cases z1; exact q F1 σ H1 v t1.toTr z2
    | fro d => cases k1; obtain ⟨v', z1, z2⟩ := hz; rw [h1] at z1; cases z1; exact q F1 σ H1 v t1.toTr z2
    | bor d =>
      cases k1
      obtain ⟨F2, t2, rp, s2⟩ := frz_ok t1 (show RVok C H F1 σ H1 e1 (.h i) v from r0) (show frz e1 (.h i) = some (d, e1.set i (.fro d)) from by simp only [frz, h2])
      exact q F2 σ H1 v t2.toTr rp
    | own d =>
      cases k1
      obtain ⟨a, z1, z2⟩ := hz
      rw [h1] at z1; cases z1
      have hl : i < e1.length := (List.getElem?_eq_some_iff.mp h2).1
      have t2 : Tr C e F σ H (e1.set i .un) F1 (σ.set i (some (.ref a))) H1 := by
        refine set0 t1.toTr hl (fun d q => ?_) (fun d q => ?_) (.inl rfl)
        · obtain ⟨_, d', h | h⟩ := t1.toTr.bor i d q <;> (rw [h2] at h; cases h)
        · have h := (t1.toTr.fro i d q).2; rw [h2] at h; cases h
      have hσ : σ.set i (some (.ref a)) = σ := by
        apply List.ext_getElem?
        intro j
        by_cases z : i = j
        · subst z
          have hl2 : i < σ.length := by rw [← t1.sr.len]; exact hl
          rw [List.getElem?_set_self hl2, h1]
        · rw [getE_set_ne z]
      rw [hσ] at t2
      refine q F1 σ H1 _ t2 ⟨a, rfl, z2, fun ⟨j, s, w1, w2, w3⟩ => ?_, t1.toTr.own i d a h2 h1⟩
      by_cases z : i = j
      · subst z; rw [List.getElem?_set_self hl] at w1; cases w1; cases w2
      · rw [getE_set_ne z] at w1; exact z (t1.sr.dis i j _ s a h2 w1 rfl w2 h1 w3)
theorem s_nop : PSs X [] (RB T C n W []) := pss_nil.to fun E σ H ⟨e, F, R, q⟩ => by
  simp only [exB] at q
  exact q F σ H (Tr.refl R)
theorem s_seq {s : S} {ss : List S} {x : Stmt} {xs : List Stmt} (h1 : PS X x (RS T C n W s)) (h2 : PSs X xs (RB T C n W ss)) : PSs X (x :: xs) (RB T C n W (s :: ss)) := by
  refine (pss_cons h1 h2).to fun E σ H => ?_
  rintro ⟨e, F, R, q⟩
  refine ⟨e, F, R, ?_⟩
  simp only [exB] at q
  revert q
  generalize exS T (callF T n) s e = o
  intro q
  cases o with
  | exc c p e' => exact q
  | stuck => exact q
  | ok f e1 =>
    cases f with
    | next => exact fun F1 σ1 H1 t => ⟨e1, F1, t.sr, PostS.shift t q⟩
    | brk => exact q
    | cnt => exact q
    | ret r => exact q
theorem s_wh (G : GoodS T C n W c X) {d : E} {b : List S} {x : Expr} {ys : List Stmt} {pos : Pos} (hd : PT X x (RT T C n W d)) (hb : PSs X ys (RB T C n W b)) : PS X (.While x ys [] pos) (RS T C n W (.wh d b)) := by
  refine (ps_while G.po hd hb).to fun E σ H => ?_
  rintro ⟨e, F, R, q⟩
  refine ⟨fun m σ' H' => ∃ e' F', SR C e' F' σ' H' ∧ PostS C W e' F' σ' H' (whL (fun e => toB (evE T (callF T n) true d e)) (fun e => exB T (callF T n) b e) m e') E, ⟨T.wf, e, F, R, by simpa only [exS] using q⟩, ?_⟩
  rintro m σ' H' ⟨e', F', R', q⟩
  cases m with
  | zero => exact q.elim
  | succ m =>
    simp only [whL] at q
    refine ⟨e', F', R', PostS.firstB q fun k e1 F1 H1 t1 q => ?_⟩
    cases k with
    | false => rw [if_neg (by simp)] at q ⊢; exact q F1 σ' H1 (Tr.refl t1.sr)
    | true =>
      rw [if_pos rfl] at q ⊢
      refine ⟨fun σ2 H2 => ∃ e' F', SR C e' F' σ2 H2 ∧ PostS C W e' F' σ2 H2 (whL (fun e => toB (evE T (callF T n) true d e)) (fun e => exB T (callF T n) b e) m e') E, fun σ2 H2 w => ⟨m, Nat.lt_succ_self m, w⟩, e1, F1, t1.sr, ?_⟩
      revert q
      generalize exB T (callF T n) b e1 = o
      intro q
      cases o with
      | exc c p e' => exact q
      | stuck => exact q
      | ok f e2 =>
        cases f with
        | next => exact fun F2 σ2 H2 t => ⟨e2, F2, t.sr, PostS.shift t q⟩
        | cnt => exact fun F2 σ2 H2 t => ⟨e2, F2, t.sr, PostS.shift t q⟩
        | brk => exact q
        | ret r => exact q
theorem s_for (G : GoodS T C n W c X) {tg : Tg} {it : It} {b : List S} {t i : Expr} {ys : List Stmt} {pos : Pos} (hi : PI X t i (RI T C n W it)) (hg : PG X t (gTg C.K tg)) (hb : PSs X ys (RB T C n W b)) (hs : isSetE i = false) : PS X (.For t i ys [] pos) (RS T C n W (.for_ tg it b)) := by
  refine (ps_for G.po G.cl hi hg hb (folded_no hs)).to fun E σ H => ?_
  rintro ⟨e, F, R, q⟩
  refine ⟨e, F, R, PostS.firstI (by simpa only [exS] using q) fun ds e1 J F1 H1 t1 wk q => ?_⟩
  refine for_it (D := E) wk (fun i σ' H' => ∃ e' F', SR C e' F' σ' H' ∧ Sub F1 F' ∧ PostS C W e' F' σ' H' (forL (fun d e => opt (asg tg d e) fun e1 => exB T (callF T n) b e1) (ds.drop i) e') E) ⟨e1, F1, t1.sr, Sub.refl _, q⟩ ?_ ?_ ?_
  · rintro i σ' H' _ ⟨e', F', R', s', _⟩
    exact s'.trans R'.sub
  · rintro i x σ' H' H2 hlt ⟨e', F', R', s', q⟩ ⟨d, hdi, hy⟩
    have hdrop : ds.drop i = d :: ds.drop (i + 1) := by
      rw [List.drop_eq_getElem_cons hlt]
      rw [List.getElem?_eq_getElem hlt] at hdi; cases hdi; rfl
    rw [hdrop, forL] at q
    obtain ⟨F'', t2, s2, rx⟩ : ∃ F'', Tr C e' F' σ' H' e' F'' σ' H2 ∧ Sub F' F'' ∧ Rep C F'' d x := by
      rcases hy with ⟨rfl, r⟩ | ⟨p, d1, d2, x1, x2, rfl, hp, rfl, rfl, r1, r2⟩
      · exact ⟨F', Tr.refl R', Sub.refl _, r.mono s'⟩
      · have u := (TrE.refl R').newT (o := .tup [x1, x2]) hp
        refine ⟨_, u.toTr, u.fs, ?_⟩
        rw [Rep]
        exact ⟨p, [x1, x2], rfl, .inl (.inl upd_same), (RepL.cons r1 (.cons r2 .nil)).mono (s'.trans u.fs)⟩
    cases ka : asg tg d e' with
    | none => simp only [ka, opt_none, bd_stuck] at q; exact q.elim
    | some e2 =>
      simp only [ka, opt_some] at q
      refine asg_ok t2 rx ka fun σ3 t3 _ => ⟨e2, F'', t3.sr, ?_⟩
      have q := PostS.shift t3 q
      have ss : Sub F1 F'' := s'.trans s2
      revert q
      generalize exB T (callF T n) b e2 = o
      intro q
      cases o with
      | exc c p e' => exact q
      | stuck => exact q
      | ok f e3 =>
        cases f with
        | next => exact fun F3 σ4 H4 t => ⟨e3, F3, t.sr, ss.trans t.fs, PostS.shift t q⟩
        | cnt => exact fun F3 σ4 H4 t => ⟨e3, F3, t.sr, ss.trans t.fs, PostS.shift t q⟩
        | brk => exact q
        | ret r => exact q
  · rintro σ' H' ⟨e', F', R', _, q⟩
    rw [List.drop_length, forL] at q
    exact q F' σ' H' (Tr.refl R')
end
end PL
end

section
namespace PL
open PySem PySem.Spec L2
open PyProof.Rows hiding St

/-! ## try with several named clauses -/
abbrev HL := List (Value × Nat × (Addr → Value → Option Addr → TS))
/-- behind a clause its name is gone -/
def offS (i : Nat) (E : Ends) : Ends := { nx := fun σ H => E.nx (σ.set i none) H, rt := E.rt, bk := fun σ H => E.bk (σ.set i none) H, ct := fun σ H => E.ct (σ.set i none) H }
def wNm (K : PySem.W.Frag) (Wo : WX) (E : Ends) : HL → WX
  | [] => Wo
  | (k, i, ts) :: r => fun cls d σ H => ∃ b, PySem.W.exmOne K cls k = some b ∧ (b = true → ∀ a, H a = none → ts a cls d (offS i E) (σ.set i (some (.ref a))) H) ∧ (b = false → wNm K Wo E r cls d σ H)
inductive HdN (X : Cx) : List ExceptHandler → HL → Prop
  | nil : HdN X [] []
  | cons {x m : Str} {k : Value} {i : Nat} {ts : Addr → Value → Option Addr → TS} {y : Stmt} {ys : List Stmt} {np hp : Pos} {hs : List ExceptHandler} {l : HL} (hk : Names X x k) (hi : X.N[i]? = some m) (hm : X.env.kindOf m = some .local)
      (hy : ∀ (a : Addr) (o : Obj) (cls : Value) (d : Option Addr) (pn : List (Addr × Obj)), Zc cls d o → (∃ fs, o.data = .fields fs) → PSs (X.suite a ((a, o) :: pn)) (y :: ys) (ts a cls d)) (r : HdN X hs l) :
      HdN X (.ExceptHandler (some (.Name x np)) (some m) (y :: ys) hp :: hs) ((k, i, ts) :: l)
section
variable {X : Cx} {ys : List Stmt} {h0 : ExceptHandler} {hs : List ExceptHandler} {l : HL} {pos : Pos} {tb : WX → TS} {Wo : WX}
theorem ps_try_nm (stk : X.stack = X.env :: X.outer) (fr : X.env.frame = some X.env.locals) (nd : X.N.Nodup) (tk : Takes X Wo)
    (body : ∀ (V : WX) (q : List (Addr × Obj)) (xw : Value → Shared → Prop), Takes (X.tr q xw) V → PassesOwn (model X.prog X.w) X.A X.env xw → PSs (X.tr q xw) ys (tb V))
    (cl : HdN X (h0 :: hs) l) : PS X (.Try ys (h0 :: hs) [] [] pos) (fun E σ H => tb (wNm X.K Wo E l) E σ H) := by
  refine ⟨fun pins s σ H E I want => ?_⟩
  have good := I.ok
  have fr0 : X.A.frames = some (X.env :: X.outer) := by rw [good.frames, stk]
  refine wpAny_Try_except ?_
  have caught : Takes (X.tr (X.pn ++ pins) fun x z => wpAny (model X.prog X.w) X.A (noteFrame x X.env) (fun _ z2 => wpAny (model X.prog X.w) X.A (setFlight x none) (fun _ z3 =>
      wpAny (model X.prog X.w) X.A (handleBy x X.env (h0 :: hs)) (SP X pins E) X.xe z3) X.xe z2) X.xe z) (wNm X.K Wo E l) := by
    rintro x z ⟨a, B, sI, pins2, σ2, H2, cls, d, rfl, J2, below, slots, sky, fresh, same, bare, w⟩
    have J : Inv X pins σ2 H2 sI := J2.ofTry good
    have sky : Sky B (X.env :: X.outer) a (Zc cls d) X.env.locals z.heap := by rw [← stk]; exact sky
    show wpAny (model X.prog X.w) X.A (noteFrame (.ref a) X.env) _ _ z
    refine Sky.land Zc.steady fr0 fr sky fun g fly slots2 => ?_
    have at3 : Inv X pins σ2 H2 { z with heap := g } := J.landed below fly.1 (slots.trans slots2) same bare
    obtain ⟨ob, fs, look, isz, data⟩ := fly.there
    have off : a ∉ frs (X.env :: X.outer) := fun hm => by
      obtain ⟨_, ob2, look2, nofs⟩ := fly.2.2.1.mem hm
      rw [look] at look2
      cases look2
      exact nofs _ data
    have offL : a ≠ X.env.locals := fun e => off (List.mem_filterMap.mpr ⟨X.env, List.mem_cons_self, by rw [fr, e]⟩)
    have offF : a ∉ X.fs := fun hm => by
      obtain ⟨v, mv, ev⟩ := List.mem_filterMap.mp hm
      exact off (List.mem_filterMap.mpr ⟨v, List.mem_cons_of_mem _ mv, ev⟩)
    have inSuite := at3.suite look data fresh offL offF
    have tried : ∀ {hs' : List ExceptHandler} {l' : HL}, HdN X hs' l' → wNm X.K Wo E l' cls d σ2 H2 → wpAny (model X.prog X.w) X.A (handleBy (.ref a) X.env hs') (SP X pins E) X.xe { z with heap := g } := fun {hs' l'} hd => by
      induction hd with
      | nil =>
        intro w
        refine wpAny_handleBy_nil ?_
        obtain ⟨_, _, _, ob5, fs5, tr, otr, sl5, look5, _, data5, one5, _⟩ := id fly
        unfold PySem.passOn
        refine wpAny_bind (wpAny_field look5 data5 one5 ?_)
        rw [if_neg (show ¬ ((Value.ref tr == Value.none) = true) from by simp)]
        have onward : wpAny (model X.prog X.w) X.A (setFlight (.ref a) X.env.frame) (fun _ z4 => wpAny (model X.prog X.w) X.A (throw (.ref a) : Sem Flow) (SP X pins E) X.xe z4) X.xe { z with heap := g } := by
          rw [fr]
          refine HandSPX.setFlight_upZ fly fun g4 held slots4 => wpAny_throw (tk (.ref a) _ ?_)
          exact ⟨a, B, sI, pins, σ2, H2, cls, d, rfl, J, below, (slots.trans slots2).trans slots4, .inr (.inr (by rw [stk]; exact held)), fresh, same, bare, w⟩
        first | exact wpAny_bind onward | exact wpAny_bind (wpAny_pure (wpAny_bind onward))
      | @cons x m k i ts y yr np hp hs2 l2 named slot loc suite rest ih =>
        rintro ⟨b, asks, yes, no⟩
        refine wpAny_handleBy_cons (codeAny_handlers_test ?_) (by intro bad; cases bad)
        have typ : PySem.W.Looks (model X.prog X.w) g (typeOf (.ref a)) cls := fun _ _ _ _ keep q => wpAny_typeOf_ref (keep _ _ look) (by rw [isz.1]; exact q)
        have answer := PySem.W.exm_one (M := model X.prog X.w) at3.kIn typ asks
        have cls0 : ∀ {Q R : Value → Shared → Prop}, Q k { z with heap := g } → wpAny (model X.prog X.w) (X.A.mark (some (.ref a))) (eval (.Name x np) X.env) Q R { z with heap := g } := fun {Q R} q => by
          obtain ⟨isg, nodbg, mod | ⟨nomod, boot, noname⟩⟩ := named
          · exact ld_glob (X := X.suite a ((a, ob) :: (X.pn ++ pins))) inSuite isg mod q nodbg
          · exact ld_blt (X := X.suite a ((a, ob) :: (X.pn ++ pins))) inSuite isg nomod boot q noname nodbg
        refine cls0 (answer.here ?_)
        cases b with
        | false =>
          show wpAny _ X.A (handleBy (.ref a) X.env hs2) _ _ _
          exact ih (no rfl)
        | true =>
          refine codeAny_handlers_suite_as (HandSPX.lands_againZ fly fun g6 fly6 slots6 => ?_)
          have at6 : Inv X pins σ2 H2 { z with heap := g6 } := J.landed below fly6.1 ((slots.trans slots2).trans slots6) same bare
          obtain ⟨ob6, fs6, look6, isz6, data6⟩ := fly6.there
          refine store_ok (X := X.suite a ((a, ob6) :: (X.pn ++ pins))) (v := .ref a) (at6.suite look6 data6 fresh offL offF) nd slot (.inl loc) rfl (fun z7 at7 => ?_) (.inr loc)
          refine wpAny_mono ((suite a ob6 cls d (X.pn ++ pins) isz6 ⟨_, data6⟩).run [] z7 _ H2 _ at7 (yes rfl a fresh)) (fun flow z8 got => ?_) fun _ _ never => never.elim
          have gone : ∀ {σ8 : St} {H8 : Hp} {Q : Shared → Prop}, Inv (X.suite a ((a, ob6) :: (X.pn ++ pins))) [] σ8 H8 z8 → (∀ z9, Inv X pins (σ8.set i none) H8 z9 → Q z9) →
              wpAny (model X.prog X.w) X.A (do bindName X.env m .none; unbindBehindTheSuite X.env m hp) (fun _ z9 => Q z9) X.xe z8 := fun {σ8 H8 Q} at8 q => gone_ok (at8.unsuite good) nd slot loc q
          cases flow with
          | next => obtain ⟨σ8, H8, at8, q8⟩ := got; exact gone at8 fun z9 at9 => ⟨_, _, at9, q8⟩
          | brk => obtain ⟨σ8, H8, at8, q8⟩ := got; exact gone at8 fun z9 at9 => ⟨_, _, at9, q8⟩
          | cont => obtain ⟨σ8, H8, at8, q8⟩ := got; exact gone at8 fun z9 at9 => ⟨_, _, at9, q8⟩
          | ret u => obtain ⟨v8, σ8, H8, at8, r8, q8⟩ := got; exact gone at8 fun z9 at9 => ⟨_, _, _, at9, r8, q8⟩
    exact tried cl w
  refine wpAny_mono ((body (wNm X.K Wo E l) (X.pn ++ pins) _ caught PassesOwn.looking).run [] s σ H E (I.toTry _) want) (fun flow z got => ?_) fun _ _ x => x
  cases flow with
  | next => obtain ⟨σ2, H2, at2, q⟩ := got; exact wpAny_execs_nil ⟨σ2, H2, at2.ofTry good, q⟩
  | brk => obtain ⟨σ2, H2, at2, q⟩ := got; exact ⟨σ2, H2, at2.ofTry good, q⟩
  | cont => obtain ⟨σ2, H2, at2, q⟩ := got; exact ⟨σ2, H2, at2.ofTry good, q⟩
  | ret u => obtain ⟨v2, σ2, H2, at2, r2, q⟩ := got; exact ⟨v2, σ2, H2, at2.ofTry good, r2, q⟩
end
end PL
end

section
namespace PL
open PySem PySem.Spec L2
open PyProof.Rows hiding St

/-- a class of exceptions -/
structure ExK (K : PySem.W.Frag) (p : Addr) : Prop where
  base : ∃ B newId initId bm, ExcBaseFacts B newId initId bm ∧ PySem.W.excIn K p bm newId = true
  sub : PySem.W.subIn K (.ref p) (.type "BaseException") = some true
  ty : PySem.W.typeIn K (.ref p) = some (.type "type")
  exc : ExcC K p
  keep : PySem.W.keepIn K (.ref p) = true
structure GEx (T : GT) (C : G0) (c : CC) (X : Cx) : Prop where
  en : ∀ (k : Nat) (x : Str), c.en[k]? = some x → X.mg x = some (.ref (C.cv k)) ∧ ExK C.K (C.cv k)
  exm : ∀ (k k' : Nat) (x : Str), k < T.nex → c.en[k']? = some x → PySem.W.exmOne C.K (.ref (C.cv k)) (.ref (C.cv k')) = some (decide (k = k'))
  isx : ∀ p ∈ c.isx, PySem.W.kitOne C.K (.ref (C.cv p.1)) (.type p.2) = some true
  mgx : ∀ s ∈ ["ValueError", "LookupError"], X.mg (Str.ofString s) = none
section
variable {X : Cx}
theorem pmk_own0 {p : Addr} {bm : List Value} {B newId initId : String} {x : Str} {np pos : Pos} (f : ExcBaseFacts B newId initId bm) (q : PySem.W.excIn X.K p bm newId = true) (g : X.mg x = some (.ref p)) (kp : PySem.W.keepIn X.K (.ref p) = true) (r : Raises X (.ref p)) (hg : Gl X x) (hd : (x == ("__debug__" : Str)) = false) :
    PMk X (.Call (.Name x np) [] [] pos) (fun _ H Q => Q (.ref p) none H) := by
  intro pins s σ H Q I want
  refine wpAny_Call_Name_kw (ld_glob I hg g ?_ hd)
  refine PySem.W.callWith_K0 I.kIn kp ?_
  obtain ⟨bs, N, nm, qn, b2, hdct, sn, sub, ab, col, dd, k0, k1, k2, k3, k4, mN, hC, hN, hni, T⟩ := exc_obj I.kIn q
  exact wpAny_call_exc_subT f T hC hN hni (fun g2 e made => mk_of I made r want (I.hok.gone made.new)) (Nat.zero_le _)
end
section
variable {T : GT} {C : G0} {n : Nat} {W : WX} {c : CC} {X : Cx}
theorem s_raise (G : GoodS T C n W c X) (GX : GEx T C c X) {k : Nat} {x : Str} {np p2 pos : Pos} (hk : c.en[k]? = some x) (hg : glB c.sc x = true) : PS X (.Raise (some (.Call (.Name x np) [] [] p2)) none pos) (RS T C n W (.raise_ k)) := by
  obtain ⟨g1, g2, g3⟩ := G.glb hg
  obtain ⟨m, ex⟩ := GX.en k x hk
  obtain ⟨B, newId, initId, bm, f, q⟩ := ex.base
  refine (ps_raise G.cl G.tk (pmk_own0 (X := X) f (by rw [G.K]; exact q) m (by rw [G.K]; exact ex.keep) (raises_own (by rw [G.K]; exact ex.sub) (by rw [G.K]; exact ex.ty)) g1 g2)).to fun E σ H => ?_
  rintro ⟨e, F, R, q⟩
  simp only [exS] at q
  exact (q F σ H (Tr.refl R)).2
/-- the suite of a clause -/
def tSuite (C : G0) (h : Hd) (a : Addr) (cls : Value) (d : Option Addr) : TS := fun E σ H => cls = .ref (C.cv h.c) ∧ d = none ∧ σ[h.i]? = some (some (.ref a)) ∧ ∀ p, H p = none → E.nx (σ.set h.j (some (.ref p))) (upd H p (.lst [.str h.lab, .bl true]))
theorem exc_boot : ∀ s ∈ ["ValueError", "LookupError"], bootBuiltins (Str.ofString s) = some (.type s) := by decide +kernel
theorem s_suite (G : GoodS T C n W c X) (GX : GEx T C c X) {h : Hd} {m y cl : Str} {a : Addr} {oe : Obj} {cls : Value} {d : Option Addr} {pn : List (Addr × Obj)} {yp np fp cp lp kp sp sp2 : Pos} {z : Nat} (hm : nmB c h.i m = true) (hy : stB c h.j y = true)
    (hi : glB c.sc "isinstance" = true) (hcl : cl = Str.ofString h.cls) (hg : glB c.sc cl = true) (ht : (trHd.tyExc).contains h.cls = true) (hx : c.isx.contains (h.c, h.cls) = true) (hex : ∃ x, c.en[h.c]? = some x) (hz : Zc cls d oe) (hf : ∃ fs, oe.data = .fields fs) :
    PSs (X.suite a ((a, oe) :: pn)) [.Assign [.Name y yp] (.List [.Constant (.str h.lab) z kp, .Call (.Name "isinstance" fp) [.Name m np, .Name cl cp] [] lp] sp2) sp] (tSuite C h a cls d) := by
  refine ⟨fun pins s σ H E I => ?_⟩
  rintro ⟨rfl, rfl, hσ, want⟩
  obtain ⟨g1, g2, g3⟩ := G.glb hi
  obtain ⟨u1, u2, u3⟩ := G.glb hg
  have hs : h.cls ∈ ["ValueError", "LookupError"] := List.contains_iff_mem.mp ht
  obtain ⟨x, hen⟩ := hex
  obtain ⟨_, ex⟩ := GX.en h.c x hen
  have kit := GX.isx _ (List.contains_iff_mem.mp hx)
  unfold nmB dbgB at hm
  simp only [Bool.and_eq_true] at hm
  have pv : PE (X.suite a ((a, oe) :: pn)) (.Name m np) (tVar h.i) := pe_var (by show X.N[h.i]? = _; rw [G.N]; exact of_decide_eq_true hm.1.1) (by show Vis X.env.scope m; rw [G.sc]; exact vis_of hm.1.2) (by simpa using hm.2.1) (by simpa using hm.2.2)
  subst hcl
  have pc : PE (X.suite a ((a, oe) :: pn)) (.Name (Str.ofString h.cls) cp) (tC (.ty h.cls)) := pe_bltn u1 (GX.mgx _ hs) (exc_boot _ hs) rfl u3 u2
  have pcall := pe_callB (X := X.suite a ((a, oe) :: pn)) (p := fp) (pos := lp) (call_isE (by show ExcC X.K _; rw [G.K]; exact ex.exc) hz hf) g1 (G.gl.bi "isinstance" (by decide)) (by decide +kernel) (pa_cons pv (pa_cons pc pa_nil)) g3 g2
  obtain ⟨l1, l2⟩ := G.st h.j y hy
  have ps := ps_set (X := X.suite a ((a, oe) :: pn)) (pos' := yp) (pos := sp) (by show X.N.Nodup; rw [G.N]; exact G.nd) (by show X.N[h.j]? = _; rw [G.N]; exact stB_ix hy) l1 (pe_lst (pos := sp2) (pa_cons (pe_str (x := h.lab) (j := z) (pos := kp)) (pa_cons pcall pa_nil))) rfl l2
  refine (pss_one ps).run pins s σ H E I ?_
  refine ⟨.ref a, hσ, .ty h.cls, .type h.cls, true, rfl, fun u r => r, ?_, ?_⟩
  · show PySem.W.kitOne X.K _ _ = _; rw [G.K]; exact kit
  · exact ⟨by rw [← sizeL_eq]; unfold sizeL; simp, want⟩
theorem setOk_set {e : EV} {i j : Nat} {s : SV} (h : setOk (e.set i s) j = true) (hne : i ≠ j) : setOk e j = true := by
  unfold setOk at h ⊢
  rw [getE_set_ne hne] at h
  exact h
/-- what the clauses wish -/
def hL (C : G0) (hs : List Hd) : HL := hs.map fun h => (.ref (C.cv h.c), h.i, tSuite C h)
theorem exH_w (GX : GEx T C c X) {e e1 : EV} {F H F1 H1 : Hp} {σ σ1 : St} {E : Ends} {k : Nat} (hk : k < T.nex) (t : Tr C e F σ H e1 F1 σ1 H1) : ∀ {hs : List Hd}, (∀ h ∈ hs, ∃ x, c.en[h.c]? = some x) → PostS C W e F σ H (exH hs k [] e1) E → wNm C.K W E (hL C hs) (.ref (C.cv k)) none σ1 H1
  | [], _, q => (q F1 σ1 H1 t).2
  | h :: hs, hen, q => by
    obtain ⟨x, hx⟩ := hen h (by simp)
    refine ⟨decide (k = h.c), GX.exm k h.c x hk hx, fun hb a ha => ?_, fun hb => ?_⟩
    · have e0 := of_decide_eq_true hb
      subst e0
      simp only [exH, if_pos] at q
      split at q
      · rename_i ok
        simp only [Bool.and_eq_true, bne_iff_ne, ne_eq] at ok
        obtain ⟨⟨ok1, ok2⟩, hne⟩ := ok
        have ok3 := setOk_set ok2 hne
        have hl : h.i < σ1.length := by rw [← t.sr.len]; exact (setOk_not ok1).1
        refine ⟨rfl, rfl, by simp [hl], fun p hp => ?_⟩
        show E.nx (((σ1.set h.i (some (.ref a))).set h.j (some (.ref p))).set h.i none) _
        have e1' : ((σ1.set h.i (some (.ref a))).set h.j (some (.ref p))).set h.i none = (σ1.set h.j (some (.ref p))).set h.i none := by
          rw [List.set_comm _ _ hne, List.set_set]
        rw [e1']
        have hF : F1 p = none := by
          cases z : F1 p with
          | none => rfl
          | some u => rw [t.sr.sub p u z] at hp; cases hp
        have hH : H p = none := by
          by_cases z : H p = none
          · exact z
          · exact absurd hp (t.there p z)
        have no := own_there t.sr hp
        have t2 := set1 (t.pad (o := .lst [.str h.lab, .bl true]) hH hF no) ok3 (s' := .own (.lst [.str h.lab, .bl true])) (o := some (.ref p)) (.inr (.inr ⟨_, p, rfl, rfl, ⟨hF, _, upd_same, .cons rep_str (.cons rep_bl .nil)⟩, no, .inr hH⟩))
        have ok4 : setOk (e1.set h.j (.own (.lst [.str h.lab, .bl true]))) h.i = true := by
          unfold setOk at ok1 ⊢
          rw [getE_set_ne (Ne.symm hne)]
          exact ok1
        exact q F1 _ _ (set1 t2 ok4 (.inl rfl))
      · exact q.elim
    · have hne : ¬ k = h.c := of_decide_eq_false hb
      simp only [exH, if_neg hne] at q
      exact exH_w GX hk t (fun h' hh => hen h' (by simp [hh])) q
theorem inv_hd {h : Hd} {x : ExceptHandler} (hh : trHd c h x = true) : ∃ y np m s hp, x = .ExceptHandler (some (.Name y np)) (some m) [s] hp ∧ c.en[h.c]? = some y ∧ glB c.sc y = true ∧ c.sc.names.lookup m = some .local ∧ stB c h.i m = true ∧
    ∃ y2 yp l z kp fp np2 cl cp lp sp pos, s = .Assign [.Name y2 yp] (.List [.Constant (.str l) z kp, .Call (.Name "isinstance" fp) [.Name m np2, .Name cl cp] [] lp] sp) pos ∧ nmB c h.i m = true ∧ stB c h.j y2 = true ∧ h.lab = l ∧ glB c.sc "isinstance" = true ∧ cl = Str.ofString h.cls ∧ glB c.sc cl = true ∧ (trHd.tyExc).contains h.cls = true ∧ c.isx.contains (h.c, h.cls) = true := by
  unfold trHd at hh
  split at hh
  · simp only [Bool.and_eq_true, decide_eq_true_eq] at hh
    obtain ⟨⟨⟨⟨⟨⟨⟨⟨⟨⟨⟨⟨h1, h2⟩, h3⟩, h4⟩, h5⟩, h6⟩, h7⟩, h8⟩, h9⟩, h10⟩, h11⟩, h12⟩, h13⟩ := hh
    rename_i x1 np m y2 yp l z kp f fp m2 np2 cl cp lp sp pos hp
    have h4' : c.sc.names.lookup m = some NameKind.local := by
      split at h4
      · assumption
      · cases h4
    have em : m2 = m := by
      have a1 := stB_ix h3
      unfold nmB at h5
      rw [Bool.and_eq_true, Bool.and_eq_true] at h5
      have a2 := of_decide_eq_true h5.1.1
      rw [a1] at a2; cases a2; rfl
    subst em h8
    exact ⟨x1, np, m2, _, hp, rfl, h1, h2, h4', h3, y2, yp, l, z, kp, fp, np2, cl, cp, lp, sp, pos, rfl, h5, h6, h7, h9, h10, h11, h12, h13⟩
  · cases hh
theorem s_hds (G : GoodS T C n W c X) (GX : GEx T C c X) : ∀ {hs : List Hd} {xs : List ExceptHandler}, trHs c hs xs = true → HdN X xs (hL C hs) ∧ ∀ h ∈ hs, ∃ x, c.en[h.c]? = some x
  | [], [], _ => ⟨.nil, fun h hh => by simp at hh⟩
  | h :: hs, x :: xs, hh => by
    simp only [trHs, Bool.and_eq_true] at hh
    obtain ⟨y, np, m, s, hp, rfl, h1, h2, h3, h4, y2, yp, l, z, kp, fp, np2, cl, cp, lp, sp, pos, rfl, k1, k2, rfl, k4, k5, k6, k7, k8⟩ := inv_hd hh.1
    obtain ⟨r1, r2⟩ := s_hds G GX hh.2
    obtain ⟨g1, g2, g3⟩ := G.glb h2
    refine ⟨.cons ⟨g1, g2, .inl (GX.en h.c y h1).1⟩ (by rw [G.N]; exact stB_ix h4) (by show X.env.scope.names.lookup m = _; rw [G.sc]; exact h3) (fun a o cls d pn hz hf => s_suite G GX k1 k2 k4 k5 k6 k7 k8 ⟨y, h1⟩ hz hf) r1, fun h' hm => ?_⟩
    rcases List.mem_cons.mp hm with rfl | hm
    · exact ⟨y, h1⟩
    · exact r2 h' hm
  | [], _ :: _, hh => by simp [trHs] at hh
  | _ :: _, [], hh => by simp [trHs] at hh
theorem GoodS.try_ (G : GoodS T C n W c X) {V : WX} {q : List (Addr × Obj)} {xw : Value → Shared → Prop} (tk : Takes (X.tr q xw) V) (po : PassesOwn (model X.prog X.w) X.A X.env xw) : GoodS T C n V c (X.tr q xw) where
  K := G.K
  N := G.N
  nd := G.nd
  sc := G.sc
  st := G.st
  cm := G.cm
  hu := G.hu
  room := G.room
  tk := tk
  gl := G.gl
  kind := G.kind
  po := po
  stk := G.stk
  fr := G.fr
  cl := G.cl
  bs := G.bs
  fnx := G.fnx
theorem s_try (G : GoodS T C n W c X) (GX : GEx T C c X) {b : List S} {hs : List Hd} {ys : List Stmt} {x : ExceptHandler} {xs : List ExceptHandler} {pos : Pos} (hb : ∀ {V : WX} {X' : Cx}, GoodS T C n V c X' → GEx T C c X' → PSs X' ys (RB T C n V b)) (hh : trHs c hs (x :: xs) = true) :
    PS X (.Try ys (x :: xs) [] [] pos) (RS T C n W (.try_ b hs)) := by
  obtain ⟨h1, h2⟩ := s_hds G GX hh
  refine (ps_try_nm (tb := fun V => RB T C n V b) G.stk G.fr (by rw [G.N]; exact G.nd) G.tk (fun V q xw tk po => hb (G.try_ tk po) ⟨GX.en, GX.exm, GX.isx, GX.mgx⟩) h1).to fun E σ H => ?_
  rintro ⟨e, F, R, q⟩
  refine ⟨e, F, R, ?_⟩
  simp only [exS] at q
  revert q
  generalize exB T (callF T n) b e = o
  intro q
  cases o with
  | stuck => exact q
  | ok f e1 => cases f <;> exact q
  | exc k p e1 =>
    intro F1 σ1 H1 t
    dsimp only at q
    split at q
    · rename_i ok
      rw [Bool.and_eq_true] at ok
      have hp : p = [] := by simpa using ok.2
      subst hp
      exact ⟨rfl, by rw [G.K]; exact exH_w GX (of_decide_eq_true ok.1) t h2 q⟩
    · exact q.elim
end
end PL
end

section
namespace PL
open PySem PySem.Spec L2

section
variable {c : CC} {x : Stmt}
theorem one_t {ts : List Expr} (h : ts.length = 1) : ∃ t, ts = [t] := by
  match ts, h with
  | [t], _ => exact ⟨t, rfl⟩
theorem i_set {i : Nat} {a : E} (h : trS c (.set i a) x = true) : ∃ z zp y p, x = .Assign [.Name z zp] y p ∧ stB c i z = true ∧ trE c a y = true := by
  cases x <;> first | (simp only [trS] at h; cases h; done) | skip
  rename_i ts y p
  match ts, h with
  | [], h => simp only [trS] at h; cases h
  | t :: _ :: _, h => cases t <;> first | (cases h; done) | (cases y <;> (cases h; done))
  | [t], h =>
    cases t <;> first | (simp only [trS] at h; cases h; done) | skip
    simp only [trS, Bool.and_eq_true] at h
    exact ⟨_, _, _, _, rfl, h.1, h.2⟩
theorem i_par {is : List Nat} {as : List E} (h : trS c (.par is as) x = true) : ∃ ts k tp xs k2 p2 p, x = .Assign [.Tuple ts k tp] (.Tuple xs k2 p2) p ∧ trTg.trNs c is ts = true ∧ trA c as xs = true ∧ as.length = is.length ∧ is.Nodup ∧ is.length ≤ 100 ∧ parB c ts xs = true := by
  cases x <;> first | (simp only [trS] at h; cases h; done) | skip
  rename_i ts y p
  match ts, h with
  | [], h => simp only [trS] at h; cases h
  | t :: _ :: _, h => cases t <;> first | (cases h; done) | (cases y <;> (cases h; done))
  | [t], h =>
    cases t <;> first | (simp only [trS] at h; cases h; done) | skip
    cases y <;> first | (simp only [trS] at h; cases h; done) | skip
    simp only [trS, Bool.and_eq_true, decide_eq_true_eq] at h
    obtain ⟨⟨⟨⟨⟨⟨h1, h2⟩, h3⟩, h4⟩, h5⟩, h6⟩, h7⟩ := h
    exact ⟨_, _, _, _, _, _, _, rfl, h2, h3, h4, h5, h6, h7⟩
theorem i_unp {is : List Nat} {a : E} (h : trS c (.unp is a) x = true) : ∃ ts k tp y p, x = .Assign [.Tuple ts k tp] y p ∧ trTg.trNs c is ts = true ∧ trE c a y = true ∧ isTup y = false := by
  cases x <;> first | (simp only [trS] at h; cases h; done) | skip
  rename_i ts y p
  match ts, h with
  | [], h => simp only [trS] at h; cases h
  | t :: _ :: _, h => cases t <;> first | (cases h; done) | (cases y <;> (cases h; done))
  | [t], h =>
    cases t <;> first | (simp only [trS] at h; cases h; done) | skip
    simp only [trS, Bool.and_eq_true] at h
    obtain ⟨⟨⟨h1, h2⟩, h3⟩, h4⟩ := h
    exact ⟨_, _, _, _, _, rfl, h2, h3, by simpa using h4⟩
theorem i_six {i : Nat} {k a : E} (h : trS c (.six i k a) x = true) : ∃ z zp y tp w p, x = .Assign [.Subscript (.Name z zp) y tp] w p ∧ nmB c i z = true ∧ trE c k y = true ∧ trE c a w = true := by
  cases x <;> first | (simp only [trS] at h; cases h; done) | skip
  rename_i ts y p
  match ts, h with
  | [], h => simp only [trS] at h; cases h
  | t :: _ :: _, h => cases t <;> first | (cases h; done) | (rename_i o _ _ ; cases o <;> (cases h; done))
  | [t], h =>
    cases t <;> first | (simp only [trS] at h; cases h; done) | skip
    rename_i o z tp
    cases o <;> first | (simp only [trS] at h; cases h; done) | skip
    simp only [trS, Bool.and_eq_true] at h
    exact ⟨_, _, _, _, _, _, rfl, h.1.1, h.1.2, h.2⟩
end
section
variable {T : GT} {C : G0} {n : Nat} {c : CC}
mutual
theorem s_S : ∀ (s : S) {W : WX} {X : Cx} (G : GoodS T C n W c X) (GX : GEx T C c X) {x : Stmt} (h : trS c s x = true), PS X x (RS T C n W s)
  | .ex a, W, X, G, GX, x, h => by
    cases x <;> first | (simp only [trS] at h; cases h; done) | skip
    simp only [trS, Bool.and_eq_true] at h
    obtain ⟨n1, n2⟩ := tr_nosc h.1
    exact s_ex G (s_E a G.toGood h.1).1 fun l => swaps_no0 (by simpa using h.2) n1 n2
  | .set i a, W, X, G, GX, x, h => by
    obtain ⟨z, zp, y, p, rfl, h1, h2⟩ := i_set h
    exact s_set G h1 h2
  | .par is as, W, X, G, GX, x, h => by
    obtain ⟨ts, k, tp, xs, k2, p2, p, rfl, h2, h3, h4, h5, h6, h7⟩ := i_par h
    exact s_par G h2 h3 h4 h5 h6 h7
  | .unp is a, W, X, G, GX, x, h => by
    obtain ⟨ts, k, tp, y, p, rfl, h2, h3, h4⟩ := i_unp h
    exact s_unp G h2 h3 h4
  | .aug i o a, W, X, G, GX, x, h => by
    cases x <;> first | (simp only [trS] at h; cases h; done) | skip
    rename_i t p y pos
    cases t <;> first | (simp only [trS] at h; cases h; done) | skip
    simp only [trS, Bool.and_eq_true] at h
    obtain ⟨⟨⟨⟨h1, h2⟩, h3⟩, h4⟩, h5⟩ := h
    rw [← of_decide_eq_true h3]
    exact s_aug G h1 h4 h5
  | .six i k a, W, X, G, GX, x, h => by
    obtain ⟨z, zp, y, tp, w, p, rfl, h1, h2, h3⟩ := i_six h
    exact s_six G h1 h2 h3 (tr_slice h2)
  | .unpx ts a, W, X, G, GX, x, h => by cases x <;> (simp only [trS] at h; cases h)
  | .if_ d a b, W, X, G, GX, x, h => by
    cases x <;> first | (simp only [trS] at h; cases h; done) | skip
    simp only [trS, Bool.and_eq_true] at h
    exact s_if (s_E d G.toGood h.1.1).2 (s_B a G GX h.1.2) (s_B b G GX h.2)
  | .wh d b, W, X, G, GX, x, h => by
    cases x <;> first | (simp only [trS] at h; cases h; done) | skip
    rename_i y ys zs p
    cases zs <;> first | (simp only [trS] at h; cases h; done) | skip
    simp only [trS, Bool.and_eq_true] at h
    exact s_wh G (s_E d G.toGood h.1).2 (s_B b G GX h.2)
  | .for_ tg it b, W, X, G, GX, x, h => by
    cases x <;> first | (simp only [trS] at h; cases h; done) | skip
    rename_i t i ys zs p
    cases zs <;> first | (simp only [trS] at h; cases h; done) | skip
    simp only [trS, Bool.and_eq_true] at h
    obtain ⟨⟨⟨⟨h1, h2⟩, h3⟩, h4⟩, h5⟩ := h
    obtain ⟨k1, k2⟩ := s_I it (tg := tg) (t := t) G.toGood h2 ⟨c, h3⟩ h4
    exact s_for G k1 (s_tg G.toGood h1 h3) (s_B b G GX h5) k2
  | .ret a, W, X, G, GX, x, h => by
    cases x <;> first | (simp only [trS] at h; cases h; done) | skip
    rename_i v p
    cases v <;> first | (simp only [trS] at h; cases h; done) | skip
    simp only [trS] at h
    exact s_ret (s_E a G.toGood h).1
  | .retN, W, X, G, GX, x, h => by
    cases x <;> first | (simp only [trS] at h; cases h; done) | skip
    rename_i v p
    cases v <;> first | (simp only [trS] at h; cases h; done) | skip
    exact ps_retN.to fun E σ H ⟨e, F, R, q⟩ => q F σ H .non (Tr.refl R) (show Rep C F .non .non from rep_non)
  | .raise_ k, W, X, G, GX, x, h => by
    cases x <;> first | (simp only [trS] at h; cases h; done) | skip
    rename_i v w p
    cases v <;> first | (simp only [trS] at h; cases h; done) | skip
    rename_i v
    cases v <;> first | (simp only [trS] at h; cases h; done) | skip
    rename_i f xs kws p2
    cases f <;> first | (simp only [trS] at h; cases h; done) | skip
    cases xs <;> first | (simp only [trS] at h; cases h; done) | skip
    cases kws <;> first | (simp only [trS] at h; cases h; done) | skip
    cases w <;> first | (simp only [trS] at h; cases h; done) | skip
    simp only [trS, Bool.and_eq_true, decide_eq_true_eq] at h
    exact s_raise G GX h.1.2 h.2
  | .brk, W, X, G, GX, x, h => by
    cases x <;> first | (simp only [trS] at h; cases h; done) | skip
    exact ps_break.to fun E σ H ⟨e, F, R, q⟩ => q F σ H (Tr.refl R)
  | .cnt, W, X, G, GX, x, h => by
    cases x <;> first | (simp only [trS] at h; cases h; done) | skip
    exact ps_continue.to fun E σ H ⟨e, F, R, q⟩ => q F σ H (Tr.refl R)
  | .pass, W, X, G, GX, x, h => by
    cases x <;> first | (simp only [trS] at h; cases h; done) | skip
    exact ps_pass.to fun E σ H ⟨e, F, R, q⟩ => q F σ H (Tr.refl R)
  | .try_ b hs, W, X, G, GX, x, h => by
    cases x <;> first | (simp only [trS] at h; cases h; done) | skip
    rename_i ys xs us vs p
    cases xs <;> first | (simp only [trS] at h; cases h; done) | skip
    cases us <;> first | (simp only [trS] at h; cases h; done) | skip
    cases vs <;> first | (simp only [trS] at h; cases h; done) | skip
    simp only [trS, Bool.and_eq_true] at h
    exact s_try G GX (fun {V X'} G' GX' => s_B b G' GX' h.1.2) h.2
theorem s_B : ∀ (ss : List S) {W : WX} {X : Cx} (G : GoodS T C n W c X) (GX : GEx T C c X) {xs : List Stmt} (h : trB c ss xs = true), PSs X xs (RB T C n W ss)
  | [], W, X, G, GX, [], h => s_nop
  | s :: ss, W, X, G, GX, x :: xs, h => by
    simp only [trB, Bool.and_eq_true] at h
    exact s_seq (s_S s G GX h.1) (s_B ss G GX h.2)
  | [], _, _, _, _, _ :: _, h => by simp only [trB] at h; cases h
  | _ :: _, _, _, _, _, [], h => by simp only [trB] at h; cases h
end
end
end PL
end

section
namespace PL
open PySem PySem.Spec L2
open PyProof.Rows hiding St

/-! ## the defs -/
structure NG where
  fn : List Str
  cn : List Str
  en : List Str
  kw : List (Nat × List Str × Nat)
  gcd : Bool
  isx : List (Nat × String)
  dn : List Str
def ccOf (g : NG) (N : List Str) (sc : Scope) : CC := ⟨N, sc, none, g.fn, g.cn, g.en, true, g.kw, g.gcd, g.isx, g.dn⟩
def scB (N P : List Str) (sc : Scope) : Bool := (match sc.kind with | .function => true | _ => false) && !sc.isCoroutine && !sc.isGenerator && decide N.Nodup && decide (N.take P.length = P) &&
  (P.all fun x => sc.names.lookup x == some .local || sc.names.lookup x == some .cell) && (sc.names.all fun y => y.2 != .free)
theorem scB_ok {N P : List Str} {sc : Scope} (h : scB N P sc = true) : FnScope N P sc := by
  unfold scB at h
  simp only [Bool.and_eq_true, decide_eq_true_eq, List.all_eq_true, Bool.or_eq_true, beq_iff_eq, bne_iff_ne, ne_eq, Bool.not_eq_true'] at h
  obtain ⟨⟨⟨⟨⟨⟨h1, h2⟩, h3⟩, h4⟩, h5⟩, h6⟩, h7⟩ := h
  refine ⟨?_, h2, h3, h4, h5, h6, h7⟩
  split at h1
  · assumption
  · cases h1
theorem kwG_rel {ps ks : List Str} {np : Nat} {vs zs : List V} {us ws : List Value} (h : Vals vs us) (k : Vals zs ws) : Vals (kwG ps ks np vs zs) (kwG ps ks np us ws) := by
  unfold kwG
  rw [Paired.length h, Paired.length k]
  split
  · exact Paired.kw h k
  · exact .nil
theorem kb_mk {K : PySem.W.Frag} {fd : FuncData} {ps ks : List Str} {np : Nat} (hp : 0 < ps.length) (h : ∀ us ws : List Value, us.length = np → ws.length = ks.length → bindArgs fd ⟨us, ks.zip ws⟩ = pure (ps.zip (kwSort ps ks us ws))) : KBinds K fd ps ks (kwG ps ks np) (kwG ps ks np) where
  to := fun s us ws _ hl => by
    unfold kwG at hl ⊢
    by_cases c : us.length = np ∧ ws.length = ks.length
    · rw [if_pos c]; exact .of_eq (h us ws c.1 c.2)
    · rw [if_neg c] at hl; exact absurd hl (by simp; omega)
  rel := fun h k => kwG_rel h k
structure FnB (C : G0) (ng : NG) (g : Nat) (F : FnD) (fd : FuncData) : Prop where
  ex : ∃ (x qual : Str) (st : Stmt), Fun C.K x qual st (C.gv g) fd ∧ FnScope F.N F.ps (defScope st) ∧ trB (ccOf ng F.N (defScope st)) F.body (defBody st) = true
  bind : Binds C.K fd F.ps []
  kws : ∀ ks np, (g, ks, np) ∈ ng.kw → KBinds C.K fd F.ps ks (kwG F.ps ks np) (kwG F.ps ks np)
structure Base (T : GT) (C : G0) (ng : NG) (mg : Str → Option Value) : Prop where
  names : ∀ (g : Nat) (x : Str), ng.fn[g]? = some x → mg x = some (.ref (C.gv g)) ∧ g < T.fns.length
  fns : ∀ (g : Nat) (F : FnD), T.fns[g]? = some F → ∃ fd, FnB C ng g F fd
  cons : ∀ (k : Nat) (x : Str) (d : D), ng.cn[k]? = some x → T.cons[k]? = some d → ∃ v u, mg x = some u ∧ RelV v u ∧ ∀ H, Rep C H d v
  bi : ∀ s ∈ bnames, mg (Str.ofString s) = none
  gcd : ng.gcd = true → mg (Str.ofString "gcd") = some (.builtin "math.gcd")
  dcs : ∀ (k : Nat) (x : Str) (p : List Key × List D), ng.dn[k]? = some x → T.dcs[k]? = some p → ∃ a, mg x = some (.ref a) ∧ ∀ kk d, dlook p.1 p.2 kk = some d → ∃ i v, kk = .inl i ∧ KDI C.K a i v ∧ ∀ H, Rep C H d v
  en : ∀ (k : Nat) (x : Str), ng.en[k]? = some x → mg x = some (.ref (C.cv k)) ∧ ExK C.K (C.cv k)
  exm : ∀ (k k' : Nat) (x : Str), k < T.nex → ng.en[k']? = some x → PySem.W.exmOne C.K (.ref (C.cv k)) (.ref (C.cv k')) = some (decide (k = k'))
  isx : ∀ p ∈ ng.isx, PySem.W.kitOne C.K (.ref (C.cv p.1)) (.type p.2) = some true
  mgx : ∀ s ∈ ["ValueError", "LookupError"], mg (Str.ofString s) = none
section
variable {C : G0} {F F' H H' : Hp} {vs : List V} {as : List SV}
theorem outs_get : ∀ {as : List SV} {e : EV} {j : Nat} {s : SV}, as.length ≤ e.length → as[j]? = some s → (outs as e)[j]? = (match s with | .bor _ => e[j]? | s => some s)
  | [], _, _, _, _, h => by simp at h
  | a :: as, [], _, _, hl, _ => by simp at hl
  | a :: as, z :: e, 0, s, hl, h => by
    simp at h; subst h
    cases a <;> rfl
  | a :: as, z :: e, j + 1, s, hl, h => by
    have ih := outs_get (as := as) (e := e) (j := j) (s := s) (by simpa using hl) (by simpa using h)
    cases a <;> (simp only [outs, List.getElem?_cons_succ]; exact ih)
theorem outs_len : ∀ {as : List SV} {e : EV}, as.length ≤ e.length → (outs as e).length = as.length
  | [], _, _ => rfl
  | a :: as, [], hl => by simp at hl
  | a :: as, z :: e, hl => by
    have ih := outs_len (as := as) (e := e) (by simpa using hl)
    cases a <;> (simp only [outs, List.length_cons]; rw [ih])
theorem SR.ext {e : EV} {σ : St} (R : SR C e F σ H) (m : Nat) : SR C (e ++ List.replicate m .un) F (σ ++ List.replicate m none) H := by
  have lt : ∀ {j : Nat} {s : SV}, (e ++ List.replicate m SV.un)[j]? = some s → s.mine = true → j < e.length := fun {j s} h ms => by
    by_cases hj : j < e.length
    · exact hj
    · rw [List.getElem?_append_right (by omega), List.getElem?_replicate] at h
      split at h
      · cases h; cases ms
      · cases h
  refine ⟨R.sub, fun j s h => ?_, fun j k s t a h1 h2 m1 m2 a1 a2 => ?_, by simp [R.len]⟩
  · by_cases hj : j < e.length
    · rw [List.getElem?_append_left hj] at h
      rw [List.getElem?_append_left (by rw [← R.len]; exact hj)]
      exact R.slot j s h
    · rw [List.getElem?_append_right (by omega), List.getElem?_replicate] at h
      split at h
      · cases h; trivial
      · cases h
  · have l1 := lt h1 m1
    have l2 := lt h2 m2
    rw [List.getElem?_append_left l1] at h1
    rw [List.getElem?_append_left l2] at h2
    rw [List.getElem?_append_left (by rw [← R.len]; exact l1)] at a1
    rw [List.getElem?_append_left (by rw [← R.len]; exact l2)] at a2
    exact R.dis j k s t a h1 h2 m1 m2 a1 a2
/-- behind a def's body -/
theorem outs_ok {m : Nat} {e' : EV} {σ' : St} (R : SR C as F (vs.map some) H) (hv : ∀ s ∈ as, (∃ d, s = .val d) ∨ ∃ d, s = .bor d) (t : Tr C (as ++ List.replicate m .un) F (vs.map some ++ List.replicate m none) H e' F' σ' H') :
    TrE C as F (vs.map some) H (outs as e') F' H' ∧ ∀ a, OwnA (outs as e') (vs.map some) a → OwnA e' σ' a := by
  have hle : as.length ≤ e'.length := by rw [t.len]; simp
  have lt : ∀ {j : Nat} {s : SV}, (outs as e')[j]? = some s → j < as.length := fun {j s} h => by rw [← outs_len hle]; exact (List.getElem?_eq_some_iff.mp h).1
  have big : ∀ {j : Nat} {s : SV}, as[j]? = some s → (as ++ List.replicate m SV.un)[j]? = some s := fun {j s} h => by rw [List.getElem?_append_left (List.getElem?_eq_some_iff.mp h).1]; exact h
  have bigσ : ∀ {j : Nat}, j < as.length → (vs.map some ++ List.replicate m none)[j]? = (vs.map some)[j]? := fun {j} h => List.getElem?_append_left (by rw [← R.len]; exact h)
  have char : ∀ j, j < as.length → (∃ d, as[j]? = some (.val d) ∧ (outs as e')[j]? = some (.val d)) ∨ ∃ d d', as[j]? = some (.bor d) ∧ σ'[j]? = (vs.map some)[j]? ∧ (outs as e')[j]? = e'[j]? ∧ (e'[j]? = some (.bor d') ∨ e'[j]? = some (.fro d')) := fun j hj => by
    have hs : as[j]? = some as[j] := List.getElem?_eq_getElem hj
    rcases hv as[j] (List.getElem_mem hj) with ⟨d, e⟩ | ⟨d, e⟩
    · rw [e] at hs
      exact .inl ⟨d, hs, by rw [outs_get hle hs]⟩
    · rw [e] at hs
      obtain ⟨h1, d', h2⟩ := t.bor j d (big hs)
      rw [bigσ hj] at h1
      exact .inr ⟨d, d', hs, h1, by rw [outs_get hle hs], h2⟩
  have ownS : ∀ b, OwnA as (vs.map some) b → OwnA (as ++ List.replicate m .un) (vs.map some ++ List.replicate m none) b := fun b ⟨j, s, h1, h2, h3⟩ =>
    ⟨j, s, big h1, h2, by rw [bigσ (List.getElem?_eq_some_iff.mp h1).1]; exact h3⟩
  have ownB : ∀ b, OwnA (as ++ List.replicate m .un) (vs.map some ++ List.replicate m none) b → OwnA as (vs.map some) b := fun b ⟨j, s, h1, h2, h3⟩ => by
    by_cases hj : j < as.length
    · rw [List.getElem?_append_left hj] at h1
      rw [bigσ hj] at h3
      exact ⟨j, s, h1, h2, h3⟩
    · rw [List.getElem?_append_right (by omega), List.getElem?_replicate] at h1
      split at h1
      · cases h1; cases h2
      · cases h1
  have R' := t.sr
  refine ⟨⟨⟨⟨R'.sub, fun j s h => ?_, fun j k s s2 a h1 h2 m1 m2 a1 a2 => ?_, by rw [outs_len hle]; exact R.len⟩, t.fs, fun b o h n => t.keep b o h fun q => n (ownB b q), t.there, fun b o h => ?_, fun j d a h1 h2 => ?_, fun j d h => ?_, fun j d h => ⟨rfl, ?_⟩, fun j d h => ⟨rfl, ?_⟩, outs_len hle⟩, fun j s h k => ?_, fun j s h k => ?_⟩, fun a ⟨j, s, h1, h2, h3⟩ => ?_⟩
  · have hj := lt h
    rcases char j hj with ⟨d, k1, k2⟩ | ⟨d, d', k1, k2, k3, k4⟩
    · rw [k2] at h; cases h
      obtain ⟨v, z1, z2⟩ := R.slot j _ k1
      exact ⟨v, z1, z2.mono t.fs⟩
    · rw [k3] at h
      have z := R'.slot j s h
      rw [k2] at z; exact z
  · have hj := lt h1
    have hk := lt h2
    rcases char j hj with ⟨d, k1, k2⟩ | ⟨d, d', k1, k2, k3, k4⟩
    · rw [k2] at h1; cases h1; cases m1
    rcases char k hk with ⟨d2, l1, l2⟩ | ⟨d2, d2', l1, l2, l3, l4⟩
    · rw [l2] at h2; cases h2; cases m2
    rw [k3] at h1; rw [l3] at h2
    exact R'.dis j k s s2 a h1 h2 m1 m2 (by rw [k2]; exact a1) (by rw [l2]; exact a2)
  · rcases t.new b o h with w | w | w
    · exact .inl w
    · exact .inr (.inl w)
    · exact .inr (.inr (ownB b w))
  · have hj := lt h1
    rcases char j hj with ⟨d2, k1, k2⟩ | ⟨d2, d', k1, k2, k3, k4 | k4⟩
    · rw [k2] at h1; cases h1
    · rw [k3, k4] at h1; cases h1
    · rw [k3, k4] at h1; cases h1
  · have hj := lt h
    rcases char j hj with ⟨d2, k1, k2⟩ | ⟨d2, d', k1, k2, k3, k4⟩
    · rw [k2] at h; cases h
    · exact ⟨d2, k1⟩
  · rcases char j (List.getElem?_eq_some_iff.mp h).1 with ⟨d2, k1, k2⟩ | ⟨d2, d', k1, k2, k3, k4⟩
    · rw [k1] at h; cases h
    · exact ⟨d', by rw [k3]; exact k4⟩
  · rcases char j (List.getElem?_eq_some_iff.mp h).1 with ⟨d2, k1, k2⟩ | ⟨d2, d', k1, k2, k3, k4⟩
    · rw [k1] at h; cases h
    · rw [k1] at h; cases h
  · rcases char j (List.getElem?_eq_some_iff.mp h).1 with ⟨d2, k1, k2⟩ | ⟨d2, d', k1, k2, k3, k4 | k4⟩
    · exact ⟨_, k2, rfl⟩
    · exact ⟨_, by rw [k3]; exact k4, rfl⟩
    · exact ⟨_, by rw [k3]; exact k4, rfl⟩
  · rcases char j (lt h) with ⟨d2, k1, k2⟩ | ⟨d2, d', k1, k2, k3, k4⟩
    · rw [k2] at h; cases h; cases k
    · exact ⟨_, k1, rfl⟩
  · rcases char j (lt h1) with ⟨d2, k1, k2⟩ | ⟨d2, d', k1, k2, k3, k4⟩
    · rw [k2] at h1; cases h1; cases h2
    · exact ⟨j, s, by rw [← k3]; exact h1, h2, by rw [k2]; exact h3⟩
end
section
variable {T : GT} {C : G0} {ng : NG} {P : Program} {w : World} {mg : Str → Option Value} {base : Heap}
theorem fn_all (B : Base T C ng mg) : ∀ (n g : Nat) (F : FnD) (fd : FuncData), T.fns[g]? = some F → FnB C ng g F fd → FnOk P w C.K mg base (CX P w) n (C.gv g) fd F.ps (SpI T C n g F.ps.length)
  | 0, g, F, fd, hF, b => ⟨fun vs H Q E ⟨as, F0, h, _⟩ => h, fun A outer s H args us vs Q E _ _ _ _ ⟨as, F0, _, _, _, h⟩ => h.elim⟩
  | n + 1, g, F, fd, hF, b => by
    obtain ⟨x, qual, st, fu, S, tr⟩ := b.ex
    refine fu.okX S (fun vs H Q E ⟨as, F0, h, _⟩ => h) fun cdv A outer s H vs Q E hr sp => ?_
    obtain ⟨as, F0, hl, hv, R, sp⟩ := sp
    have G : GoodS T C n (fun cls d _ H => E cls d H) (ccOf ng F.N (defScope st)) (cxOf (L2.CX P w) P w C.K mg base F.N qual (defScope st) (C.gv g) cdv A outer s H E) :=
      { K := rfl, N := rfl, nd := S.nd, sc := rfl,
        st := fun i x h => by
          unfold stB at h
          rw [Bool.and_eq_true, Bool.and_eq_true] at h
          refine ⟨?_, .inl rfl⟩
          have h2 := h.1.2
          unfold locB at h2
          show Loc (defScope st) x
          split at h2
          · exact .inl (by assumption)
          · exact .inr (by assumption)
          · cases h2
        cm := fun _ => rfl, hu := hr.units, room := fun _ => hr, tk := takes_of rfl rfl rfl rfl,
        gl := ⟨B.names, fun g' F' h' => by
          obtain ⟨fd', b'⟩ := B.fns g' F' h'
          obtain ⟨x', q', st', fu', _⟩ := b'.ex
          exact ⟨fu'.kp, fd', fn_all B n g' F' fd' h' b', b'.bind, b'.kws⟩, B.cons, B.bi, B.gcd, B.dcs⟩,
        kind := S.kind, po := passes_of rfl, stk := rfl, fr := rfl, cl := rfl, bs := rfl, fnx := fun _ => rfl }
    have GX : GEx T C (ccOf ng F.N (defScope st)) (cxOf (L2.CX P w) P w C.K mg base F.N qual (defScope st) (C.gv g) cdv A outer s H E) := ⟨B.en, B.exm, B.isx, B.mgx⟩
    refine ⟨_, s_B F.body G GX tr, as ++ List.replicate (F.N.length - as.length) .un, F0, ?_, ?_⟩
    · have hla : as.length = vs.length := by rw [R.len]; simp
      have := R.ext (F.N.length - as.length)
      rw [hla] at this ⊢
      exact this
    · have hla : as.length = vs.length := by rw [R.len]; simp
      simp only [callF, hF] at sp
      rw [if_pos (by rw [hla]; exact hl)] at sp
      revert sp
      have hst : L2.start F.N vs = vs.map some ++ List.replicate (F.N.length - as.length) none := by unfold L2.start; rw [hla]
      rw [hst]
      generalize exB T (callF T n) F.body (as ++ List.replicate (F.N.length - as.length) .un) = o
      intro sp
      cases o with
      | stuck => exact sp
      | exc k p e' =>
        intro F' σ' H' t
        exact sp F' H' (outs_ok R hv t).1
      | ok f e' =>
        cases f with
        | brk => exact sp.elim
        | cnt => exact sp.elim
        | next =>
          intro F' σ' H' t
          exact sp .non F' H' (outs_ok R hv t).1 (show Rep C F' .non .non from rep_non)
        | ret r =>
          intro F' σ' H' v t k
          obtain ⟨o1, o2⟩ := outs_ok R hv t
          cases r with
          | v d => exact sp v F' H' o1 k
          | h i => exact k.elim
          | t d =>
            obtain ⟨a, rfl, m, no, hh⟩ := k
            refine sp _ F' H' o1 ⟨a, rfl, m, ?_, fun q => no (o2 a q)⟩
            rcases hh with ⟨j, d', h1, _⟩ | hh
            · by_cases hj : j < as.length
              · rw [List.getElem?_append_left hj] at h1
                rcases hv _ (List.mem_of_getElem? h1) with ⟨_, z⟩ | ⟨_, z⟩ <;> cases z
              · rw [List.getElem?_append_right (by omega), List.getElem?_replicate] at h1
                split at h1 <;> cases h1
            · exact hh
end
end PL
end

section
namespace PL
open PySem PySem.Spec L2
open PyProof.Rows hiding St

/-! ## facts in rows -/
def AllIx {α : Type} (P : Nat → α → Prop) : Nat → List α → Prop
  | _, [] => True
  | i, a :: l => P i a ∧ AllIx P (i + 1) l
theorem AllIx.get {α : Type} {P : Nat → α → Prop} : ∀ {l : List α} {j i : Nat} {a : α}, AllIx P j l → l[i]? = some a → P (j + i) a
  | [], _, _, _, _, h => by simp at h
  | b :: l, j, 0, a, ⟨h, _⟩, k => by simp at k; subst k; exact h
  | b :: l, j, i + 1, a, ⟨_, h⟩, k => by
    have := AllIx.get (i := i) h (by simpa using k)
    rw [show j + (i + 1) = j + 1 + i by omega]; exact this
theorem AllIx.all {α : Type} {P : Nat → α → Prop} {l : List α} (h : AllIx P 0 l) (i : Nat) (a : α) (k : l[i]? = some a) : P i a := by
  have := AllIx.get h k
  rwa [Nat.zero_add] at this
theorem fn_mk {C : G0} {ng : NG} {g : Nat} {F : FnD} {st : Stmt} {x : Str} {oc : Value} {od an : Option Addr} {sl : Array (Option Value)} {kV dc pm cd ct : Value}
    (l : C.K.lookup (C.gv g) = some ⟨oc, od, .func (PySem.W.fnOf x x (defArgs st) (defBody st) (defScope st) .none kV dc pm an cd ct), sl⟩) (c : PySem.W.codeIn C.K cd x = true) (k : PySem.W.keepIn C.K (.ref (C.gv g)) = true)
    (S : scB F.N F.ps (defScope st) = true) (tr : trB (ccOf ng F.N (defScope st)) F.body (defBody st) = true)
    (b : ∀ (kV doc pm : Value) (an : Option Addr) (cdv ct : Value) (us : List Value), us.length = F.ps.length → bindArgs (PySem.W.fnOf x x (defArgs st) (defBody st) (defScope st) .none kV doc pm an cdv ct) ⟨us, []⟩ = pure (F.ps.zip us))
    (kw : ∀ (kV doc pm : Value) (an : Option Addr) (cdv ct : Value) (ks : List Str) (np : Nat), (g, ks, np) ∈ ng.kw → KBinds C.K (PySem.W.fnOf x x (defArgs st) (defBody st) (defScope st) .none kV doc pm an cdv ct) F.ps ks (kwG F.ps ks np) (kwG F.ps ks np)) :
    FnB C ng g F (PySem.W.fnOf x x (defArgs st) (defBody st) (defScope st) .none kV dc pm an cd ct) where
  ex := ⟨x, x, st, L2.fun_mk (st := st) l c k, scB_ok S, tr⟩
  bind := (L2.fun_mk (st := st) l c k).binds b
  kws := kw kV dc pm an cd ct
theorem kw_of {l r : List (Nat × List Str × Nat)} {g : Nat} {ks : List Str} {np : Nat} (q : (g, ks, np) ∈ l) (h : (l.filter fun t => t.1 == g) = r) : (g, ks, np) ∈ r := by
  rw [← h]
  exact List.mem_filter.mpr ⟨q, by simp⟩
/-- a constant of the module -/
def KRep (K : PySem.W.Frag) : D → Value → Prop
  | .non, u => u = .none
  | .bl b, u => u = .bool b
  | .int i, u => ∃ t, u = .int i t
  | .str x, u => ∃ t, u = .str x t
  | .tup ds, u => ∃ (a : Addr) (o : Obj) (its : Array Value) (m : Nat), u = .ref a ∧ K.lookup a = some o ∧ o.cls = .type "tuple" ∧ o.data = .seq its m ∧ its.size ≤ sizeLine ∧ KRepL ds its.toList
  | _, _ => False
where KRepL : List D → List Value → Prop
  | [], us => us = []
  | d :: ds, us => ∃ u r, us = u :: r ∧ KRep K d u ∧ KRepL ds r
mutual
theorem krep {C : G0} : ∀ (d : D) (u : Value), KRep C.K d u → ∃ v, RelV v u ∧ ∀ H, Rep C H d v
  | .non, u, h => ⟨.non, h, fun H => rep_non⟩
  | .bl b, u, h => ⟨.bl b, h, fun H => rep_bl⟩
  | .int i, u, h => ⟨.int i, h, fun H => rep_int⟩
  | .str x, u, h => ⟨.str x, h, fun H => rep_str⟩
  | .tup ds, u, h => by
    unfold KRep at h
    obtain ⟨a, o, its, m, rfl, h1, h2, h3, h4, h5⟩ := h
    obtain ⟨vs, r1, r2⟩ := krepL ds _ h5
    exact ⟨.ref a, rfl, fun H => by rw [Rep]; exact ⟨a, vs, rfl, .inr ⟨o, its, m, h1, h2, h3, h4, r1⟩, r2 H⟩⟩
  | .lst _, _, h => by unfold KRep at h; exact h.elim
  | .scr _, _, h => by unfold KRep at h; exact h.elim
  | .dk _ _, _, h => by unfold KRep at h; exact h.elim
  | .dt _ _, _, h => by unfold KRep at h; exact h.elim
  | .fn _, _, h => by unfold KRep at h; exact h.elim
  | .exn _ _, _, h => by unfold KRep at h; exact h.elim
theorem krepL {C : G0} : ∀ (ds : List D) (us : List Value), KRep.KRepL C.K ds us → ∃ vs, Vals vs us ∧ ∀ H, RepL C H ds vs
  | [], us, h => by unfold KRep.KRepL at h; subst h; exact ⟨[], .nil, fun H => .nil⟩
  | d :: ds, us, h => by
    unfold KRep.KRepL at h
    obtain ⟨u, r, rfl, h1, h2⟩ := h
    obtain ⟨v, k1, k2⟩ := krep d u h1
    obtain ⟨vs, k3, k4⟩ := krepL ds r h2
    exact ⟨v :: vs, .cons k1 k3, fun H => .cons (k2 H) (k4 H)⟩
end
theorem kdi_mk {K : PySem.W.Frag} {a : Addr} {n : Nat} {es : List (Int × Tok × Value)} {k : Int} {u : Value} {v : V} (l : K.lookup a = some ⟨.type "dict", none, .dict (es.map fun e => ⟨hashInt e.1, .int e.1 e.2.1, e.2.2⟩).toArray n, #[]⟩) (h : (es.find? fun e => decide (e.1 = k)).map (·.2.2) = some u) (r : RelV v u) : KDI K a k v := by
  refine ⟨_, n, u, l, fun e he => ?_, ?_, r⟩
  · simp only [List.mem_map] at he
    obtain ⟨x, _, rfl⟩ := he
    exact ⟨_, _, rfl, rfl⟩
  · have : ∀ es : List (Int × Tok × Value), (es.find? fun e => decide (e.1 = k)).map (·.2.2) = some u → ((es.map fun e => (⟨hashInt e.1, .int e.1 e.2.1, e.2.2⟩ : DictEntry)).find? fun d => Value.isInt k d.key).map (·.val) = some u := by
      intro es
      induction es with
      | nil => intro h; simp at h
      | cons e es ih =>
        intro h
        rw [List.map_cons, List.find?_cons]
        rw [List.find?_cons] at h
        have q : Value.isInt k (.int e.1 e.2.1) = decide (e.1 = k) := by
          by_cases z : e.1 = k
          · subst z; simp [Value.isInt]
          · simp [Value.isInt, z]
        simp only [q]
        by_cases z : e.1 = k
        · simp [z] at h ⊢; exact h
        · simp [z] at h ⊢; simpa using ih (by simpa using h)
    unfold findBy
    rw [List.find?_toArray]
    exact this es h
theorem dlk_3 {a b c : Key} {x y z : D} {k : Key} {d : D} (h : dlook [a, b, c] [x, y, z] k = some d) : (k = a ∧ d = x) ∨ (k = b ∧ d = y) ∨ (k = c ∧ d = z) := by
  simp only [dlook] at h
  split at h
  · rename_i q; cases h; exact .inl ⟨q.symm, rfl⟩
  · split at h
    · rename_i q; cases h; exact .inr (.inl ⟨q.symm, rfl⟩)
    · split at h
      · rename_i q; cases h; exact .inr (.inr ⟨q.symm, rfl⟩)
      · cases h
theorem exk_mk {K : PySem.W.Frag} {p : Addr} {B newId initId : String} {bm : List Value} (f : ExcBaseFacts B newId initId bm) (x : PySem.W.excIn K p bm newId = true) (kp : PySem.W.keepIn K (.ref p) = true) (sb : PySem.W.subIn K (.ref p) (.type "BaseException") = some true) (ty : PySem.W.typeIn K (.ref p) = some (.type "type"))
    (e1 : PySem.W.findIn K (.ref p) "__getattribute__" = some (some (.builtin "BaseException.__getattribute__"))) (e2 : PySem.W.findIn K (.ref p) "__getattr__" = some none) (e3 : PySem.W.hasDictIn K p = true) (e4 : PySem.W.findIn K (.ref p) "__class__" = some (some (.builtin "object.__class__")))
    (e5 : PySem.W.specialIn K (.builtin "object.__class__") "__get__" = some (some (.builtin "getset_descriptor.__get__"))) (e6 : PySem.W.takesIn K (.builtin "object.__class__") = some true) (e7 : PySem.W.mroIn K p (.type "object") = some true) : ExK K p :=
  ⟨⟨B, newId, initId, bm, f, x⟩, sb, ty, ⟨e1, e2, sb, e3, e4, e5, e6, e7⟩, kp⟩
theorem kit_sub {K : PySem.W.Frag} {p : Addr} {s : String} {b : Bool} (h : PySem.W.subIn K (.ref p) (.type s) = some b) (m : PySem.W.kitMeta s = true) : PySem.W.kitOne K (.ref p) (.type s) = some b := by
  show (if (Value.ref p == Value.type s) = true then some true else PySem.W.kitCls K (.ref p) (.type s)) = _
  rw [if_neg (by intro e; exact absurd (beq_iff_eq.mp e) (by simp))]
  show (if PySem.W.kitMeta s = true then PySem.W.subIn K (.ref p) (.type s) else none) = _
  rw [if_pos m]; exact h
theorem bi_mk {K : PySem.W.Frag} {h : Heap} {mg : Str → Option Value} (X : K.In h) (G : h.Ns mainGlobals mg) (z : AllIx (fun _ s => PySem.W.nsIn K mainGlobals (Str.ofString s) = some none) 0 bnames) : ∀ s ∈ bnames, mg (Str.ofString s) = none := fun s hs => by
  obtain ⟨i, hi⟩ := List.getElem?_of_mem hs
  exact PySem.W.mg_none_of X G (z.all i s hi)
/-! ## the law's def -/
def spLaw (K : PySem.W.Frag) : Sp := fun vs H Q _ => ∃ (a : Addr) (ns : List Int), vs = [.ref a] ∧ ns.length ≤ 63 ∧ SqL K H a (ns.map V.int) ∧ ∀ H', Q (.bl true) H'
theorem law_sp {T : GT} {C : G0} {n g : Nat} (ok : ∀ ns : List Int, ns.length ≤ 63 → ∃ as', callF T n g [.val (.scr ns)] = .ok (.v (.bl true)) as') {vs : List V} {H : Hp} {Q : VK} {E : XK} (h : spLaw C.K vs H Q E) : SpI T C n g 1 vs H Q E := by
  obtain ⟨a, ns, rfl, hl, hs, q⟩ := h
  obtain ⟨as', e⟩ := ok ns hl
  refine ⟨[.val (.scr ns)], H, rfl, fun s hs => ?_, ⟨Sub.refl H, fun i s h => ?_, fun i j s t a h1 h2 m1 _ _ _ => ?_, rfl⟩, ?_⟩
  · simp at hs; exact .inl ⟨_, hs⟩
  · cases i with
    | zero => simp at h; subst h; exact ⟨.ref a, rfl, by rw [Rep]; exact ⟨a, rfl, hs⟩⟩
    | succ i => simp at h
  · cases i with
    | zero => simp at h1; subst h1; cases m1
    | succ i => simp at h1
  · rw [e]
    intro v F' H' _ r
    have r : Rep C F' (.bl true) v := r
    rw [Rep] at r
    subst r
    exact q H'
theorem cx_no {P : Program} {w : World} {H : Hp} {s : Shared} {e : Value} {s' : Shared} (h : CX P w [] H s (fun _ _ _ => False) e s') : False := by
  obtain ⟨a, B, H', cls, d, _, _, _, _, _, _, _, h⟩ := h
  exact h
end PL
end

section
namespace PL
open PySem PySem.Spec L2

/-! ## the interpreter's rows, for simp -/
section
variable (T : GT) (cf : Nat → List SV → CO) (m : Bool) (e : EV)
@[simp] theorem x_var (i : Nat) : evE T cf m (.var i) e = tst m (match e[i]? with
    | some (.val d) => .ok (.v d) e
    | some (.fro d) => .ok (.v d) e
    | some (.own _) => .ok (.h i) e
    | some (.bor _) => .ok (.h i) e
    | _ => .stuck) := by first | (rw [evE]; done) | (rw [evE]; rfl)
@[simp] theorem x_int (k : Int) : evE T cf m (.int k) e = tst m (.ok (.v (.int k)) e) := by first | (rw [evE]; done) | (rw [evE]; rfl)
@[simp] theorem x_bl (k : Bool) : evE T cf m (.bl k) e = tst m (.ok (.v (.bl k)) e) := by first | (rw [evE]; done) | (rw [evE]; rfl)
@[simp] theorem x_non : evE T cf m .non e = tst m (.ok (.v .non) e) := by first | (rw [evE]; done) | (rw [evE]; rfl)
@[simp] theorem x_str (k : Str) : evE T cf m (.str k) e = tst m (.ok (.v (.str k)) e) := by first | (rw [evE]; done) | (rw [evE]; rfl)
@[simp] theorem x_con (k : Nat) : evE T cf m (.con k) e = tst m (opt T.cons[k]? fun d => .ok (.v d) e) := by first | (rw [evE]; done) | (rw [evE]; rfl)
@[simp] theorem x_fnv (g : Nat) : evE T cf m (.fnv g) e = tst m (if g < T.fns.length then .ok (.v (.fn g)) e else .stuck) := by first | (rw [evE]; done) | (rw [evE]; rfl)
@[simp] theorem x_bin (o : Bop) (a b : E) : evE T cf m (.bin o a b) e = tst m ((evE T cf false a e).bd fun ra e1 => (evE T cf false b e1).bd fun rb e2 =>
      opt (cont e2 ra) fun x => opt (cont e2 rb) fun y => opt (binop o x y) fun r => .ok r e2) := by first | (rw [evE]; done) | (rw [evE]; rfl)
@[simp] theorem x_dd1 (k v : E) : evE T cf m (.dd1 k v) e = tst m ((evE T cf false k e).bd fun rk e1 => (evE T cf false v e1).bd fun rv e2 => opt ((cont e2 rk).bind keyOf) fun x => opt (frz e2 rv) fun (d, e3) => .ok (.t (.dk [x] [d])) e3) := by first | (rw [evE]; done) | (rw [evE]; rfl)
@[simp] theorem x_lrg (t : Bool) (a : E) : evE T cf m (.lrg t a) e = tst m ((evE T cf false a e).bd fun r e1 => opt ((cont e1 r).bind intD) fun n =>
      if decide (-(2 ^ 62) ≤ n) && decide (n ≤ 16777216) then .ok (if t then .v (.tup (rgI n)) else .t (.lst (rgI n))) e1 else .stuck) := by first | (rw [evE]; done) | (rw [evE]; rfl)
@[simp] theorem x_lset (a : E) : evE T cf m (.lset a) e = tst m ((evE T cf false a e).bd fun r e1 => opt ((cont e1 r).bind rowsD) fun l => opt (lsetN l) fun k => .ok (.v (.int k)) e1) := by first | (rw [evE]; done) | (rw [evE]; rfl)
@[simp] theorem x_sset (a : E) : evE T cf m (.sset a) e = tst m ((evE T cf false a e).bd fun r e1 => opt ((cont e1 r).bind rowsD) fun l => opt (ssort l) fun k => .ok (.t (.lst (k.map rowD))) e1) := by first | (rw [evE]; done) | (rw [evE]; rfl)
theorem x_comp2 (own : List Nat) (it : It) (tg : Tg) (cond : Option E) (own1 : List Nat) (it1 : It) (tg1 : Tg) (cond1 : Option E) (elt : E) : evE T cf m (.comp2 own it tg cond own1 it1 tg1 cond1 elt) e = tst m ((evI T cf it e).bd fun ds e1 =>
      (comp2L (fun d e => opt (asg tg d e) fun e1 => (evC T cf cond e1).bd fun k e2 => if k then (evI T cf it1 e2).bd fun xs e3 => .ok (some xs) e3 else .ok none e2)
        (fun d e => opt (asg tg1 d e) fun e1 => (evC T cf cond1 e1).bd fun k e2 => if k then (evE T cf false elt e2).bd fun r e3 => opt (frz e3 r) fun (x, e4) => .ok (some x) e4 else .ok none e2) own own1 ds (wipeE e1 own) []).bd
        fun acc e2 => .ok (.t (.lst acc)) (unwipe e1 e2 own)) := by first | (rw [evE]; done) | (rw [evE]; rfl)
@[simp] theorem x_dix (k : Nat) (a : E) : evE T cf m (.dix k a) e = tst m (opt T.dcs[k]? fun p => (evE T cf false a e).bd fun r e1 => opt ((cont e1 r).bind keyOf) fun x => opt (dlook p.1 p.2 x) fun d => .ok (.v d) e1) := by first | (rw [evE]; done) | (rw [evE]; rfl)
@[simp] theorem x_neg (a : E) : evE T cf m (.neg a) e = tst m ((evE T cf false a e).bd fun ra e1 => opt ((cont e1 ra).bind intD) fun i => .ok (.v (.int (-i))) e1) := by first | (rw [evE]; done) | (rw [evE]; rfl)
@[simp] theorem x_cmp (o : CmpOp) (a b : E) : evE T cf m (.cmp o a b) e = tst m ((evE T cf false a e).bd fun ra e1 => (evE T cf false b e1).bd fun rb e2 =>
      opt (cont e2 ra) fun x => opt (cont e2 rb) fun y => opt (cmpop o x y) fun r => .ok (.v (.bl r)) e2) := by first | (rw [evE]; done) | (rw [evE]; rfl)
@[simp] theorem x_chain (o p : CmpOp) (a b c : E) : evE T cf m (.chain o p a b c) e = tst m ((evE T cf false a e).bd fun ra e1 => (evE T cf false b e1).bd fun rb e2 =>
      opt (cont e2 ra) fun x => opt (cont e2 rb) fun y => opt (cmpop o x y) fun r =>
        if r then (evE T cf false c e2).bd fun rc e3 => opt (cont e3 rb) fun y => opt (cont e3 rc) fun z => opt (cmpop p y z) fun r => .ok (.v (.bl r)) e3
        else .ok (.v (.bl false)) e2) := by first | (rw [evE]; done) | (rw [evE]; rfl)
@[simp] theorem x_andor (k : Bool) (es : List E) : evE T cf m (.andor k es) e = evV T cf m k es e := by first | (rw [evE]; done) | (rw [evE]; rfl)
@[simp] theorem x_v1 (k : Bool) (a : E) : evV T cf m k [a] e = evE T cf m a e := by first | (rw [evV]; done) | (rw [evV]; rfl)
@[simp] theorem x_v2 (k : Bool) (a b : E) (r : List E) : evV T cf m k (a :: b :: r) e = (evE T cf m a e).bd fun x e1 => opt ((cont e1 x).bind truth) fun z => if z = k then evV T cf m k (b :: r) e1 else .ok x e1 := by first | (rw [evV]; done) | (rw [evV]; rfl)
@[simp] theorem x_not (a : E) : evE T cf m (.not_ a) e = (evE T cf m a e).bd fun r e1 => opt ((cont e1 r).bind truth) fun b => .ok (.v (.bl (!b))) e1 := by first | (rw [evE]; done) | (rw [evE]; rfl)
@[simp] theorem x_ite (c a b : E) : evE T cf false (.ite c a b) e = (toB (evE T cf true c e)).bd fun k e1 => if k then evE T cf false a e1 else evE T cf false b e1 := by rw [evE]; rfl
@[simp] theorem x_tup (es : List E) : evE T cf m (.tup es) e = tst m ((evA T cf es e).bd fun rs e1 => opt (frzs e1 rs) fun (ds, e2) => if ds.length ≤ sizeL then .ok (.v (.tup ds)) e2 else .stuck) := by first | (rw [evE]; done) | (rw [evE]; rfl)
@[simp] theorem x_lst (es : List E) : evE T cf m (.lst es) e = tst m ((evA T cf es e).bd fun rs e1 => opt (frzs e1 rs) fun (ds, e2) => if ds.length ≤ sizeL then .ok (.t (.lst ds)) e2 else .stuck) := by first | (rw [evE]; done) | (rw [evE]; rfl)
@[simp] theorem x_ix (a i : E) : evE T cf m (.ix a i) e = tst m ((evE T cf false a e).bd fun ra e1 => (evE T cf false i e1).bd fun ri e2 =>
      opt (cont e2 ra) fun x => opt (cont e2 ri) fun y => opt (item x y) fun d => .ok (.v d) e2) := by first | (rw [evE]; done) | (rw [evE]; rfl)
@[simp] theorem x_sl (a : E) (lo hi : Option E) : evE T cf m (.sl a lo hi) e = tst m ((evE T cf false a e).bd fun ra e1 => (evO T cf lo e1).bd fun l e2 => (evO T cf hi e2).bd fun h e3 =>
      opt (cont e3 ra) fun x => opt (sliceD x l h) fun r => .ok r e3) := by first | (rw [evE]; done) | (rw [evE]; rfl)
@[simp] theorem x_rev (a : E) : evE T cf m (.rev a) e = tst m ((evE T cf false a e).bd fun ra e1 => opt (cont e1 ra) fun x => opt (revD x) fun r => .ok r e1) := by first | (rw [evE]; done) | (rw [evE]; rfl)
@[simp] theorem x_call (g : Nat) (es : List E) : evE T cf m (.call g es) e = tst m ((evA T cf es e).bd fun rs e1 => doCall cf g rs e1) := by first | (rw [evE]; done) | (rw [evE]; rfl)
@[simp] theorem x_callt (g : Nat) (es : List E) : evE T cf m (.callt g es) e = tst m ((evA T cf es e).bd fun rs e1 => doCallT cf g rs e1) := by first | (rw [evE]; done) | (rw [evE]; rfl)
@[simp] theorem x_callk (g : Nat) (es ws : List E) (ks : List Str) : evE T cf m (.callk g es ks ws) e = tst m ((evA T cf es e).bd fun rs e1 => (evA T cf ws e1).bd fun qs e2 =>
      opt T.fns[g]? fun F => doCall cf g (kwSort F.ps ks rs qs) e2) := by first | (rw [evE]; done) | (rw [evE]; rfl)
@[simp] theorem x_calld (i : Nat) (es : List E) : evE T cf m (.calld i es) e = tst m (match e[i]? with
    | some (.val (.fn g)) => if g < T.fns.length then (evA T cf es e).bd fun rs e1 => doCall cf g rs e1 else .stuck
    | _ => .stuck) := by first | (rw [evE]; done) | (rw [evE]; rfl)
@[simp] theorem x_bi (b : Bi) (es : List E) : evE T cf m (.bi b es) e = tst m ((evA T cf es e).bd fun rs e1 => opt (conts e1 rs) fun ds => opt (biF b ds) fun r => .ok r e1) := by first | (rw [evE]; done) | (rw [evE]; rfl)
@[simp] theorem x_isi (a : E) (cs : List String) : evE T cf m (.isi a cs) e = tst m ((evE T cf false a e).bd fun ra e1 => opt ((cont e1 ra).bind tyNm) fun t => if cs.all tyOk.contains then .ok (.v (.bl (cs.any (isTy t)))) e1 else .stuck) := by first | (rw [evE]; done) | (rw [evE]; rfl)
@[simp] theorem x_dlit (ks : List Key) (vs : List D) (x : E) (d : Option E) : evE T cf m (.dlit ks vs x d) e = tst m ((evE T cf false x e).bd fun rx e1 => (evM T cf d e1).bd fun rd e2 =>
      opt ((cont e2 rx).bind keyOf) fun k => match dlook ks vs k with
        | some y => .ok (.v y) e2
        | none => opt (frz e2 rd) fun (y, e3) => .ok (.v y) e3) := by first | (rw [evE]; done) | (rw [evE]; rfl)
@[simp] theorem x_comp (own : List Nat) (it : It) (tg : Tg) (cond : Option E) (elt : E) : evE T cf m (.comp own it tg cond elt) e = tst m ((evI T cf it e).bd fun ds e1 =>
      (compL (fun d e => opt (asg tg d e) fun e1 => (evC T cf cond e1).bd fun k e2 => if k then (evE T cf false elt e2).bd fun r e3 => opt (frz e3 r) fun (x, e4) => .ok (some x) e4 else .ok none e2) own ds (wipeE e1 own) []).bd
        fun acc e2 => .ok (.t (.lst acc)) (unwipe e1 e2 own)) := by first | (rw [evE]; done) | (rw [evE]; rfl)
@[simp] theorem x_a0 : evA T cf [] e = .ok [] e := by first | (rw [evA]; done) | (rw [evA]; rfl)
@[simp] theorem x_a1 (a : E) (r : List E) : evA T cf (a :: r) e = (evE T cf false a e).bd fun x e1 => (evA T cf r e1).bd fun xs e2 => .ok (x :: xs) e2 := by first | (rw [evA]; done) | (rw [evA]; rfl)
@[simp] theorem x_c0 : evC T cf none e = .ok true e := by first | (rw [evC]; done) | (rw [evC]; rfl)
@[simp] theorem x_c1 (a : E) : evC T cf (some a) e = toB (evE T cf true a e) := by first | (rw [evC]; done) | (rw [evC]; rfl)
@[simp] theorem x_o0 : evO T cf none e = .ok none e := by first | (rw [evO]; done) | (rw [evO]; rfl)
@[simp] theorem x_o1 (a : E) : evO T cf (some a) e = (evE T cf false a e).bd fun r e1 => opt ((cont e1 r).bind intD) fun i => .ok (some i) e1 := by first | (rw [evO]; done) | (rw [evO]; rfl)
@[simp] theorem x_m0 : evM T cf none e = .ok (.v .non) e := by first | (rw [evM]; done) | (rw [evM]; rfl)
@[simp] theorem x_m1 (a : E) : evM T cf (some a) e = evE T cf false a e := by first | (rw [evM]; done) | (rw [evM]; rfl)
@[simp] theorem x_ie (a : E) : evI T cf (.e a) e = (evE T cf false a e).bd fun r e1 => opt (frz e1 r) fun (d, e2) => opt (seqD d) fun xs => .ok xs e2 := by first | (rw [evI]; done) | (rw [evI]; rfl)
@[simp] theorem x_ir (es : List E) : evI T cf (.rng es) e = (evA T cf es e).bd fun rs e1 => opt (conts e1 rs) fun ds => opt (rngD ds) fun xs => .ok xs e1 := by first | (rw [evI]; done) | (rw [evI]; rfl)
@[simp] theorem x_in (a : E) : evI T cf (.enum a) e = (evE T cf false a e).bd fun r e1 => opt (frz e1 r) fun (d, e2) => opt (seqL d) fun xs => .ok (enumD xs) e2 := by first | (rw [evI]; done) | (rw [evI]; rfl)
@[simp] theorem x_iz (es : List E) : evI T cf (.zip es) e = (evA T cf es e).bd fun rs e1 => opt (frzs e1 rs) fun (ds, e2) => match ds with
    | [.tup xs, .tup ys] => .ok (zipD xs ys) e2
    | [x, y] => opt (seqL x) fun xs => opt (seqL y) fun ys => .ok (zipD xs ys) e2
    | _ => .stuck := by first | (rw [evI]; done) | (rw [evI]; rfl)
@[simp] theorem x_b0 : exB T cf [] e = .ok .next e := by first | (rw [exB]; done) | (rw [exB]; rfl)
@[simp] theorem x_b1 (s : S) (ss : List S) : exB T cf (s :: ss) e = (exS T cf s e).bd fun fl e1 => match fl with
    | .next => exB T cf ss e1
    | fl => .ok fl e1 := by first | (rw [exB]; done) | (rw [exB]; rfl)
@[simp] theorem x_ex (a : E) : exS T cf (.ex a) e = (evE T cf false a e).bd fun _ e1 => .ok .next e1 := by first | (rw [exS]; done) | (rw [exS]; rfl)
@[simp] theorem x_set (i : Nat) (a : E) : exS T cf (.set i a) e = (evE T cf false a e).bd fun r e1 => opt (fzR e1 r) fun (r', e2) => opt (setR i r' e2) fun e3 => .ok .next e3 := by first | (rw [exS]; done) | (rw [exS]; rfl)
@[simp] theorem x_par (is : List Nat) (es : List E) : exS T cf (.par is es) e = (evA T cf es e).bd fun rs e1 => opt (fzRs e1 rs) fun (rs', e2) => opt (setRs is rs' e2) fun e3 => .ok .next e3 := by first | (rw [exS]; done) | (rw [exS]; rfl)
@[simp] theorem x_unp (is : List Nat) (a : E) : exS T cf (.unp is a) e = (evE T cf false a e).bd fun r e1 => opt (cont e1 r) fun d => match d with
    | .tup ds => opt (setVals is ds e1) fun e2 => .ok .next e2
    | _ => .stuck := by first | (rw [exS]; done) | (rw [exS]; rfl)
@[simp] theorem x_six (i : Nat) (k a : E) : exS T cf (.six i k a) e = (evE T cf false a e).bd fun r e1 => opt (frz e1 r) fun (d, e2) => if lstAt e2 i || dkAt e2 i then (evE T cf false k e2).bd fun rk e3 => opt (cont e3 rk) fun kd =>
      opt (sixE e3 i kd d) fun e4 => .ok .next e4
    else .stuck := by first | (rw [exS]; done) | (rw [exS]; rfl)
@[simp] theorem x_if (c : E) (a b : List S) : exS T cf (.if_ c a b) e = (toB (evE T cf true c e)).bd fun k e1 => if k then exB T cf a e1 else exB T cf b e1 := by first | (rw [exS]; done) | (rw [exS]; rfl)
@[simp] theorem x_wh (c : E) (b : List S) : exS T cf (.wh c b) e = whL (fun e => toB (evE T cf true c e)) (fun e => exB T cf b e) T.wf e := by first | (rw [exS]; done) | (rw [exS]; rfl)
@[simp] theorem x_for (tg : Tg) (it : It) (b : List S) : exS T cf (.for_ tg it b) e = (evI T cf it e).bd fun ds e1 => forL (fun d e => opt (asg tg d e) fun e1 => exB T cf b e1) ds e1 := by first | (rw [exS]; done) | (rw [exS]; rfl)
@[simp] theorem x_ret (a : E) : exS T cf (.ret a) e = (evE T cf false a e).bd fun r e1 => opt (retR e1 r) fun (r2, e2) => .ok (.ret r2) e2 := by first | (rw [exS]; done) | (rw [exS]; rfl)
@[simp] theorem x_raise (c : Nat) : exS T cf (.raise_ c) e = .exc c [] e := by first | (rw [exS]; done) | (rw [exS]; rfl)
@[simp] theorem x_try (b : List S) (hs : List Hd) : exS T cf (.try_ b hs) e = (match exB T cf b e with
    | .exc c p e1 => if decide (c < T.nex) && p.isEmpty then exH hs c p e1 else .stuck
    | r => r) := by first | (rw [exS]; done) | (rw [exS]; rfl)
@[simp] theorem x_cont_v (d : D) : cont e (.v d) = some d := rfl
@[simp] theorem x_cont_t (d : D) : cont e (.t d) = some d := rfl
@[simp] theorem x_cont_h (i : Nat) : cont e (.h i) = (e[i]?).bind SV.dat := rfl
@[simp] theorem x_frz_v (d : D) : frz e (.v d) = some (d, e) := rfl
@[simp] theorem x_frz_t (d : D) : frz e (.t d) = some (d, e) := rfl
@[simp] theorem x_frz_h (i : Nat) : frz e (.h i) = (match e[i]? with
    | some (.own d) => some (d, e.set i (.val d))
    | some (.bor d) => some (d, e.set i (.fro d))
    | some (.val d) => some (d, e)
    | some (.fro d) => some (d, e)
    | _ => none) := rfl
@[simp] theorem x_frzs0 : frzs e [] = some ([], e) := rfl
@[simp] theorem x_frzs1 (r : RV) (rs : List RV) : frzs e (r :: rs) = (frz e r).bind fun (d, e1) => (frzs e1 rs).map fun (l, e2) => (d :: l, e2) := rfl
@[simp] theorem x_conts0 : conts e [] = some [] := rfl
@[simp] theorem x_conts1 (r : RV) (rs : List RV) : conts e (r :: rs) = (cont e r).bind fun d => (conts e rs).map fun l => d :: l := rfl
@[simp] theorem x_fz_v (d : D) : fzR e (.v d) = some (.v d, e) := rfl
@[simp] theorem x_fz_t (d : D) : fzR e (.t d) = some (.t d, e) := rfl
@[simp] theorem x_fz_h (i : Nat) : fzR e (.h i) = (frz e (.h i)).map fun (d, e') => (.v d, e') := rfl
@[simp] theorem x_fzs0 : fzRs e [] = some ([], e) := rfl
@[simp] theorem x_fzs1 (r : RV) (rs : List RV) : fzRs e (r :: rs) = (fzR e r).bind fun (r', e1) => (fzRs e1 rs).map fun (l, e2) => (r' :: l, e2) := rfl
@[simp] theorem x_setR_v (i : Nat) (d : D) : setR i (.v d) e = if setOk e i then some (e.set i (.val d)) else none := rfl
@[simp] theorem x_setR_t (i : Nat) (d : D) : setR i (.t d) e = if setOk e i then some (e.set i (.own d)) else none := rfl
@[simp] theorem x_setRs0 : setRs [] [] e = some e := rfl
@[simp] theorem x_setRs1 (i : Nat) (is : List Nat) (r : RV) (rs : List RV) : setRs (i :: is) (r :: rs) e = (setR i r e).bind (setRs is rs) := rfl
@[simp] theorem x_sv0 : setVals [] [] e = some e := rfl
@[simp] theorem x_sv1 (i : Nat) (is : List Nat) (d : D) (ds : List D) : setVals (i :: is) (d :: ds) e = if setOk e i then setVals is ds (e.set i (.val d)) else none := rfl
@[simp] theorem x_retR_v (d : D) : retR e (.v d) = some (.v d, e) := rfl
@[simp] theorem x_retR_t (d : D) : retR e (.t d) = some (.t d, e) := rfl
@[simp] theorem x_asg (i : Nat) (d : D) : asg (.nm i) d e = if setOk e i then some (e.set i (.val d)) else none := rfl
@[simp] theorem x_asgt (is : List Nat) (ds : List D) : asg (.tp is) (.tup ds) e = setVals is ds e := rfl
end
@[simp] theorem x_dat_v (d : D) : SV.dat (.val d) = some d := rfl
@[simp] theorem x_dat_o (d : D) : SV.dat (.own d) = some d := rfl
@[simp] theorem x_dat_b (d : D) : SV.dat (.bor d) = some d := rfl
@[simp] theorem x_dat_f (d : D) : SV.dat (.fro d) = some d := rfl
theorem x_callF (T : GT) (n g : Nat) (as : List SV) {F : FnD} (h : T.fns[g]? = some F) (hl : as.length = F.ps.length) : callF T (n + 1) g as = fin as (exB T (callF T n) F.body (as ++ List.replicate (F.N.length - as.length) .un)) := by
  simp only [callF, h, hl, if_pos]
end PL
end

section
namespace PL
open PySem PySem.Spec L2

@[simp] theorem truth_bl (b : Bool) : truth (.bl b) = some b := rfl
@[simp] theorem truth_int (i : Int) : truth (.int i) = some (i != 0) := rfl
@[simp] theorem truth_non : truth .non = some false := rfl
@[simp] theorem truth_tup (xs : List D) : truth (.tup xs) = some (!xs.isEmpty) := rfl
@[simp] theorem truth_lst (xs : List D) : truth (.lst xs) = some (!xs.isEmpty) := rfl
@[simp] theorem cmp_gt (i j : Int) : cmpop .Gt (.int i) (.int j) = some (decide (j < i)) := rfl
@[simp] theorem cmp_lt (i j : Int) : cmpop .Lt (.int i) (.int j) = some (decide (i < j)) := rfl
@[simp] theorem cmp_le (i j : Int) : cmpop .LtE (.int i) (.int j) = some (decide (i ≤ j)) := rfl
@[simp] theorem cmp_ge (i j : Int) : cmpop .GtE (.int i) (.int j) = some (decide (j ≤ i)) := rfl
@[simp] theorem cmp_eq (a b : D) : cmpop .Eq a b = eqD a b := rfl
@[simp] theorem cmp_ne (a b : D) : cmpop .NotEq a b = (eqD a b).map not := rfl
@[simp] theorem cmp_is (a : D) : cmpop .Is a .non = some (isNon a) := by cases a <;> rfl
@[simp] theorem eqD_int (i j : Int) : eqD (.int i) (.int j) = some (decide (i = j)) := by
  simp [eqD, toPy, SeqAt.shaped, PyData.canLay0, PyData.depth, PyData.eqv]; rfl
@[simp] theorem eqD_bl (i j : Bool) : eqD (.bl i) (.bl j) = some (i == j) := by
  simp [eqD, toPy, SeqAt.shaped, PyData.canLay0, PyData.depth, PyData.eqv]
/-- whether two lists of ints are the same, as the language sees it -/
theorem shaped_ints : ∀ xs : List Int, PyData.canLayAll0 (toPys (xs.map D.int)) = true ∧ PyData.depthAll (toPys (xs.map D.int)) = 0
  | [] => by simp [toPys, PyData.canLayAll0, PyData.depthAll]
  | x :: xs => by
    obtain ⟨h1, h2⟩ := shaped_ints xs
    simp [toPys, toPy, PyData.canLayAll0, PyData.depthAll, PyData.canLay0, PyData.depth, h1, h2]
theorem eqv_ints : ∀ xs ys : List Int, PyData.eqvAll (toPys (xs.map D.int)) (toPys (ys.map D.int)) = decide (xs = ys)
  | [], [] => by simp [toPys, PyData.eqvAll]
  | x :: xs, y :: ys => by
    simp only [List.map_cons, toPys, toPy, PyData.eqvAll, PyData.eqv, eqv_ints xs ys]
    by_cases h : x = y <;> simp [h]
  | [], _ :: _ => by simp [toPys, PyData.eqvAll]
  | _ :: _, [] => by simp [toPys, PyData.eqvAll]
theorem eqD_ints (xs ys : List Int) : eqD (.tup (xs.map D.int)) (.tup (ys.map D.int)) = some (decide (xs = ys)) := by
  unfold eqD SeqAt.shaped
  simp [toPy, PyData.canLay0, PyData.depth, shaped_ints xs, shaped_ints ys, PyData.eqv, eqv_ints]
@[simp] theorem setOk_un (e : EV) (i : Nat) (h : e[i]? = some .un) : setOk e i = true := by unfold setOk; rw [h]
theorem setOk_of {e : EV} {i : Nat} (h : e[i]? = some .un ∨ (∃ d, e[i]? = some (.val d)) ∨ ∃ d, e[i]? = some (.own d)) : setOk e i = true := by
  unfold setOk
  rcases h with h | ⟨d, h⟩ | ⟨d, h⟩ <;> rw [h]
/-- a comprehension whose turns leave the slots as they were -/
theorem compL_map {f : D → EV → Out (Option D)} {own : List Nat} {e0 : EV} (h : D → D) : ∀ (ds : List D) (acc : List D), (∀ d ∈ ds, ∃ e1, f d e0 = .ok (some (h d)) e1 ∧ wipeE e1 own = e0) → acc.length + ds.length ≤ sizeL → compL f own ds e0 acc = .ok (acc ++ ds.map h) e0
  | [], acc, _, _ => by simp [compL]
  | d :: ds, acc, k, hl => by
    obtain ⟨e1, h1, h2⟩ := k d (by simp)
    rw [compL, h1]
    simp only [List.length_cons] at hl
    dsimp only
    rw [if_pos (by omega), h2, compL_map h ds (acc ++ [h d]) (fun x hx => k x (by simp [hx])) (by simp; omega)]
    simp
/-- .. with a test -/
theorem compL_filter {f : D → EV → Out (Option D)} {own : List Nat} {e0 : EV} (h : D → D) (p : D → Bool) : ∀ (ds : List D) (acc : List D), (∀ d ∈ ds, ∃ e1, f d e0 = .ok (if p d then some (h d) else none) e1 ∧ wipeE e1 own = e0) → acc.length + ds.length ≤ sizeL → compL f own ds e0 acc = .ok (acc ++ (ds.filter p).map h) e0
  | [], acc, _, _ => by simp [compL]
  | d :: ds, acc, k, hl => by
    obtain ⟨e1, h1, h2⟩ := k d (by simp)
    simp only [List.length_cons] at hl
    rw [compL, h1]
    by_cases hp : p d = true
    · rw [if_pos hp]
      dsimp only
      rw [if_pos (by omega), h2, compL_filter h p ds (acc ++ [h d]) (fun x hx => k x (by simp [hx])) (by simp; omega)]
      simp [hp]
    · rw [if_neg hp]
      dsimp only
      rw [h2, compL_filter h p ds acc (fun x hx => k x (by simp [hx])) (by omega)]
      simp [hp]
/-- bounds, for products -/
def Bd (b : Nat) (i : Int) : Prop := i.natAbs < 2 ^ b
theorem Bd.mono {a b : Nat} {i : Int} (h : Bd a i) (k : a ≤ b) : Bd b i := Nat.lt_of_lt_of_le h (Nat.pow_le_pow_right (by decide) k)
theorem Bd.neg {a : Nat} {i : Int} (h : Bd a i) : Bd a (-i) := by unfold Bd at *; rw [Int.natAbs_neg]; exact h
theorem Bd.add {a b : Nat} {i j : Int} (h : Bd a i) (k : Bd b j) : Bd (max a b + 1) (i + j) := by
  have h1 := h.mono (Nat.le_max_left a b)
  have h2 := k.mono (Nat.le_max_right a b)
  unfold Bd at *
  have := Int.natAbs_add_le i j
  rw [Nat.pow_succ]
  omega
theorem Bd.sub {a b : Nat} {i j : Int} (h : Bd a i) (k : Bd b j) : Bd (max a b + 1) (i - j) := by
  rw [Int.sub_eq_add_neg]; exact h.add k.neg
theorem Bd.mul {a b : Nat} {i j : Int} (h : Bd a i) (k : Bd b j) : Bd (a + b) (i * j) := by
  unfold Bd at *
  rw [Int.natAbs_mul, Nat.pow_add]
  exact Nat.mul_lt_mul'' h k
theorem Bd.mulOk {a b : Nat} {i j : Int} (h : Bd a i) (k : Bd b j) (l : a + b ≤ 900000) : mulOk i j = true := by
  unfold PL.mulOk
  rw [Bool.or_eq_true]
  refine .inr (decide_eq_true ?_)
  have lg : ∀ {a : Nat} {i : Int}, Bd a i → i.natAbs.log2 ≤ a := fun {a i} h => by
    by_cases z : i.natAbs = 0
    · rw [z]; simp
    · exact Nat.le_of_lt_succ (Nat.lt_succ_of_lt ((Nat.log2_lt z).mpr h))
  have := lg h
  have := lg k
  omega

/-! ### rows for written lists -/
@[simp] theorem item_tup (xs : List D) (i : Int) : item (.tup xs) (.int i) = atI xs i := rfl
@[simp] theorem item_lst (xs : List D) (i : Int) : item (.lst xs) (.int i) = atI xs i := rfl
@[simp] theorem item_scr (xs : List Int) (i : Int) : item (.scr xs) (.int i) = (atI xs i).map D.int := rfl
theorem atI_nat {α : Type} (xs : List α) (k : Nat) : atI xs (k : Int) = xs[k]? := by
  unfold atI ixN
  by_cases h : k < xs.length
  · have : (k : Int) < xs.length := by omega
    simp [this]
  · have : ¬ (k : Int) < xs.length := by omega
    simp [this]
    omega
@[simp] theorem atI_0 {α : Type} (xs : List α) : atI xs 0 = xs[0]? := atI_nat xs 0
@[simp] theorem atI_1 {α : Type} (xs : List α) : atI xs 1 = xs[1]? := atI_nat xs 1
@[simp] theorem atI_2 {α : Type} (xs : List α) : atI xs 2 = xs[2]? := atI_nat xs 2
@[simp] theorem atI_3 {α : Type} (xs : List α) : atI xs 3 = xs[3]? := atI_nat xs 3
@[simp] theorem atI_4 {α : Type} (xs : List α) : atI xs 4 = xs[4]? := atI_nat xs 4
@[simp] theorem atI_5 {α : Type} (xs : List α) : atI xs 5 = xs[5]? := atI_nat xs 5
@[simp] theorem atI_6 {α : Type} (xs : List α) : atI xs 6 = xs[6]? := atI_nat xs 6
@[simp] theorem atI_7 {α : Type} (xs : List α) : atI xs 7 = xs[7]? := atI_nat xs 7
@[simp] theorem atI_8 {α : Type} (xs : List α) : atI xs 8 = xs[8]? := atI_nat xs 8
@[simp] theorem atI_9 {α : Type} (xs : List α) : atI xs 9 = xs[9]? := atI_nat xs 9
@[simp] theorem atI_10 {α : Type} (xs : List α) : atI xs 10 = xs[10]? := atI_nat xs 10
@[simp] theorem atI_11 {α : Type} (xs : List α) : atI xs 11 = xs[11]? := atI_nat xs 11
@[simp] theorem setOk_def (e : EV) (i : Nat) : setOk e i = (match e[i]? with
  | some .un => true
  | some (.val _) => true
  | some (.own _) => true
  | _ => false) := rfl
@[simp] theorem seqD_tup (xs : List D) : seqD (.tup xs) = some xs := rfl
@[simp] theorem seqD_lst (xs : List D) : seqD (.lst xs) = some xs := rfl
@[simp] theorem seqD_scr (xs : List Int) : seqD (.scr xs) = some (xs.map D.int) := rfl
@[simp] theorem seqL_lst (xs : List D) : seqL (.lst xs) = some xs := rfl
@[simp] theorem seqL_scr (xs : List Int) : seqL (.scr xs) = some (xs.map D.int) := rfl
@[simp] theorem bin_add (i j : Int) : binop .add (.int i) (.int j) = some (.v (.int (i + j))) := rfl
@[simp] theorem bin_sub (i j : Int) : binop .sub (.int i) (.int j) = some (.v (.int (i - j))) := rfl
@[simp] theorem bin_mul (i j : Int) : binop .mul (.int i) (.int j) = if mulOk i j then some (.v (.int (i * j))) else none := rfl
@[simp] theorem bin_fdiv (i j : Int) : binop .fdiv (.int i) (.int j) = if divOk j then some (.v (.int (i / j))) else if decide (j ≠ 0) && decide (j.natAbs < 1073741824) then some (.v (.int (i.fdiv j))) else none := rfl
@[simp] theorem bin_pow (i j : Int) : binop .pow (.int i) (.int j) = if powOk i j then some (.v (.int (i ^ j.toNat))) else none := rfl
@[simp] theorem bin_mod (i j : Int) : binop .mod (.int i) (.int j) = if 0 < j then some (.v (.int (i % j))) else none := rfl
@[simp] theorem bin_cat (xs ys : List D) : binop .add (.lst xs) (.lst ys) = if xs.length + ys.length ≤ sizeL then some (.t (.lst (xs ++ ys))) else none := rfl
@[simp] theorem wipeE_nil (e : EV) : wipeE e [] = e := rfl
@[simp] theorem wipeE_cons (e : EV) (i : Nat) (is : List Nat) : wipeE e (i :: is) = (wipeE e is).set i .un := rfl
@[simp] theorem unwipe_nil (e e2 : EV) : unwipe e e2 [] = e2 := rfl
@[simp] theorem unwipe_cons (e e2 : EV) (i : Nat) (is : List Nat) : unwipe e e2 (i :: is) = (match e[i]? with
    | some s => (unwipe e e2 is).set i s
    | none => unwipe e e2 is) := rfl
@[simp] theorem compL_nil (f : D → EV → Out (Option D)) (own : List Nat) (e : EV) (acc : List D) : compL f own [] e acc = .ok acc e := rfl
@[simp] theorem compL_cons (f : D → EV → Out (Option D)) (own : List Nat) (d : D) (ds : List D) (e : EV) (acc : List D) : compL f own (d :: ds) e acc = (match f d e with
    | .ok (some x) e1 => if acc.length < sizeL then compL f own ds (wipeE e1 own) (acc ++ [x]) else .stuck
    | .ok none e1 => compL f own ds (wipeE e1 own) acc
    | _ => .stuck) := rfl
@[simp] theorem forL_nil (f : D → EV → Out Fl) (e : EV) : forL f [] e = .ok .next e := rfl
@[simp] theorem forL_cons (f : D → EV → Out Fl) (d : D) (ds : List D) (e : EV) : forL f (d :: ds) e = (f d e).bd fun fl e1 => match fl with
    | .next => forL f ds e1
    | .cnt => forL f ds e1
    | .brk => .ok .next e1
    | .ret r => .ok (.ret r) e1 := rfl
@[simp] theorem bi_len_t (xs : List D) : biF .len [.tup xs] = some (.v (.int xs.length)) := rfl
@[simp] theorem bi_len_l (xs : List D) : biF .len [.lst xs] = some (.v (.int xs.length)) := rfl
@[simp] theorem bi_len_s (xs : List Int) : biF .len [.scr xs] = some (.v (.int xs.length)) := rfl
@[simp] theorem bi_abs (i : Int) : biF .abs [.int i] = some (.v (.int (if i < 0 then -i else i))) := rfl
@[simp] theorem bi_tuple_t (xs : List D) : biF .tuple [.tup xs] = some (.v (.tup xs)) := rfl
@[simp] theorem bi_tuple_l (xs : List D) : biF .tuple [.lst xs] = some (.v (.tup xs)) := rfl
@[simp] theorem bi_list_t (xs : List D) : biF .list [.tup xs] = some (.t (.lst xs)) := rfl
@[simp] theorem bi_list_l (xs : List D) : biF .list [.lst xs] = some (.t (.lst xs)) := rfl
@[simp] theorem bi_list_s (xs : List Int) : biF .list [.scr xs] = some (.t (.lst (xs.map D.int))) := rfl
@[simp] theorem bi_int_i (i : Int) : biF .int1 [.int i] = some (.v (.int i)) := rfl
@[simp] theorem bi_int_b (b : Bool) : biF .int1 [.bl b] = some (.v (.int (if b then 1 else 0))) := rfl
@[simp] theorem bi_gcd (i j : Int) : biF .gcd [.int i, .int j] = some (.v (.int ((Nat.gcd i.natAbs j.natAbs : Nat) : Int))) := rfl
theorem blsD_map : ∀ bs : List Bool, blsD (bs.map D.bl) = some bs
  | [] => rfl
  | b :: bs => by simp [blsD, blsD_map bs]
@[simp] theorem bi_all (xs : List D) : biF .all [.lst xs] = (blsD xs).map fun l => .v (.bl (l.all id)) := rfl
@[simp] theorem bi_any (xs : List D) : biF .any [.lst xs] = (blsD xs).map fun l => .v (.bl (l.any id)) := rfl
@[simp] theorem bls_nil : blsD [] = some [] := rfl
@[simp] theorem bls_cons (b : Bool) (xs : List D) : blsD (.bl b :: xs) = (blsD xs).map fun l => b :: l := rfl
@[simp] theorem ty_int (i : Int) : tyNm (.int i) = some "int" := rfl
@[simp] theorem ty_bl (i : Bool) : tyNm (.bl i) = some "bool" := rfl
@[simp] theorem ty_str (i : Str) : tyNm (.str i) = some "str" := rfl
@[simp] theorem ty_non : tyNm .non = some "NoneType" := rfl
@[simp] theorem ty_tup (xs : List D) : tyNm (.tup xs) = some "tuple" := rfl
@[simp] theorem ty_lst (xs : List D) : tyNm (.lst xs) = some "list" := rfl
@[simp] theorem ty_scr (xs : List Int) : tyNm (.scr xs) = some "list" := rfl
@[simp] theorem sz (n : Nat) (h : n ≤ 1000) : (n ≤ sizeL) = True := by simp [sizeL]; omega
@[simp] theorem sz' (n : Nat) (h : n ≤ 1000) : (n < sizeL) = True := by simp [sizeL]; omega
@[simp] theorem outs_nil (e : EV) : outs [] e = [] := by cases e <;> rfl
@[simp] theorem outs_v (d : D) (as : List SV) (x : SV) (e : EV) : outs (.val d :: as) (x :: e) = .val d :: outs as e := rfl
@[simp] theorem outs_b (d : D) (as : List SV) (x : SV) (e : EV) : outs (.bor d :: as) (x :: e) = x :: outs as e := rfl
@[simp] theorem fin_next (as : List SV) (e : EV) : fin as (.ok .next e) = .ok (.v .non) (outs as e) := rfl
@[simp] theorem fin_v (as : List SV) (d : D) (e : EV) : fin as (.ok (.ret (.v d)) e) = .ok (.v d) (outs as e) := rfl
@[simp] theorem fin_t (as : List SV) (d : D) (e : EV) : fin as (.ok (.ret (.t d)) e) = .ok (.t d) (outs as e) := rfl
@[simp] theorem fin_x (as : List SV) (c : Nat) (p : List D) (e : EV) : fin as (.exc c p e) = .exc c p (outs as e) := rfl
@[simp] theorem argOf_v (e : EV) (d : D) : argOf e (.v d) = some (.val d) := rfl
@[simp] theorem argOf_t (e : EV) (d : D) : argOf e (.t d) = some (.val d) := rfl
@[simp] theorem argOf_h (e : EV) (i : Nat) : argOf e (.h i) = (match e[i]? with
    | some (.own d) => some (.bor d)
    | some (.bor d) => some (.bor d)
    | some (.val d) => some (.val d)
    | some (.fro d) => some (.val d)
    | _ => none) := rfl
@[simp] theorem argsOf_nil (e : EV) : argsOf e [] = some [] := rfl
@[simp] theorem argsOf_cons (e : EV) (r : RV) (rs : List RV) : argsOf e (r :: rs) = (argOf e r).bind fun a => (argsOf e rs).map fun l => a :: l := rfl
@[simp] theorem hands_nil : hands [] = [] := rfl
@[simp] theorem hands_v (d : D) (rs : List RV) : hands (.v d :: rs) = hands rs := rfl
@[simp] theorem hands_t (d : D) (rs : List RV) : hands (.t d :: rs) = hands rs := rfl
@[simp] theorem hands_h (i : Nat) (rs : List RV) : hands (.h i :: rs) = i :: hands rs := rfl
@[simp] theorem pb_nil (e : EV) (ss : List SV) : putBack e [] ss = e := by cases ss <;> rfl
@[simp] theorem pb_cons (e : EV) (r : RV) (rs : List RV) (s : SV) (ss : List SV) : putBack e (r :: rs) (s :: ss) = putBack (putBack1 e r s) rs ss := rfl
@[simp] theorem pb_v (e : EV) (d : D) (s : SV) : putBack1 e (.v d) s = e := by cases s <;> rfl
@[simp] theorem pb_t (e : EV) (d : D) (s : SV) : putBack1 e (.t d) s = e := by cases s <;> rfl
@[simp] theorem pb_hb (e : EV) (i : Nat) (d : D) : putBack1 e (.h i) (.bor d) = (match e[i]? with
    | some (.own _) => e.set i (.own d)
    | some (.bor _) => e.set i (.bor d)
    | _ => e) := rfl
@[simp] theorem pb_hf (e : EV) (i : Nat) (d : D) : putBack1 e (.h i) (.fro d) = (match e[i]? with
    | some (.own _) => e.set i (.val d)
    | some (.bor _) => e.set i (.fro d)
    | _ => e) := rfl
@[simp] theorem pb_hv (e : EV) (i : Nat) (d : D) : putBack1 e (.h i) (.val d) = e := rfl
@[simp] theorem x_do (cf : Nat → List SV → CO) (g : Nat) (rs : List RV) (e : EV) : doCall cf g rs e = (if (hands rs).Nodup then
    match argsOf e rs with
    | none => .stuck
    | some as => match cf g as with
      | .ok r as' => .ok r (putBack e rs as')
      | .exc c p as' => .exc c p (putBack e rs as')
      | .stuck => .stuck
  else .stuck) := rfl
theorem wh_step {T : GT} {cf : Nat → List SV → CO} {c : E} {b : List S} {e e1 e2 : EV} {n : Nat} (hc : toB (evE T cf true c e) = .ok true e1) (hb : exB T cf b e1 = .ok .next e2) :
    whL (fun e => toB (evE T cf true c e)) (fun e => exB T cf b e) (n + 1) e = whL (fun e => toB (evE T cf true c e)) (fun e => exB T cf b e) n e2 := by
  simp only [whL, hc, bd_ok, if_pos, hb]
theorem wh_end {T : GT} {cf : Nat → List SV → CO} {c : E} {b : List S} {e e1 : EV} {n : Nat} (hc : toB (evE T cf true c e) = .ok false e1) :
    whL (fun e => toB (evE T cf true c e)) (fun e => exB T cf b e) (n + 1) e = .ok .next e1 := by
  simp only [whL, hc, bd_ok, Bool.false_eq_true, if_false]
/-- a slot that may be stored into -/
def Fre (s : SV) : Prop := s = .un ∨ (∃ d, s = .val d) ∨ ∃ d, s = .own d
theorem Fre.un : Fre .un := .inl rfl
theorem Fre.val (d : D) : Fre (.val d) := .inr (.inl ⟨d, rfl⟩)
theorem Fre.own (d : D) : Fre (.own d) := .inr (.inr ⟨d, rfl⟩)
theorem Fre.ok {s : SV} (h : Fre s) : (match some s with
  | some .un => true
  | some (.val _) => true
  | some (.own _) => true
  | _ => false) = true := by
  rcases h with rfl | ⟨d, rfl⟩ | ⟨d, rfl⟩ <;> rfl
end PL
end

section
namespace PL
open PySem PySem.Spec L2
section
variable (T : GT) (cf : Nat → List SV → CO) (m : Bool) (e : EV)
@[simp] theorem x_app (i : Nat) (a : E) : evE T cf m (.app i a) e = tst m (if lstAt e i then (evE T cf false a e).bd fun ra e1 => opt (frz e1 ra) fun (d, e2) => match mineD e2 i with
    | some (.lst xs) => if xs.length < sizeL then .ok (.v .non) (upS e2 i (.lst (xs ++ [d]))) else .stuck
    | _ => .stuck
    else .stuck) := by first | (rw [evE]; done) | (rw [evE]; rfl)
@[simp] theorem x_ext (i : Nat) (a : E) : evE T cf m (.ext i a) e = tst m (if lstAt e i then (evE T cf false a e).bd fun ra e1 => opt (cont e1 ra) fun d => match mineD e1 i, d with
    | some (.lst xs), .lst ys => if xs.length + ys.length ≤ sizeL then .ok (.v .non) (upS e1 i (.lst (xs ++ ys))) else .stuck
    | _, _ => .stuck
    else .stuck) := by first | (rw [evE]; done) | (rw [evE]; rfl)
@[simp] theorem x_pop (i : Nat) : evE T cf m (.pop i) e = tst m (match mineD e i with
    | some (.lst xs) => opt (xs[xs.length - 1]?) fun d => .ok (.v d) (upS e i (.lst xs.dropLast))
    | _ => .stuck) := by first | (rw [evE]; done) | (rw [evE]; rfl)
end
@[simp] theorem cmp_isb (a b : Bool) : cmpop .Is (.bl a) (.bl b) = some (decide (a = b)) := rfl
@[simp] theorem cmp_isnb (a b : Bool) : cmpop .IsNot (.bl a) (.bl b) = some (!decide (a = b)) := rfl
@[simp] theorem mine_own (e : EV) (i : Nat) (d : D) (h : e[i]? = some (.own d)) : mineD e i = some d := by unfold mineD; rw [h]
@[simp] theorem lst_own (e : EV) (i : Nat) (xs : List D) (h : e[i]? = some (.own (.lst xs))) : lstAt e i = true := by unfold lstAt; rw [mine_own e i _ h]
@[simp] theorem up_own (e : EV) (i : Nat) (d c : D) (h : e[i]? = some (.own c)) : upS e i d = e.set i (.own d) := by unfold upS; rw [h]
end PL
end

section
/-! slots by what is known of them -/
namespace PL
open PySem PySem.Spec L2

theorem lt_of_get {e : EV} {i : Nat} {s : SV} (h : e[i]? = some s) : i < e.length := by
  rcases Nat.lt_or_ge i e.length with h1 | h1
  · exact h1
  · rw [List.getElem?_eq_none h1] at h; cases h
theorem set_same {e : EV} {i : Nat} {s : SV} (h : e[i]? = some s) : e.set i s = e := by
  apply List.ext_getElem?
  intro j
  rw [List.getElem?_set]
  by_cases hj : i = j
  · subst hj
    have := lt_of_get h
    rw [List.getElem?_eq_getElem this] at h
    simp [this]
    exact (Option.some.inj h).symm
  · simp [hj]
theorem get_set {e : EV} {i : Nat} (t : SV) (h : i < e.length) : (e.set i t)[i]? = some t := by simp [h]
theorem get_ne (e : EV) (i j : Nat) (t : SV) (h : i ≠ j) : (e.set i t)[j]? = e[j]? := by
  rw [List.getElem?_set]; simp [h]
theorem setOk_fre {e : EV} {i : Nat} {s : SV} (h : e[i]? = some s) (f : Fre s) : setOk e i = true := by
  rw [setOk_def, h]; exact f.ok
def Q (N : Nat) (kv : List (Nat × SV)) (e : EV) : Prop := e.length = N ∧ (∀ i, 1 ≤ i → i < N → ∃ s, e[i]? = some s ∧ Fre s) ∧ ∀ p ∈ kv, e[p.1]? = some p.2
section
variable {N : Nat} {kv : List (Nat × SV)} {e : EV}
theorem Q.len (h : Q N kv e) : e.length = N := h.1
theorem Q.get (h : Q N kv e) {i : Nat} {s : SV} (m : (i, s) ∈ kv) : e[i]? = some s := h.2.2 _ m
theorem Q.g0 {i : Nat} {s : SV} {kv : List (Nat × SV)} (h : Q N ((i, s) :: kv) e) : e[i]? = some s := h.2.2 (i, s) (List.mem_cons_self ..)
theorem Q.tl {p : Nat × SV} {kv : List (Nat × SV)} (h : Q N (p :: kv) e) : Q N kv e := ⟨h.1, h.2.1, fun q m => h.2.2 q (List.mem_cons_of_mem _ m)⟩
theorem Q.ok (h : Q N kv e) {i : Nat} (h1 : 1 ≤ i) (h2 : i < N) : setOk e i = true := by
  obtain ⟨s, a, b⟩ := h.2.1 i h1 h2
  exact setOk_fre a b
theorem Q.fre (h : Q N kv e) {i : Nat} (h1 : 1 ≤ i) (h2 : i < N) : ∃ s, e[i]? = some s ∧ Fre s := h.2.1 i h1 h2
theorem Q.set (h : Q N kv e) {i : Nat} {t : SV} (h1 : 1 ≤ i) (h2 : i < N) (f : Fre t) : Q N ((i, t) :: kv.filter fun p => p.1 != i) (e.set i t) := by
  refine ⟨by simp [h.1], fun j j1 j2 => ?_, fun p m => ?_⟩
  · by_cases hj : i = j
    · subst hj; exact ⟨t, get_set t (by rw [h.1]; exact h2), f⟩
    · rw [get_ne _ _ _ _ hj]; exact h.2.1 j j1 j2
  · rcases List.mem_cons.mp m with rfl | m
    · exact get_set t (by rw [h.1]; exact h2)
    · have := List.mem_filter.mp m
      rw [get_ne _ _ _ _ (by have := this.2; simp at this; exact fun q => this q.symm)]
      exact h.2.2 p this.1
theorem Q.sub (h : Q N kv e) {kv' : List (Nat × SV)} (s : ∀ p ∈ kv', p ∈ kv) : Q N kv' e := ⟨h.1, h.2.1, fun p m => h.2.2 p (s p m)⟩
theorem Q.add (h : Q N kv e) {i : Nat} {s : SV} (g : e[i]? = some s) : Q N ((i, s) :: kv) e := ⟨h.1, h.2.1, fun p m => by
  rcases List.mem_cons.mp m with rfl | m
  · exact g
  · exact h.2.2 p m⟩
end
section
variable {T : GT} {cf : Nat → List SV → CO} {e e1 : EV}
theorem st_v {i : Nat} {a : E} {d : D} (he : evE T cf false a e = .ok (.v d) e1) (ho : setOk e1 i = true) : exS T cf (.set i a) e = .ok .next (e1.set i (.val d)) := by
  rw [x_set, he]; simp [fzR, setR, ho, opt, -setOk_def]
theorem st_t {i : Nat} {a : E} {d : D} (he : evE T cf false a e = .ok (.t d) e1) (ho : setOk e1 i = true) : exS T cf (.set i a) e = .ok .next (e1.set i (.own d)) := by
  rw [x_set, he]; simp [fzR, setR, ho, opt, -setOk_def]
theorem st_if {c : E} {b : List S} (he : evE T cf true c e = .ok (.v (.bl false)) e1) : exS T cf (.if_ c b []) e = .ok .next e1 := by
  rw [x_if, he]; simp [toB]
theorem st_ifn {c : E} {b : List S} (he : evE T cf true c e = .ok (.v (.bl true)) e1) : exS T cf (.if_ (.not_ c) b []) e = .ok .next e1 := by
  rw [x_if, x_not, he]; simp [toB, truth, opt]
theorem st_or {es : List E} {b : List S} (he : evV T cf true false es e = .ok (.v (.bl false)) e1) : exS T cf (.if_ (.andor false es) b []) e = .ok .next e1 := st_if (by rw [x_andor]; exact he)
theorem or1 {a b : E} {r : List E} (he : evE T cf true a e = .ok (.v (.bl false)) e1) : evV T cf true false (a :: b :: r) e = evV T cf true false (b :: r) e1 := by
  rw [x_v2, he]; simp [truth, opt]
theorem andf {a b : E} {r : List E} (he : evE T cf true a e = .ok (.v (.bl false)) e1) : evV T cf true true (a :: b :: r) e = .ok (.v (.bl false)) e1 := by
  rw [x_v2, he]; simp [truth, opt]
theorem and1 {a b : E} {r : List E} (he : evE T cf true a e = .ok (.v (.bl true)) e1) : evV T cf true true (a :: b :: r) e = evV T cf true true (b :: r) e1 := by
  rw [x_v2, he]; simp [truth, opt]
theorem ntrue {a : E} {b : Bool} (he : evE T cf true a e = .ok (.v (.bl b)) e1) : evE T cf true (.not_ a) e = .ok (.v (.bl (!b))) e1 := by
  rw [x_not, he]; simp [truth, opt]
theorem tst_v {a : Out RV} {b : Bool} (he : a = .ok (.v (.bl b)) e1) : tst true a = .ok (.v (.bl b)) e1 := by
  subst he; simp [tst, truth, opt]
theorem pbn : ∀ (rs : List RV) (as : List SV) (e : EV), hands rs = [] → putBack e rs as = e
  | [], as, e, _ => by cases as <;> rfl
  | r :: rs, [], e, _ => rfl
  | .v d :: rs, s :: as, e, h => by rw [pb_cons, pb_v]; exact pbn rs as e h
  | .t d :: rs, s :: as, e, h => by rw [pb_cons, pb_t]; exact pbn rs as e h
  | .h i :: rs, s :: as, e, h => by simp at h
/-- a call whose arguments are no handles -/
theorem ev_call {m : Bool} {g : Nat} {es : List E} {rs : List RV} {as as' : List SV} {r : RV} (ha : evA T cf es e = .ok rs e1) (hh : hands rs = []) (hs : argsOf e1 rs = some as) (hc : cf g as = .ok r as') : evE T cf m (.call g es) e = tst m (.ok r e1) := by
  rw [x_call, ha]
  simp only [bd_ok, x_do, hh, List.nodup_nil, if_true, hs, hc]
  rw [pbn rs as' e1 hh]
/-- a comprehension with one name -/
theorem ev_comp {i : Nat} {it : It} {cond : Option E} {elt : E} {ds : List D} {s : SV} (p : D → Bool) (h : D → D) (hi : evI T cf it e = .ok ds e1) (hs : e1[i]? = some s) (hl : ds.length ≤ 1000)
    (hf : ∀ d ∈ ds, evC T cf cond (e1.set i (.val d)) = .ok (p d) (e1.set i (.val d)) ∧ (p d = true → evE T cf false elt (e1.set i (.val d)) = .ok (.v (h d)) (e1.set i (.val d)) ∨ evE T cf false elt (e1.set i (.val d)) = .ok (.t (h d)) (e1.set i (.val d)))) :
    evE T cf false (.comp [i] it (.nm i) cond elt) e = .ok (.t (.lst ((ds.filter p).map h))) e1 := by
  have hlt := lt_of_get hs
  have ho : setOk (e1.set i .un) i = true := setOk_fre (get_set .un hlt) Fre.un
  have hc := compL_filter (f := fun d e => opt (asg (.nm i) d e) fun e1 => (evC T cf cond e1).bd fun k e2 => if k then (evE T cf false elt e2).bd fun r e3 => opt (frz e3 r) fun (x, e4) => .ok (some x) e4 else .ok none e2) (own := [i]) (e0 := e1.set i .un) h p ds [] (by
    intro d hd
    obtain ⟨h1, h2⟩ := hf d hd
    refine ⟨e1.set i (.val d), ?_, by simp [wipeE]⟩
    have : (e1.set i .un).set i (.val d) = e1.set i (.val d) := List.set_set ..
    simp only [asg, ho, if_true, this, opt, h1, bd_ok]
    by_cases hp : p d = true
    · rw [if_pos hp, if_pos hp]
      rcases h2 hp with q | q <;> rw [q] <;> simp [frz]
    · rw [if_neg hp, if_neg hp]) (by simp [sizeL]; omega)
  rw [x_comp, hi]
  simp only [tst, Bool.false_eq_true, if_false, bd_ok, wipeE_cons, wipeE_nil]
  rw [hc]
  simp only [bd_ok, List.nil_append, unwipe_cons, unwipe_nil, hs, List.set_set]
  rw [set_same hs]
end
end PL
end

section
namespace PL.K00
open PL

/-! ## moves -/
abbrev M := Int × Int × Int × Int
def pos (m : M) : Bool := decide (0 < m.2.2.1) || (decide (m.2.2.1 = 0) && decide (0 < m.2.2.2))
def ngM (m : M) : M := (0 - m.1, 0 - m.2.1, 0 - m.2.2.1, 0 - m.2.2.2)
def sg (m : M) : M := if pos m then m else ngM m
def mulM (x y : M) : M := (x.1 * y.1 + x.2.1 * y.2.2.1, x.1 * y.2.1 + x.2.1 * y.2.2.2, x.2.2.1 * y.1 + x.2.2.2 * y.2.2.1, x.2.2.1 * y.2.1 + x.2.2.2 * y.2.2.2)
def adj (m : M) : M := (m.2.2.2, 0 - m.2.1, 0 - m.2.2.1, m.1)
def det (m : M) : Int := m.1 * m.2.2.2 - m.2.1 * m.2.2.1
def one1 : M := (1, 0, 0, 1)
def good (m : M) : Prop := det m = 1 ∧ (0 < m.2.2.1 ∨ (m.2.2.1 = 0 ∧ m.2.2.2 = 1))
theorem mulM_assoc (x y z : M) : mulM (mulM x y) z = mulM x (mulM y z) := by
  obtain ⟨a, b, c, d⟩ := x
  obtain ⟨e, f, g, h⟩ := y
  obtain ⟨i, j, k, l⟩ := z
  simp only [mulM, Prod.mk.injEq]
  grind
theorem det_mul (x y : M) : det (mulM x y) = det x * det y := by
  obtain ⟨a, b, c, d⟩ := x
  obtain ⟨e, f, g, h⟩ := y
  simp only [mulM, det]
  grind
theorem det_ng (x : M) : det (ngM x) = det x := by
  obtain ⟨a, b, c, d⟩ := x
  simp only [ngM, det]
  grind
theorem det_sg (x : M) : det (sg x) = det x := by
  unfold sg; split
  · rfl
  · exact det_ng x
theorem det_adj (x : M) : det (adj x) = det x := by
  obtain ⟨a, b, c, d⟩ := x
  simp only [adj, det]
  grind
theorem mul_ng_l (x y : M) : mulM (ngM x) y = ngM (mulM x y) := by
  obtain ⟨a, b, c, d⟩ := x
  obtain ⟨e, f, g, h⟩ := y
  simp only [mulM, ngM, Prod.mk.injEq]
  grind
theorem mul_ng_r (x y : M) : mulM x (ngM y) = ngM (mulM x y) := by
  obtain ⟨a, b, c, d⟩ := x
  obtain ⟨e, f, g, h⟩ := y
  simp only [mulM, ngM, Prod.mk.injEq]
  grind
theorem ng_ng (x : M) : ngM (ngM x) = x := by
  obtain ⟨a, b, c, d⟩ := x
  simp only [ngM, Prod.mk.injEq]
  omega
theorem pos_ng {x : M} (h : det x = 1) : pos (ngM x) = !pos x := by
  obtain ⟨a, b, c, d⟩ := x
  have h : a * d - b * c = 1 := h
  show (decide (0 < 0 - c) || (decide (0 - c = 0) && decide (0 < 0 - d))) = !(decide (0 < c) || (decide (c = 0) && decide (0 < d)))
  have hz : c ≠ 0 ∨ d ≠ 0 := by
    by_cases hc : c = 0
    · right; intro hd; subst hc hd; simp at h
    · exact .inl hc
  by_cases h1 : 0 < c
  · have e1 : ¬ (0 < 0 - c) := by omega
    have e2 : ¬ (0 - c = 0) := by omega
    rw [decide_eq_true h1, decide_eq_false e1, decide_eq_false e2]; rfl
  · by_cases h2 : c = 0
    · subst h2
      have hd : d ≠ 0 := by omega
      by_cases h3 : 0 < d
      · have e3 : ¬ (0 < 0 - d) := by omega
        rw [decide_eq_true h3, decide_eq_false e3]; rfl
      · have e3 : 0 < 0 - d := by omega
        rw [decide_eq_false h3, decide_eq_true e3]; rfl
    · have e1 : 0 < 0 - c := by omega
      rw [decide_eq_false h1, decide_eq_true e1, decide_eq_false h2]; rfl
theorem sg_ng {x : M} (h : det x = 1) : sg (ngM x) = sg x := by
  unfold sg
  rw [pos_ng h]
  cases pos x <;> simp [ng_ng]
theorem sg_or (x : M) : sg x = x ∨ sg x = ngM x := by
  unfold sg; split <;> simp
theorem sg_mul_l {x y : M} (hx : det x = 1) (hy : det y = 1) : sg (mulM (sg x) y) = sg (mulM x y) := by
  rcases sg_or x with h | h <;> rw [h]
  rw [mul_ng_l, sg_ng (by rw [det_mul, hx, hy]; rfl)]
theorem sg_mul_r {x y : M} (hx : det x = 1) (hy : det y = 1) : sg (mulM x (sg y)) = sg (mulM x y) := by
  rcases sg_or y with h | h <;> rw [h]
  rw [mul_ng_r, sg_ng (by rw [det_mul, hx, hy]; rfl)]
theorem sg_sg {x : M} (h : det x = 1) : sg (sg x) = sg x := by
  rcases sg_or x with k | k <;> rw [k]
  · exact k
  · rw [sg_ng h]; exact k
theorem unit_of {a d : Int} (h : a * d = 1) (hd : 0 < d) : d = 1 ∧ a = 1 := by
  have e := Int.eq_one_of_mul_eq_one_left (by omega) h
  subst e
  simpa using h
theorem good_sg {x : M} (h : det x = 1) : good (sg x) := by
  refine ⟨by rw [det_sg, h], ?_⟩
  obtain ⟨a, b, c, d⟩ := x
  unfold sg
  simp only [det] at h
  by_cases h1 : 0 < c
  · simp [pos, h1]
  · by_cases h2 : c = 0
    · subst h2
      simp only [Int.mul_zero, Int.sub_zero] at h
      by_cases h3 : 0 < d
      · obtain ⟨e, _⟩ := unit_of h h3
        simp [pos, e]
      · have hd : 0 < -d := by
          have : d ≠ 0 := by intro e; subst e; simp at h
          omega
        have h' : (-a) * (-d) = 1 := by rw [Int.neg_mul_neg]; exact h
        obtain ⟨e, _⟩ := unit_of h' hd
        simp [pos, h3, ngM]
        omega
    · have : ¬ 0 < c := h1
      simp [pos, h1, h2, ngM]
      omega
theorem sg_good {x : M} (h : good x) : sg x = x := by
  obtain ⟨a, b, c, d⟩ := x
  obtain ⟨_, h⟩ := h
  have : pos (a, b, c, d) = true := by
    simp only [pos]
    rcases h with h | ⟨h1, h2⟩
    · have h : 0 < c := h; simp [h]
    · have h1 : c = 0 := h1; have h2 : d = 1 := h2; subst h1 h2; rfl
  unfold sg; rw [if_pos this]
def P (x y : M) : M := sg (mulM x y)
theorem det_P {x y : M} (hx : det x = 1) (hy : det y = 1) : det (P x y) = 1 := by unfold P; rw [det_sg, det_mul, hx, hy]; rfl
theorem good_P {x y : M} (hx : det x = 1) (hy : det y = 1) : good (P x y) := good_sg (by rw [det_mul, hx, hy]; rfl)
theorem P_assoc {x y z : M} (hx : det x = 1) (hy : det y = 1) (hz : det z = 1) : P (P x y) z = P x (P y z) := by
  unfold P
  rw [sg_mul_l (by rw [det_mul, hx, hy]; rfl) hz, sg_mul_r hx (by rw [det_mul, hy, hz]; rfl), mulM_assoc]
theorem one_mul (x : M) : mulM one1 x = x := by
  obtain ⟨a, b, c, d⟩ := x
  simp [mulM, one1]
theorem P_one {x : M} (h : good x) : P one1 x = x := by unfold P; rw [one_mul]; exact sg_good h
theorem det_one : det one1 = 1 := by decide
/-! sizes -/
def BdM (b : Nat) (m : M) : Prop := Bd b m.1 ∧ Bd b m.2.1 ∧ Bd b m.2.2.1 ∧ Bd b m.2.2.2
theorem BdM.mono {a b : Nat} {m : M} (h : BdM a m) (k : a ≤ b) : BdM b m := ⟨h.1.mono k, h.2.1.mono k, h.2.2.1.mono k, h.2.2.2.mono k⟩
theorem BdM.ng {a : Nat} {m : M} (h : BdM a m) : BdM a (ngM m) := by
  obtain ⟨h1, h2, h3, h4⟩ := h
  have z : ∀ {i : Int}, Bd a i → Bd a (0 - i) := fun {i} h => by rw [Int.zero_sub]; exact h.neg
  exact ⟨z h1, z h2, z h3, z h4⟩
theorem BdM.sg {a : Nat} {m : M} (h : BdM a m) : BdM a (K00.sg m) := by
  rcases sg_or m with k | k <;> rw [k]
  · exact h
  · exact h.ng
theorem BdM.mul {a b : Nat} {x y : M} (h : BdM a x) (k : BdM b y) : BdM (a + b + 1) (mulM x y) := by
  obtain ⟨h1, h2, h3, h4⟩ := h
  obtain ⟨k1, k2, k3, k4⟩ := k
  have z : ∀ {i j p q : Int}, Bd a i → Bd b j → Bd a p → Bd b q → Bd (a + b + 1) (i * j + p * q) := fun h k h' k' => ((h.mul k).add (h'.mul k')).mono (by omega)
  exact ⟨z h1 k1 h2 k3, z h1 k2 h2 k4, z h3 k1 h4 k3, z h3 k2 h4 k4⟩
theorem BdM.P {a b : Nat} {x y : M} (h : BdM a x) (k : BdM b y) : BdM (a + b + 1) (K00.P x y) := (h.mul k).sg
theorem BdM.adj {a : Nat} {m : M} (h : BdM a m) : BdM a (K00.adj m) := by
  obtain ⟨h1, h2, h3, h4⟩ := h
  have z : ∀ {i : Int}, Bd a i → Bd a (0 - i) := fun {i} h => by rw [Int.zero_sub]; exact h.neg
  exact ⟨h4, z h2, z h3, h1⟩
end PL.K00
end

section
/-! rays, in plain numbers -/
namespace PL.RY
open PL PL.K00

abbrev R := Int × Int
def gR (r : R) : Prop := Int.gcd r.1 r.2 = 1 ∧ (0 < r.2 ∨ r = (1, 0))
def so (r : R) : R := if 0 < r.2 ∨ (r.2 = 0 ∧ 0 < r.1) then r else (0 - r.1, 0 - r.2)
def ap (m : M) (r : R) : R := (m.1 * r.1 + m.2.1 * r.2, m.2.2.1 * r.1 + m.2.2.2 * r.2)
def ldR (m : M) (r : R) : R := so (ap m r)
def dt (r s : R) : Int := r.1 * s.2 - r.2 * s.1
def aI (i : Int) : Int := if i < 0 then -i else i
theorem gcd_ap_dvd (m : M) (r : R) : (Int.gcd r.1 r.2 : Int) ∣ Int.gcd (ap m r).1 (ap m r).2 := by
  have h1 : (Int.gcd r.1 r.2 : Int) ∣ r.1 := Int.gcd_dvd_left ..
  have h2 : (Int.gcd r.1 r.2 : Int) ∣ r.2 := Int.gcd_dvd_right ..
  exact Int.dvd_coe_gcd (Int.dvd_add (Int.dvd_mul_of_dvd_right h1) (Int.dvd_mul_of_dvd_right h2)) (Int.dvd_add (Int.dvd_mul_of_dvd_right h1) (Int.dvd_mul_of_dvd_right h2))
theorem ap_adj {m : M} (h : det m = 1) (r : R) : ap (adj m) (ap m r) = r := by
  obtain ⟨a, b, c, d⟩ := m
  obtain ⟨x, y⟩ := r
  have h : a * d - b * c = 1 := h
  simp only [ap, adj, Prod.mk.injEq]
  grind
theorem gcd_ap {m : M} (h : det m = 1) (r : R) : Int.gcd (ap m r).1 (ap m r).2 = Int.gcd r.1 r.2 := by
  have h1 := gcd_ap_dvd m r
  have h2 := gcd_ap_dvd (adj m) (ap m r)
  rw [ap_adj h] at h2
  exact Nat.dvd_antisymm (Int.natCast_dvd_natCast.mp h2) (Int.natCast_dvd_natCast.mp h1)
theorem gcd_so (r : R) : Int.gcd (so r).1 (so r).2 = Int.gcd r.1 r.2 := by
  unfold so; split
  · rfl
  · simp
theorem gR_so {r : R} (h : Int.gcd r.1 r.2 = 1) : gR (so r) := by
  refine ⟨by rw [gcd_so]; exact h, ?_⟩
  obtain ⟨x, y⟩ := r
  have h : Int.gcd x y = 1 := h
  unfold so
  split
  · next q =>
    rcases q with q | ⟨q1, q2⟩
    · exact .inl q
    · have q1 : y = 0 := q1
      have q2 : 0 < x := q2
      subst q1
      rw [Int.gcd_zero_right] at h
      have : x = 1 := by omega
      subst this; exact .inr rfl
  · next q =>
    have q : ¬(0 < y ∨ y = 0 ∧ 0 < x) := q
    by_cases hy : y = 0
    · subst hy
      rw [Int.gcd_zero_right] at h
      have : x = -1 := by omega
      subst this; exact .inr rfl
    · exact .inl (show 0 < 0 - y by omega)
theorem so_gR {r : R} (h : gR r) : so r = r := by
  unfold so
  rw [if_pos]
  rcases h.2 with h | h
  · exact .inl h
  · subst h; exact .inr ⟨rfl, by decide⟩
theorem gR_ld {m : M} (h : det m = 1) {r : R} (g : gR r) : gR (ldR m r) := gR_so (by rw [gcd_ap h]; exact g.1)
theorem dt_ap (m : M) (r s : R) : dt (ap m r) (ap m s) = det m * dt r s := by
  obtain ⟨a, b, c, d⟩ := m
  obtain ⟨x, y⟩ := r
  obtain ⟨z, w⟩ := s
  simp only [dt, ap, det]
  grind
theorem aI_so (r s : R) : aI (dt (so r) (so s)) = aI (dt r s) := by
  obtain ⟨x, y⟩ := r
  obtain ⟨z, w⟩ := s
  have e : ∀ i : Int, aI (-i) = aI i := fun i => by unfold aI; split <;> split <;> omega
  have k1 : dt (0 - x, 0 - y) (0 - z, 0 - w) = dt (x, y) (z, w) := by simp only [dt]; grind
  have k2 : dt (0 - x, 0 - y) (z, w) = - dt (x, y) (z, w) := by simp only [dt]; grind
  have k3 : dt (x, y) (0 - z, 0 - w) = - dt (x, y) (z, w) := by simp only [dt]; grind
  unfold so; split <;> split
  · rfl
  · exact (congrArg aI k3).trans (e _)
  · exact (congrArg aI k2).trans (e _)
  · exact congrArg aI k1
theorem far_ld {m : M} (h : det m = 1) (r s : R) : aI (dt (ldR m r) (ldR m s)) = aI (dt r s) := by
  unfold ldR; rw [aI_so, dt_ap, h, Int.one_mul]
theorem dt_swap (r s : R) : dt s r = - dt r s := by
  simp only [dt]; grind
theorem gcd_dt {r s : R} (h : aI (dt r s) = 1) : Int.gcd r.1 r.2 = 1 := by
  have h1 : (Int.gcd r.1 r.2 : Int) ∣ r.1 := Int.gcd_dvd_left ..
  have h2 : (Int.gcd r.1 r.2 : Int) ∣ r.2 := Int.gcd_dvd_right ..
  have h3 : (Int.gcd r.1 r.2 : Int) ∣ dt r s := Int.dvd_sub (Int.dvd_mul_of_dvd_left h1) (Int.dvd_mul_of_dvd_left h2)
  have h4 : (Int.gcd r.1 r.2 : Int) ∣ 1 := by
    have : dt r s = 1 ∨ dt r s = -1 := by unfold aI at h; split at h <;> omega
    rcases this with e | e
    · rwa [e] at h3
    · rw [e] at h3; exact Int.dvd_neg.mp h3
  have := Int.le_of_dvd (by decide) h4
  have : Int.gcd r.1 r.2 ≠ 0 := by
    intro z
    rw [z] at h4
    have := Int.zero_dvd.mp h4
    omega
  omega
theorem gcd_mod (x y : Int) : Int.gcd (x % y) y = Int.gcd x y := by
  have h1 : (Int.gcd (x % y) y : Int) ∣ x % y := Int.gcd_dvd_left ..
  have h2 : (Int.gcd (x % y) y : Int) ∣ y := Int.gcd_dvd_right ..
  have h3 : (Int.gcd x y : Int) ∣ x := Int.gcd_dvd_left ..
  have h4 : (Int.gcd x y : Int) ∣ y := Int.gcd_dvd_right ..
  have e : x % y = x - y * (x / y) := Int.emod_def x y
  have e2 : x = x % y + y * (x / y) := by omega
  refine Nat.dvd_antisymm (Int.natCast_dvd_natCast.mp (Int.dvd_coe_gcd ?_ h2)) (Int.natCast_dvd_natCast.mp (Int.dvd_coe_gcd ?_ h4))
  · have := Int.dvd_add h1 (Int.dvd_mul_of_dvd_left (b := y) (c := x / y) h2)
    rwa [← e2] at this
  · rw [e]; exact Int.dvd_sub h3 (Int.dvd_mul_of_dvd_left h4)
/-- the number that a number is turned round by, over a base -/
def invL : Nat → Int → Int → Int → Int → Int
  | 0, _, _, _, two => two
  | f + 1, near, far, one, two => if near = 0 then two else invL f (far - far / near * near) near (two - far / near * one) one
def invN (x y : Int) : Int := invL 1000 (x % y) y 1 0 % y
theorem invL_ok (x y : Int) (hy : 0 < y) : ∀ (f : Nat) (near far one two : Int), 0 ≤ near → near < f → 0 < far → Int.gcd near far = 1 → (y ∣ near - one * x) → (y ∣ far - two * x) → y ∣ invL f near far one two * x - 1
  | 0, near, far, one, two, h0, h1, _, _, _, _ => by omega
  | f + 1, near, far, one, two, h0, h1, hf, hg, d1, d2 => by
    unfold invL
    split
    · next z =>
      subst z
      have : far = 1 := by rw [Int.gcd_zero_left] at hg; omega
      subst this
      have := Int.dvd_neg.mpr d2
      rwa [show -(1 - two * x) = two * x - 1 from by omega] at this
    · next z =>
      have hn : 0 < near := by omega
      have e : far - far / near * near = far % near := by rw [Int.emod_def, Int.mul_comm]
      refine invL_ok x y hy f _ near _ one (by rw [e]; exact Int.emod_nonneg _ z) (by rw [e]; have := Int.emod_lt_of_pos far hn; omega) hn ?_ ?_ d1
      · rw [e, gcd_mod, Int.gcd_comm]; exact hg
      · have : far - far / near * near - (two - far / near * one) * x = (far - two * x) - far / near * (near - one * x) := by grind
        rw [this]
        exact Int.dvd_sub d2 (Int.dvd_mul_of_dvd_right d1)
theorem invN_ok {x y : Int} (hy : 0 < y) (hy2 : y < 1000) (g : Int.gcd x y = 1) : 0 ≤ invN x y ∧ invN x y < y ∧ y ∣ x * invN x y - 1 := by
  refine ⟨Int.emod_nonneg _ (by omega), Int.emod_lt_of_pos _ hy, ?_⟩
  have h := invL_ok x y hy 1000 (x % y) y 1 0 (Int.emod_nonneg _ (by omega)) (by have := Int.emod_lt_of_pos x hy; omega) hy (by rw [gcd_mod]; exact g)
    (by rw [Int.one_mul, show x % y - x = -(x - x % y) by omega]; exact Int.dvd_neg.mpr (Int.dvd_self_sub_emod)) (by simp)
  unfold invN
  generalize invL 1000 (x % y) y 1 0 = t at *
  have e : t % y = t - y * (t / y) := Int.emod_def t y
  have : x * (t % y) - 1 = (t * x - 1) - y * (t / y * x) := by rw [e]; grind
  rw [this]
  exact Int.dvd_sub h (Int.dvd_mul_right ..)
/-- the move of a ray -/
def mvR (r : R) : M := if r.2 = 0 then one1 else (r.1, (r.1 * invN r.1 r.2 - 1) / r.2, r.2, invN r.1 r.2)
theorem mvR_ok {r : R} (g : gR r) (h : r.2 < 1000) : good (mvR r) ∧ ldR (mvR r) (1, 0) = r ∧ (0 < r.2 → 0 ≤ (mvR r).2.2.2 ∧ (mvR r).2.2.2 < r.2) := by
  obtain ⟨x, y⟩ := r
  by_cases hy : y = 0
  · subst hy
    have : (x, (0 : Int)) = (1, 0) := by
      rcases g.2 with q | q
      · exact absurd q (by simp)
      · exact q
    cases this
    refine ⟨⟨by decide, .inr ⟨rfl, rfl⟩⟩, by decide, fun q => absurd q (by decide)⟩
  · have h : y < 1000 := h
    have hp : 0 < y := by
      rcases g.2 with q | q
      · exact q
      · cases q; exact absurd rfl hy
    obtain ⟨i1, i2, i3⟩ := invN_ok hp h g.1
    have em : mvR (x, y) = (x, (x * invN x y - 1) / y, y, invN x y) := by unfold mvR; exact if_neg hy
    rw [em]
    generalize invN x y = v at *
    have i3 : y ∣ x * v - 1 := i3
    have e := Int.mul_ediv_cancel' i3
    have hd : det (x, (x * v - 1) / y, y, v) = 1 := by
      show x * v - (x * v - 1) / y * y = 1
      rw [Int.mul_comm _ y, e]; omega
    refine ⟨⟨hd, .inl hp⟩, ?_, fun _ => ⟨i1, i2⟩⟩
    have : ap (x, (x * v - 1) / y, y, v) (1, 0) = (x, y) := by simp [ap]
    unfold ldR
    rw [this]
    exact so_gR g
theorem good.d {m : M} (h : good m) : det m = 1 := h.1
theorem ap_mul (m n : M) (r : R) : ap (mulM m n) r = ap m (ap n r) := by
  obtain ⟨a, b, c, d⟩ := m
  obtain ⟨e, f, g, h⟩ := n
  obtain ⟨x, y⟩ := r
  simp only [ap, mulM, Prod.mk.injEq]
  grind
theorem so_ng {r : R} (h : r ≠ (0, 0)) : so (0 - r.1, 0 - r.2) = so r := by
  obtain ⟨x, y⟩ := r
  have h : ¬(x = 0 ∧ y = 0) := by simpa using h
  unfold so
  simp only
  split <;> split
  · simp only [Prod.mk.injEq]; omega
  · rfl
  · simp only [Prod.mk.injEq]; omega
  · simp only [Prod.mk.injEq]; omega
theorem ap_ng (m : M) (r : R) : ap (ngM m) r = (0 - (ap m r).1, 0 - (ap m r).2) := by
  simp only [ap, ngM, Prod.mk.injEq]; grind
theorem ap_ngr (m : M) (r : R) : ap m (0 - r.1, 0 - r.2) = (0 - (ap m r).1, 0 - (ap m r).2) := by
  simp only [ap, Prod.mk.injEq]; grind
theorem ne_of_gcd {r : R} (h : Int.gcd r.1 r.2 = 1) : r ≠ (0, 0) := by
  intro e; subst e; simp at h
theorem so_ap_sg {m : M} (hm : det m = 1) {r : R} (h : Int.gcd r.1 r.2 = 1) : so (ap (sg m) r) = so (ap m r) := by
  rcases sg_or m with e | e <;> rw [e]
  rw [ap_ng, so_ng (ne_of_gcd (by rw [gcd_ap hm]; exact h))]
theorem so_ap_so {m : M} (hm : det m = 1) {r : R} (h : Int.gcd r.1 r.2 = 1) : so (ap m (so r)) = so (ap m r) := by
  have : so r = r ∨ so r = (0 - r.1, 0 - r.2) := by unfold so; split <;> simp
  rcases this with e | e <;> rw [e]
  rw [ap_ngr, so_ng (ne_of_gcd (by rw [gcd_ap hm]; exact h))]
/-- moves one behind the other lead one behind the other -/
theorem ld_P {m n : M} (hm : det m = 1) (hn : det n = 1) {r : R} (h : Int.gcd r.1 r.2 = 1) : ldR (P m n) r = ldR m (ldR n r) := by
  unfold ldR P
  rw [so_ap_sg (by rw [det_mul, hm, hn]; rfl) h, ap_mul, so_ap_so hm (by rw [gcd_ap hn]; exact h)]
theorem ld_adj {m : M} (hm : det m = 1) {r : R} (g : gR r) : ldR (sg (adj m)) (ldR m r) = r := by
  unfold ldR
  have h1 : Int.gcd (ap m r).1 (ap m r).2 = 1 := by rw [gcd_ap hm]; exact g.1
  rw [so_ap_sg (by rw [det_adj]; exact hm) (by rw [gcd_so]; exact h1), so_ap_so (by rw [det_adj]; exact hm) h1, ap_adj hm]
  exact so_gR g
theorem aI_or {i : Int} (h : aI i = 1) : i = 1 ∨ i = -1 := by unfold aI at h; split at h <;> omega
end PL.RY
end

section
/-! rows of letters, in plain numbers -/
namespace PL.WD
open PL PL.K00 PL.RY

def ltr (k : Int) : M := if k = 1 then (0, -1, 1, 0) else if k = 2 then (0, -1, 1, 1) else (-1, -1, 1, 0)
def okL (w : List Int) : Prop := ∀ l ∈ w, l = 1 ∨ l = 2 ∨ l = 3
theorem det_ltr (k : Int) : det (ltr k) = 1 := by unfold ltr; split <;> (try split) <;> rfl
theorem mul_one' (x : M) : mulM x one1 = x := by
  obtain ⟨a, b, c, d⟩ := x
  simp [mulM, one1]
theorem P_one' {x : M} (h : good x) : P x one1 = x := by unfold P; rw [mul_one']; exact sg_good h
theorem good_1 : good one1 := ⟨rfl, .inr ⟨rfl, rfl⟩⟩
def W (w : List Int) : M := w.foldl (fun m l => P m (ltr l)) one1
theorem W_nil : W [] = one1 := rfl
theorem W_snoc (w : List Int) (l : Int) : W (w ++ [l]) = P (W w) (ltr l) := by unfold W; rw [List.foldl_append]; rfl
theorem W_good (w : List Int) : good (W w) := by
  rcases List.eq_nil_or_concat w with rfl | ⟨u, l, rfl⟩
  · exact good_1
  · rw [List.concat_eq_append, W_snoc]
    have : ∀ (v : List Int), det (W v) = 1 := by
      intro v
      have : ∀ (v : List Int) (m : M), det m = 1 → det (v.foldl (fun m l => P m (ltr l)) m) = 1 := by
        intro v
        induction v with
        | nil => intro m h; exact h
        | cons a v ih => intro m h; exact ih _ (det_P h (det_ltr a))
      exact this v one1 rfl
    exact good_P (this u) (det_ltr l)
theorem W_det (w : List Int) : det (W w) = 1 := (W_good w).1
theorem W_one (l : Int) : W [l] = P one1 (ltr l) := rfl
theorem W_app (u : List Int) : ∀ v : List Int, W (u ++ v) = P (W u) (W v) := by
  have : ∀ (n : Nat) (v : List Int), v.length = n → W (u ++ v) = P (W u) (W v) := by
    intro n
    induction n with
    | zero =>
      intro v h
      have := List.eq_nil_of_length_eq_zero h
      subst this
      rw [List.append_nil, W_nil, P_one' (W_good u)]
    | succ n ih =>
      intro v h
      rcases List.eq_nil_or_concat v with rfl | ⟨v', l, rfl⟩
      · simp at h
      · rw [List.concat_eq_append] at h ⊢
        rw [← List.append_assoc, W_snoc, W_snoc, ih v' (by simpa using h), P_assoc (W_det u) (W_det v') (det_ltr l)]
  exact fun v => this _ v rfl
/-! shortening -/
def stp (f : List Int) (o : Int) : List Int := match f.getLast? with
  | none => f ++ [o]
  | some l => if (l == 1) != (o == 1) then f ++ [o] else if o = 1 then f.dropLast else if (l - 1 + o - 1) % 3 ≠ 0 then f.dropLast ++ [(l - 1 + o - 1) % 3 + 1] else f.dropLast
def shrt (w : List Int) : List Int := w.foldl stp []
theorem P_cancel {x y : M} (gx : good x) (hy : det y = 1) {z : M} (hz : det z = 1) (h : P y z = one1) : P (P x y) z = x := by
  rw [P_assoc gx.1 hy hz, h, P_one' gx]
theorem stp_W {f : List Int} {o : Int} (hf : okL f) (ho : o = 1 ∨ o = 2 ∨ o = 3) : W (stp f o) = P (W f) (ltr o) ∧ okL (stp f o) := by
  rcases List.eq_nil_or_concat f with rfl | ⟨u, l, rfl⟩
  · refine ⟨rfl, ?_⟩
    intro x hx
    have : x = o := by simpa [stp] using hx
    rw [this]; exact ho
  · rw [List.concat_eq_append] at hf ⊢
    have hl := hf l (by simp)
    have hu : okL u := fun x hx => hf x (by simp [hx])
    have hs : stp (u ++ [l]) o = if (l == 1) != (o == 1) then u ++ [l] ++ [o] else if o = 1 then u else if (l - 1 + o - 1) % 3 ≠ 0 then u ++ [(l - 1 + o - 1) % 3 + 1] else u := by
      unfold stp
      rw [List.getLast?_append]
      simp
    rw [hs, W_snoc]
    have gu := W_good u
    have push : ∀ k, (k = 1 ∨ k = 2 ∨ k = 3) → okL (u ++ [k]) := fun k hk x hx => by
      rcases List.mem_append.mp hx with h | h
      · exact hu x h
      · have : x = k := by simpa using h
        rw [this]; exact hk
    have push2 : okL (u ++ [l] ++ [o]) := fun x hx => by
      rcases List.mem_append.mp hx with h | h
      · exact hf x h
      · have : x = o := by simpa using h
        rw [this]; exact ho
    have two : ∀ a b c : Int, P (ltr a) (ltr b) = ltr c → P (P (W u) (ltr a)) (ltr b) = P (W u) (ltr c) := fun a b c h => by
      rw [P_assoc gu.1 (det_ltr a) (det_ltr b), h]
    have nul : ∀ a b : Int, P (ltr a) (ltr b) = one1 → P (P (W u) (ltr a)) (ltr b) = W u := fun a b h => P_cancel gu (det_ltr a) (det_ltr b) h
    rcases hl with rfl | rfl | rfl <;> rcases ho with rfl | rfl | rfl
    · exact ⟨(nul 1 1 (by decide)).symm, hu⟩
    · exact ⟨by show W (u ++ [1] ++ [2]) = _; rw [W_snoc, W_snoc], push2⟩
    · exact ⟨by show W (u ++ [1] ++ [3]) = _; rw [W_snoc, W_snoc], push2⟩
    · exact ⟨by show W (u ++ [2] ++ [1]) = _; rw [W_snoc, W_snoc], push2⟩
    · exact ⟨by show W (u ++ [3]) = _; rw [W_snoc]; exact (two 2 2 3 (by decide)).symm, push 3 (by simp)⟩
    · exact ⟨(nul 2 3 (by decide)).symm, hu⟩
    · exact ⟨by show W (u ++ [3] ++ [1]) = _; rw [W_snoc, W_snoc], push2⟩
    · exact ⟨(nul 3 2 (by decide)).symm, hu⟩
    · exact ⟨by show W (u ++ [2]) = _; rw [W_snoc]; exact (two 3 3 2 (by decide)).symm, push 2 (by simp)⟩
theorem fold_W : ∀ (w f : List Int), okL f → okL w → W (w.foldl stp f) = P (W f) (W w) ∧ okL (w.foldl stp f)
  | [], f, hf, _ => ⟨by rw [W_nil, P_one' (W_good f)]; rfl, hf⟩
  | o :: w, f, hf, hw => by
    obtain ⟨h1, h2⟩ := stp_W hf (hw o (by simp))
    obtain ⟨h3, h4⟩ := fold_W w (stp f o) h2 (fun x hx => hw x (by simp [hx]))
    refine ⟨?_, h4⟩
    have : W (o :: w) = P (ltr o) (W w) := by
      have := W_app [o] w
      rw [List.singleton_append] at this
      rw [this, W_one, P_one (x := ltr o) (by unfold ltr; split <;> (try split) <;> exact ⟨rfl, .inl (by decide)⟩)]
    rw [List.foldl_cons, h3, h1, this, P_assoc (W_det f) (det_ltr o) (W_det w)]
theorem shrt_W {w : List Int} (h : okL w) : W (shrt w) = W w ∧ okL (shrt w) := by
  obtain ⟨h1, h2⟩ := fold_W w [] (fun x hx => by cases hx) h
  exact ⟨by show W (w.foldl stp []) = _; rw [h1, W_nil, P_one (W_good w)], h2⟩
theorem stp_len (f : List Int) (o : Int) : (stp f o).length ≤ f.length + 1 := by
  unfold stp
  split
  · simp
  · split
    · simp
    · split
      · simp; omega
      · split <;> simp <;> omega
theorem fold_len : ∀ (w f : List Int), (w.foldl stp f).length ≤ f.length + w.length
  | [], f => by simp
  | o :: w, f => by
    have := fold_len w (stp f o)
    have := stp_len f o
    simp only [List.foldl_cons, List.length_cons]
    omega
/-! steps -/
def St (q : Int) : M := (1, q, 0, 1)
def Tn : M := (0, -1, 1, 0)
theorem det_St (q : Int) : det (St q) = 1 := by simp [St, det]
theorem good_St (q : Int) : good (St q) := ⟨det_St q, .inr ⟨rfl, rfl⟩⟩
theorem P_St (p q : Int) : P (St p) (St q) = St (p + q) := by
  unfold P
  have : mulM (St p) (St q) = St (p + q) := by simp [mulM, St]; omega
  rw [this]; exact sg_good (good_St _)
def lw (q : Int) : List Int := if 0 ≤ q then (List.replicate q.toNat [1, 2]).flatten else (List.replicate (0 - q).toNat [3, 1]).flatten
theorem lw_pos : ∀ n : Nat, W (List.replicate n [(1 : Int), 2]).flatten = St n ∧ okL (List.replicate n [(1 : Int), 2]).flatten
  | 0 => ⟨rfl, fun x hx => by cases hx⟩
  | n + 1 => by
    obtain ⟨h1, h2⟩ := lw_pos n
    rw [List.replicate_succ, List.flatten_cons]
    refine ⟨?_, fun x hx => ?_⟩
    · rw [W_app, h1, show W [1, 2] = St 1 from by decide, P_St]
      congr 1
      omega
    · rcases List.mem_append.mp hx with h | h
      · simp at h; omega
      · exact h2 x h
theorem lw_neg : ∀ n : Nat, W (List.replicate n [(3 : Int), 1]).flatten = St (-n) ∧ okL (List.replicate n [(3 : Int), 1]).flatten
  | 0 => ⟨rfl, fun x hx => by cases hx⟩
  | n + 1 => by
    obtain ⟨h1, h2⟩ := lw_neg n
    rw [List.replicate_succ, List.flatten_cons]
    refine ⟨?_, fun x hx => ?_⟩
    · rw [W_app, h1, show W [3, 1] = St (-1) from by decide, P_St]
      congr 1
      omega
    · rcases List.mem_append.mp hx with h | h
      · simp at h; omega
      · exact h2 x h
theorem lw_ok (q : Int) : W (lw q) = St q ∧ okL (lw q) := by
  unfold lw
  split
  · obtain ⟨h1, h2⟩ := lw_pos q.toNat
    exact ⟨by rw [h1]; congr 1; omega, h2⟩
  · obtain ⟨h1, h2⟩ := lw_neg (0 - q).toNat
    exact ⟨by rw [h1]; congr 1; omega, h2⟩
theorem lw_len (q : Int) : (lw q).length = 2 * q.natAbs := by
  unfold lw
  split <;> rw [List.length_flatten, List.map_replicate, List.sum_replicate_nat] <;> simp <;> omega
/-! the numbers of steps between turns -/
def near (a c : Int) : Int := if c < 0 then 0 - ((0 - c) - 2 * (0 - a)) / (2 * (0 - c)) else 0 - (c - 2 * a) / (2 * c)
theorem near_ok (a c : Int) (hc : c ≠ 0) : 2 * (near a c * c - a).natAbs ≤ c.natAbs ∧ (near a c).natAbs ≤ a.natAbs + 1 := by
  have key : ∀ a c : Int, 0 < c → 2 * ((0 - (c - 2 * a) / (2 * c)) * c - a).natAbs ≤ c.natAbs := by
    intro a c hc
    have e := Int.mul_ediv_add_emod (c - 2 * a) (2 * c)
    have m0 := Int.emod_nonneg (c - 2 * a) (show 2 * c ≠ 0 by omega)
    have m1 := Int.emod_lt_of_pos (c - 2 * a) (show 0 < 2 * c by omega)
    generalize (c - 2 * a) / (2 * c) = t at *
    generalize (c - 2 * a) % (2 * c) = m at *
    have e2 : (0 - t) * c = -(c * t) := by grind
    have e3 : 2 * c * t = 2 * (c * t) := by grind
    rw [e2]
    generalize c * t = ct at *
    omega
  have h1 : 2 * (near a c * c - a).natAbs ≤ c.natAbs := by
    unfold near
    split
    · have := key (0 - a) (0 - c) (by omega)
      have e : (0 - ((0 - c) - 2 * (0 - a)) / (2 * (0 - c))) * (0 - c) - (0 - a) = -((0 - ((0 - c) - 2 * (0 - a)) / (2 * (0 - c))) * c - a) := by grind
      rw [e] at this
      omega
    · exact key a c (by omega)
  refine ⟨h1, ?_⟩
  generalize near a c = q at *
  have e : (q * c).natAbs = q.natAbs * c.natAbs := Int.natAbs_mul ..
  have h2 : q.natAbs * c.natAbs ≤ a.natAbs + c.natAbs := by omega
  have hc1 : 1 ≤ c.natAbs := by omega
  rcases Nat.lt_or_ge (a.natAbs + 1) q.natAbs with z | z
  · exfalso
    have h3 : (a.natAbs + 2) * c.natAbs ≤ q.natAbs * c.natAbs := Nat.mul_le_mul_right _ (by omega)
    have h4 : (a.natAbs + 2) * c.natAbs = a.natAbs * c.natAbs + 2 * c.natAbs := by rw [Nat.add_mul]
    have h5 : a.natAbs * 1 ≤ a.natAbs * c.natAbs := Nat.mul_le_mul_left _ hc1
    omega
  · exact z
def quo : Nat → Int → Int → Int → Int → List Int
  | 0, _, _, _, _ => []
  | f + 1, a, b, c, d => if c = 0 then [if 0 < d then b else 0 - b] else near a c :: quo f c d (near a c * c - a) (near a c * d - b)
def rowM : List Int → M
  | [] => one1
  | [q] => St q
  | q :: p :: r => P (P (St q) Tn) (rowM (p :: r))
theorem quo_ne : ∀ (f : Nat) (a b c d : Int), 0 < f → quo f a b c d ≠ []
  | f + 1, a, b, c, d, _ => by unfold quo; split <;> simp
theorem quo_M : ∀ (f : Nat) (a b c d : Int), c.natAbs < f → det (a, b, c, d) = 1 → rowM (quo f a b c d) = sg (a, b, c, d)
  | 0, a, b, c, d, h, _ => by omega
  | f + 1, a, b, c, d, h, hd => by
    unfold quo
    split
    · next z =>
      subst z
      have hd : a * d - b * 0 = 1 := hd
      rw [Int.mul_zero, Int.sub_zero] at hd
      by_cases hp : 0 < d
      · obtain ⟨rfl, rfl⟩ := unit_of hd hp
        rw [if_pos hp]
        exact (sg_good (good_St b)).symm
      · have hd2 : (0 - a) * (0 - d) = 1 := by grind
        have hdn : d ≠ 0 := by intro q; subst q; simp at hd
        obtain ⟨h1, h2⟩ := unit_of hd2 (by omega)
        have ea : a = -1 := by omega
        have ed : d = -1 := by omega
        subst ea ed
        rw [if_neg hp]
        rfl
    · next z =>
      have hq := near_ok a c z
      generalize near a c = q at *
      have hd' : det (c, d, q * c - a, q * d - b) = 1 := by
        have hd : a * d - b * c = 1 := hd
        show c * (q * d - b) - d * (q * c - a) = 1
        grind
      have ih := quo_M f c d (q * c - a) (q * d - b) (by omega) hd'
      have hr : rowM (q :: quo f c d (q * c - a) (q * d - b)) = P (P (St q) Tn) (rowM (quo f c d (q * c - a) (q * d - b))) := by
        have hne := quo_ne f c d (q * c - a) (q * d - b) (by omega)
        generalize quo f c d (q * c - a) (q * d - b) = l at *
        match l, hne with
        | p :: r, _ => rfl
      rw [hr, ih]
      have h1 : det (mulM (St q) Tn) = 1 := by rw [det_mul, det_St]; rfl
      unfold P
      rw [sg_mul_r (det_sg _ ▸ h1) hd', sg_mul_l h1 hd']
      congr 1
      simp only [mulM, St, Tn, Prod.mk.injEq]
      refine ⟨?_, ?_, ?_, ?_⟩ <;> grind
def wl : Nat → List Int → List Int
  | _, [] => []
  | k, q :: r => (if 0 < k then [1] else []) ++ lw q ++ wl (k + 1) r
theorem wl_succ : ∀ (k : Nat) (r : List Int), r ≠ [] → W (wl (k + 1) r) = P Tn (rowM r) ∧ okL (wl (k + 1) r)
  | k, [q], _ => by
    obtain ⟨h1, h2⟩ := lw_ok q
    show W ((if 0 < k + 1 then [1] else []) ++ lw q ++ []) = _ ∧ okL ((if 0 < k + 1 then [1] else []) ++ lw q ++ [])
    rw [if_pos (by omega), List.append_nil, W_app, h1]
    exact ⟨rfl, fun x hx => by
      rcases List.mem_append.mp hx with h | h
      · simp at h; exact .inl h
      · exact h2 x h⟩
  | k, q :: p :: r, _ => by
    obtain ⟨h1, h2⟩ := lw_ok q
    obtain ⟨h3, h4⟩ := wl_succ (k + 1) (p :: r) (by simp)
    have gr : det (rowM (p :: r)) = 1 := by
      have : ∀ l : List Int, det (rowM l) = 1 := by
        intro l
        induction l with
        | nil => rfl
        | cons a l ih =>
          cases l with
          | nil => exact det_St a
          | cons b l => exact det_P (det_P (det_St a) rfl) ih
      exact this _
    show W ((if 0 < k + 1 then [1] else []) ++ lw q ++ wl (k + 1 + 1) (p :: r)) = _ ∧ okL ((if 0 < k + 1 then [1] else []) ++ lw q ++ wl (k + 1 + 1) (p :: r))
    rw [if_pos (by omega), W_app, W_app, h1, h3]
    refine ⟨?_, fun x hx => ?_⟩
    · show P (P (W [1]) (St q)) (P Tn (rowM (p :: r))) = P Tn (P (P (St q) Tn) (rowM (p :: r)))
      have e : W [1] = Tn := by decide
      rw [e, P_assoc (by rfl) (det_St q) (det_P rfl gr), P_assoc (det_St q) rfl gr]
    · rcases List.mem_append.mp hx with h | h
      · rcases List.mem_append.mp h with h | h
        · simp at h; exact .inl h
        · exact h2 x h
      · exact h4 x h
theorem wl_ok (r : List Int) (h : r ≠ []) : W (wl 0 r) = rowM r ∧ okL (wl 0 r) := by
  match r, h with
  | [q], _ =>
    obtain ⟨h1, h2⟩ := lw_ok q
    show W ([] ++ lw q ++ []) = _ ∧ okL ([] ++ lw q ++ [])
    rw [List.append_nil, List.nil_append]
    exact ⟨h1, h2⟩
  | q :: p :: r, _ =>
    obtain ⟨h1, h2⟩ := lw_ok q
    obtain ⟨h3, h4⟩ := wl_succ 0 (p :: r) (by simp)
    have gr : det (rowM (p :: r)) = 1 := by
      have : ∀ l : List Int, det (rowM l) = 1 := by
        intro l
        induction l with
        | nil => rfl
        | cons a l ih =>
          cases l with
          | nil => exact det_St a
          | cons b l => exact det_P (det_P (det_St a) rfl) ih
      exact this _
    show W ([] ++ lw q ++ wl (0 + 1) (p :: r)) = _ ∧ okL ([] ++ lw q ++ wl (0 + 1) (p :: r))
    rw [List.nil_append, W_app, h1, h3]
    refine ⟨?_, fun x hx => ?_⟩
    · show P (St q) (P Tn (rowM (p :: r))) = P (P (St q) Tn) (rowM (p :: r))
      rw [P_assoc (det_St q) rfl gr]
    · rcases List.mem_append.mp hx with h | h
      · exact h2 x h
      · exact h4 x h
/-! bounds -/
def sumA (r : List Int) : Nat := (r.map Int.natAbs).sum
theorem quo_bd (A D : Nat) (hD : 2 ≤ D) : ∀ (k f : Nat) (a b c d : Int), c.natAbs < 2 ^ k → det (a, b, c, d) = 1 → a.natAbs ≤ A → c.natAbs ≤ A → b.natAbs ≤ D → d.natAbs ≤ D → sumA (quo f a b c d) ≤ k * (A + 1) + D ∧ (quo f a b c d).length ≤ k + 1
  | k, 0, a, b, c, d, _, _, _, _, _, _ => by simp [quo, sumA]
  | 0, f + 1, a, b, c, d, hc, _, _, _, hb, _ => by
    have : c = 0 := by simp at hc; exact hc
    unfold quo
    rw [if_pos this]
    refine ⟨?_, by simp⟩
    simp only [sumA, List.map_cons, List.map_nil, List.sum_cons, List.sum_nil]
    split <;> omega
  | k + 1, f + 1, a, b, c, d, hc, hd, ha, hA, hb, hdd => by
    unfold quo
    by_cases z : c = 0
    · rw [if_pos z]
      refine ⟨?_, by simp⟩
      have : 0 ≤ (k + 1) * (A + 1) := Nat.zero_le _
      simp only [sumA, List.map_cons, List.map_nil, List.sum_cons, List.sum_nil]
      split <;> omega
    · rw [if_neg z]
      obtain ⟨h1, h2⟩ := near_ok a c z
      generalize near a c = q at *
      have hd0 : a * d - b * c = 1 := hd
      have hd' : det (c, d, q * c - a, q * d - b) = 1 := by
        show c * (q * d - b) - d * (q * c - a) = 1
        grind
      have hd2 : c * (q * d - b) = d * (q * c - a) + 1 := by grind
      have hbd : (q * d - b).natAbs ≤ D := by
        have e1 : (c * (q * d - b)).natAbs = c.natAbs * (q * d - b).natAbs := Int.natAbs_mul ..
        have e2 : (d * (q * c - a)).natAbs = d.natAbs * (q * c - a).natAbs := Int.natAbs_mul ..
        have e3 : (c * (q * d - b)).natAbs ≤ (d * (q * c - a)).natAbs + 1 := by rw [hd2]; omega
        have e4 : d.natAbs * (2 * (q * c - a).natAbs) ≤ D * c.natAbs := Nat.mul_le_mul hdd h1
        have e5 : d.natAbs * (2 * (q * c - a).natAbs) = 2 * (d.natAbs * (q * c - a).natAbs) := by rw [Nat.mul_left_comm]
        have e6 : 2 * (c.natAbs * (q * d - b).natAbs) ≤ D * c.natAbs + 2 := by omega
        rcases Nat.lt_or_ge D (q * d - b).natAbs with y | y
        · exfalso
          have e7 : c.natAbs * (D + 1) ≤ c.natAbs * (q * d - b).natAbs := Nat.mul_le_mul_left _ y
          have e8 : c.natAbs * (D + 1) = D * c.natAbs + c.natAbs := by rw [Nat.mul_add, Nat.mul_one, Nat.mul_comm]
          have e9 : 2 * c.natAbs ≤ D * c.natAbs := Nat.mul_le_mul_right _ hD
          have : 1 ≤ c.natAbs := by omega
          omega
        · exact y
      obtain ⟨i1, i2⟩ := quo_bd A D hD k f c d (q * c - a) (q * d - b) (by rw [Nat.pow_succ] at hc; omega) hd' hA (by omega) hdd hbd
      refine ⟨?_, by simp; omega⟩
      have : (k + 1) * (A + 1) = k * (A + 1) + (A + 1) := Nat.succ_mul ..
      simp only [sumA, List.map_cons, List.sum_cons] at i1 ⊢
      omega
end PL.WD
end

section
/-! rows of letters that cannot be shortened: each move has just one -/
namespace PL.WD
open PL PL.K00 PL.RY

def altB : List Int → Bool
  | a :: b :: r => ((a == 1) != (b == 1)) && altB (b :: r)
  | _ => true
def red (w : List Int) : Prop := okL w ∧ altB w = true
theorem alt_join : ∀ (u : List Int) (a : Int) (v : List Int), altB (u ++ a :: v) = (altB (u ++ [a]) && altB (a :: v))
  | [], a, v => by simp [altB]
  | [x], a, v => by simp [altB]
  | x :: y :: u, a, v => by
    have := alt_join (y :: u) a v
    simp only [List.cons_append] at this ⊢
    rw [altB, this, altB, Bool.and_assoc]
theorem alt_tail {a : Int} {v : List Int} (h : altB (a :: v) = true) : altB v = true := by
  cases v with
  | nil => rfl
  | cons b v => rw [altB, Bool.and_eq_true] at h; exact h.2
theorem alt_init {a : Int} {u : List Int} (h : altB (u ++ [a]) = true) : altB u = true := by
  rcases List.eq_nil_or_concat u with rfl | ⟨v, b, rfl⟩
  · rfl
  · rw [List.concat_eq_append] at h ⊢
    rw [List.append_assoc, List.singleton_append, alt_join, Bool.and_eq_true] at h
    exact h.1
theorem alt_last {a b : Int} {u : List Int} (h : (a == 1) = (b == 1)) : altB (u ++ [a]) = altB (u ++ [b]) := by
  rcases List.eq_nil_or_concat u with rfl | ⟨v, x, rfl⟩
  · rfl
  · rw [List.concat_eq_append, List.append_assoc, List.append_assoc, List.singleton_append, List.singleton_append, alt_join, alt_join v x [b], altB, altB, h]
    rfl
theorem alt_first {a b : Int} {u : List Int} (h : (a == 1) = (b == 1)) : altB (a :: u) = altB (b :: u) := by
  cases u with
  | nil => rfl
  | cons x u => rw [altB, altB, h]
theorem okL_app {u v : List Int} : okL (u ++ v) ↔ okL u ∧ okL v := by
  unfold okL
  constructor
  · intro h; exact ⟨fun l hl => h l (by simp [hl]), fun l hl => h l (by simp [hl])⟩
  · rintro ⟨h1, h2⟩ l hl
    rcases List.mem_append.mp hl with q | q
    · exact h1 l q
    · exact h2 l q
theorem okL_cons {a : Int} {v : List Int} : okL (a :: v) ↔ (a = 1 ∨ a = 2 ∨ a = 3) ∧ okL v := by
  unfold okL
  simp [List.forall_mem_cons]
theorem okL_nil : okL [] := fun x hx => by cases hx
theorem stp_snoc (u : List Int) (l o : Int) : stp (u ++ [l]) o = if (l == 1) != (o == 1) then u ++ [l] ++ [o] else if o = 1 then u else if (l - 1 + o - 1) % 3 ≠ 0 then u ++ [(l - 1 + o - 1) % 3 + 1] else u := by
  unfold stp
  rw [List.getLast?_append]
  simp
theorem stp_nil (o : Int) : stp [] o = [o] := by simp [stp]
theorem stp_red {f : List Int} {o : Int} (hf : red f) (ho : o = 1 ∨ o = 2 ∨ o = 3) : red (stp f o) := by
  refine ⟨(stp_W hf.1 ho).2, ?_⟩
  rcases List.eq_nil_or_concat f with rfl | ⟨u, l, rfl⟩
  · rw [stp_nil]; rfl
  · rw [List.concat_eq_append] at hf ⊢
    rw [stp_snoc]
    have hl := hf.1 l (by simp)
    have ha := hf.2
    split
    · next h =>
      rw [List.append_assoc, List.singleton_append, alt_join, ha]
      simp [altB, h]
    · split
      · exact alt_init ha
      · next h1 h2 =>
        split
        · next h3 =>
          rw [alt_last (b := l)]
          · exact ha
          · rcases hl with rfl | rfl | rfl <;> rcases ho with rfl | rfl | rfl <;> first | rfl | (exfalso; revert h1; decide) | (exfalso; exact h2 rfl) | (exfalso; exact h3 rfl)
        · exact alt_init ha
theorem fold_red : ∀ (w : List Int) {f : List Int}, red f → okL w → red (w.foldl stp f)
  | [], f, h, _ => h
  | o :: w, f, h, hw => fold_red w (stp_red h (okL_cons.mp hw).1) (okL_cons.mp hw).2
theorem red_nil : red [] := ⟨okL_nil, rfl⟩
theorem shrt_red {w : List Int} (h : okL w) : red (shrt w) := fold_red w red_nil h
theorem fold_push : ∀ (w : List Int) {f : List Int}, altB (f ++ w) = true → w.foldl stp f = f ++ w
  | [], f, _ => by simp
  | o :: w, f, h => by
    have e : stp f o = f ++ [o] := by
      rcases List.eq_nil_or_concat f with rfl | ⟨u, l, rfl⟩
      · rw [stp_nil]; rfl
      · rw [List.concat_eq_append] at h ⊢
        rw [List.append_assoc, List.singleton_append, alt_join, Bool.and_eq_true, altB, Bool.and_eq_true] at h
        rw [stp_snoc, if_pos h.2.1]
    rw [List.foldl_cons, e, fold_push w (by rw [List.append_assoc]; exact h), List.append_assoc]; rfl
theorem shrt_self {w : List Int} (h : altB w = true) : shrt w = w := fold_push w (f := []) h
theorem shrt_app {u v : List Int} : shrt (u ++ v) = v.foldl stp (shrt u) := by unfold shrt; rw [List.foldl_append]
theorem shrt_app_red {u v : List Int} (h : altB u = true) : shrt (u ++ v) = v.foldl stp u := by rw [shrt_app, shrt_self h]

/-! products of steps and what they lead to -/
def Tm (m : M) : M := (m.1 + m.2.2.1, m.2.1 + m.2.2.2, m.2.2.1, m.2.2.2)
def Lm (m : M) : M := (m.1, m.2.1, m.1 + m.2.2.1, m.2.1 + m.2.2.2)
def Pm (z : M) : List Bool → M
  | [] => z
  | true :: r => Tm (Pm z r)
  | false :: r => Lm (Pm z r)
theorem det_Tm (m : M) : det (Tm m) = det m := by simp only [det, Tm]; grind
theorem det_Lm (m : M) : det (Lm m) = det m := by simp only [det, Lm]; grind
theorem det_Pm {z : M} (h : det z = 1) : ∀ r, det (Pm z r) = 1
  | [] => h
  | true :: r => by rw [Pm, det_Tm]; exact det_Pm h r
  | false :: r => by rw [Pm, det_Lm]; exact det_Pm h r
theorem M_eq {x y : M} (h : x = y) : x.1 = y.1 ∧ x.2.1 = y.2.1 ∧ x.2.2.1 = y.2.2.1 ∧ x.2.2.2 = y.2.2.2 := by subst h; exact ⟨rfl, rfl, rfl, rfl⟩
theorem eq_M {x y : M} (h1 : x.1 = y.1) (h2 : x.2.1 = y.2.1) (h3 : x.2.2.1 = y.2.2.1) (h4 : x.2.2.2 = y.2.2.2) : x = y := Prod.ext h1 (Prod.ext h2 (Prod.ext h3 h4))
theorem Pm_nn : ∀ r, 1 ≤ (Pm one1 r).1 ∧ 0 ≤ (Pm one1 r).2.1 ∧ 0 ≤ (Pm one1 r).2.2.1 ∧ 1 ≤ (Pm one1 r).2.2.2
  | [] => by decide
  | true :: r => by
    obtain ⟨h1, h2, h3, h4⟩ := Pm_nn r
    show 1 ≤ (Pm one1 r).1 + (Pm one1 r).2.2.1 ∧ 0 ≤ (Pm one1 r).2.1 + (Pm one1 r).2.2.2 ∧ 0 ≤ (Pm one1 r).2.2.1 ∧ 1 ≤ (Pm one1 r).2.2.2
    omega
  | false :: r => by
    obtain ⟨h1, h2, h3, h4⟩ := Pm_nn r
    show 1 ≤ (Pm one1 r).1 ∧ 0 ≤ (Pm one1 r).2.1 ∧ 0 ≤ (Pm one1 r).1 + (Pm one1 r).2.2.1 ∧ 1 ≤ (Pm one1 r).2.1 + (Pm one1 r).2.2.2
    omega
theorem Pm_Tn : ∀ r, Pm Tn r = ((Pm one1 r).2.1, 0 - (Pm one1 r).1, (Pm one1 r).2.2.2, 0 - (Pm one1 r).2.2.1)
  | [] => rfl
  | true :: r => by
    rw [Pm, Pm_Tn r]
    exact eq_M rfl (show 0 - (Pm one1 r).1 + (0 - (Pm one1 r).2.2.1) = 0 - ((Pm one1 r).1 + (Pm one1 r).2.2.1) by omega) rfl rfl
  | false :: r => by
    rw [Pm, Pm_Tn r]
    exact eq_M rfl rfl rfl (show 0 - (Pm one1 r).1 + (0 - (Pm one1 r).2.2.1) = 0 - ((Pm one1 r).1 + (Pm one1 r).2.2.1) by omega)
theorem Pm_one {r : List Bool} (h : Pm one1 r = one1) : r = [] := by
  cases r with
  | nil => rfl
  | cons b r =>
    exfalso
    obtain ⟨h1, h2, h3, h4⟩ := Pm_nn r
    cases b with
    | true =>
      have q : (Pm one1 r).1 + (Pm one1 r).2.2.1 = 1 ∧ (Pm one1 r).2.1 + (Pm one1 r).2.2.2 = 0 ∧ (Pm one1 r).2.2.1 = 0 ∧ (Pm one1 r).2.2.2 = 1 := M_eq h
      omega
    | false =>
      have q : (Pm one1 r).1 = 1 ∧ (Pm one1 r).2.1 = 0 ∧ (Pm one1 r).1 + (Pm one1 r).2.2.1 = 0 ∧ (Pm one1 r).2.1 + (Pm one1 r).2.2.2 = 1 := M_eq h
      omega
theorem P_T {x : M} (h : det x = 1) : P (W [1, 2]) (sg x) = sg (Tm x) := by
  unfold P
  rw [show W [1, 2] = (1, 1, 0, 1) from by decide, sg_mul_r (by decide) h]
  congr 1
  simp only [mulM, Tm, Prod.mk.injEq]
  refine ⟨?_, ?_, ?_, ?_⟩ <;> omega
theorem P_L {x : M} (h : det x = 1) : P (W [1, 3]) (sg x) = sg (Lm x) := by
  unfold P
  rw [show W [1, 3] = (1, 0, 1, 1) from by decide, sg_mul_r (by decide) h]
  congr 1
  simp only [mulM, Lm, Prod.mk.injEq]
  refine ⟨?_, ?_, ?_, ?_⟩ <;> omega
/-- a short row that begins with 1 -/
theorem parts : ∀ (n : Nat) (w : List Int), w.length ≤ n → red w → (w = [] ∨ ∃ u, w = 1 :: u) → ∃ r z, (z = one1 ∨ z = Tn) ∧ W w = sg (Pm z r) ∧ 2 * r.length ≤ w.length ∧ w.length ≤ 2 * r.length + 1 ∧ (w.length = 2 * r.length → z = one1)
  | _, [], _, _, _ => ⟨[], one1, .inl rfl, by decide, by simp, by simp, fun _ => rfl⟩
  | _, [x], _, _, h => by
    have : x = 1 := by
      rcases h with h | ⟨u, h⟩
      · cases h
      · injection h
    subst this
    exact ⟨[], Tn, .inr rfl, by decide, by simp, by simp, fun h => by simp at h⟩
  | 0, _ :: _ :: _, hn, _, _ => by simp at hn
  | n + 1, x :: k :: w, hn, hr, h => by
    have : x = 1 := by
      rcases h with h | ⟨u, h⟩
      · cases h
      · injection h
    subst this
    have ok := okL_cons.mp hr.1
    have ok2 := okL_cons.mp ok.2
    have ha := hr.2
    rw [altB, Bool.and_eq_true] at ha
    have hk : k ≠ 1 := fun e => by subst e; exact absurd ha.1 (by decide)
    have hw : red w := ⟨ok2.2, alt_tail ha.2⟩
    have h1 : w = [] ∨ ∃ u, w = 1 :: u := by
      cases w with
      | nil => exact .inl rfl
      | cons y w =>
        have h2 := ha.2
        rw [altB, Bool.and_eq_true] at h2
        refine .inr ⟨w, ?_⟩
        have : y = 1 := by
          have z := h2.1
          have : (k == 1) = false := by simpa using hk
          rw [this] at z
          simpa using z
        rw [this]
    obtain ⟨r, z, hz, e, l1, l2, l3⟩ := parts n w (by simp at hn; omega) hw h1
    have dz : det (Pm z r) = 1 := det_Pm (by rcases hz with rfl | rfl <;> rfl) r
    have split : W (1 :: k :: w) = P (W [1, k]) (W w) := W_app [1, k] w
    rcases ok2.1 with rfl | rfl | rfl
    · exact absurd rfl hk
    · exact ⟨true :: r, z, hz, by rw [split, e, P_T dz]; rfl, by simp; omega, by simp; omega, fun q => l3 (by simp at q; omega)⟩
    · exact ⟨false :: r, z, hz, by rw [split, e, P_L dz]; rfl, by simp; omega, by simp; omega, fun q => l3 (by simp at q; omega)⟩
theorem sg_cases {x y : M} (h : sg x = y) : x = y ∨ x = ngM y := by
  rcases sg_or x with q | q
  · exact .inl (q ▸ h)
  · rw [q] at h
    right
    rw [← h, ng_ng]
theorem W_ne {w : List Int} (hr : red w) (h : W w = one1) : w = [] := by
  by_cases hw : w = [] ∨ ∃ u, w = 1 :: u
  · obtain ⟨r, z, hz, e, l1, l2, l3⟩ := parts w.length w (Nat.le_refl _) hr hw
    rw [e] at h
    obtain ⟨p1, p2, p3, p4⟩ := Pm_nn r
    rcases hz with rfl | rfl
    · rcases sg_cases h with q | q
      · have := Pm_one q
        subst this
        rcases hw with rfl | ⟨u, rfl⟩
        · rfl
        · have l2 : u.length + 1 ≤ 2 * 0 + 1 := l2
          have : u = [] := List.eq_nil_of_length_eq_zero (by omega)
          subst this
          exact absurd (e : W [1] = _) (by decide)
      · rw [show ngM one1 = (-1, 0, 0, -1) from rfl] at q
        rw [q] at p1; simp at p1
    · rw [Pm_Tn] at h
      rcases sg_cases h with q | q
      · have q : _ ∧ 0 - (Pm one1 r).1 = 0 ∧ _ := M_eq q
        omega
      · have q : _ ∧ 0 - (Pm one1 r).1 = 0 - 0 ∧ _ := M_eq q
        omega
  · exfalso
    have hne : w ≠ [] := fun z => hw (.inl z)
    match w, hne with
    | k :: w', _ =>
      have hk : k ≠ 1 := fun z => hw (.inr ⟨w', by rw [z]⟩)
      have hr' : red (1 :: k :: w') := ⟨okL_cons.mpr ⟨.inl rfl, hr.1⟩, by rw [altB, hr.2]; simp [hk]⟩
      obtain ⟨r, z, hz, e, l1, l2, l3⟩ := parts _ _ (Nat.le_refl _) hr' (.inr ⟨_, rfl⟩)
      have hT : W (1 :: k :: w') = Tn := by
        have := W_app [1] (k :: w')
        rw [List.singleton_append] at this
        rw [this, h]; decide
      rw [hT] at e
      obtain ⟨p1, p2, p3, p4⟩ := Pm_nn r
      have hrn : r ≠ [] := fun z => by subst z; simp at l2
      rcases hz with rfl | rfl
      · rcases sg_cases e.symm with q | q
        · have q : (Pm one1 r).1 = 0 ∧ _ := M_eq q
          omega
        · have q : (Pm one1 r).1 = 0 - 0 ∧ _ := M_eq q
          omega
      · rw [Pm_Tn] at e
        rcases sg_cases e.symm with q | q
        · have q : (Pm one1 r).2.1 = 0 ∧ 0 - (Pm one1 r).1 = -1 ∧ (Pm one1 r).2.2.2 = 1 ∧ 0 - (Pm one1 r).2.2.1 = 0 := M_eq q
          obtain ⟨q1, q2, q3, q4⟩ := q
          exact hrn (Pm_one (eq_M (show (Pm one1 r).1 = 1 by omega) q1 (show (Pm one1 r).2.2.1 = 0 by omega) q3))
        · have q : (Pm one1 r).2.1 = 0 - 0 ∧ 0 - (Pm one1 r).1 = 0 - -1 ∧ (Pm one1 r).2.2.2 = 0 - 1 ∧ _ := M_eq q
          omega
/-! taken back -/
def bk (l : Int) : Int := if l = 1 then 1 else 5 - l
def back (w : List Int) : List Int := w.reverse.map bk
theorem back_snoc (w : List Int) (l : Int) : back (w ++ [l]) = bk l :: back w := by simp [back]
theorem back_cons (w : List Int) (l : Int) : back (l :: w) = back w ++ [bk l] := by simp [back]
theorem bk_ok {l : Int} (h : l = 1 ∨ l = 2 ∨ l = 3) : bk l = 1 ∨ bk l = 2 ∨ bk l = 3 := by
  rcases h with rfl | rfl | rfl <;> decide
theorem bk_one {l : Int} (h : l = 1 ∨ l = 2 ∨ l = 3) : (bk l == 1) = (l == 1) := by
  rcases h with rfl | rfl | rfl <;> decide
theorem back_okL {w : List Int} (h : okL w) : okL (back w) := fun l hl => by
  obtain ⟨k, hk, rfl⟩ := List.mem_map.mp hl
  exact bk_ok (h k (by simpa using hk))
theorem back_red {w : List Int} (h : red w) : red (back w) := by
  refine ⟨back_okL h.1, ?_⟩
  have : ∀ (n : Nat) (w : List Int), w.length = n → red w → altB (back w) = true := by
    intro n
    induction n with
    | zero => intro w hn _; rw [List.eq_nil_of_length_eq_zero hn]; rfl
    | succ n ih =>
      intro w hn hr
      rcases List.eq_nil_or_concat w with rfl | ⟨u, l, rfl⟩
      · rfl
      · rw [List.concat_eq_append] at hr hn ⊢
        have i := ih u (by simpa using hn) ⟨(okL_app.mp hr.1).1, alt_init hr.2⟩
        rw [back_snoc]
        rcases List.eq_nil_or_concat u with rfl | ⟨v, m, rfl⟩
        · rfl
        · rw [List.concat_eq_append] at hr i ⊢
          rw [back_snoc] at i ⊢
          have a := hr.2
          rw [List.append_assoc, List.singleton_append, alt_join, Bool.and_eq_true, altB, Bool.and_eq_true] at a
          rw [altB, i, bk_one (hr.1 l (by simp)), bk_one (hr.1 m (by simp))]
          have := a.2.1
          revert this
          cases (m == 1) <;> cases (l == 1) <;> simp
  exact this _ w rfl h
theorem W_two {l : Int} (h : l = 1 ∨ l = 2 ∨ l = 3) : W [l, bk l] = one1 := by
  rcases h with rfl | rfl | rfl <;> decide
theorem W_cut {x m y : List Int} (h : W m = one1) : W (x ++ m ++ y) = W (x ++ y) := by
  rw [W_app, W_app, W_app, h, P_one' (W_good x)]
theorem W_sub {x m m' y : List Int} (h : W m = W m') : W (x ++ m ++ y) = W (x ++ m' ++ y) := by
  rw [W_app, W_app, W_app (x ++ m'), W_app x m', h]
theorem W_back : ∀ (n : Nat) (w : List Int), w.length = n → okL w → W (w ++ back w) = one1
  | 0, w, hn, _ => by rw [List.eq_nil_of_length_eq_zero hn]; rfl
  | n + 1, w, hn, h => by
    rcases List.eq_nil_or_concat w with rfl | ⟨u, l, rfl⟩
    · simp at hn
    · rw [List.concat_eq_append] at hn h ⊢
      rw [back_snoc, show u ++ [l] ++ bk l :: back u = u ++ [l, bk l] ++ back u from by simp, W_cut (W_two (h l (by simp)))]
      exact W_back n u (by simpa using hn) (okL_app.mp h).1
theorem key : ∀ (n : Nat) (v u : List Int), v.length = n → red u → red v → (back v).foldl stp u = [] → u = v
  | 0, v, u, hn, _, _, h => by
    rw [List.eq_nil_of_length_eq_zero hn] at h ⊢
    exact h
  | n + 1, v, u, hn, hu, hv, h => by
    rcases List.eq_nil_or_concat v with rfl | ⟨v, l, rfl⟩
    · simp at hn
    · rw [List.concat_eq_append] at *
      have hl := hv.1 l (by simp)
      have hv' : red v := ⟨(okL_app.mp hv.1).1, alt_init hv.2⟩
      have hb := (back_red hv).2
      rw [back_snoc] at h hb
      rw [List.foldl_cons] at h
      rcases List.eq_nil_or_concat u with rfl | ⟨u, m, rfl⟩
      · rw [stp_nil, fold_push _ (by simpa using hb)] at h
        simp at h
      · rw [List.concat_eq_append] at *
        have hm := hu.1 m (by simp)
        have hu' : red u := ⟨(okL_app.mp hu.1).1, alt_init hu.2⟩
        have merge : ∀ k : Int, stp (u ++ [m]) (bk l) = u ++ [k] → (k == 1) = (m == 1) → (k == 1) = (l == 1) → False := fun k e k1 k2 => by
          rw [e, fold_push] at h
          · simp at h
          · rw [List.append_assoc, List.singleton_append, alt_join, alt_last k1, hu.2, alt_first (b := bk l) (by rw [bk_one hl]; exact k2), hb]; rfl
        have push : stp (u ++ [m]) (bk l) = u ++ [m] ++ [bk l] → False := fun e => by
          have hx : altB (u ++ [m] ++ [bk l]) = true := by rw [← e]; exact (stp_red hu (bk_ok hl)).2
          rw [e, fold_push] at h
          · simp at h
          · rw [List.append_assoc, List.singleton_append, alt_join, hx, hb]; rfl
        have same : stp (u ++ [m]) (bk l) = u → m = l → u ++ [m] = v ++ [l] := fun e q => by
          rw [e] at h
          rw [key n v u (by simpa using hn) hu' hv' h, q]
        rcases hl with rfl | rfl | rfl <;> rcases hm with rfl | rfl | rfl
        · exact same (by rw [stp_snoc]; rfl) rfl
        · exact (push (by rw [stp_snoc]; rfl)).elim
        · exact (push (by rw [stp_snoc]; rfl)).elim
        · exact (push (by rw [stp_snoc]; rfl)).elim
        · exact same (by rw [stp_snoc]; rfl) rfl
        · exact (merge 2 (by rw [stp_snoc]; rfl) rfl rfl).elim
        · exact (push (by rw [stp_snoc]; rfl)).elim
        · exact (merge 3 (by rw [stp_snoc]; rfl) rfl rfl).elim
        · exact same (by rw [stp_snoc]; rfl) rfl
/-- each move is just one short row -/
theorem W_inj {u v : List Int} (hu : red u) (hv : red v) (h : W u = W v) : u = v := by
  refine key _ v u rfl hu hv ?_
  have hb := back_okL hv.1
  have e : shrt (u ++ back v) = (back v).foldl stp u := shrt_app_red hu.2
  rw [← e]
  refine W_ne (shrt_red (okL_app.mpr ⟨hu.1, hb⟩)) ?_
  rw [(shrt_W (okL_app.mpr ⟨hu.1, hb⟩)).1, W_app, h, ← W_app, W_back _ v rfl hv.1]
theorem shrt_eq {u v : List Int} (hu : okL u) (hv : okL v) (h : W u = W v) : shrt u = shrt v := W_inj (shrt_red hu) (shrt_red hv) (by rw [(shrt_W hu).1, (shrt_W hv).1, h])
theorem shrt_is {u v : List Int} (hu : okL u) (hv : red v) (h : W u = W v) : shrt u = v := W_inj (shrt_red hu) hv (by rw [(shrt_W hu).1, h])
end PL.WD
end

section
/-! how many steps and turns a short row makes -/
namespace PL.WD
open PL PL.K00 PL.RY

theorem quo_fuel : ∀ (f g : Nat) (a b c d : Int), c.natAbs < f → c.natAbs < g → quo f a b c d = quo g a b c d
  | 0, _, _, _, _, _, h, _ => by omega
  | _ + 1, 0, _, _, _, _, _, h => by omega
  | f + 1, g + 1, a, b, c, d, h1, h2 => by
    rw [quo, quo]
    by_cases z : c = 0
    · rw [if_pos z, if_pos z]
    · rw [if_neg z, if_neg z]
      have := (near_ok a c z).1
      rw [quo_fuel f g _ _ _ _ (by omega) (by omega)]
def cost : Nat → Int → Int → Int → Int → Nat
  | 0, _, _, _, _ => 0
  | f + 1, a, b, c, d => if c = 0 then b.natAbs + 1 else (near a c).natAbs + 1 + cost f c d (near a c * c - a) (near a c * d - b)
theorem cost_quo : ∀ (f : Nat) (a b c d : Int), sumA (quo f a b c d) + (quo f a b c d).length = cost f a b c d
  | 0, _, _, _, _ => rfl
  | f + 1, a, b, c, d => by
    rw [quo, cost]
    by_cases z : c = 0
    · rw [if_pos z, if_pos z]
      split <;> simp [sumA]
    · rw [if_neg z, if_neg z, ← cost_quo f]
      simp only [sumA, List.map_cons, List.sum_cons, List.length_cons]
      omega
theorem cost_fuel : ∀ (f g : Nat) (a b c d : Int), c.natAbs < f → c.natAbs < g → cost f a b c d = cost g a b c d
  | 0, _, _, _, _, _, h, _ => by omega
  | _ + 1, 0, _, _, _, _, _, h => by omega
  | f + 1, g + 1, a, b, c, d, h1, h2 => by
    rw [cost, cost]
    by_cases z : c = 0
    · rw [if_pos z, if_pos z]
    · rw [if_neg z, if_neg z]
      have := (near_ok a c z).1
      rw [cost_fuel f g _ _ _ _ (by omega) (by omega)]
def quoC (m : M) : List Int := quo (m.2.2.1.natAbs + 1) m.1 m.2.1 m.2.2.1 m.2.2.2
def C (m : M) : Nat := cost (m.2.2.1.natAbs + 1) m.1 m.2.1 m.2.2.1 m.2.2.2
theorem C_quo (m : M) : sumA (quoC m) + (quoC m).length = C m := cost_quo ..
theorem C_z (a b d : Int) : C (a, b, 0, d) = b.natAbs + 1 := by
  show cost ((0 : Int).natAbs + 1) a b 0 d = _
  rw [cost, if_pos rfl]
theorem C_s {a b c d : Int} (h : c ≠ 0) : C (a, b, c, d) = (near a c).natAbs + 1 + C (c, d, near a c * c - a, near a c * d - b) := by
  show cost (c.natAbs + 1) a b c d = _
  rw [cost, if_neg h]
  have := (near_ok a c h).1
  rw [cost_fuel _ ((near a c * c - a).natAbs + 1) _ _ _ _ (by omega) (by omega)]
  rfl
theorem near_is {a c k : Int} (hc : 0 < c) (h1 : 2 * a ≤ (2 * k + 1) * c) (h2 : (2 * k - 1) * c < 2 * a) : near a c = k := by
  unfold near
  rw [if_neg (by omega)]
  have e1 : (2 * k + 1) * c = 2 * (c * k) + c := by grind
  have e2 : (2 * k - 1) * c = 2 * (c * k) - c := by grind
  have e := Int.mul_ediv_add_emod (c - 2 * a) (2 * c)
  have m0 := Int.emod_nonneg (c - 2 * a) (show 2 * c ≠ 0 by omega)
  have m1 := Int.emod_lt_of_pos (c - 2 * a) (show 0 < 2 * c by omega)
  generalize (c - 2 * a) / (2 * c) = t at *
  generalize (c - 2 * a) % (2 * c) = m at *
  have e3 : 2 * c * t = 2 * (c * t) := by grind
  have e4 : c * (t + k) = c * t + c * k := by grind
  rcases Int.lt_trichotomy (t + k) 0 with z | z | z
  · exfalso
    have : c * (t + k) ≤ c * (-1) := Int.mul_le_mul_of_nonneg_left (by omega) (by omega)
    omega
  · omega
  · exfalso
    have : c * 1 ≤ c * (t + k) := Int.mul_le_mul_of_nonneg_left (by omega) (by omega)
    omega
theorem near_neg (a c : Int) (h : c ≠ 0) : near (0 - a) (0 - c) = near a c := by
  unfold near
  by_cases z : c < 0
  · rw [if_pos z, if_neg (by omega)]
  · rw [if_neg z, if_pos (by omega), show 0 - (0 - c) = c from by omega, show 0 - (0 - a) = a from by omega]
theorem near_add (a c k : Int) (h : c ≠ 0) : near (a + k * c) c = near a c + k := by
  unfold near
  split
  · rw [show 0 - c - 2 * (0 - (a + k * c)) = 0 - c - 2 * (0 - a) + (0 - k) * (2 * (0 - c)) from by grind, Int.add_mul_ediv_right _ _ (by omega)]; omega
  · rw [show c - 2 * (a + k * c) = c - 2 * a + (0 - k) * (2 * c) from by grind, Int.add_mul_ediv_right _ _ (by omega)]; omega
theorem C_ng : ∀ (n : Nat) (a b c d : Int), c.natAbs < n → C (0 - a, 0 - b, 0 - c, 0 - d) = C (a, b, c, d)
  | 0, _, _, _, _, h => by omega
  | n + 1, a, b, c, d, h => by
    by_cases z : c = 0
    · subst z
      show C (0 - a, 0 - b, 0, 0 - d) = _
      rw [C_z, C_z]; omega
    · rw [C_s (show 0 - c ≠ 0 by omega), C_s z, near_neg a c z]
      have := (near_ok a c z).1
      rw [show near a c * (0 - c) - (0 - a) = 0 - (near a c * c - a) from by grind, show near a c * (0 - d) - (0 - b) = 0 - (near a c * d - b) from by grind, C_ng n _ _ _ _ (by omega)]
theorem C_sg (m : M) : C (sg m) = C m := by
  rcases sg_or m with h | h <;> rw [h]
  exact C_ng _ _ _ _ _ (Nat.lt_succ_self _)
theorem C_St {a b c d : Int} (h : det (a, b, c, d) = 1) (k : Int) (hk : k = 1 ∨ k = -1) : C (a + k * c, b + k * d, c, d) ≤ C (a, b, c, d) + 1 := by
  by_cases z : c = 0
  · subst z
    rw [C_z, C_z]
    have h : a * d - b * 0 = 1 := h
    rw [Int.mul_zero, Int.sub_zero] at h
    have : d.natAbs = 1 := by
      have : (a * d).natAbs = 1 := by rw [h]; rfl
      rw [Int.natAbs_mul] at this
      exact Nat.eq_one_of_mul_eq_one_left this
    rcases hk with rfl | rfl <;> omega
  · rw [C_s z, C_s z, near_add a c k z, show (near a c + k) * c - (a + k * c) = near a c * c - a from by grind, show (near a c + k) * d - (b + k * d) = near a c * d - b from by grind]
    omega
def Sm (m : M) : M := (0 - m.2.2.1, 0 - m.2.2.2, m.1, m.2.1)
theorem bound {z : M} (hz : z = one1 ∨ z = Tn) : ∀ r : List Bool, C (Pm z r) ≤ 3 * r.length + 2 ∧ C (Sm (Pm z r)) ≤ 3 * r.length + 2 ∧ 0 ≤ (Pm z r).1 ∧ 0 ≤ (Pm z r).2.2.1 ∧ det (Pm z r) = 1
  | [] => by
    rcases hz with rfl | rfl <;> decide
  | o :: r => by
    obtain ⟨h1, h2, h3, h4, h5⟩ := bound hz r
    have pt : ∀ u, Pm z (true :: u) = Tm (Pm z u) := fun _ => rfl
    have pl : ∀ u, Pm z (false :: u) = Lm (Pm z u) := fun _ => rfl
    have dt : det (Pm z (o :: r)) = 1 := by
      cases o
      · rw [pl, det_Lm]; exact h5
      · rw [pt, det_Tm]; exact h5
    have ev : Pm z (o :: r) = bif o then Tm (Pm z r) else Lm (Pm z r) := by cases o <;> rfl
    rw [ev] at dt ⊢
    generalize Pm z r = x at *
    obtain ⟨a, b, c, d⟩ := x
    have h3 : 0 ≤ a := h3
    have h4 : 0 ≤ c := h4
    have h5' : a * d - b * c = 1 := h5
    have hp : 0 < a + c := by
      rcases Int.lt_or_eq_of_le h3 with q | q
      · omega
      · rcases Int.lt_or_eq_of_le h4 with w | w
        · omega
        · rw [← q, ← w] at h5'; simp at h5'
    have t1 : C (a + c, b + d, c, d) ≤ C (a, b, c, d) + 1 := by
      have := C_St h5 1 (.inl rfl)
      rwa [Int.one_mul, Int.one_mul] at this
    have h2 : C (0 - c, 0 - d, a, b) ≤ 3 * r.length + 2 := h2
    have t2 : C (0 - (a + c), 0 - (b + d), a, b) ≤ C (0 - c, 0 - d, a, b) + 1 := by
      have := C_St (a := 0 - c) (b := 0 - d) (c := a) (d := b) (show (0 - c) * b - (0 - d) * a = 1 by grind) (-1) (.inr rfl)
      rwa [show 0 - c + -1 * a = 0 - (a + c) from by omega, show 0 - d + -1 * b = 0 - (b + d) from by omega] at this
    have t3 : C (a + c, b + d, 0 - a, 0 - b) = C (0 - (a + c), 0 - (b + d), a, b) := by
      have := C_ng _ (0 - (a + c)) (0 - (b + d)) a b (Nat.lt_succ_self _)
      rwa [show 0 - (0 - (a + c)) = a + c from by omega, show 0 - (0 - (b + d)) = b + d from by omega] at this
    rw [List.length_cons]
    refine ⟨?_, ?_, ?_, ?_, dt⟩
    · cases o
      · show C (a, b, a + c, b + d) ≤ _
        rw [C_s (by omega)]
        by_cases q : c < a
        · rw [near_is (k := 1) hp (by omega) (by omega), show 1 * (a + c) - a = c from by omega, show 1 * (b + d) - b = d from by omega]
          show 1 + 1 + _ ≤ _
          omega
        · rw [near_is (k := 0) hp (by omega) (by omega), show 0 * (a + c) - a = 0 - a from by omega, show 0 * (b + d) - b = 0 - b from by omega, t3]
          show 0 + 1 + _ ≤ _
          omega
      · show C (a + c, b + d, c, d) ≤ _
        omega
    · cases o
      · show C (0 - (a + c), 0 - (b + d), a, b) ≤ _
        omega
      · show C (0 - c, 0 - d, a + c, b + d) ≤ _
        rw [C_s (by omega)]
        by_cases q : c < a
        · rw [near_is (k := 0) hp (by omega) (by omega), show 0 * (a + c) - (0 - c) = c from by omega, show 0 * (b + d) - (0 - d) = d from by omega]
          show 0 + 1 + _ ≤ _
          omega
        · rw [near_is (k := -1) hp (by omega) (by omega), show -1 * (a + c) - (0 - c) = 0 - a from by omega, show -1 * (b + d) - (0 - d) = 0 - b from by omega, t3]
          show 1 + 1 + _ ≤ _
          omega
    · cases o
      · exact h3
      · show 0 ≤ a + c; omega
    · cases o
      · show 0 ≤ a + c; omega
      · exact h4
theorem C_word {w : List Int} (hr : red w) : C (W w) ≤ 2 * w.length + 6 := by
  by_cases hw : w = [] ∨ ∃ u, w = 1 :: u
  · obtain ⟨r, z, hz, e, l1, l2, l3⟩ := parts w.length w (Nat.le_refl _) hr hw
    rw [e, C_sg]
    have := (bound hz r).1
    omega
  · match w, hw, hr with
    | [], hw, _ => exact absurd (.inl rfl) hw
    | k :: w', hw, hr =>
      have hk : k ≠ 1 := fun z => hw (.inr ⟨w', by rw [z]⟩)
      have hr' : red (1 :: k :: w') := ⟨okL_cons.mpr ⟨.inl rfl, hr.1⟩, by rw [altB, hr.2]; simp [hk]⟩
      obtain ⟨r, z, hz, e, l1, l2, l3⟩ := parts _ _ (Nat.le_refl _) hr' (.inr ⟨_, rfl⟩)
      obtain ⟨_, b2, _, _, b5⟩ := bound hz r
      have hT : W (k :: w') = P Tn (W (1 :: k :: w')) := by
        have e1 := W_app [1, 1] (k :: w')
        have e2 := W_app [1] (1 :: k :: w')
        rw [show W [1, 1] = one1 from by decide, P_one (W_good _)] at e1
        rw [← e1, show W [1] = Tn from by decide] at *
        exact e2
      have e3 : P Tn (sg (Pm z r)) = sg (Sm (Pm z r)) := by
        unfold P
        rw [sg_mul_r (by decide) b5]
        congr 1
        simp only [mulM, Sm, Tn, Prod.mk.injEq]
        refine ⟨?_, ?_, ?_, ?_⟩ <;> omega
      rw [hT, e, e3, C_sg]
      simp only [List.length_cons] at *
      omega
end PL.WD
end

section
/-! round rows -/
namespace PL.WD
open PL PL.K00 PL.RY

theorem lex_tri : ∀ u v : List Int, u < v ∨ u = v ∨ v < u
  | [], [] => .inr (.inl rfl)
  | [], b :: v => .inl (List.nil_lt_cons b v)
  | a :: u, [] => .inr (.inr (List.nil_lt_cons a u))
  | a :: u, b :: v => by
    rcases Int.lt_trichotomy a b with h | h | h
    · exact .inl (List.cons_lt_cons_iff.mpr (.inl h))
    · rcases lex_tri u v with k | k | k
      · exact .inl (List.cons_lt_cons_iff.mpr (.inr ⟨h, k⟩))
      · exact .inr (.inl (by rw [h, k]))
      · exact .inr (.inr (List.cons_lt_cons_iff.mpr (.inr ⟨h.symm, k⟩)))
    · exact .inr (.inr (List.cons_lt_cons_iff.mpr (.inl h)))
theorem lex_irr : ∀ u : List Int, ¬ u < u
  | [], h => List.not_lt_nil _ h
  | a :: u, h => by
    rcases List.cons_lt_cons_iff.mp h with k | ⟨_, k⟩
    · omega
    · exact lex_irr u k
theorem lex_tr : ∀ {u v w : List Int}, u < v → v < w → u < w
  | _, _, [], _, h => absurd h (List.not_lt_nil _)
  | _, [], c :: w, h, _ => absurd h (List.not_lt_nil _)
  | [], b :: v, c :: w, _, _ => List.nil_lt_cons c w
  | a :: u, b :: v, c :: w, h, k => by
    rcases List.cons_lt_cons_iff.mp h with h1 | ⟨h1, h2⟩ <;> rcases List.cons_lt_cons_iff.mp k with k1 | ⟨k1, k2⟩
    · exact List.cons_lt_cons_iff.mpr (.inl (by omega))
    · exact List.cons_lt_cons_iff.mpr (.inl (by omega))
    · exact List.cons_lt_cons_iff.mpr (.inl (by omega))
    · exact List.cons_lt_cons_iff.mpr (.inr ⟨by omega, lex_tr h2 k2⟩)
theorem tmin_fold : ∀ (xs : List (List Int)) (x : List Int), (xs.foldl (fun a y => if y < a then y else a) x = x ∨ xs.foldl (fun a y => if y < a then y else a) x ∈ xs) ∧ ¬ x < xs.foldl (fun a y => if y < a then y else a) x ∧ ∀ y ∈ xs, ¬ y < xs.foldl (fun a y => if y < a then y else a) x
  | [], x => ⟨.inl rfl, lex_irr x, fun y h => by cases h⟩
  | z :: xs, x => by
    rw [List.foldl_cons]
    by_cases h : z < x
    · rw [if_pos h]
      obtain ⟨h1, h2, h3⟩ := tmin_fold xs z
      refine ⟨.inr ?_, fun k => h2 (lex_tr h k), fun y hy => ?_⟩
      · rcases h1 with q | q
        · rw [q]; simp
        · exact List.mem_cons_of_mem _ q
      · rcases List.mem_cons.mp hy with rfl | q
        · exact h2
        · exact h3 y q
    · rw [if_neg h]
      obtain ⟨h1, h2, h3⟩ := tmin_fold xs x
      refine ⟨?_, h2, fun y hy => ?_⟩
      · rcases h1 with q | q
        · exact .inl q
        · exact .inr (List.mem_cons_of_mem _ q)
      · rcases List.mem_cons.mp hy with rfl | q
        · intro k
          rcases lex_tri y x with p | p | p
          · exact h p
          · exact h2 (p ▸ k)
          · exact h2 (lex_tr p k)
        · exact h3 y q
theorem tmin_ok {l : List (List Int)} (h : l ≠ []) : tmin l ∈ l ∧ ∀ y ∈ l, ¬ y < tmin l := by
  match l, h with
  | x :: xs, _ =>
    obtain ⟨h1, h2, h3⟩ := tmin_fold xs x
    refine ⟨?_, fun y hy => ?_⟩
    · rcases h1 with q | q
      · show xs.foldl _ x ∈ _
        rw [q]; simp
      · exact List.mem_cons_of_mem _ q
    · rcases List.mem_cons.mp hy with rfl | q
      · exact h2
      · exact h3 y q
theorem tmin_eq {l m : List (List Int)} (hl : l ≠ []) (h : ∀ x, x ∈ l ↔ x ∈ m) : tmin l = tmin m := by
  have hm : m ≠ [] := by
    intro z
    subst z
    match l, hl with
    | x :: xs, _ => exact absurd ((h x).mp (by simp)) (by simp)
  obtain ⟨a1, a2⟩ := tmin_ok hl
  obtain ⟨b1, b2⟩ := tmin_ok hm
  rcases lex_tri (tmin l) (tmin m) with q | q | q
  · exact absurd q (b2 _ ((h _).mp a1))
  · exact q
  · exact absurd q (a2 _ ((h _).mpr b1))
def rots (u : List Int) : List (List Int) := (List.range (max 1 u.length)).map fun k => u.drop k ++ u.take k
def canon (u : List Int) : List Int := tmin (rots u)
theorem mem_rots {u v : List Int} : v ∈ rots u ↔ ∃ p q, u = p ++ q ∧ v = q ++ p := by
  unfold rots
  rw [List.mem_map]
  constructor
  · rintro ⟨k, _, rfl⟩
    exact ⟨u.take k, u.drop k, (List.take_append_drop k u).symm, rfl⟩
  · rintro ⟨p, q, rfl, rfl⟩
    cases q with
    | nil => exact ⟨0, by simp; omega, by simp⟩
    | cons x q => exact ⟨p.length, by simp; omega, by simp⟩
theorem rots_ne (u : List Int) : rots u ≠ [] := by
  intro h
  have : u ∈ rots u := mem_rots.mpr ⟨[], u, rfl, by simp⟩
  rw [h] at this
  cases this
theorem canon_rot (a : Int) (u : List Int) : canon (u ++ [a]) = canon (a :: u) := by
  refine tmin_eq (rots_ne _) fun v => ?_
  rw [mem_rots, mem_rots]
  constructor
  · rintro ⟨p, q, h, rfl⟩
    rcases List.eq_nil_or_concat q with rfl | ⟨q', b, rfl⟩
    · rw [List.append_nil] at h
      exact ⟨[a], u, rfl, by rw [← h]; rfl⟩
    · rw [List.concat_eq_append, ← List.append_assoc] at h
      obtain ⟨h1, h2⟩ := List.append_inj' h rfl
      injection h2 with h2
      subst h1 h2
      exact ⟨a :: p, q', rfl, by simp⟩
  · rintro ⟨p, q, h, rfl⟩
    cases p with
    | nil =>
      have h : a :: u = q := h
      subst h
      exact ⟨u, [a], rfl, by simp⟩
    | cons b p =>
      injection h with h1 h2
      subst h1 h2
      exact ⟨p, q ++ [a], by simp, by simp⟩
def same (w : List Int) : Bool := decide (1 < w.length) && ((w.headD 0 == 1) == (w.getLastD 0 == 1))
def rot : List Int → List Int
  | [] => []
  | a :: m => shrt (m ++ [a])
def cyc : Nat → List Int → List Int
  | 0, w => w
  | n + 1, w => if same w then cyc n (rot w) else w
def ring (w : List Int) : List Int := canon (cyc w.length w)
theorem red_tail {a : Int} {m : List Int} (h : red (a :: m)) : red m := ⟨(okL_cons.mp h.1).2, alt_tail h.2⟩
theorem okL_rot {a : Int} {m : List Int} (h : red (a :: m)) : okL (m ++ [a]) := okL_app.mpr ⟨(okL_cons.mp h.1).2, okL_cons.mpr ⟨(okL_cons.mp h.1).1, okL_nil⟩⟩
theorem rot_red {w : List Int} (h : red w) : red (rot w) := by
  cases w with
  | nil => exact h
  | cons a m => exact shrt_red (okL_rot h)
theorem rot_stp {a : Int} {m : List Int} (h : red (a :: m)) : rot (a :: m) = stp m a := by
  show shrt (m ++ [a]) = _
  rw [shrt_app_red (red_tail h).2]; rfl
theorem same_ends (a b : Int) (m : List Int) : same (a :: (m ++ [b])) = ((a == 1) == (b == 1)) := by
  unfold same
  rw [List.getLastD_eq_getLast?, ← List.cons_append, List.getLast?_append]
  simp
theorem ends_of {w : List Int} (h : same w = true) : ∃ a m b, w = a :: (m ++ [b]) ∧ (a == 1) = (b == 1) := by
  match w with
  | [] => simp [same] at h
  | [a] => simp [same] at h
  | a :: c :: m =>
    obtain ⟨m', b, e⟩ : ∃ m' b, c :: m = m' ++ [b] := by
      rcases List.eq_nil_or_concat (c :: m) with q | ⟨m', b, q⟩
      · cases q
      · exact ⟨m', b, by rw [q, List.concat_eq_append]⟩
    rw [e] at h ⊢
    rw [same_ends] at h
    exact ⟨a, m', b, rfl, by simpa using h⟩
theorem rot_len {w : List Int} (h : red w) (hs : same w = true) : (rot w).length < w.length := by
  obtain ⟨a, m, b, rfl, e⟩ := ends_of hs
  rw [rot_stp h, stp_snoc, if_neg (by rw [e]; simp)]
  split
  · simp; omega
  · split <;> simp <;> omega
theorem cyc_stop {n : Nat} {w : List Int} (h : same w = false) : cyc n w = w := by
  cases n with
  | zero => rfl
  | succ n => rw [cyc, h]; rfl
theorem cyc_fuel : ∀ (n k : Nat) (w : List Int), red w → w.length ≤ n → w.length ≤ k → cyc n w = cyc k w
  | 0, k, w, _, h, _ => by
    rw [List.eq_nil_of_length_eq_zero (Nat.le_zero.mp h), cyc_stop rfl, cyc_stop rfl]
  | n + 1, 0, w, _, _, h => by
    rw [List.eq_nil_of_length_eq_zero (Nat.le_zero.mp h), cyc_stop rfl, cyc_stop rfl]
  | n + 1, k + 1, w, hr, h1, h2 => by
    cases hs : same w with
    | false => rw [cyc_stop hs, cyc_stop hs]
    | true =>
      rw [cyc, cyc, hs, if_pos rfl, if_pos rfl]
      have := rot_len hr hs
      exact cyc_fuel n k _ (rot_red hr) (by omega) (by omega)
theorem ring_stop {w : List Int} (h : same w = false) : ring w = canon w := by unfold ring; rw [cyc_stop h]
theorem ring_rot {w : List Int} (hr : red w) : ring (rot w) = ring w := by
  cases hs : same w with
  | true =>
    have := rot_len hr hs
    have e : ring w = canon (cyc (w.length + 1) w) := by unfold ring; rw [cyc_fuel w.length (w.length + 1) w hr (by omega) (by omega)]
    rw [e, cyc, hs, if_pos rfl]
    unfold ring
    rw [cyc_fuel _ w.length _ (rot_red hr) (Nat.le_refl _) (by omega)]
  | false =>
    match w, hr with
    | [], _ => rfl
    | [a], hr => rw [rot_stp hr]; rfl
    | a :: c :: m, hr =>
      obtain ⟨m', b, e⟩ : ∃ m' b, c :: m = m' ++ [b] := by
        rcases List.eq_nil_or_concat (c :: m) with q | ⟨m', b, q⟩
        · cases q
        · exact ⟨m', b, by rw [q, List.concat_eq_append]⟩
      have hne : ((b == 1) != (a == 1)) = true := by
        rw [e, same_ends] at hs
        revert hs
        cases (a == 1) <;> cases (b == 1) <;> simp
      have e2 : rot (a :: c :: m) = c :: m ++ [a] := by
        rw [rot_stp hr, e, stp_snoc, if_pos hne]
      rw [e2, ring_stop hs, ← canon_rot a (c :: m)]
      refine ring_stop ?_
      rw [List.cons_append, same_ends]
      have := hr.2
      rw [altB, Bool.and_eq_true] at this
      revert this
      cases (a == 1) <;> cases (c == 1) <;> simp
theorem W_rot {a : Int} {m : List Int} (h : red (a :: m)) : W (rot (a :: m)) = W (bk a :: a :: m ++ [a]) := by
  show W (shrt (m ++ [a])) = _
  have ha := (okL_cons.mp h.1).1
  rw [(shrt_W (okL_rot h)).1]
  have := W_cut (x := []) (y := m ++ [a]) (show W [bk a, a] = one1 by rcases ha with rfl | rfl | rfl <;> decide)
  simpa using this.symm
def cj (l : Int) (w : List Int) : List Int := shrt (bk l :: w ++ [l])
/-- one letter on each side -/
theorem ring_cj {w : List Int} (hr : red w) {l : Int} (hl : l = 1 ∨ l = 2 ∨ l = 3) : ring (cj l w) = ring w ∧ red (cj l w) := by
  have ok : okL (bk l :: w ++ [l]) := by
    rw [List.cons_append]
    exact okL_cons.mpr ⟨bk_ok hl, okL_app.mpr ⟨hr.1, okL_cons.mpr ⟨hl, okL_nil⟩⟩⟩
  refine ⟨?_, shrt_red ok⟩
  match w, hr with
  | [], _ =>
    have : cj l [] = [] := by rcases hl with rfl | rfl | rfl <;> decide
    rw [this]
  | a :: m, hr =>
    have ha := (okL_cons.mp hr.1).1
    have hd : ∀ (h : Int) (t : List Int), red (h :: t) → t ≠ [] → ∃ t', stp (h :: t) l = h :: t' := fun h t _ ht => by
      obtain ⟨t', b, e⟩ : ∃ t' b, t = t' ++ [b] := by
        rcases List.eq_nil_or_concat t with q | ⟨t', b, q⟩
        · exact absurd q ht
        · exact ⟨t', b, by rw [q, List.concat_eq_append]⟩
      rw [e, ← List.cons_append, stp_snoc]
      split
      · exact ⟨_, by rw [List.cons_append, List.cons_append]⟩
      · split
        · exact ⟨_, rfl⟩
        · split
          · exact ⟨_, by rw [List.cons_append]⟩
          · exact ⟨_, rfl⟩
    have hc : red (cj l (a :: m)) := shrt_red ok
    have wc : W (cj l (a :: m)) = W (bk l :: a :: m ++ [l]) := (shrt_W ok).1
    have rr : ∀ (h : Int) (t g g' : List Int), cj l (a :: m) = h :: t → W [l, h] = W g → W [bk h, bk l] = W g' → W (rot (cj l (a :: m))) = W (g' ++ (a :: m) ++ g) := fun h t g g' e e1 e2 => by
      have hv : red (h :: t) := e ▸ hc
      have s1 := W_sub (x := [bk h]) (y := [h]) (e ▸ wc)
      have s2 := W_sub (x := [bk h, bk l] ++ (a :: m)) (y := []) e1
      have s3 := W_sub (x := []) (y := (a :: m) ++ g) e2
      rw [e, W_rot hv]
      simp only [List.append_nil, List.nil_append, List.cons_append, List.append_assoc] at s1 s2 s3 ⊢
      rw [s1, s2, s3]
    have back1 : ∀ t, cj l (a :: m) = bk l :: t → ring (cj l (a :: m)) = ring (a :: m) := fun t e => by
      rw [← ring_rot hc]
      have := rr _ t [] [] e (W_two hl) (by rcases hl with rfl | rfl | rfl <;> decide)
      rw [W_inj (rot_red hc) hr (by rw [this]; simp)]
    by_cases hcl : (l == 1) = (a == 1)
    · by_cases hla : l = a
      · subst hla
        have e1 : W (cj l (l :: m)) = W (rot (l :: m)) := by rw [wc, W_rot hr]
        rw [W_inj hc (rot_red hr) e1, ring_rot hr]
      · have h2 : (l = 2 ∧ a = 3) ∨ (l = 3 ∧ a = 2) := by
          rcases hl with rfl | rfl | rfl <;> rcases ha with rfl | rfl | rfl <;> first | (exfalso; exact hla rfl) | (exfalso; revert hcl; decide) | simp
        by_cases hm : m = []
        · subst hm
          have : cj l [a] = [a] := by rcases h2 with ⟨rfl, rfl⟩ | ⟨rfl, rfl⟩ <;> decide
          rw [this]
        · have hlm : red (l :: m) := ⟨okL_cons.mpr ⟨hl, (okL_cons.mp hr.1).2⟩, by rw [alt_first hcl]; exact hr.2⟩
          have e1 : cj l (a :: m) = stp (l :: m) l := by
            show shrt (bk l :: a :: m ++ [l]) = _
            have z := W_sub (x := []) (y := m ++ [l]) (show W [bk l, a] = W [l] by rcases h2 with ⟨rfl, rfl⟩ | ⟨rfl, rfl⟩ <;> decide)
            have z2 : W (l :: m ++ [l]) = W (shrt (l :: m ++ [l])) := ((shrt_W (okL_app.mpr ⟨hlm.1, okL_cons.mpr ⟨hl, okL_nil⟩⟩)).1).symm
            rw [show stp (l :: m) l = shrt (l :: m ++ [l]) from by rw [shrt_app_red hlm.2]; rfl]
            refine shrt_eq ok (okL_app.mpr ⟨hlm.1, okL_cons.mpr ⟨hl, okL_nil⟩⟩) ?_
            simpa using z
          obtain ⟨t', e2⟩ := hd l m hlm hm
          have e3 := rr l t' [a] [bk a] (e1.trans e2) (by rcases h2 with ⟨rfl, rfl⟩ | ⟨rfl, rfl⟩ <;> decide) (by rcases h2 with ⟨rfl, rfl⟩ | ⟨rfl, rfl⟩ <;> decide)
          rw [← ring_rot hc, ← ring_rot hr]
          congr 1
          refine W_inj (rot_red hc) (rot_red hr) ?_
          rw [e3, W_rot hr]
          rfl
    · have hv : red (bk l :: a :: m) := ⟨okL_cons.mpr ⟨bk_ok hl, hr.1⟩, by
        rw [altB, hr.2, bk_one hl]
        revert hcl
        cases (l == 1) <;> cases (a == 1) <;> simp⟩
      obtain ⟨t', e⟩ := hd (bk l) (a :: m) hv (by simp)
      refine back1 t' ?_
      rw [← e]
      show shrt (bk l :: a :: m ++ [l]) = _
      rw [shrt_app_red hv.2]; rfl
/-- turned ones have one round row -/
theorem ring_back : ∀ (x : List Int) {w : List Int}, red w → okL x → ring (shrt (back x ++ w ++ x)) = ring w
  | [], w, hr, _ => by
    show ring (shrt ([] ++ w ++ [])) = _
    rw [List.append_nil, List.nil_append, shrt_self hr.2]
  | l :: x, w, hr, hx => by
    obtain ⟨h1, h2⟩ := ring_cj hr (okL_cons.mp hx).1
    have hx' := (okL_cons.mp hx).2
    rw [← h1, ← ring_back x h2 hx']
    congr 1
    refine shrt_eq ?_ ?_ ?_
    · exact okL_app.mpr ⟨okL_app.mpr ⟨back_okL hx, hr.1⟩, hx⟩
    · exact okL_app.mpr ⟨okL_app.mpr ⟨back_okL hx', h2.1⟩, hx'⟩
    · have z := W_sub (x := back x) (y := x) (show W (cj l w) = W (bk l :: w ++ [l]) from (shrt_W (okL_app.mpr ⟨okL_cons.mpr ⟨bk_ok (okL_cons.mp hx).1, hr.1⟩, okL_cons.mpr ⟨(okL_cons.mp hx).1, okL_nil⟩⟩)).1)
      rw [z, back_cons]
      simp
end PL.WD
end

section
/-! the row of a move; round rows told the other way -/
namespace PL.WD
open PL PL.K00 PL.RY

theorem quoC_z (a b d : Int) : quoC (a, b, 0, d) = [if 0 < d then b else 0 - b] := by
  show quo ((0 : Int).natAbs + 1) a b 0 d = _
  rw [quo, if_pos rfl]
theorem quoC_s {a b c d : Int} (h : c ≠ 0) : quoC (a, b, c, d) = near a c :: quoC (c, d, near a c * c - a, near a c * d - b) := by
  show quo (c.natAbs + 1) a b c d = _
  rw [quo, if_neg h]
  have := (near_ok a c h).1
  rw [quo_fuel _ ((near a c * c - a).natAbs + 1) _ _ _ _ (by omega) (by omega)]
  rfl
theorem quoC_ne (m : M) : quoC m ≠ [] := quo_ne _ _ _ _ _ (Nat.succ_pos _)
theorem quoC_M {m : M} (h : good m) : rowM (quoC m) = m := by
  obtain ⟨a, b, c, d⟩ := m
  exact (quo_M _ a b c d (Nat.lt_succ_self _) h.1).trans (sg_good h)
def wordC (m : M) : List Int := shrt (wl 0 (quoC m))
theorem wordC_W {w : List Int} (h : red w) : wordC (W w) = w := by
  obtain ⟨h1, h2⟩ := wl_ok _ (quoC_ne (W w))
  exact shrt_is h2 h (by rw [h1, quoC_M (W_good w)])
theorem wl_len : ∀ (k : Nat) (rs : List Int), (wl k rs).length ≤ 2 * sumA rs + rs.length
  | _, [] => by simp [wl]
  | k, q :: rs => by
    have ih := wl_len (k + 1) rs
    have h := lw_len q
    have hs : sumA (q :: rs) = q.natAbs + sumA rs := by simp [sumA]
    have hone : (if 0 < k then [(1 : Int)] else []).length ≤ 1 := by split <;> simp
    rw [wl, hs]
    simp only [List.length_append, List.length_cons]
    omega
theorem mem_sumA : ∀ (rs : List Int) (q : Int), q ∈ rs → q.natAbs ≤ sumA rs
  | x :: rs, q, h => by
    have hs : sumA (x :: rs) = x.natAbs + sumA rs := by simp [sumA]
    rcases List.mem_cons.mp h with rfl | h
    · omega
    · have := mem_sumA rs q h; omega
/-! the program's way round -/
def stepP (w : List Int) : List Int := if same (rot w) then shrt ((rot w).getLastD 0 :: (rot w).dropLast) else rot w
theorem shrt_len (w : List Int) : (shrt w).length ≤ w.length := by simpa [shrt] using fold_len w []
theorem ring_last {w : List Int} (hr : red w) (hs : same w = true) : ring (shrt (w.getLastD 0 :: w.dropLast)) = ring w ∧ red (shrt (w.getLastD 0 :: w.dropLast)) ∧ (shrt (w.getLastD 0 :: w.dropLast)).length ≤ w.length := by
  obtain ⟨a, m, b, rfl, e⟩ := ends_of hs
  have hb : b = 1 ∨ b = 2 ∨ b = 3 := hr.1 b (by simp)
  have hl : (a :: (m ++ [b])).getLastD 0 = b := by
    rw [List.getLastD_eq_getLast?, ← List.cons_append, List.getLast?_append]; simp
  have hd : (a :: (m ++ [b])).dropLast = a :: m := by rw [← List.cons_append, List.dropLast_concat]
  rw [hl, hd]
  have hbb : bk (bk b) = b := by rcases hb with rfl | rfl | rfl <;> decide
  have e2 : shrt (b :: a :: m) = cj (bk b) (a :: (m ++ [b])) := by
    have o1 : okL (b :: a :: m) := by
      have := okL_app.mp (show okL ((a :: m) ++ [b]) from hr.1)
      exact okL_cons.mpr ⟨hb, this.1⟩
    unfold cj
    refine shrt_eq o1 ?_ ?_
    · rw [List.cons_append]
      exact okL_cons.mpr ⟨bk_ok (bk_ok hb), okL_app.mpr ⟨hr.1, okL_cons.mpr ⟨bk_ok hb, okL_nil⟩⟩⟩
    · rw [hbb]
      have := W_cut (x := b :: a :: m) (y := []) (W_two hb)
      simp only [List.append_nil] at this
      rw [← this]; simp
  obtain ⟨h1, h2⟩ := ring_cj hr (bk_ok hb)
  refine ⟨by rw [e2, h1], by rw [e2]; exact h2, ?_⟩
  have := shrt_len (b :: a :: m)
  simp at this ⊢
  omega
theorem stepP_ok {w : List Int} (hr : red w) (hs : same w = true) : ring (stepP w) = ring w ∧ red (stepP w) ∧ (stepP w).length < w.length := by
  have h1 := rot_len hr hs
  unfold stepP
  cases h : same (rot w) with
  | false => exact ⟨ring_rot hr, rot_red hr, h1⟩
  | true =>
    obtain ⟨k1, k2, k3⟩ := ring_last (rot_red hr) h
    exact ⟨by rw [if_pos rfl, k1, ring_rot hr], k2, by rw [if_pos rfl]; omega⟩
def loopP : Nat → List Int → List Int
  | 0, w => w
  | n + 1, w => if same w then loopP n (stepP w) else w
theorem loopP_ok : ∀ (n : Nat) (w : List Int), red w → w.length ≤ n → canon (loopP n w) = ring w ∧ (loopP n w).length ≤ w.length ∧ red (loopP n w)
  | 0, w, hr, h => by
    have := List.eq_nil_of_length_eq_zero (Nat.le_zero.mp h)
    subst this
    exact ⟨rfl, by simp [loopP], hr⟩
  | n + 1, w, hr, h => by
    rw [loopP]
    cases hs : same w with
    | false => exact ⟨(ring_stop hs).symm, by simp, hr⟩
    | true =>
      obtain ⟨h1, h2, h3⟩ := stepP_ok hr hs
      obtain ⟨k1, k2, k3⟩ := loopP_ok n _ h2 (by omega)
      exact ⟨by rw [if_pos rfl, k1, h1], by rw [if_pos rfl]; omega, k3⟩
/-! moves back -/
theorem W_adj {w : List Int} (h : okL w) : W (back w) = sg (adj (W w)) := by
  have e := W_back _ w rfl h
  rw [W_app] at e
  have g := W_good (back w)
  have d1 := W_det w
  have d2 := W_det (back w)
  have d3 : det (adj (W w)) = 1 := by rw [det_adj]; exact d1
  have e3 : P (adj (W w)) (W w) = one1 := by
    unfold P
    generalize W w = x at *
    obtain ⟨a, b, c, d⟩ := x
    have : mulM (adj (a, b, c, d)) (a, b, c, d) = one1 := by
      have h : a * d - b * c = 1 := d1
      simp only [mulM, adj, one1, Prod.mk.injEq]
      refine ⟨?_, ?_, ?_, ?_⟩ <;> grind
    rw [this]; rfl
  have e2 : P (P (adj (W w)) (W w)) (W (back w)) = P (adj (W w)) one1 := by rw [P_assoc d3 d1 d2, e]
  rw [e3, P_one g] at e2
  rw [e2]
  unfold P
  rw [mul_one']
end PL.WD
end

section
/-! a move led back letter by letter -/
namespace PL.WD
open PL PL.K00 PL.RY

def iv (l : Int) : M := sg (adj (ltr l))
def bkT (p : Int) (h : M) : M := (h.1, h.2.1 + p * h.1, h.2.2.1, h.2.2.2 + p * h.2.2.1)
theorem det_bkT {h : M} (p : Int) (g : det h = 1) : det (bkT p h) = 1 := by
  obtain ⟨a, b, c, d⟩ := h
  have g : a * d - b * c = 1 := g
  show a * (d + p * c) - (b + p * a) * c = 1
  grind
theorem good_bkT {h : M} (p : Int) (g : good h) : good (bkT p h) := by
  refine ⟨det_bkT p g.1, ?_⟩
  rcases g.2 with q | ⟨q1, q2⟩
  · exact .inl q
  · refine .inr ⟨q1, ?_⟩
    show h.2.2.2 + p * h.2.2.1 = 1
    rw [q1, q2]; simp
theorem det_iv (l : Int) : det (iv l) = 1 := by unfold iv; rw [det_sg, det_adj]; exact det_ltr l
theorem P_iv (l : Int) : P (iv l) (ltr l) = one1 := by
  unfold ltr iv ltr; split <;> (try split) <;> decide
theorem two_12 {h : M} (g : good h) : P (P h (iv 2)) (iv 1) = bkT (-1) h := by
  rw [P_assoc g.1 (det_iv 2) (det_iv 1), show P (iv 2) (iv 1) = (1, -1, 0, 1) from by decide]
  have : mulM h (1, -1, 0, 1) = bkT (-1) h := by
    simp only [mulM, bkT, Prod.mk.injEq]; refine ⟨?_, ?_, ?_, ?_⟩ <;> omega
  unfold P
  rw [this]; exact sg_good (good_bkT _ g)
theorem two_31 {h : M} (g : good h) : P (P h (iv 1)) (iv 3) = bkT 1 h := by
  rw [P_assoc g.1 (det_iv 1) (det_iv 3), show P (iv 1) (iv 3) = (1, 1, 0, 1) from by decide]
  have : mulM h (1, 1, 0, 1) = bkT 1 h := by
    simp only [mulM, bkT, Prod.mk.injEq]; refine ⟨?_, ?_, ?_, ?_⟩ <;> omega
  unfold P
  rw [this]; exact sg_good (good_bkT _ g)
theorem two_W {h : M} (g : good h) (l1 l2 : Int) : P (P (P h (iv l2)) (iv l1)) (W [l1, l2]) = h := by
  have e : W [l1, l2] = P (ltr l1) (ltr l2) := by
    show P (P one1 (ltr l1)) (ltr l2) = _
    rw [P_one]
    unfold ltr; split <;> (try split) <;> exact ⟨rfl, .inl (by decide)⟩
  have d1 := det_iv l1
  have d2 := det_iv l2
  have d3 := det_ltr l1
  have d4 := det_ltr l2
  rw [e, ← P_assoc (det_P (det_P g.1 d2) d1) d3 d4, P_assoc (det_P g.1 d2) d1 d3, P_iv, P_one' (good_P g.1 d2), P_assoc g.1 d2 d4, P_iv, P_one' g]
theorem one_W {h : M} (g : good h) : P (P h Tn) (W [1]) = h := by
  rw [show W [1] = Tn from by decide, P_assoc g.1 (by rfl) (by rfl), show P Tn Tn = one1 from by decide, P_one' g]
def stepN (h : M) : Int := 0 - (2 * h.2.2.2 + h.2.2.1) / (2 * h.2.2.1)
theorem stepN_near {h : M} (hc : 0 < h.2.2.1) : stepN h = near h.2.2.2 (0 - h.2.2.1) := by
  unfold stepN near
  rw [if_pos (by omega), show 0 - (0 - h.2.2.1) - 2 * (0 - h.2.2.2) = 2 * h.2.2.2 + h.2.2.1 from by omega, show 0 - (0 - h.2.2.1) = h.2.2.1 from by omega]
theorem C_adj {h : M} (hc : 0 < h.2.2.1) : C (adj h) = (stepN h).natAbs + 1 + C (0 - h.2.2.1, h.1, stepN h * (0 - h.2.2.1) - h.2.2.2, stepN h * h.1 - (0 - h.2.1)) := by
  rw [stepN_near hc]
  exact C_s (by omega)
theorem C_adj_T {h : M} (g : good h) (hc : 0 < h.2.2.1) (hs : stepN h = 0) : C (adj (P h Tn)) + 1 = C (adj h) := by
  rw [C_adj hc, hs]
  have e : C (adj (P h Tn)) = C (0 - h.2.2.1, h.1, 0 * (0 - h.2.2.1) - h.2.2.2, 0 * h.1 - (0 - h.2.1)) := by
    obtain ⟨a, b, c, d⟩ := h
    have m : mulM (a, b, c, d) Tn = (b, 0 - a, d, 0 - c) := by
      simp only [mulM, Tn, Prod.mk.injEq]; refine ⟨?_, ?_, ?_, ?_⟩ <;> omega
    unfold P
    rw [m]
    show C (adj (sg (b, 0 - a, d, 0 - c))) = C (0 - c, a, 0 * (0 - c) - d, 0 * a - (0 - b))
    rw [show 0 * (0 - c) - d = 0 - d from by omega, show 0 * a - (0 - b) = b from by omega]
    rcases sg_or (b, 0 - a, d, 0 - c) with q | q <;> rw [q]
    · show C (0 - c, 0 - (0 - a), 0 - d, b) = _
      rw [show 0 - (0 - a) = a from by omega]
    · show C (0 - (0 - c), 0 - (0 - (0 - a)), 0 - (0 - d), 0 - b) = _
      rw [show 0 - (0 - (0 - a)) = 0 - a from by omega]
      exact C_ng _ (0 - c) a (0 - d) b (Nat.lt_succ_self _)
  rw [e]
  show _ = 0 + 1 + _
  omega
theorem stepN_bk {h : M} (p : Int) (hc : 0 < h.2.2.1) : stepN (bkT p h) = stepN h - p := by
  show 0 - (2 * (h.2.2.2 + p * h.2.2.1) + h.2.2.1) / (2 * h.2.2.1) = 0 - (2 * h.2.2.2 + h.2.2.1) / (2 * h.2.2.1) - p
  rw [show 2 * (h.2.2.2 + p * h.2.2.1) + h.2.2.1 = 2 * h.2.2.2 + h.2.2.1 + p * (2 * h.2.2.1) from by grind, Int.add_mul_ediv_right _ _ (by omega)]
  omega
theorem C_adj_bk {h : M} (p : Int) (hc : 0 < h.2.2.1) (hp : (stepN h - p).natAbs + 1 = (stepN h).natAbs) : C (adj (bkT p h)) + 1 = C (adj h) := by
  rw [C_adj hc, C_adj (h := bkT p h) hc, stepN_bk p hc]
  show (stepN h - p).natAbs + 1 + C (0 - h.2.2.1, h.1, (stepN h - p) * (0 - h.2.2.1) - (h.2.2.2 + p * h.2.2.1), (stepN h - p) * h.1 - (0 - (h.2.1 + p * h.1))) + 1 = _
  rw [show (stepN h - p) * (0 - h.2.2.1) - (h.2.2.2 + p * h.2.2.1) = stepN h * (0 - h.2.2.1) - h.2.2.2 from by grind, show (stepN h - p) * h.1 - (0 - (h.2.1 + p * h.1)) = stepN h * h.1 - (0 - h.2.1) from by grind]
  omega
theorem C_adj_z {h : M} (hc : h.2.2.1 = 0) : C (adj h) = h.2.1.natAbs + 1 := by
  obtain ⟨a, b, c, d⟩ := h
  have hc : c = 0 := hc
  subst hc
  show C (d, 0 - b, 0 - 0, a) = _
  rw [show (0 : Int) - 0 = 0 from rfl, C_z]
  show (0 - b).natAbs + 1 = b.natAbs + 1
  omega
theorem C_pos (m : M) : 1 ≤ C m := by
  obtain ⟨a, b, c, d⟩ := m
  by_cases h : c = 0
  · subst h; rw [C_z]; omega
  · rw [C_s h]; omega
theorem good_z {h : M} (g : good h) (hc : h.2.2.1 = 0) : h.1 = 1 ∧ h.2.2.2 = 1 := by
  have d : h.2.2.2 = 1 := by rcases g.2 with q | q
                             · omega
                             · exact q.2
  refine ⟨?_, d⟩
  have : h.1 * h.2.2.2 - h.2.1 * h.2.2.1 = 1 := g.1
  rw [hc, d] at this
  omega
end PL.WD
end

section
namespace PL.K01
open PySem PySem.Spec L2 PL
def top (i : Nat) : Stmt := PySem.Challenge.pw_tablelots_k01_main_each_move_is_one_word.main.body.getD i (.Pass ⟨0, 0, 0, 0⟩)
abbrev s0 : Stmt := top 5
/-- is_number -/
def f0 : FnD := ⟨"is_number", ["thing"], ["thing"], [
  .ret (.andor true [.isi (.var 0) ["int"], .not_ (.isi (.var 0) ["bool"])])]⟩
abbrev s1 : Stmt := top 6
/-- is_within -/
def f1 : FnD := ⟨"is_within", ["thing", "least", "most"], ["thing", "least", "most"], [
  .ret (.andor true [.call 0 [.var 0], .chain .LtE .LtE (.var 1) (.var 0) (.var 2)])]⟩
abbrev s2 : Stmt := top 7
/-- is_long -/
def f2 : FnD := ⟨"is_long", ["thing", "length"], ["thing", "length"], [
  .ret (.andor true [.isi (.var 0) ["tuple"], .cmp .Eq (.bi .len [.var 0]) (.var 1)])]⟩
abbrev s3 : Stmt := top 8
/-- are_numbers -/
def f3 : FnD := ⟨"are_numbers", ["thing", "length"], ["thing", "length", "own"], [
  .ret (.andor true [.call 2 [.var 0, .var 1], .bi .all [.comp [2] (.e (.var 0)) (.nm 2) none (.call 0 [.var 2])]])]⟩
abbrev s4 : Stmt := top 9
/-- tupled -/
def f4 : FnD := ⟨"tupled", ["value"], ["value", "own"], [
  .ret (.ite (.isi (.var 0) ["list", "tuple"]) (.bi .tuple [.comp [1] (.e (.var 0)) (.nm 1) none (.call 4 [.var 1])]) (.var 0))]⟩
abbrev s5 : Stmt := top 15
/-- is_move_of -/
def f5 : FnD := ⟨"is_move_of", ["thing"], ["thing"], [
  .if_ (.andor false [.not_ (.call 3 [.var 0, .int 4]), .cmp .NotEq (.bin .sub (.bin .mul (.ix (.var 0) (.int 0)) (.ix (.var 0) (.int 3))) (.bin .mul (.ix (.var 0) (.int 1)) (.ix (.var 0) (.int 2)))) (.int 1)]) [.ret (.bl false)] [],
  .ret (.andor false [.cmp .Gt (.ix (.var 0) (.int 2)) (.int 0), .andor true [.cmp .Eq (.ix (.var 0) (.int 2)) (.int 0), .cmp .Eq (.ix (.var 0) (.int 3)) (.int 1)]])]⟩
abbrev s6 : Stmt := top 16
/-- sure_move -/
def f6 : FnD := ⟨"sure_move", ["move"], ["move", "own"], [
  .set 1 (.call 4 [.var 0]),
  .if_ (.not_ (.call 5 [.var 1])) [.raise_ 2] [],
  .ret (.var 1)]⟩
abbrev s7 : Stmt := top 17
/-- signed -/
def f7 : FnD := ⟨"signed", ["table"], ["table", "own"], [
  .if_ (.andor false [.cmp .Gt (.ix (.var 0) (.int 2)) (.int 0), .andor true [.cmp .Eq (.ix (.var 0) (.int 2)) (.int 0), .cmp .Gt (.ix (.var 0) (.int 3)) (.int 0)]]) [.ret (.var 0)] [],
  .ret (.bi .tuple [.comp [1] (.e (.var 0)) (.nm 1) none (.bin .sub (.int 0) (.var 1))])]⟩
abbrev s8 : Stmt := top 18
/-- product -/
def f8 : FnD := ⟨"product", ["one", "other"], ["one", "other", "a", "b", "c", "d", "e", "f", "g", "h"], [
  .unp [2, 3, 4, 5] (.var 0),
  .unp [6, 7, 8, 9] (.var 1),
  .ret (.call 7 [.tup [.bin .add (.bin .mul (.var 2) (.var 6)) (.bin .mul (.var 3) (.var 8)), .bin .add (.bin .mul (.var 2) (.var 7)) (.bin .mul (.var 3) (.var 9)), .bin .add (.bin .mul (.var 4) (.var 6)) (.bin .mul (.var 5) (.var 8)), .bin .add (.bin .mul (.var 4) (.var 7)) (.bin .mul (.var 5) (.var 9))]])]⟩
abbrev s9 : Stmt := top 23
/-- is_row_of -/
def f9 : FnD := ⟨"is_row_of", ["thing"], ["thing", "own"], [
  .ret (.andor true [.isi (.var 0) ["tuple"], .bi .all [.comp [1] (.e (.var 0)) (.nm 1) none (.call 1 [.var 1, .int 1, .int 3])]])]⟩
abbrev s10 : Stmt := top 24
/-- is_word_of -/
def f10 : FnD := ⟨"is_word_of", ["thing"], ["thing", "one", "two"], [
  .ret (.andor true [.call 9 [.var 0], .bi .all [.comp [1, 2] (.zip [.var 0, .sl (.var 0) (some (.int 1)) none]) (.tp [1, 2]) none (.cmp .NotEq (.cmp .Eq (.var 1) (.int 1)) (.cmp .Eq (.var 2) (.int 1)))]])]⟩
abbrev s11 : Stmt := top 25
/-- sure_row -/
def f11 : FnD := ⟨"sure_row", ["row"], ["row", "own"], [
  .set 1 (.call 4 [.var 0]),
  .if_ (.not_ (.call 9 [.var 1])) [.raise_ 2] [],
  .ret (.var 1)]⟩
abbrev s12 : Stmt := top 26
/-- sure_word -/
def f12 : FnD := ⟨"sure_word", ["word"], ["word", "own"], [
  .set 1 (.call 4 [.var 0]),
  .if_ (.not_ (.call 10 [.var 1])) [.raise_ 2] [],
  .ret (.var 1)]⟩
abbrev s13 : Stmt := top 27
/-- shortest -/
def f13 : FnD := ⟨"shortest", ["row"], ["row", "found", "own", "both"], [
  .set 1 (.lst []),
  .for_ (.nm 2) (.e (.var 0)) [.if_ (.andor false [.cmp .Eq (.var 1) (.lst []), .cmp .NotEq (.cmp .Eq (.ix (.var 1) (.neg (.int 1))) (.int 1)) (.cmp .Eq (.var 2) (.int 1))]) [.ex (.app 1 (.var 2))] [.if_ (.cmp .Eq (.var 2) (.int 1)) [.ex (.pop 1)] [.set 3 (.bin .mod (.bin .sub (.bin .add (.bin .sub (.pop 1) (.int 1)) (.var 2)) (.int 1)) (.int 3)), .if_ (.cmp .NotEq (.var 3) (.int 0)) [.ex (.app 1 (.bin .add (.var 3) (.int 1)))] []]]],
  .ret (.bi .tuple [.var 1])]⟩
abbrev s14 : Stmt := top 28
/-- back_of -/
def f14 : FnD := ⟨"back_of", ["word"], ["word", "own"], [
  .ret (.bi .tuple [.comp [1] (.e (.rev (.var 0))) (.nm 1) none (.ite (.cmp .Eq (.var 1) (.int 1)) (.var 1) (.bin .sub (.int 5) (.var 1)))])]⟩
abbrev s15 : Stmt := top 29
/-- move_in -/
def f15 : FnD := ⟨"move_in", ["row"], ["row", "found", "own"], [
  .set 1 (.con 0),
  .for_ (.nm 2) (.e (.var 0)) [.set 1 (.call 8 [.var 1, .dix 0 (.var 2)])],
  .ret (.var 1)]⟩
abbrev s16 : Stmt := top 30
/-- nearest -/
def f16 : FnD := ⟨"nearest", ["above", "below"], ["above", "below"], [
  .if_ (.cmp .Lt (.var 1) (.int 0)) [.par [0, 1] [.bin .sub (.int 0) (.var 0), .bin .sub (.int 0) (.var 1)]] [],
  .ret (.bin .sub (.int 0) (.bin .fdiv (.bin .sub (.var 1) (.bin .mul (.int 2) (.var 0))) (.bin .mul (.int 2) (.var 1))))]⟩
abbrev s17 : Stmt := top 31
/-- quotients -/
def f17 : FnD := ⟨"quotients", ["move"], ["move", "a", "b", "c", "d", "found", "step"], [
  .unp [1, 2, 3, 4] (.var 0),
  .set 5 (.lst []),
  .wh (.cmp .NotEq (.var 3) (.int 0)) [.set 6 (.call 16 [.var 1, .var 3]), .ex (.app 5 (.var 6)), .par [1, 2, 3, 4] [.var 3, .var 4, .bin .sub (.bin .mul (.var 6) (.var 3)) (.var 1), .bin .sub (.bin .mul (.var 6) (.var 4)) (.var 2)]],
  .ret (.bin .add (.var 5) (.lst [.ite (.cmp .Gt (.var 4) (.int 0)) (.var 2) (.bin .sub (.int 0) (.var 2))]))]⟩
abbrev s18 : Stmt := top 32
/-- word_in -/
def f18 : FnD := ⟨"word_in", ["move"], ["move", "rows", "own", "found", "place"], [
  .set 1 (.call 17 [.var 0]),
  .if_ (.cmp .Gt (.bi .sum [.comp [2] (.e (.var 1)) (.nm 2) none (.bi .abs [.var 2])]) (.con 4)) [.raise_ 1] [],
  .set 3 (.lst []),
  .for_ (.tp [4, 2]) (.enum (.var 1)) [.if_ (.cmp .Gt (.var 4) (.int 0)) [.ex (.app 3 (.int 1))] [], .ex (.ext 3 (.ite (.cmp .GtE (.var 2) (.int 0)) (.bin .mul (.lst [.int 1, .int 2]) (.var 2)) (.bin .mul (.lst [.int 3, .int 1]) (.bin .sub (.int 0) (.var 2)))))],
  .ret (.call 13 [.var 3])]⟩
abbrev s19 : Stmt := top 33
/-- round_of -/
def f19 : FnD := ⟨"round_of", ["word"], ["word", "own", "place"], [
  .set 1 (.var 0),
  .wh (.andor true [.cmp .Gt (.bi .len [.var 1]) (.int 1), .cmp .Eq (.cmp .Eq (.ix (.var 1) (.int 0)) (.int 1)) (.cmp .Eq (.ix (.var 1) (.neg (.int 1))) (.int 1))]) [.set 1 (.call 13 [.bin .add (.sl (.var 1) (some (.int 1)) none) (.sl (.var 1) none (some (.int 1)))]), .if_ (.andor true [.cmp .Gt (.bi .len [.var 1]) (.int 1), .cmp .Eq (.cmp .Eq (.ix (.var 1) (.int 0)) (.int 1)) (.cmp .Eq (.ix (.var 1) (.neg (.int 1))) (.int 1))]) [.set 1 (.call 13 [.bin .add (.tup [.ix (.var 1) (.neg (.int 1))]) (.sl (.var 1) none (some (.neg (.int 1))))])] []],
  .ret (.bi .min1 [.comp [2] (.rng [.bi .max2 [.int 1, .bi .len [.var 1]]]) (.nm 2) none (.bin .add (.sl (.var 1) (some (.var 2)) none) (.sl (.var 1) none (some (.var 2))))])]⟩
abbrev s20 : Stmt := top 34
/-- words_of -/
def f20 : FnD := ⟨"words_of", ["length"], ["length", "found", "lap", "word", "own"], [
  .set 1 (.lst [.tup []]),
  .for_ (.nm 2) (.rng [.var 0]) [.set 1 (.comp2 [3, 4] (.e (.var 1)) (.nm 3) none [4] (.e (.tup [.int 1, .int 2, .int 3])) (.nm 4) (some (.andor false [.cmp .Eq (.var 3) (.tup []), .cmp .NotEq (.cmp .Eq (.ix (.var 3) (.neg (.int 1))) (.int 1)) (.cmp .Eq (.var 4) (.int 1))])) (.bin .add (.var 3) (.tup [.var 4])))],
  .ret (.var 1)]⟩
abbrev s21 : Stmt := top 35
/-- is_word -/
def f21 : FnD := ⟨"is_word", ["thing"], ["thing"], [
  .ret (.call 10 [.var 0])]⟩
abbrev s22 : Stmt := top 36
/-- word_of -/
def f22 : FnD := ⟨"word_of", ["move"], ["move"], [
  .ret (.call 18 [.call 6 [.var 0]])]⟩
abbrev s23 : Stmt := top 37
/-- move_by -/
def f23 : FnD := ⟨"move_by", ["row"], ["row"], [
  .ret (.call 15 [.call 11 [.var 0]])]⟩
abbrev s24 : Stmt := top 38
/-- shortened -/
def f24 : FnD := ⟨"shortened", ["row"], ["row"], [
  .ret (.call 13 [.call 11 [.var 0]])]⟩
abbrev s25 : Stmt := top 39
/-- word_behind -/
def f25 : FnD := ⟨"word_behind", ["one", "other"], ["one", "other", "near", "far"], [
  .par [2, 3] [.call 12 [.var 0], .call 12 [.var 1]],
  .ret (.call 13 [.bin .add (.var 2) (.var 3)])]⟩
abbrev s26 : Stmt := top 40
/-- word_back -/
def f26 : FnD := ⟨"word_back", ["word"], ["word"], [
  .ret (.call 14 [.call 12 [.var 0]])]⟩
abbrev s27 : Stmt := top 41
/-- all_words -/
def f27 : FnD := ⟨"all_words", ["length"], ["length"], [
  .if_ (.not_ (.call 1 [.var 0, .int 0, .int 2000])) [.raise_ 2] [],
  .if_ (.cmp .Gt (.var 0) (.con 5)) [.raise_ 1] [],
  .ret (.call 20 [.var 0])]⟩
abbrev s28 : Stmt := top 42
/-- how_many_words -/
def f28 : FnD := ⟨"how_many_words", ["length"], ["length", "one", "two", "lap"], [
  .if_ (.not_ (.call 1 [.var 0, .int 0, .int 2000])) [.raise_ 2] [],
  .par [1, 2] [.int 1, .int 2],
  .for_ (.nm 3) (.rng [.bin .sub (.var 0) (.int 1)]) [.par [1, 2] [.var 2, .bin .mul (.int 2) (.var 1)]],
  .ret (.ite (.cmp .Eq (.var 0) (.int 0)) (.int 1) (.bin .add (.var 1) (.var 2)))]⟩
abbrev s29 : Stmt := top 43
/-- round_word -/
def f29 : FnD := ⟨"round_word", ["word"], ["word"], [
  .ret (.call 19 [.call 12 [.var 0]])]⟩
abbrev s30 : Stmt := top 44
/-- are_turned -/
def f30 : FnD := ⟨"are_turned", ["one", "other"], ["one", "other", "near", "far"], [
  .par [2, 3] [.call 6 [.var 0], .call 6 [.var 1]],
  .ret (.cmp .Eq (.call 19 [.call 18 [.var 2]]) (.call 19 [.call 18 [.var 3]]))]⟩
abbrev s31 : Stmt := top 45
/-- step_rows -/
def f31 : FnD := ⟨"step_rows", ["move"], ["move"], [
  .ret (.bi .tuple [.call 17 [.call 6 [.var 0]]])]⟩
abbrev s32 : Stmt := top 47
/-- _law_box -/
def f32 : FnD := ⟨"_law_box", ["script", "k"], ["script", "k", "bit_so"], [
  .set 2 (.ite (.cmp .Lt (.var 1) (.bi .len [.var 0])) (.ix (.var 0) (.var 1)) (.int 0)),
  .ret (.lst [.bin .mul (.bi .abs [.var 2]) (.bi .int1 [.cmp .GtE (.bi .abs [.var 2]) (.bin .pow (.int 10) (.int 18))]), .bin .add (.bin .add (.bin .mod (.bi .int1 [.var 2]) (.int 2305843009213693951)) (.bin .mul (.int 39373) (.var 1))) (.int 9284001), .int 0])]⟩
abbrev s33 : Stmt := top 48
/-- _law_take -/
def f33 : FnD := ⟨"_law_take", ["tin", "below_so"], ["tin", "below_so", "drawn_so", "once_so", "wide_so", "twice_so"], [
  .if_ (.cmp .Gt (.ix (.var 0) (.int 0)) (.int 0)) [.set 2 (.bin .mod (.bi .int1 [.ix (.var 0) (.int 0)]) (.var 1)), .six 0 (.int 0) (.bin .fdiv (.ix (.var 0) (.int 0)) (.var 1)), .ret (.var 2)] [],
  .six 0 (.int 2) (.bin .add (.ix (.var 0) (.int 2)) (.int 1)),
  .set 3 (.bin .mod (.bi .int1 [.bin .mul (.bin .add (.ix (.var 0) (.int 1)) (.bin .mul (.int 48271) (.ix (.var 0) (.int 2)))) (.bin .add (.int 39373) (.ix (.var 0) (.int 2)))]) (.int 2147483647)),
  .set 4 (.bin .add (.bin .mod (.bi .int1 [.var 3]) (.int 40009)) (.int 7)),
  .set 5 (.bin .mod (.bi .int1 [.bin .mul (.bin .add (.bin .add (.var 3) (.ix (.var 0) (.int 2))) (.bin .fdiv (.ix (.var 0) (.int 1)) (.int 1000003))) (.var 4)]) (.int 2147483629)),
  .ret (.bin .mod (.bi .int1 [.bin .fdiv (.bin .mod (.bi .int1 [.bin .add (.bin .mul (.var 5) (.int 48271)) (.var 3)]) (.int 2147483587)) (.int 64)]) (.var 1))]⟩
abbrev s34 : Stmt := top 49
/-- _law_cells -/
def f34 : FnD := ⟨"_law_cells", ["script", "most_so"], ["script", "most_so", "cells_so", "k", "bit_so", "at_so"], [
  .set 2 (.andor false [.bi .list [.sl (.var 0) none (some (.var 1))], .lst [.int 0]]),
  .for_ (.tp [3, 4]) (.enum (.sl (.var 0) (some (.var 1)) (some (.int 63)))) [.set 5 (.bin .mod (.bi .int1 [.var 3]) (.var 1)), .six 2 (.var 5) (.bin .add (.ix (.var 2) (.var 5)) (.bin .mul (.var 4) (.bin .add (.var 3) (.int 2))))],
  .ret (.var 2)]⟩
abbrev s35 : Stmt := top 50
/-- _law_lists -/
def f35 : FnD := ⟨"_law_lists", ["matter"], ["matter", "bit"], [
  .ret (.ite (.isi (.var 0) ["list", "tuple"]) (.comp [1] (.e (.var 0)) (.nm 1) none (.call 35 [.var 1])) (.var 0))]⟩
abbrev s36 : Stmt := top 51
/-- _law_same -/
def f36 : FnD := ⟨"_law_same", ["got", "due"], ["got", "due", "mine", "its"], [
  .if_ (.isi (.var 1) ["list", "tuple"]) [.if_ (.andor false [.cmp .NotEq (.isi (.var 0) ["list"]) (.isi (.var 1) ["list"]), .cmp .NotEq (.isi (.var 0) ["tuple"]) (.isi (.var 1) ["tuple"])]) [.ret (.bl false)] [], .ret (.andor true [.cmp .Eq (.bi .len [.var 0]) (.bi .len [.var 1]), .bi .all [.comp [2, 3] (.zip [.var 0, .var 1]) (.tp [2, 3]) none (.call 36 [.var 2, .var 3])]])] [],
  .if_ (.cmp .Is (.var 1) (.non)) [.ret (.cmp .Is (.var 0) (.non))] [],
  .if_ (.isi (.var 1) ["bool", "str"]) [.ret (.andor true [.cmp .Eq (.isi (.var 0) ["bool"]) (.isi (.var 1) ["bool"]), .cmp .Eq (.isi (.var 0) ["str"]) (.isi (.var 1) ["str"]), .cmp .Eq (.var 0) (.var 1)])] [],
  .ret (.andor true [.isi (.var 0) ["int"], .not_ (.isi (.var 0) ["bool"]), .cmp .Eq (.var 0) (.var 1)])]⟩
abbrev s37 : Stmt := top 52
/-- _law_unmarked -/
def f37 : FnD := ⟨"_law_unmarked", ["told_so"], ["told_so"], [
  .ret (.ite (.andor true [.isi (.var 0) ["list"], .cmp .Gt (.bi .len [.var 0]) (.int 0), .isi (.ix (.var 0) (.int 0)) ["str"]]) (.lst [.str "told", .str "a mark"]) (.var 0))]⟩
abbrev s38 : Stmt := top 53
/-- _law_spoil -/
def f38 : FnD := ⟨"_law_spoil", ["matter"], ["matter"], [
  .if_ (.isi (.var 0) ["list"]) [.ex (.app 0 (.tup []))] []]⟩
abbrev s39 : Stmt := top 54
/-- _law_call -/
def f39 : FnD := ⟨"_law_call", ["door", "goods_so"], ["door", "goods_so"], [
  .if_ (.cmp .Lt (.bi .len [.var 1]) (.int 3)) [.ret (.ite (.cmp .Eq (.bi .len [.var 1]) (.int 1)) (.calld 0 [.ix (.var 1) (.int 0)]) (.calld 0 [.ix (.var 1) (.int 0), .ix (.var 1) (.int 1)]))] [],
  .ret (.ite (.cmp .Eq (.bi .len [.var 1]) (.int 3)) (.calld 0 [.ix (.var 1) (.int 0), .ix (.var 1) (.int 1), .ix (.var 1) (.int 2)]) (.calld 0 [.ix (.var 1) (.int 0), .ix (.var 1) (.int 1), .ix (.var 1) (.int 2), .ix (.var 1) (.int 3)]))]⟩
abbrev s40 : Stmt := top 55
/-- _law_told_anew -/
def f40 : FnD := ⟨"_law_told_anew", ["door", "goods_so", "due"], ["door", "goods_so", "due", "thin_so", "told_so"], [
  .set 3 (.call 35 [.var 1]),
  .set 4 (.call 39 [.var 0, .var 3]),
  .if_ (.andor false [.not_ (.callt 36 [.var 4, .var 2]), .not_ (.call 36 [.var 3, .call 35 [.var 1]])]) [.ret (.bl false)] [],
  .ex (.call 38 [.var 4]),
  .ret (.call 36 [.call 39 [.var 0, .var 1], .var 2])]⟩
abbrev s41 : Stmt := top 56
/-- _law_mark -/
def f41 : FnD := ⟨"_law_mark", ["move"], ["move", "own"], [
  .ret (.ite (.andor false [.cmp .Gt (.ix (.var 0) (.int 2)) (.int 0), .andor true [.cmp .Eq (.ix (.var 0) (.int 2)) (.int 0), .cmp .Gt (.ix (.var 0) (.int 3)) (.int 0)]]) (.var 0) (.bi .tuple [.comp [1] (.e (.var 0)) (.nm 1) none (.bin .sub (.int 0) (.var 1))]))]⟩
abbrev s42 : Stmt := top 57
/-- _law_times -/
def f42 : FnD := ⟨"_law_times", ["one", "two"], ["one", "two"], [
  .ret (.call 41 [.tup [.bin .add (.bin .mul (.ix (.var 0) (.int 0)) (.ix (.var 1) (.int 0))) (.bin .mul (.ix (.var 0) (.int 1)) (.ix (.var 1) (.int 2))), .bin .add (.bin .mul (.ix (.var 0) (.int 0)) (.ix (.var 1) (.int 1))) (.bin .mul (.ix (.var 0) (.int 1)) (.ix (.var 1) (.int 3))), .bin .add (.bin .mul (.ix (.var 0) (.int 2)) (.ix (.var 1) (.int 0))) (.bin .mul (.ix (.var 0) (.int 3)) (.ix (.var 1) (.int 2))), .bin .add (.bin .mul (.ix (.var 0) (.int 2)) (.ix (.var 1) (.int 1))) (.bin .mul (.ix (.var 0) (.int 3)) (.ix (.var 1) (.int 3)))]])]⟩
abbrev s43 : Stmt := top 58
/-- _law_back -/
def f43 : FnD := ⟨"_law_back", ["move"], ["move"], [
  .ret (.call 41 [.tup [.ix (.var 0) (.int 3), .bin .sub (.int 0) (.ix (.var 0) (.int 1)), .bin .sub (.int 0) (.ix (.var 0) (.int 2)), .ix (.var 0) (.int 0)]])]⟩
abbrev s44 : Stmt := top 59
/-- _law_letter -/
def f44 : FnD := ⟨"_law_letter", ["k"], ["k"], [
  .ret (.ix (.tup [.tup [.int 0, .neg (.int 1), .int 1, .int 0], .tup [.int 0, .neg (.int 1), .int 1, .int 1], .tup [.neg (.int 1), .neg (.int 1), .int 1, .int 0]]) (.bin .sub (.var 0) (.int 1)))]⟩
abbrev s45 : Stmt := top 60
/-- _law_spell -/
def f45 : FnD := ⟨"_law_spell", ["row_so"], ["row_so", "found", "own"], [
  .set 1 (.tup [.int 1, .int 0, .int 0, .int 1]),
  .for_ (.nm 2) (.e (.var 0)) [.set 1 (.call 42 [.var 1, .call 44 [.var 2]])],
  .ret (.var 1)]⟩
abbrev s46 : Stmt := top 61
/-- _law_short -/
def f46 : FnD := ⟨"_law_short", ["row_so"], ["row_so", "found", "own", "both_so"], [
  .set 1 (.lst []),
  .for_ (.nm 2) (.e (.var 0)) [.if_ (.andor false [.cmp .Eq (.var 1) (.lst []), .cmp .NotEq (.cmp .Eq (.ix (.var 1) (.neg (.int 1))) (.int 1)) (.cmp .Eq (.var 2) (.int 1))]) [.ex (.app 1 (.var 2))] [.if_ (.cmp .Eq (.var 2) (.int 1)) [.ex (.pop 1)] [.set 3 (.bin .mod (.bin .sub (.bin .add (.pop 1) (.var 2)) (.int 2)) (.int 3)), .if_ (.cmp .Gt (.var 3) (.int 0)) [.ex (.app 1 (.bin .add (.var 3) (.int 1)))] []]]],
  .ret (.bi .tuple [.var 1])]⟩
abbrev s47 : Stmt := top 62
/-- _law_word -/
def f47 : FnD := ⟨"_law_word", ["move"], ["move", "found", "here", "lap", "c", "d", "letters_so", "step_so", "own"], [
  .par [1, 2] [.lst [], .var 0],
  .for_ (.nm 3) (.rng [.int 4000]) [.if_ (.cmp .Eq (.var 2) (.tup [.int 1, .int 0, .int 0, .int 1])) [.ret (.call 46 [.rev (.var 1)])] [], .par [4, 5] [.ix (.var 2) (.int 2), .ix (.var 2) (.int 3)], .if_ (.cmp .Eq (.var 4) (.int 0)) [.set 6 (.ite (.cmp .Gt (.ix (.var 2) (.int 1)) (.int 0)) (.lst [.int 1, .int 2]) (.lst [.int 3, .int 1]))] [.set 7 (.bin .sub (.int 0) (.bin .fdiv (.bin .add (.bin .mul (.int 2) (.var 5)) (.var 4)) (.bin .mul (.int 2) (.var 4)))), .if_ (.cmp .Eq (.var 7) (.int 0)) [.set 2 (.call 42 [.var 2, .tup [.int 0, .neg (.int 1), .int 1, .int 0]]), .ex (.app 1 (.int 1)), .cnt] [], .set 6 (.ite (.cmp .Gt (.var 7) (.int 0)) (.lst [.int 3, .int 1]) (.lst [.int 1, .int 2]))], .for_ (.nm 8) (.e (.rev (.var 6))) [.ex (.app 1 (.var 8)), .set 2 (.call 42 [.var 2, .call 43 [.call 44 [.var 8]]])]],
  .ret (.non)]⟩
abbrev s48 : Stmt := top 63
/-- _law_draw_move -/
def f48 : FnD := ⟨"_law_draw_move", ["tin", "most_so"], ["tin", "most_so", "k"], [
  .ret (.call 45 [.comp [2] (.rng [.call 33 [.var 0, .var 1]]) (.nm 2) none (.bin .add (.int 1) (.call 33 [.var 0, .int 3]))])]⟩
abbrev s49 : Stmt := top 64
/-- _law_ring -/
def f49 : FnD := ⟨"_law_ring", ["word_so"], ["word_so", "own", "k"], [
  .set 1 (.var 0),
  .wh (.andor true [.cmp .Gt (.bi .len [.var 1]) (.int 1), .cmp .Eq (.cmp .Eq (.ix (.var 1) (.int 0)) (.int 1)) (.cmp .Eq (.ix (.var 1) (.neg (.int 1))) (.int 1))]) [.set 1 (.call 46 [.bin .add (.sl (.var 1) (some (.int 1)) none) (.sl (.var 1) none (some (.int 1)))])],
  .ret (.bi .min1 [.comp [2] (.rng [.bi .max2 [.int 1, .bi .len [.var 1]]]) (.nm 2) none (.bin .add (.sl (.var 1) (some (.var 2)) none) (.sl (.var 1) none (some (.var 2))))])]⟩
abbrev s50 : Stmt := top 65
/-- _law_heard -/
def f50 : FnD := ⟨"_law_heard", ["door", "goods_so"], ["door", "goods_so", "caught", "told_so", "error_a", "error_b", "error_c"], [
  .par [2, 3] [.non, .non],
  .try_ [.set 3 (.call 37 [.call 39 [.var 0, .var 1]])] [⟨0, 4, 2, "cannot", "ValueError"⟩, ⟨1, 5, 2, "many", "ValueError"⟩, ⟨2, 6, 2, "unfit", "ValueError"⟩],
  .ret (.ite (.cmp .Is (.var 2) (.non)) (.var 3) (.var 2))]⟩
abbrev s51 : Stmt := top 66
/-- law -/
def f51 : FnD := ⟨"law", ["script"], ["script", "tin", "lap", "row_so", "k", "word_so", "move", "got", "back_so", "own", "other", "steps_so", "found", "turn_so", "far", "near_so", "far_so", "third", "length", "every_so", "things_so"], [
  .set 1 (.call 32 [.call 34 [.var 0, .int 1], .int 0]),
  .for_ (.nm 2) (.rng [.int 6]) [.set 3 (.bi .tuple [.comp [4] (.rng [.call 33 [.var 1, .int 15]]) (.nm 4) none (.bin .add (.int 1) (.call 33 [.var 1, .int 3]))]), .set 5 (.call 46 [.var 3]), .set 6 (.call 45 [.var 3]), .set 7 (.lst [.callk 23 [] ["row"] [.bi .list [.var 3]], .callk 24 [] ["row"] [.var 3], .callk 22 [] ["move"] [.bi .list [.var 6]], .callk 21 [] ["thing"] [.var 5], .call 21 [.bi .list [.var 5]], .call 21 [.var 3], .callk 26 [] ["word"] [.var 5]]), .set 8 (.bi .tuple [.comp [9] (.e (.rev (.var 5))) (.nm 9) none (.ite (.cmp .Eq (.var 9) (.int 1)) (.var 9) (.bin .sub (.int 5) (.var 9)))]), .if_ (.andor false [.not_ (.call 36 [.var 7, .lst [.var 6, .var 5, .var 5, .bl true, .bl false, .cmp .Eq (.var 3) (.var 5), .var 8]]), .cmp .NotEq (.call 47 [.var 6]) (.var 5)]) [.ret (.bl false)] [], .set 10 (.call 46 [.comp [4] (.rng [.call 33 [.var 1, .int 12]]) (.nm 4) none (.bin .add (.int 1) (.call 33 [.var 1, .int 3]))]), .if_ (.andor false [.cmp .NotEq (.callk 25 [] ["one", "other"] [.var 5, .bi .list [.var 10]]) (.call 46 [.bin .add (.var 5) (.var 10)]), .cmp .NotEq (.call 25 [.var 5, .var 8]) (.tup [])]) [.ret (.bl false)] [], .set 11 (.callk 31 [] ["move"] [.var 6]), .set 12 (.tup [.int 1, .ix (.var 11) (.int 0), .int 0, .int 1]), .for_ (.nm 9) (.e (.sl (.var 11) (some (.int 1)) none)) [.set 12 (.call 42 [.call 42 [.var 12, .tup [.int 0, .neg (.int 1), .int 1, .int 0]], .tup [.int 1, .var 9, .int 0, .int 1]])], .if_ (.andor false [.cmp .NotEq (.var 12) (.var 6), .cmp .NotEq (.ix (.var 11) (.int 0)) (.ite (.cmp .Gt (.ix (.var 6) (.int 2)) (.int 0)) (.bin .sub (.int 0) (.bin .fdiv (.bin .sub (.ix (.var 6) (.int 2)) (.bin .mul (.int 2) (.ix (.var 6) (.int 0)))) (.bin .mul (.int 2) (.ix (.var 6) (.int 2))))) (.ix (.var 6) (.int 1)))]) [.ret (.bl false)] [], .set 13 (.call 45 [.var 10]), .set 14 (.call 42 [.call 42 [.call 43 [.var 13], .var 6], .var 13]), .par [15, 16] [.call 49 [.var 5], .call 49 [.call 47 [.var 14]]], .set 17 (.call 48 [.var 1, .int 9]), .set 7 (.lst [.callk 29 [] ["word"] [.var 5], .call 29 [.call 22 [.var 14]], .callk 30 [] ["one", "other"] [.var 6, .var 14], .call 30 [.var 6, .var 17]]), .if_ (.andor false [.not_ (.call 36 [.var 7, .lst [.var 15, .var 15, .bl true, .cmp .Eq (.var 15) (.call 49 [.call 47 [.var 17]])]]), .cmp .NotEq (.var 15) (.var 16)]) [.ret (.bl false)] []],
  .set 18 (.call 33 [.var 1, .int 8]),
  .set 19 (.callk 27 [] ["length"] [.var 18]),
  .if_ (.andor false [.cmp .NotEq (.lset (.comp [9] (.e (.var 19)) (.nm 9) none (.call 45 [.var 9]))) (.callk 28 [] ["length"] [.var 18]), .cmp .NotEq (.var 19) (.sset (.var 19))]) [.ret (.bl false)] [],
  .if_ (.cmp .NotEq (.comp [9] (.e (.var 19)) (.nm 9) (some (.andor false [.cmp .NotEq (.call 46 [.var 9]) (.var 9), .cmp .NotEq (.bi .len [.var 9]) (.var 18)])) (.var 9)) (.lst [])) [.ret (.bl false)] [],
  .if_ (.andor false [.not_ (.call 40 [.fnv 27, .tup [.var 18], .var 19]), .cmp .NotEq (.bi .len [.var 19]) (.bin .sub (.bin .add (.bin .shl (.int 1) (.bin .fdiv (.var 18) (.int 2))) (.bin .shl (.int 1) (.bin .fdiv (.bin .add (.var 18) (.int 1)) (.int 2)))) (.bi .int1 [.cmp .Eq (.var 18) (.int 0)]))]) [.ret (.bl false)] [],
  .set 20 (.lst [.tup [], .tup [.int 1], .tup [.int 1, .int 2, .int 1], .tup [.int 1, .int 1], .tup [.int 2, .int 3], .tup [.int 0], .tup [.int 4], .tup [.bl true], .lst [.int 1], .non, .str "12"]),
  .set 7 (.bin .add (.comp [9] (.e (.var 20)) (.nm 9) none (.call 21 [.var 9])) (.lst [.call 50 [.fnv 27, .tup [.int 13]], .call 50 [.fnv 27, .tup [.neg (.int 1)]], .call 50 [.fnv 28, .tup [.int 2001]], .call 50 [.fnv 26, .tup [.tup [.int 1, .int 1]]], .call 50 [.fnv 23, .tup [.tup [.int 4]]], .call 50 [.fnv 22, .tup [.tup [.int 1, .int 20001, .int 0, .int 1]]], .call 50 [.fnv 29, .tup [.tup [.int 2, .int 2]]]])),
  .ret (.andor true [.call 36 [.var 7, .bin .add (.bin .add (.bin .add (.bin .add (.lst [.bl true, .bl true, .bl true]) (.bin .mul (.lst [.bl false]) (.int 8))) (.lst [.lst [.str "many", .bl true]])) (.bin .mul (.lst [.lst [.str "unfit", .bl true]]) (.int 4))) (.lst [.lst [.str "many", .bl true], .lst [.str "unfit", .bl true]])], .cmp .Eq (.call 31 [.tup [.int 1, .int 20001, .int 0, .int 1]]) (.tup [.int 20001])])]⟩
def T : GT := ⟨[f0, f1, f2, f3, f4, f5, f6, f7, f8, f9, f10, f11, f12, f13, f14, f15, f16, f17, f18, f19, f20, f21, f22, f23, f24, f25, f26, f27, f28, f29, f30, f31, f32, f33, f34, f35, f36, f37, f38, f39, f40, f41, f42, f43, f44, f45, f46, f47, f48, f49, f50, f51], [.tup [.int 1, .int 0, .int 0, .int 1], .tup [.int 0, .int (-1), .int 1, .int 0], .tup [.int 0, .int (-1), .int 1, .int 1], .tup [.int (-1), .int (-1), .int 1, .int 0], .int 20000, .int 12], 100000, 3, [([.inl 1, .inl 2, .inl 3], [.tup [.int 0, .int (-1), .int 1, .int 0], .tup [.int 0, .int (-1), .int 1, .int 1], .tup [.int (-1), .int (-1), .int 1, .int 0]])]⟩
def ng : NG := ⟨[.ofString "is_number", .ofString "is_within", .ofString "is_long", .ofString "are_numbers", .ofString "tupled", .ofString "is_move_of", .ofString "sure_move", .ofString "signed", .ofString "product", .ofString "is_row_of", .ofString "is_word_of", .ofString "sure_row", .ofString "sure_word", .ofString "shortest", .ofString "back_of", .ofString "move_in", .ofString "nearest", .ofString "quotients", .ofString "word_in", .ofString "round_of", .ofString "words_of", .ofString "is_word", .ofString "word_of", .ofString "move_by", .ofString "shortened", .ofString "word_behind", .ofString "word_back", .ofString "all_words", .ofString "how_many_words", .ofString "round_word", .ofString "are_turned", .ofString "step_rows", .ofString "_law_box", .ofString "_law_take", .ofString "_law_cells", .ofString "_law_lists", .ofString "_law_same", .ofString "_law_unmarked", .ofString "_law_spoil", .ofString "_law_call", .ofString "_law_told_anew", .ofString "_law_mark", .ofString "_law_times", .ofString "_law_back", .ofString "_law_letter", .ofString "_law_spell", .ofString "_law_short", .ofString "_law_word", .ofString "_law_draw_move", .ofString "_law_ring", .ofString "_law_heard", .ofString "law"], [.ofString "STILL", .ofString "TURN", .ofString "THREE", .ofString "THREE_BACK", .ofString "MOST_LETTERS", .ofString "MOST_LISTED"], [.ofString "CanNot", .ofString "TooMany", .ofString "Unfit"], [(23, ["row"], 0), (24, ["row"], 0), (22, ["move"], 0), (21, ["thing"], 0), (26, ["word"], 0), (25, ["one", "other"], 0), (31, ["move"], 0), (29, ["word"], 0), (30, ["one", "other"], 0), (27, ["length"], 0), (28, ["length"], 0)], false, [(0, "ValueError"), (1, "ValueError"), (2, "ValueError")], [.ofString "LETTERS"]⟩
theorem tr0 : scB f0.N f0.ps (defScope s0) = true ∧ trB (ccOf ng f0.N (defScope s0)) f0.body (defBody s0) = true := ⟨by decide +kernel, by decide +kernel⟩
theorem tr1 : scB f1.N f1.ps (defScope s1) = true ∧ trB (ccOf ng f1.N (defScope s1)) f1.body (defBody s1) = true := ⟨by decide +kernel, by decide +kernel⟩
theorem tr2 : scB f2.N f2.ps (defScope s2) = true ∧ trB (ccOf ng f2.N (defScope s2)) f2.body (defBody s2) = true := ⟨by decide +kernel, by decide +kernel⟩
theorem tr3 : scB f3.N f3.ps (defScope s3) = true ∧ trB (ccOf ng f3.N (defScope s3)) f3.body (defBody s3) = true := ⟨by decide +kernel, by decide +kernel⟩
theorem tr4 : scB f4.N f4.ps (defScope s4) = true ∧ trB (ccOf ng f4.N (defScope s4)) f4.body (defBody s4) = true := ⟨by decide +kernel, by decide +kernel⟩
theorem tr5 : scB f5.N f5.ps (defScope s5) = true ∧ trB (ccOf ng f5.N (defScope s5)) f5.body (defBody s5) = true := ⟨by decide +kernel, by decide +kernel⟩
theorem tr6 : scB f6.N f6.ps (defScope s6) = true ∧ trB (ccOf ng f6.N (defScope s6)) f6.body (defBody s6) = true := ⟨by decide +kernel, by decide +kernel⟩
theorem tr7 : scB f7.N f7.ps (defScope s7) = true ∧ trB (ccOf ng f7.N (defScope s7)) f7.body (defBody s7) = true := ⟨by decide +kernel, by decide +kernel⟩
theorem tr8 : scB f8.N f8.ps (defScope s8) = true ∧ trB (ccOf ng f8.N (defScope s8)) f8.body (defBody s8) = true := ⟨by decide +kernel, by decide +kernel⟩
theorem tr9 : scB f9.N f9.ps (defScope s9) = true ∧ trB (ccOf ng f9.N (defScope s9)) f9.body (defBody s9) = true := ⟨by decide +kernel, by decide +kernel⟩
theorem tr10 : scB f10.N f10.ps (defScope s10) = true ∧ trB (ccOf ng f10.N (defScope s10)) f10.body (defBody s10) = true := ⟨by decide +kernel, by decide +kernel⟩
theorem tr11 : scB f11.N f11.ps (defScope s11) = true ∧ trB (ccOf ng f11.N (defScope s11)) f11.body (defBody s11) = true := ⟨by decide +kernel, by decide +kernel⟩
theorem tr12 : scB f12.N f12.ps (defScope s12) = true ∧ trB (ccOf ng f12.N (defScope s12)) f12.body (defBody s12) = true := ⟨by decide +kernel, by decide +kernel⟩
theorem tr13 : scB f13.N f13.ps (defScope s13) = true ∧ trB (ccOf ng f13.N (defScope s13)) f13.body (defBody s13) = true := ⟨by decide +kernel, by decide +kernel⟩
theorem tr14 : scB f14.N f14.ps (defScope s14) = true ∧ trB (ccOf ng f14.N (defScope s14)) f14.body (defBody s14) = true := ⟨by decide +kernel, by decide +kernel⟩
theorem tr15 : scB f15.N f15.ps (defScope s15) = true ∧ trB (ccOf ng f15.N (defScope s15)) f15.body (defBody s15) = true := ⟨by decide +kernel, by decide +kernel⟩
theorem tr16 : scB f16.N f16.ps (defScope s16) = true ∧ trB (ccOf ng f16.N (defScope s16)) f16.body (defBody s16) = true := ⟨by decide +kernel, by decide +kernel⟩
theorem tr17 : scB f17.N f17.ps (defScope s17) = true ∧ trB (ccOf ng f17.N (defScope s17)) f17.body (defBody s17) = true := ⟨by decide +kernel, by decide +kernel⟩
theorem tr18 : scB f18.N f18.ps (defScope s18) = true ∧ trB (ccOf ng f18.N (defScope s18)) f18.body (defBody s18) = true := ⟨by decide +kernel, by decide +kernel⟩
theorem tr19 : scB f19.N f19.ps (defScope s19) = true ∧ trB (ccOf ng f19.N (defScope s19)) f19.body (defBody s19) = true := ⟨by decide +kernel, by decide +kernel⟩
theorem tr20 : scB f20.N f20.ps (defScope s20) = true ∧ trB (ccOf ng f20.N (defScope s20)) f20.body (defBody s20) = true := ⟨by decide +kernel, by decide +kernel⟩
theorem tr21 : scB f21.N f21.ps (defScope s21) = true ∧ trB (ccOf ng f21.N (defScope s21)) f21.body (defBody s21) = true := ⟨by decide +kernel, by decide +kernel⟩
theorem tr22 : scB f22.N f22.ps (defScope s22) = true ∧ trB (ccOf ng f22.N (defScope s22)) f22.body (defBody s22) = true := ⟨by decide +kernel, by decide +kernel⟩
theorem tr23 : scB f23.N f23.ps (defScope s23) = true ∧ trB (ccOf ng f23.N (defScope s23)) f23.body (defBody s23) = true := ⟨by decide +kernel, by decide +kernel⟩
theorem tr24 : scB f24.N f24.ps (defScope s24) = true ∧ trB (ccOf ng f24.N (defScope s24)) f24.body (defBody s24) = true := ⟨by decide +kernel, by decide +kernel⟩
theorem tr25 : scB f25.N f25.ps (defScope s25) = true ∧ trB (ccOf ng f25.N (defScope s25)) f25.body (defBody s25) = true := ⟨by decide +kernel, by decide +kernel⟩
theorem tr26 : scB f26.N f26.ps (defScope s26) = true ∧ trB (ccOf ng f26.N (defScope s26)) f26.body (defBody s26) = true := ⟨by decide +kernel, by decide +kernel⟩
theorem tr27 : scB f27.N f27.ps (defScope s27) = true ∧ trB (ccOf ng f27.N (defScope s27)) f27.body (defBody s27) = true := ⟨by decide +kernel, by decide +kernel⟩
theorem tr28 : scB f28.N f28.ps (defScope s28) = true ∧ trB (ccOf ng f28.N (defScope s28)) f28.body (defBody s28) = true := ⟨by decide +kernel, by decide +kernel⟩
theorem tr29 : scB f29.N f29.ps (defScope s29) = true ∧ trB (ccOf ng f29.N (defScope s29)) f29.body (defBody s29) = true := ⟨by decide +kernel, by decide +kernel⟩
theorem tr30 : scB f30.N f30.ps (defScope s30) = true ∧ trB (ccOf ng f30.N (defScope s30)) f30.body (defBody s30) = true := ⟨by decide +kernel, by decide +kernel⟩
theorem tr31 : scB f31.N f31.ps (defScope s31) = true ∧ trB (ccOf ng f31.N (defScope s31)) f31.body (defBody s31) = true := ⟨by decide +kernel, by decide +kernel⟩
theorem tr32 : scB f32.N f32.ps (defScope s32) = true ∧ trB (ccOf ng f32.N (defScope s32)) f32.body (defBody s32) = true := ⟨by decide +kernel, by decide +kernel⟩
theorem tr33 : scB f33.N f33.ps (defScope s33) = true ∧ trB (ccOf ng f33.N (defScope s33)) f33.body (defBody s33) = true := ⟨by decide +kernel, by decide +kernel⟩
theorem tr34 : scB f34.N f34.ps (defScope s34) = true ∧ trB (ccOf ng f34.N (defScope s34)) f34.body (defBody s34) = true := ⟨by decide +kernel, by decide +kernel⟩
theorem tr35 : scB f35.N f35.ps (defScope s35) = true ∧ trB (ccOf ng f35.N (defScope s35)) f35.body (defBody s35) = true := ⟨by decide +kernel, by decide +kernel⟩
theorem tr36 : scB f36.N f36.ps (defScope s36) = true ∧ trB (ccOf ng f36.N (defScope s36)) f36.body (defBody s36) = true := ⟨by decide +kernel, by decide +kernel⟩
theorem tr37 : scB f37.N f37.ps (defScope s37) = true ∧ trB (ccOf ng f37.N (defScope s37)) f37.body (defBody s37) = true := ⟨by decide +kernel, by decide +kernel⟩
theorem tr38 : scB f38.N f38.ps (defScope s38) = true ∧ trB (ccOf ng f38.N (defScope s38)) f38.body (defBody s38) = true := ⟨by decide +kernel, by decide +kernel⟩
theorem tr39 : scB f39.N f39.ps (defScope s39) = true ∧ trB (ccOf ng f39.N (defScope s39)) f39.body (defBody s39) = true := ⟨by decide +kernel, by decide +kernel⟩
theorem tr40 : scB f40.N f40.ps (defScope s40) = true ∧ trB (ccOf ng f40.N (defScope s40)) f40.body (defBody s40) = true := ⟨by decide +kernel, by decide +kernel⟩
theorem tr41 : scB f41.N f41.ps (defScope s41) = true ∧ trB (ccOf ng f41.N (defScope s41)) f41.body (defBody s41) = true := ⟨by decide +kernel, by decide +kernel⟩
theorem tr42 : scB f42.N f42.ps (defScope s42) = true ∧ trB (ccOf ng f42.N (defScope s42)) f42.body (defBody s42) = true := ⟨by decide +kernel, by decide +kernel⟩
theorem tr43 : scB f43.N f43.ps (defScope s43) = true ∧ trB (ccOf ng f43.N (defScope s43)) f43.body (defBody s43) = true := ⟨by decide +kernel, by decide +kernel⟩
theorem tr44 : scB f44.N f44.ps (defScope s44) = true ∧ trB (ccOf ng f44.N (defScope s44)) f44.body (defBody s44) = true := ⟨by decide +kernel, by decide +kernel⟩
theorem tr45 : scB f45.N f45.ps (defScope s45) = true ∧ trB (ccOf ng f45.N (defScope s45)) f45.body (defBody s45) = true := ⟨by decide +kernel, by decide +kernel⟩
theorem tr46 : scB f46.N f46.ps (defScope s46) = true ∧ trB (ccOf ng f46.N (defScope s46)) f46.body (defBody s46) = true := ⟨by decide +kernel, by decide +kernel⟩
theorem tr47 : scB f47.N f47.ps (defScope s47) = true ∧ trB (ccOf ng f47.N (defScope s47)) f47.body (defBody s47) = true := ⟨by decide +kernel, by decide +kernel⟩
theorem tr48 : scB f48.N f48.ps (defScope s48) = true ∧ trB (ccOf ng f48.N (defScope s48)) f48.body (defBody s48) = true := ⟨by decide +kernel, by decide +kernel⟩
theorem tr49 : scB f49.N f49.ps (defScope s49) = true ∧ trB (ccOf ng f49.N (defScope s49)) f49.body (defBody s49) = true := ⟨by decide +kernel, by decide +kernel⟩
theorem tr50 : scB f50.N f50.ps (defScope s50) = true ∧ trB (ccOf ng f50.N (defScope s50)) f50.body (defBody s50) = true := ⟨by decide +kernel, by decide +kernel⟩
theorem tr51 : scB f51.N f51.ps (defScope s51) = true ∧ trB (ccOf ng f51.N (defScope s51)) f51.body (defBody s51) = true := ⟨by decide +kernel, by decide +kernel⟩
end PL.K01
end

section
namespace PL.K01
open PySem PySem.Spec L2 PL
open PyProof.Rows hiding St
theorem kb {C : G0} {g : Nat} {fd : FuncData} {F : FnD} (h : ∀ ks np, (g, ks, np) ∉ ng.kw) : ∀ (ks : List Str) (np : Nat), (g, ks, np) ∈ ng.kw → KBinds C.K fd F.ps ks (kwG F.ps ks np) (kwG F.ps ks np) := fun ks np q => absurd q (h ks np)
theorem kno (g : Nat) (h : (ng.kw.all fun t => t.1 != g) = true) : ∀ (ks : List Str) (np : Nat), (g, ks, np) ∉ ng.kw := fun ks np q => by
  have := List.all_eq_true.mp h _ q
  simp at this
def mkC (K : PySem.W.Frag) (gs cs : List Addr) : G0 := ⟨K, fun i => gs.getD i 0, fun i => cs.getD i 0⟩
theorem fb0 {C : G0} {oc kV dc pm cd ct : Value} {od an : Option Addr} {sl : Array (Option Value)} (l : C.K.lookup (C.gv 0) = some ⟨oc, od, .func (PySem.W.fnOf "is_number" "is_number" (defArgs s0) (defBody s0) (defScope s0) .none kV dc pm an cd ct), sl⟩) (c : PySem.W.codeIn C.K cd "is_number" = true) (k : PySem.W.keepIn C.K (.ref (C.gv 0)) = true) :
    FnB C ng 0 f0 (PySem.W.fnOf "is_number" "is_number" (defArgs s0) (defBody s0) (defScope s0) .none kV dc pm an cd ct) :=
  fn_mk (st := s0) l c k tr0.1 tr0.2 (fun _ _ _ _ _ _ us hl => match us, hl with | [_], _ => rfl) (fun kV dc pm an cd ct => kb (kno 0 (by decide +kernel)))
theorem fb1 {C : G0} {oc kV dc pm cd ct : Value} {od an : Option Addr} {sl : Array (Option Value)} (l : C.K.lookup (C.gv 1) = some ⟨oc, od, .func (PySem.W.fnOf "is_within" "is_within" (defArgs s1) (defBody s1) (defScope s1) .none kV dc pm an cd ct), sl⟩) (c : PySem.W.codeIn C.K cd "is_within" = true) (k : PySem.W.keepIn C.K (.ref (C.gv 1)) = true) :
    FnB C ng 1 f1 (PySem.W.fnOf "is_within" "is_within" (defArgs s1) (defBody s1) (defScope s1) .none kV dc pm an cd ct) :=
  fn_mk (st := s1) l c k tr1.1 tr1.2 (fun _ _ _ _ _ _ us hl => match us, hl with | [_, _, _], _ => rfl) (fun kV dc pm an cd ct => kb (kno 1 (by decide +kernel)))
theorem fb2 {C : G0} {oc kV dc pm cd ct : Value} {od an : Option Addr} {sl : Array (Option Value)} (l : C.K.lookup (C.gv 2) = some ⟨oc, od, .func (PySem.W.fnOf "is_long" "is_long" (defArgs s2) (defBody s2) (defScope s2) .none kV dc pm an cd ct), sl⟩) (c : PySem.W.codeIn C.K cd "is_long" = true) (k : PySem.W.keepIn C.K (.ref (C.gv 2)) = true) :
    FnB C ng 2 f2 (PySem.W.fnOf "is_long" "is_long" (defArgs s2) (defBody s2) (defScope s2) .none kV dc pm an cd ct) :=
  fn_mk (st := s2) l c k tr2.1 tr2.2 (fun _ _ _ _ _ _ us hl => match us, hl with | [_, _], _ => rfl) (fun kV dc pm an cd ct => kb (kno 2 (by decide +kernel)))
theorem fb3 {C : G0} {oc kV dc pm cd ct : Value} {od an : Option Addr} {sl : Array (Option Value)} (l : C.K.lookup (C.gv 3) = some ⟨oc, od, .func (PySem.W.fnOf "are_numbers" "are_numbers" (defArgs s3) (defBody s3) (defScope s3) .none kV dc pm an cd ct), sl⟩) (c : PySem.W.codeIn C.K cd "are_numbers" = true) (k : PySem.W.keepIn C.K (.ref (C.gv 3)) = true) :
    FnB C ng 3 f3 (PySem.W.fnOf "are_numbers" "are_numbers" (defArgs s3) (defBody s3) (defScope s3) .none kV dc pm an cd ct) :=
  fn_mk (st := s3) l c k tr3.1 tr3.2 (fun _ _ _ _ _ _ us hl => match us, hl with | [_, _], _ => rfl) (fun kV dc pm an cd ct => kb (kno 3 (by decide +kernel)))
theorem fb4 {C : G0} {oc kV dc pm cd ct : Value} {od an : Option Addr} {sl : Array (Option Value)} (l : C.K.lookup (C.gv 4) = some ⟨oc, od, .func (PySem.W.fnOf "tupled" "tupled" (defArgs s4) (defBody s4) (defScope s4) .none kV dc pm an cd ct), sl⟩) (c : PySem.W.codeIn C.K cd "tupled" = true) (k : PySem.W.keepIn C.K (.ref (C.gv 4)) = true) :
    FnB C ng 4 f4 (PySem.W.fnOf "tupled" "tupled" (defArgs s4) (defBody s4) (defScope s4) .none kV dc pm an cd ct) :=
  fn_mk (st := s4) l c k tr4.1 tr4.2 (fun _ _ _ _ _ _ us hl => match us, hl with | [_], _ => rfl) (fun kV dc pm an cd ct => kb (kno 4 (by decide +kernel)))
theorem fb5 {C : G0} {oc kV dc pm cd ct : Value} {od an : Option Addr} {sl : Array (Option Value)} (l : C.K.lookup (C.gv 5) = some ⟨oc, od, .func (PySem.W.fnOf "is_move_of" "is_move_of" (defArgs s5) (defBody s5) (defScope s5) .none kV dc pm an cd ct), sl⟩) (c : PySem.W.codeIn C.K cd "is_move_of" = true) (k : PySem.W.keepIn C.K (.ref (C.gv 5)) = true) :
    FnB C ng 5 f5 (PySem.W.fnOf "is_move_of" "is_move_of" (defArgs s5) (defBody s5) (defScope s5) .none kV dc pm an cd ct) :=
  fn_mk (st := s5) l c k tr5.1 tr5.2 (fun _ _ _ _ _ _ us hl => match us, hl with | [_], _ => rfl) (fun kV dc pm an cd ct => kb (kno 5 (by decide +kernel)))
theorem fb6 {C : G0} {oc kV dc pm cd ct : Value} {od an : Option Addr} {sl : Array (Option Value)} (l : C.K.lookup (C.gv 6) = some ⟨oc, od, .func (PySem.W.fnOf "sure_move" "sure_move" (defArgs s6) (defBody s6) (defScope s6) .none kV dc pm an cd ct), sl⟩) (c : PySem.W.codeIn C.K cd "sure_move" = true) (k : PySem.W.keepIn C.K (.ref (C.gv 6)) = true) :
    FnB C ng 6 f6 (PySem.W.fnOf "sure_move" "sure_move" (defArgs s6) (defBody s6) (defScope s6) .none kV dc pm an cd ct) :=
  fn_mk (st := s6) l c k tr6.1 tr6.2 (fun _ _ _ _ _ _ us hl => match us, hl with | [_], _ => rfl) (fun kV dc pm an cd ct => kb (kno 6 (by decide +kernel)))
theorem fb7 {C : G0} {oc kV dc pm cd ct : Value} {od an : Option Addr} {sl : Array (Option Value)} (l : C.K.lookup (C.gv 7) = some ⟨oc, od, .func (PySem.W.fnOf "signed" "signed" (defArgs s7) (defBody s7) (defScope s7) .none kV dc pm an cd ct), sl⟩) (c : PySem.W.codeIn C.K cd "signed" = true) (k : PySem.W.keepIn C.K (.ref (C.gv 7)) = true) :
    FnB C ng 7 f7 (PySem.W.fnOf "signed" "signed" (defArgs s7) (defBody s7) (defScope s7) .none kV dc pm an cd ct) :=
  fn_mk (st := s7) l c k tr7.1 tr7.2 (fun _ _ _ _ _ _ us hl => match us, hl with | [_], _ => rfl) (fun kV dc pm an cd ct => kb (kno 7 (by decide +kernel)))
theorem fb8 {C : G0} {oc kV dc pm cd ct : Value} {od an : Option Addr} {sl : Array (Option Value)} (l : C.K.lookup (C.gv 8) = some ⟨oc, od, .func (PySem.W.fnOf "product" "product" (defArgs s8) (defBody s8) (defScope s8) .none kV dc pm an cd ct), sl⟩) (c : PySem.W.codeIn C.K cd "product" = true) (k : PySem.W.keepIn C.K (.ref (C.gv 8)) = true) :
    FnB C ng 8 f8 (PySem.W.fnOf "product" "product" (defArgs s8) (defBody s8) (defScope s8) .none kV dc pm an cd ct) :=
  fn_mk (st := s8) l c k tr8.1 tr8.2 (fun _ _ _ _ _ _ us hl => match us, hl with | [_, _], _ => rfl) (fun kV dc pm an cd ct => kb (kno 8 (by decide +kernel)))
theorem fb9 {C : G0} {oc kV dc pm cd ct : Value} {od an : Option Addr} {sl : Array (Option Value)} (l : C.K.lookup (C.gv 9) = some ⟨oc, od, .func (PySem.W.fnOf "is_row_of" "is_row_of" (defArgs s9) (defBody s9) (defScope s9) .none kV dc pm an cd ct), sl⟩) (c : PySem.W.codeIn C.K cd "is_row_of" = true) (k : PySem.W.keepIn C.K (.ref (C.gv 9)) = true) :
    FnB C ng 9 f9 (PySem.W.fnOf "is_row_of" "is_row_of" (defArgs s9) (defBody s9) (defScope s9) .none kV dc pm an cd ct) :=
  fn_mk (st := s9) l c k tr9.1 tr9.2 (fun _ _ _ _ _ _ us hl => match us, hl with | [_], _ => rfl) (fun kV dc pm an cd ct => kb (kno 9 (by decide +kernel)))
theorem fb10 {C : G0} {oc kV dc pm cd ct : Value} {od an : Option Addr} {sl : Array (Option Value)} (l : C.K.lookup (C.gv 10) = some ⟨oc, od, .func (PySem.W.fnOf "is_word_of" "is_word_of" (defArgs s10) (defBody s10) (defScope s10) .none kV dc pm an cd ct), sl⟩) (c : PySem.W.codeIn C.K cd "is_word_of" = true) (k : PySem.W.keepIn C.K (.ref (C.gv 10)) = true) :
    FnB C ng 10 f10 (PySem.W.fnOf "is_word_of" "is_word_of" (defArgs s10) (defBody s10) (defScope s10) .none kV dc pm an cd ct) :=
  fn_mk (st := s10) l c k tr10.1 tr10.2 (fun _ _ _ _ _ _ us hl => match us, hl with | [_], _ => rfl) (fun kV dc pm an cd ct => kb (kno 10 (by decide +kernel)))
theorem fb11 {C : G0} {oc kV dc pm cd ct : Value} {od an : Option Addr} {sl : Array (Option Value)} (l : C.K.lookup (C.gv 11) = some ⟨oc, od, .func (PySem.W.fnOf "sure_row" "sure_row" (defArgs s11) (defBody s11) (defScope s11) .none kV dc pm an cd ct), sl⟩) (c : PySem.W.codeIn C.K cd "sure_row" = true) (k : PySem.W.keepIn C.K (.ref (C.gv 11)) = true) :
    FnB C ng 11 f11 (PySem.W.fnOf "sure_row" "sure_row" (defArgs s11) (defBody s11) (defScope s11) .none kV dc pm an cd ct) :=
  fn_mk (st := s11) l c k tr11.1 tr11.2 (fun _ _ _ _ _ _ us hl => match us, hl with | [_], _ => rfl) (fun kV dc pm an cd ct => kb (kno 11 (by decide +kernel)))
theorem fb12 {C : G0} {oc kV dc pm cd ct : Value} {od an : Option Addr} {sl : Array (Option Value)} (l : C.K.lookup (C.gv 12) = some ⟨oc, od, .func (PySem.W.fnOf "sure_word" "sure_word" (defArgs s12) (defBody s12) (defScope s12) .none kV dc pm an cd ct), sl⟩) (c : PySem.W.codeIn C.K cd "sure_word" = true) (k : PySem.W.keepIn C.K (.ref (C.gv 12)) = true) :
    FnB C ng 12 f12 (PySem.W.fnOf "sure_word" "sure_word" (defArgs s12) (defBody s12) (defScope s12) .none kV dc pm an cd ct) :=
  fn_mk (st := s12) l c k tr12.1 tr12.2 (fun _ _ _ _ _ _ us hl => match us, hl with | [_], _ => rfl) (fun kV dc pm an cd ct => kb (kno 12 (by decide +kernel)))
theorem fb13 {C : G0} {oc kV dc pm cd ct : Value} {od an : Option Addr} {sl : Array (Option Value)} (l : C.K.lookup (C.gv 13) = some ⟨oc, od, .func (PySem.W.fnOf "shortest" "shortest" (defArgs s13) (defBody s13) (defScope s13) .none kV dc pm an cd ct), sl⟩) (c : PySem.W.codeIn C.K cd "shortest" = true) (k : PySem.W.keepIn C.K (.ref (C.gv 13)) = true) :
    FnB C ng 13 f13 (PySem.W.fnOf "shortest" "shortest" (defArgs s13) (defBody s13) (defScope s13) .none kV dc pm an cd ct) :=
  fn_mk (st := s13) l c k tr13.1 tr13.2 (fun _ _ _ _ _ _ us hl => match us, hl with | [_], _ => rfl) (fun kV dc pm an cd ct => kb (kno 13 (by decide +kernel)))
theorem fb14 {C : G0} {oc kV dc pm cd ct : Value} {od an : Option Addr} {sl : Array (Option Value)} (l : C.K.lookup (C.gv 14) = some ⟨oc, od, .func (PySem.W.fnOf "back_of" "back_of" (defArgs s14) (defBody s14) (defScope s14) .none kV dc pm an cd ct), sl⟩) (c : PySem.W.codeIn C.K cd "back_of" = true) (k : PySem.W.keepIn C.K (.ref (C.gv 14)) = true) :
    FnB C ng 14 f14 (PySem.W.fnOf "back_of" "back_of" (defArgs s14) (defBody s14) (defScope s14) .none kV dc pm an cd ct) :=
  fn_mk (st := s14) l c k tr14.1 tr14.2 (fun _ _ _ _ _ _ us hl => match us, hl with | [_], _ => rfl) (fun kV dc pm an cd ct => kb (kno 14 (by decide +kernel)))
theorem fb15 {C : G0} {oc kV dc pm cd ct : Value} {od an : Option Addr} {sl : Array (Option Value)} (l : C.K.lookup (C.gv 15) = some ⟨oc, od, .func (PySem.W.fnOf "move_in" "move_in" (defArgs s15) (defBody s15) (defScope s15) .none kV dc pm an cd ct), sl⟩) (c : PySem.W.codeIn C.K cd "move_in" = true) (k : PySem.W.keepIn C.K (.ref (C.gv 15)) = true) :
    FnB C ng 15 f15 (PySem.W.fnOf "move_in" "move_in" (defArgs s15) (defBody s15) (defScope s15) .none kV dc pm an cd ct) :=
  fn_mk (st := s15) l c k tr15.1 tr15.2 (fun _ _ _ _ _ _ us hl => match us, hl with | [_], _ => rfl) (fun kV dc pm an cd ct => kb (kno 15 (by decide +kernel)))
theorem fb16 {C : G0} {oc kV dc pm cd ct : Value} {od an : Option Addr} {sl : Array (Option Value)} (l : C.K.lookup (C.gv 16) = some ⟨oc, od, .func (PySem.W.fnOf "nearest" "nearest" (defArgs s16) (defBody s16) (defScope s16) .none kV dc pm an cd ct), sl⟩) (c : PySem.W.codeIn C.K cd "nearest" = true) (k : PySem.W.keepIn C.K (.ref (C.gv 16)) = true) :
    FnB C ng 16 f16 (PySem.W.fnOf "nearest" "nearest" (defArgs s16) (defBody s16) (defScope s16) .none kV dc pm an cd ct) :=
  fn_mk (st := s16) l c k tr16.1 tr16.2 (fun _ _ _ _ _ _ us hl => match us, hl with | [_, _], _ => rfl) (fun kV dc pm an cd ct => kb (kno 16 (by decide +kernel)))
theorem fb17 {C : G0} {oc kV dc pm cd ct : Value} {od an : Option Addr} {sl : Array (Option Value)} (l : C.K.lookup (C.gv 17) = some ⟨oc, od, .func (PySem.W.fnOf "quotients" "quotients" (defArgs s17) (defBody s17) (defScope s17) .none kV dc pm an cd ct), sl⟩) (c : PySem.W.codeIn C.K cd "quotients" = true) (k : PySem.W.keepIn C.K (.ref (C.gv 17)) = true) :
    FnB C ng 17 f17 (PySem.W.fnOf "quotients" "quotients" (defArgs s17) (defBody s17) (defScope s17) .none kV dc pm an cd ct) :=
  fn_mk (st := s17) l c k tr17.1 tr17.2 (fun _ _ _ _ _ _ us hl => match us, hl with | [_], _ => rfl) (fun kV dc pm an cd ct => kb (kno 17 (by decide +kernel)))
theorem fb18 {C : G0} {oc kV dc pm cd ct : Value} {od an : Option Addr} {sl : Array (Option Value)} (l : C.K.lookup (C.gv 18) = some ⟨oc, od, .func (PySem.W.fnOf "word_in" "word_in" (defArgs s18) (defBody s18) (defScope s18) .none kV dc pm an cd ct), sl⟩) (c : PySem.W.codeIn C.K cd "word_in" = true) (k : PySem.W.keepIn C.K (.ref (C.gv 18)) = true) :
    FnB C ng 18 f18 (PySem.W.fnOf "word_in" "word_in" (defArgs s18) (defBody s18) (defScope s18) .none kV dc pm an cd ct) :=
  fn_mk (st := s18) l c k tr18.1 tr18.2 (fun _ _ _ _ _ _ us hl => match us, hl with | [_], _ => rfl) (fun kV dc pm an cd ct => kb (kno 18 (by decide +kernel)))
theorem fb19 {C : G0} {oc kV dc pm cd ct : Value} {od an : Option Addr} {sl : Array (Option Value)} (l : C.K.lookup (C.gv 19) = some ⟨oc, od, .func (PySem.W.fnOf "round_of" "round_of" (defArgs s19) (defBody s19) (defScope s19) .none kV dc pm an cd ct), sl⟩) (c : PySem.W.codeIn C.K cd "round_of" = true) (k : PySem.W.keepIn C.K (.ref (C.gv 19)) = true) :
    FnB C ng 19 f19 (PySem.W.fnOf "round_of" "round_of" (defArgs s19) (defBody s19) (defScope s19) .none kV dc pm an cd ct) :=
  fn_mk (st := s19) l c k tr19.1 tr19.2 (fun _ _ _ _ _ _ us hl => match us, hl with | [_], _ => rfl) (fun kV dc pm an cd ct => kb (kno 19 (by decide +kernel)))
theorem fb20 {C : G0} {oc kV dc pm cd ct : Value} {od an : Option Addr} {sl : Array (Option Value)} (l : C.K.lookup (C.gv 20) = some ⟨oc, od, .func (PySem.W.fnOf "words_of" "words_of" (defArgs s20) (defBody s20) (defScope s20) .none kV dc pm an cd ct), sl⟩) (c : PySem.W.codeIn C.K cd "words_of" = true) (k : PySem.W.keepIn C.K (.ref (C.gv 20)) = true) :
    FnB C ng 20 f20 (PySem.W.fnOf "words_of" "words_of" (defArgs s20) (defBody s20) (defScope s20) .none kV dc pm an cd ct) :=
  fn_mk (st := s20) l c k tr20.1 tr20.2 (fun _ _ _ _ _ _ us hl => match us, hl with | [_], _ => rfl) (fun kV dc pm an cd ct => kb (kno 20 (by decide +kernel)))
theorem fb21 {C : G0} {oc kV dc pm cd ct : Value} {od an : Option Addr} {sl : Array (Option Value)} (l : C.K.lookup (C.gv 21) = some ⟨oc, od, .func (PySem.W.fnOf "is_word" "is_word" (defArgs s21) (defBody s21) (defScope s21) .none kV dc pm an cd ct), sl⟩) (c : PySem.W.codeIn C.K cd "is_word" = true) (k : PySem.W.keepIn C.K (.ref (C.gv 21)) = true) :
    FnB C ng 21 f21 (PySem.W.fnOf "is_word" "is_word" (defArgs s21) (defBody s21) (defScope s21) .none kV dc pm an cd ct) :=
  fn_mk (st := s21) l c k tr21.1 tr21.2 (fun _ _ _ _ _ _ us hl => match us, hl with | [_], _ => rfl) (fun kV dc pm an cd ct => fun ks np q => by
      have q := kw_of (r := [(21, ["thing"], 0)]) q (by decide +kernel)
      simp only [List.mem_cons, Prod.mk.injEq, true_and, List.not_mem_nil, or_false] at q
      obtain ⟨rfl, rfl⟩ := q
      · exact kb_mk (by decide) fun us ws h1 h2 => match us, ws, h1, h2 with | [], [_], _, _ => rfl
)
theorem fb22 {C : G0} {oc kV dc pm cd ct : Value} {od an : Option Addr} {sl : Array (Option Value)} (l : C.K.lookup (C.gv 22) = some ⟨oc, od, .func (PySem.W.fnOf "word_of" "word_of" (defArgs s22) (defBody s22) (defScope s22) .none kV dc pm an cd ct), sl⟩) (c : PySem.W.codeIn C.K cd "word_of" = true) (k : PySem.W.keepIn C.K (.ref (C.gv 22)) = true) :
    FnB C ng 22 f22 (PySem.W.fnOf "word_of" "word_of" (defArgs s22) (defBody s22) (defScope s22) .none kV dc pm an cd ct) :=
  fn_mk (st := s22) l c k tr22.1 tr22.2 (fun _ _ _ _ _ _ us hl => match us, hl with | [_], _ => rfl) (fun kV dc pm an cd ct => fun ks np q => by
      have q := kw_of (r := [(22, ["move"], 0)]) q (by decide +kernel)
      simp only [List.mem_cons, Prod.mk.injEq, true_and, List.not_mem_nil, or_false] at q
      obtain ⟨rfl, rfl⟩ := q
      · exact kb_mk (by decide) fun us ws h1 h2 => match us, ws, h1, h2 with | [], [_], _, _ => rfl
)
theorem fb23 {C : G0} {oc kV dc pm cd ct : Value} {od an : Option Addr} {sl : Array (Option Value)} (l : C.K.lookup (C.gv 23) = some ⟨oc, od, .func (PySem.W.fnOf "move_by" "move_by" (defArgs s23) (defBody s23) (defScope s23) .none kV dc pm an cd ct), sl⟩) (c : PySem.W.codeIn C.K cd "move_by" = true) (k : PySem.W.keepIn C.K (.ref (C.gv 23)) = true) :
    FnB C ng 23 f23 (PySem.W.fnOf "move_by" "move_by" (defArgs s23) (defBody s23) (defScope s23) .none kV dc pm an cd ct) :=
  fn_mk (st := s23) l c k tr23.1 tr23.2 (fun _ _ _ _ _ _ us hl => match us, hl with | [_], _ => rfl) (fun kV dc pm an cd ct => fun ks np q => by
      have q := kw_of (r := [(23, ["row"], 0)]) q (by decide +kernel)
      simp only [List.mem_cons, Prod.mk.injEq, true_and, List.not_mem_nil, or_false] at q
      obtain ⟨rfl, rfl⟩ := q
      · exact kb_mk (by decide) fun us ws h1 h2 => match us, ws, h1, h2 with | [], [_], _, _ => rfl
)
theorem fb24 {C : G0} {oc kV dc pm cd ct : Value} {od an : Option Addr} {sl : Array (Option Value)} (l : C.K.lookup (C.gv 24) = some ⟨oc, od, .func (PySem.W.fnOf "shortened" "shortened" (defArgs s24) (defBody s24) (defScope s24) .none kV dc pm an cd ct), sl⟩) (c : PySem.W.codeIn C.K cd "shortened" = true) (k : PySem.W.keepIn C.K (.ref (C.gv 24)) = true) :
    FnB C ng 24 f24 (PySem.W.fnOf "shortened" "shortened" (defArgs s24) (defBody s24) (defScope s24) .none kV dc pm an cd ct) :=
  fn_mk (st := s24) l c k tr24.1 tr24.2 (fun _ _ _ _ _ _ us hl => match us, hl with | [_], _ => rfl) (fun kV dc pm an cd ct => fun ks np q => by
      have q := kw_of (r := [(24, ["row"], 0)]) q (by decide +kernel)
      simp only [List.mem_cons, Prod.mk.injEq, true_and, List.not_mem_nil, or_false] at q
      obtain ⟨rfl, rfl⟩ := q
      · exact kb_mk (by decide) fun us ws h1 h2 => match us, ws, h1, h2 with | [], [_], _, _ => rfl
)
theorem fb25 {C : G0} {oc kV dc pm cd ct : Value} {od an : Option Addr} {sl : Array (Option Value)} (l : C.K.lookup (C.gv 25) = some ⟨oc, od, .func (PySem.W.fnOf "word_behind" "word_behind" (defArgs s25) (defBody s25) (defScope s25) .none kV dc pm an cd ct), sl⟩) (c : PySem.W.codeIn C.K cd "word_behind" = true) (k : PySem.W.keepIn C.K (.ref (C.gv 25)) = true) :
    FnB C ng 25 f25 (PySem.W.fnOf "word_behind" "word_behind" (defArgs s25) (defBody s25) (defScope s25) .none kV dc pm an cd ct) :=
  fn_mk (st := s25) l c k tr25.1 tr25.2 (fun _ _ _ _ _ _ us hl => match us, hl with | [_, _], _ => rfl) (fun kV dc pm an cd ct => fun ks np q => by
      have q := kw_of (r := [(25, ["one", "other"], 0)]) q (by decide +kernel)
      simp only [List.mem_cons, Prod.mk.injEq, true_and, List.not_mem_nil, or_false] at q
      obtain ⟨rfl, rfl⟩ := q
      · exact kb_mk (by decide) fun us ws h1 h2 => match us, ws, h1, h2 with | [], [_, _], _, _ => rfl
)
theorem fb26 {C : G0} {oc kV dc pm cd ct : Value} {od an : Option Addr} {sl : Array (Option Value)} (l : C.K.lookup (C.gv 26) = some ⟨oc, od, .func (PySem.W.fnOf "word_back" "word_back" (defArgs s26) (defBody s26) (defScope s26) .none kV dc pm an cd ct), sl⟩) (c : PySem.W.codeIn C.K cd "word_back" = true) (k : PySem.W.keepIn C.K (.ref (C.gv 26)) = true) :
    FnB C ng 26 f26 (PySem.W.fnOf "word_back" "word_back" (defArgs s26) (defBody s26) (defScope s26) .none kV dc pm an cd ct) :=
  fn_mk (st := s26) l c k tr26.1 tr26.2 (fun _ _ _ _ _ _ us hl => match us, hl with | [_], _ => rfl) (fun kV dc pm an cd ct => fun ks np q => by
      have q := kw_of (r := [(26, ["word"], 0)]) q (by decide +kernel)
      simp only [List.mem_cons, Prod.mk.injEq, true_and, List.not_mem_nil, or_false] at q
      obtain ⟨rfl, rfl⟩ := q
      · exact kb_mk (by decide) fun us ws h1 h2 => match us, ws, h1, h2 with | [], [_], _, _ => rfl
)
theorem fb27 {C : G0} {oc kV dc pm cd ct : Value} {od an : Option Addr} {sl : Array (Option Value)} (l : C.K.lookup (C.gv 27) = some ⟨oc, od, .func (PySem.W.fnOf "all_words" "all_words" (defArgs s27) (defBody s27) (defScope s27) .none kV dc pm an cd ct), sl⟩) (c : PySem.W.codeIn C.K cd "all_words" = true) (k : PySem.W.keepIn C.K (.ref (C.gv 27)) = true) :
    FnB C ng 27 f27 (PySem.W.fnOf "all_words" "all_words" (defArgs s27) (defBody s27) (defScope s27) .none kV dc pm an cd ct) :=
  fn_mk (st := s27) l c k tr27.1 tr27.2 (fun _ _ _ _ _ _ us hl => match us, hl with | [_], _ => rfl) (fun kV dc pm an cd ct => fun ks np q => by
      have q := kw_of (r := [(27, ["length"], 0)]) q (by decide +kernel)
      simp only [List.mem_cons, Prod.mk.injEq, true_and, List.not_mem_nil, or_false] at q
      obtain ⟨rfl, rfl⟩ := q
      · exact kb_mk (by decide) fun us ws h1 h2 => match us, ws, h1, h2 with | [], [_], _, _ => rfl
)
theorem fb28 {C : G0} {oc kV dc pm cd ct : Value} {od an : Option Addr} {sl : Array (Option Value)} (l : C.K.lookup (C.gv 28) = some ⟨oc, od, .func (PySem.W.fnOf "how_many_words" "how_many_words" (defArgs s28) (defBody s28) (defScope s28) .none kV dc pm an cd ct), sl⟩) (c : PySem.W.codeIn C.K cd "how_many_words" = true) (k : PySem.W.keepIn C.K (.ref (C.gv 28)) = true) :
    FnB C ng 28 f28 (PySem.W.fnOf "how_many_words" "how_many_words" (defArgs s28) (defBody s28) (defScope s28) .none kV dc pm an cd ct) :=
  fn_mk (st := s28) l c k tr28.1 tr28.2 (fun _ _ _ _ _ _ us hl => match us, hl with | [_], _ => rfl) (fun kV dc pm an cd ct => fun ks np q => by
      have q := kw_of (r := [(28, ["length"], 0)]) q (by decide +kernel)
      simp only [List.mem_cons, Prod.mk.injEq, true_and, List.not_mem_nil, or_false] at q
      obtain ⟨rfl, rfl⟩ := q
      · exact kb_mk (by decide) fun us ws h1 h2 => match us, ws, h1, h2 with | [], [_], _, _ => rfl
)
theorem fb29 {C : G0} {oc kV dc pm cd ct : Value} {od an : Option Addr} {sl : Array (Option Value)} (l : C.K.lookup (C.gv 29) = some ⟨oc, od, .func (PySem.W.fnOf "round_word" "round_word" (defArgs s29) (defBody s29) (defScope s29) .none kV dc pm an cd ct), sl⟩) (c : PySem.W.codeIn C.K cd "round_word" = true) (k : PySem.W.keepIn C.K (.ref (C.gv 29)) = true) :
    FnB C ng 29 f29 (PySem.W.fnOf "round_word" "round_word" (defArgs s29) (defBody s29) (defScope s29) .none kV dc pm an cd ct) :=
  fn_mk (st := s29) l c k tr29.1 tr29.2 (fun _ _ _ _ _ _ us hl => match us, hl with | [_], _ => rfl) (fun kV dc pm an cd ct => fun ks np q => by
      have q := kw_of (r := [(29, ["word"], 0)]) q (by decide +kernel)
      simp only [List.mem_cons, Prod.mk.injEq, true_and, List.not_mem_nil, or_false] at q
      obtain ⟨rfl, rfl⟩ := q
      · exact kb_mk (by decide) fun us ws h1 h2 => match us, ws, h1, h2 with | [], [_], _, _ => rfl
)
theorem fb30 {C : G0} {oc kV dc pm cd ct : Value} {od an : Option Addr} {sl : Array (Option Value)} (l : C.K.lookup (C.gv 30) = some ⟨oc, od, .func (PySem.W.fnOf "are_turned" "are_turned" (defArgs s30) (defBody s30) (defScope s30) .none kV dc pm an cd ct), sl⟩) (c : PySem.W.codeIn C.K cd "are_turned" = true) (k : PySem.W.keepIn C.K (.ref (C.gv 30)) = true) :
    FnB C ng 30 f30 (PySem.W.fnOf "are_turned" "are_turned" (defArgs s30) (defBody s30) (defScope s30) .none kV dc pm an cd ct) :=
  fn_mk (st := s30) l c k tr30.1 tr30.2 (fun _ _ _ _ _ _ us hl => match us, hl with | [_, _], _ => rfl) (fun kV dc pm an cd ct => fun ks np q => by
      have q := kw_of (r := [(30, ["one", "other"], 0)]) q (by decide +kernel)
      simp only [List.mem_cons, Prod.mk.injEq, true_and, List.not_mem_nil, or_false] at q
      obtain ⟨rfl, rfl⟩ := q
      · exact kb_mk (by decide) fun us ws h1 h2 => match us, ws, h1, h2 with | [], [_, _], _, _ => rfl
)
theorem fb31 {C : G0} {oc kV dc pm cd ct : Value} {od an : Option Addr} {sl : Array (Option Value)} (l : C.K.lookup (C.gv 31) = some ⟨oc, od, .func (PySem.W.fnOf "step_rows" "step_rows" (defArgs s31) (defBody s31) (defScope s31) .none kV dc pm an cd ct), sl⟩) (c : PySem.W.codeIn C.K cd "step_rows" = true) (k : PySem.W.keepIn C.K (.ref (C.gv 31)) = true) :
    FnB C ng 31 f31 (PySem.W.fnOf "step_rows" "step_rows" (defArgs s31) (defBody s31) (defScope s31) .none kV dc pm an cd ct) :=
  fn_mk (st := s31) l c k tr31.1 tr31.2 (fun _ _ _ _ _ _ us hl => match us, hl with | [_], _ => rfl) (fun kV dc pm an cd ct => fun ks np q => by
      have q := kw_of (r := [(31, ["move"], 0)]) q (by decide +kernel)
      simp only [List.mem_cons, Prod.mk.injEq, true_and, List.not_mem_nil, or_false] at q
      obtain ⟨rfl, rfl⟩ := q
      · exact kb_mk (by decide) fun us ws h1 h2 => match us, ws, h1, h2 with | [], [_], _, _ => rfl
)
theorem fb32 {C : G0} {oc kV dc pm cd ct : Value} {od an : Option Addr} {sl : Array (Option Value)} (l : C.K.lookup (C.gv 32) = some ⟨oc, od, .func (PySem.W.fnOf "_law_box" "_law_box" (defArgs s32) (defBody s32) (defScope s32) .none kV dc pm an cd ct), sl⟩) (c : PySem.W.codeIn C.K cd "_law_box" = true) (k : PySem.W.keepIn C.K (.ref (C.gv 32)) = true) :
    FnB C ng 32 f32 (PySem.W.fnOf "_law_box" "_law_box" (defArgs s32) (defBody s32) (defScope s32) .none kV dc pm an cd ct) :=
  fn_mk (st := s32) l c k tr32.1 tr32.2 (fun _ _ _ _ _ _ us hl => match us, hl with | [_, _], _ => rfl) (fun kV dc pm an cd ct => kb (kno 32 (by decide +kernel)))
theorem fb33 {C : G0} {oc kV dc pm cd ct : Value} {od an : Option Addr} {sl : Array (Option Value)} (l : C.K.lookup (C.gv 33) = some ⟨oc, od, .func (PySem.W.fnOf "_law_take" "_law_take" (defArgs s33) (defBody s33) (defScope s33) .none kV dc pm an cd ct), sl⟩) (c : PySem.W.codeIn C.K cd "_law_take" = true) (k : PySem.W.keepIn C.K (.ref (C.gv 33)) = true) :
    FnB C ng 33 f33 (PySem.W.fnOf "_law_take" "_law_take" (defArgs s33) (defBody s33) (defScope s33) .none kV dc pm an cd ct) :=
  fn_mk (st := s33) l c k tr33.1 tr33.2 (fun _ _ _ _ _ _ us hl => match us, hl with | [_, _], _ => rfl) (fun kV dc pm an cd ct => kb (kno 33 (by decide +kernel)))
theorem fb34 {C : G0} {oc kV dc pm cd ct : Value} {od an : Option Addr} {sl : Array (Option Value)} (l : C.K.lookup (C.gv 34) = some ⟨oc, od, .func (PySem.W.fnOf "_law_cells" "_law_cells" (defArgs s34) (defBody s34) (defScope s34) .none kV dc pm an cd ct), sl⟩) (c : PySem.W.codeIn C.K cd "_law_cells" = true) (k : PySem.W.keepIn C.K (.ref (C.gv 34)) = true) :
    FnB C ng 34 f34 (PySem.W.fnOf "_law_cells" "_law_cells" (defArgs s34) (defBody s34) (defScope s34) .none kV dc pm an cd ct) :=
  fn_mk (st := s34) l c k tr34.1 tr34.2 (fun _ _ _ _ _ _ us hl => match us, hl with | [_, _], _ => rfl) (fun kV dc pm an cd ct => kb (kno 34 (by decide +kernel)))
theorem fb35 {C : G0} {oc kV dc pm cd ct : Value} {od an : Option Addr} {sl : Array (Option Value)} (l : C.K.lookup (C.gv 35) = some ⟨oc, od, .func (PySem.W.fnOf "_law_lists" "_law_lists" (defArgs s35) (defBody s35) (defScope s35) .none kV dc pm an cd ct), sl⟩) (c : PySem.W.codeIn C.K cd "_law_lists" = true) (k : PySem.W.keepIn C.K (.ref (C.gv 35)) = true) :
    FnB C ng 35 f35 (PySem.W.fnOf "_law_lists" "_law_lists" (defArgs s35) (defBody s35) (defScope s35) .none kV dc pm an cd ct) :=
  fn_mk (st := s35) l c k tr35.1 tr35.2 (fun _ _ _ _ _ _ us hl => match us, hl with | [_], _ => rfl) (fun kV dc pm an cd ct => kb (kno 35 (by decide +kernel)))
theorem fb36 {C : G0} {oc kV dc pm cd ct : Value} {od an : Option Addr} {sl : Array (Option Value)} (l : C.K.lookup (C.gv 36) = some ⟨oc, od, .func (PySem.W.fnOf "_law_same" "_law_same" (defArgs s36) (defBody s36) (defScope s36) .none kV dc pm an cd ct), sl⟩) (c : PySem.W.codeIn C.K cd "_law_same" = true) (k : PySem.W.keepIn C.K (.ref (C.gv 36)) = true) :
    FnB C ng 36 f36 (PySem.W.fnOf "_law_same" "_law_same" (defArgs s36) (defBody s36) (defScope s36) .none kV dc pm an cd ct) :=
  fn_mk (st := s36) l c k tr36.1 tr36.2 (fun _ _ _ _ _ _ us hl => match us, hl with | [_, _], _ => rfl) (fun kV dc pm an cd ct => kb (kno 36 (by decide +kernel)))
theorem fb37 {C : G0} {oc kV dc pm cd ct : Value} {od an : Option Addr} {sl : Array (Option Value)} (l : C.K.lookup (C.gv 37) = some ⟨oc, od, .func (PySem.W.fnOf "_law_unmarked" "_law_unmarked" (defArgs s37) (defBody s37) (defScope s37) .none kV dc pm an cd ct), sl⟩) (c : PySem.W.codeIn C.K cd "_law_unmarked" = true) (k : PySem.W.keepIn C.K (.ref (C.gv 37)) = true) :
    FnB C ng 37 f37 (PySem.W.fnOf "_law_unmarked" "_law_unmarked" (defArgs s37) (defBody s37) (defScope s37) .none kV dc pm an cd ct) :=
  fn_mk (st := s37) l c k tr37.1 tr37.2 (fun _ _ _ _ _ _ us hl => match us, hl with | [_], _ => rfl) (fun kV dc pm an cd ct => kb (kno 37 (by decide +kernel)))
theorem fb38 {C : G0} {oc kV dc pm cd ct : Value} {od an : Option Addr} {sl : Array (Option Value)} (l : C.K.lookup (C.gv 38) = some ⟨oc, od, .func (PySem.W.fnOf "_law_spoil" "_law_spoil" (defArgs s38) (defBody s38) (defScope s38) .none kV dc pm an cd ct), sl⟩) (c : PySem.W.codeIn C.K cd "_law_spoil" = true) (k : PySem.W.keepIn C.K (.ref (C.gv 38)) = true) :
    FnB C ng 38 f38 (PySem.W.fnOf "_law_spoil" "_law_spoil" (defArgs s38) (defBody s38) (defScope s38) .none kV dc pm an cd ct) :=
  fn_mk (st := s38) l c k tr38.1 tr38.2 (fun _ _ _ _ _ _ us hl => match us, hl with | [_], _ => rfl) (fun kV dc pm an cd ct => kb (kno 38 (by decide +kernel)))
theorem fb39 {C : G0} {oc kV dc pm cd ct : Value} {od an : Option Addr} {sl : Array (Option Value)} (l : C.K.lookup (C.gv 39) = some ⟨oc, od, .func (PySem.W.fnOf "_law_call" "_law_call" (defArgs s39) (defBody s39) (defScope s39) .none kV dc pm an cd ct), sl⟩) (c : PySem.W.codeIn C.K cd "_law_call" = true) (k : PySem.W.keepIn C.K (.ref (C.gv 39)) = true) :
    FnB C ng 39 f39 (PySem.W.fnOf "_law_call" "_law_call" (defArgs s39) (defBody s39) (defScope s39) .none kV dc pm an cd ct) :=
  fn_mk (st := s39) l c k tr39.1 tr39.2 (fun _ _ _ _ _ _ us hl => match us, hl with | [_, _], _ => rfl) (fun kV dc pm an cd ct => kb (kno 39 (by decide +kernel)))
theorem fb40 {C : G0} {oc kV dc pm cd ct : Value} {od an : Option Addr} {sl : Array (Option Value)} (l : C.K.lookup (C.gv 40) = some ⟨oc, od, .func (PySem.W.fnOf "_law_told_anew" "_law_told_anew" (defArgs s40) (defBody s40) (defScope s40) .none kV dc pm an cd ct), sl⟩) (c : PySem.W.codeIn C.K cd "_law_told_anew" = true) (k : PySem.W.keepIn C.K (.ref (C.gv 40)) = true) :
    FnB C ng 40 f40 (PySem.W.fnOf "_law_told_anew" "_law_told_anew" (defArgs s40) (defBody s40) (defScope s40) .none kV dc pm an cd ct) :=
  fn_mk (st := s40) l c k tr40.1 tr40.2 (fun _ _ _ _ _ _ us hl => match us, hl with | [_, _, _], _ => rfl) (fun kV dc pm an cd ct => kb (kno 40 (by decide +kernel)))
theorem fb41 {C : G0} {oc kV dc pm cd ct : Value} {od an : Option Addr} {sl : Array (Option Value)} (l : C.K.lookup (C.gv 41) = some ⟨oc, od, .func (PySem.W.fnOf "_law_mark" "_law_mark" (defArgs s41) (defBody s41) (defScope s41) .none kV dc pm an cd ct), sl⟩) (c : PySem.W.codeIn C.K cd "_law_mark" = true) (k : PySem.W.keepIn C.K (.ref (C.gv 41)) = true) :
    FnB C ng 41 f41 (PySem.W.fnOf "_law_mark" "_law_mark" (defArgs s41) (defBody s41) (defScope s41) .none kV dc pm an cd ct) :=
  fn_mk (st := s41) l c k tr41.1 tr41.2 (fun _ _ _ _ _ _ us hl => match us, hl with | [_], _ => rfl) (fun kV dc pm an cd ct => kb (kno 41 (by decide +kernel)))
theorem fb42 {C : G0} {oc kV dc pm cd ct : Value} {od an : Option Addr} {sl : Array (Option Value)} (l : C.K.lookup (C.gv 42) = some ⟨oc, od, .func (PySem.W.fnOf "_law_times" "_law_times" (defArgs s42) (defBody s42) (defScope s42) .none kV dc pm an cd ct), sl⟩) (c : PySem.W.codeIn C.K cd "_law_times" = true) (k : PySem.W.keepIn C.K (.ref (C.gv 42)) = true) :
    FnB C ng 42 f42 (PySem.W.fnOf "_law_times" "_law_times" (defArgs s42) (defBody s42) (defScope s42) .none kV dc pm an cd ct) :=
  fn_mk (st := s42) l c k tr42.1 tr42.2 (fun _ _ _ _ _ _ us hl => match us, hl with | [_, _], _ => rfl) (fun kV dc pm an cd ct => kb (kno 42 (by decide +kernel)))
theorem fb43 {C : G0} {oc kV dc pm cd ct : Value} {od an : Option Addr} {sl : Array (Option Value)} (l : C.K.lookup (C.gv 43) = some ⟨oc, od, .func (PySem.W.fnOf "_law_back" "_law_back" (defArgs s43) (defBody s43) (defScope s43) .none kV dc pm an cd ct), sl⟩) (c : PySem.W.codeIn C.K cd "_law_back" = true) (k : PySem.W.keepIn C.K (.ref (C.gv 43)) = true) :
    FnB C ng 43 f43 (PySem.W.fnOf "_law_back" "_law_back" (defArgs s43) (defBody s43) (defScope s43) .none kV dc pm an cd ct) :=
  fn_mk (st := s43) l c k tr43.1 tr43.2 (fun _ _ _ _ _ _ us hl => match us, hl with | [_], _ => rfl) (fun kV dc pm an cd ct => kb (kno 43 (by decide +kernel)))
theorem fb44 {C : G0} {oc kV dc pm cd ct : Value} {od an : Option Addr} {sl : Array (Option Value)} (l : C.K.lookup (C.gv 44) = some ⟨oc, od, .func (PySem.W.fnOf "_law_letter" "_law_letter" (defArgs s44) (defBody s44) (defScope s44) .none kV dc pm an cd ct), sl⟩) (c : PySem.W.codeIn C.K cd "_law_letter" = true) (k : PySem.W.keepIn C.K (.ref (C.gv 44)) = true) :
    FnB C ng 44 f44 (PySem.W.fnOf "_law_letter" "_law_letter" (defArgs s44) (defBody s44) (defScope s44) .none kV dc pm an cd ct) :=
  fn_mk (st := s44) l c k tr44.1 tr44.2 (fun _ _ _ _ _ _ us hl => match us, hl with | [_], _ => rfl) (fun kV dc pm an cd ct => kb (kno 44 (by decide +kernel)))
theorem fb45 {C : G0} {oc kV dc pm cd ct : Value} {od an : Option Addr} {sl : Array (Option Value)} (l : C.K.lookup (C.gv 45) = some ⟨oc, od, .func (PySem.W.fnOf "_law_spell" "_law_spell" (defArgs s45) (defBody s45) (defScope s45) .none kV dc pm an cd ct), sl⟩) (c : PySem.W.codeIn C.K cd "_law_spell" = true) (k : PySem.W.keepIn C.K (.ref (C.gv 45)) = true) :
    FnB C ng 45 f45 (PySem.W.fnOf "_law_spell" "_law_spell" (defArgs s45) (defBody s45) (defScope s45) .none kV dc pm an cd ct) :=
  fn_mk (st := s45) l c k tr45.1 tr45.2 (fun _ _ _ _ _ _ us hl => match us, hl with | [_], _ => rfl) (fun kV dc pm an cd ct => kb (kno 45 (by decide +kernel)))
theorem fb46 {C : G0} {oc kV dc pm cd ct : Value} {od an : Option Addr} {sl : Array (Option Value)} (l : C.K.lookup (C.gv 46) = some ⟨oc, od, .func (PySem.W.fnOf "_law_short" "_law_short" (defArgs s46) (defBody s46) (defScope s46) .none kV dc pm an cd ct), sl⟩) (c : PySem.W.codeIn C.K cd "_law_short" = true) (k : PySem.W.keepIn C.K (.ref (C.gv 46)) = true) :
    FnB C ng 46 f46 (PySem.W.fnOf "_law_short" "_law_short" (defArgs s46) (defBody s46) (defScope s46) .none kV dc pm an cd ct) :=
  fn_mk (st := s46) l c k tr46.1 tr46.2 (fun _ _ _ _ _ _ us hl => match us, hl with | [_], _ => rfl) (fun kV dc pm an cd ct => kb (kno 46 (by decide +kernel)))
theorem fb47 {C : G0} {oc kV dc pm cd ct : Value} {od an : Option Addr} {sl : Array (Option Value)} (l : C.K.lookup (C.gv 47) = some ⟨oc, od, .func (PySem.W.fnOf "_law_word" "_law_word" (defArgs s47) (defBody s47) (defScope s47) .none kV dc pm an cd ct), sl⟩) (c : PySem.W.codeIn C.K cd "_law_word" = true) (k : PySem.W.keepIn C.K (.ref (C.gv 47)) = true) :
    FnB C ng 47 f47 (PySem.W.fnOf "_law_word" "_law_word" (defArgs s47) (defBody s47) (defScope s47) .none kV dc pm an cd ct) :=
  fn_mk (st := s47) l c k tr47.1 tr47.2 (fun _ _ _ _ _ _ us hl => match us, hl with | [_], _ => rfl) (fun kV dc pm an cd ct => kb (kno 47 (by decide +kernel)))
theorem fb48 {C : G0} {oc kV dc pm cd ct : Value} {od an : Option Addr} {sl : Array (Option Value)} (l : C.K.lookup (C.gv 48) = some ⟨oc, od, .func (PySem.W.fnOf "_law_draw_move" "_law_draw_move" (defArgs s48) (defBody s48) (defScope s48) .none kV dc pm an cd ct), sl⟩) (c : PySem.W.codeIn C.K cd "_law_draw_move" = true) (k : PySem.W.keepIn C.K (.ref (C.gv 48)) = true) :
    FnB C ng 48 f48 (PySem.W.fnOf "_law_draw_move" "_law_draw_move" (defArgs s48) (defBody s48) (defScope s48) .none kV dc pm an cd ct) :=
  fn_mk (st := s48) l c k tr48.1 tr48.2 (fun _ _ _ _ _ _ us hl => match us, hl with | [_, _], _ => rfl) (fun kV dc pm an cd ct => kb (kno 48 (by decide +kernel)))
theorem fb49 {C : G0} {oc kV dc pm cd ct : Value} {od an : Option Addr} {sl : Array (Option Value)} (l : C.K.lookup (C.gv 49) = some ⟨oc, od, .func (PySem.W.fnOf "_law_ring" "_law_ring" (defArgs s49) (defBody s49) (defScope s49) .none kV dc pm an cd ct), sl⟩) (c : PySem.W.codeIn C.K cd "_law_ring" = true) (k : PySem.W.keepIn C.K (.ref (C.gv 49)) = true) :
    FnB C ng 49 f49 (PySem.W.fnOf "_law_ring" "_law_ring" (defArgs s49) (defBody s49) (defScope s49) .none kV dc pm an cd ct) :=
  fn_mk (st := s49) l c k tr49.1 tr49.2 (fun _ _ _ _ _ _ us hl => match us, hl with | [_], _ => rfl) (fun kV dc pm an cd ct => kb (kno 49 (by decide +kernel)))
theorem fb50 {C : G0} {oc kV dc pm cd ct : Value} {od an : Option Addr} {sl : Array (Option Value)} (l : C.K.lookup (C.gv 50) = some ⟨oc, od, .func (PySem.W.fnOf "_law_heard" "_law_heard" (defArgs s50) (defBody s50) (defScope s50) .none kV dc pm an cd ct), sl⟩) (c : PySem.W.codeIn C.K cd "_law_heard" = true) (k : PySem.W.keepIn C.K (.ref (C.gv 50)) = true) :
    FnB C ng 50 f50 (PySem.W.fnOf "_law_heard" "_law_heard" (defArgs s50) (defBody s50) (defScope s50) .none kV dc pm an cd ct) :=
  fn_mk (st := s50) l c k tr50.1 tr50.2 (fun _ _ _ _ _ _ us hl => match us, hl with | [_, _], _ => rfl) (fun kV dc pm an cd ct => kb (kno 50 (by decide +kernel)))
theorem fb51 {C : G0} {oc kV dc pm cd ct : Value} {od an : Option Addr} {sl : Array (Option Value)} (l : C.K.lookup (C.gv 51) = some ⟨oc, od, .func (PySem.W.fnOf "law" "law" (defArgs s51) (defBody s51) (defScope s51) .none kV dc pm an cd ct), sl⟩) (c : PySem.W.codeIn C.K cd "law" = true) (k : PySem.W.keepIn C.K (.ref (C.gv 51)) = true) :
    FnB C ng 51 f51 (PySem.W.fnOf "law" "law" (defArgs s51) (defBody s51) (defScope s51) .none kV dc pm an cd ct) :=
  fn_mk (st := s51) l c k tr51.1 tr51.2 (fun _ _ _ _ _ _ us hl => match us, hl with | [_], _ => rfl) (fun kV dc pm an cd ct => kb (kno 51 (by decide +kernel)))
theorem all_mk {P : Program} {w : World} {K : PySem.W.Frag} {h : Heap} {mg : Str → Option Value} {fa : Addr} (X : K.In h) (G : h.Ns mainGlobals mg) (hfa : mg "law" = some (.ref fa))
    {g0 g1 g2 g3 g4 g5 g6 g7 g8 g9 g10 g11 g12 g13 g14 g15 g16 g17 g18 g19 g20 g21 g22 g23 g24 g25 g26 g27 g28 g29 g30 g31 g32 g33 g34 g35 g36 g37 g38 g39 g40 g41 g42 g43 g44 g45 g46 g47 g48 g49 g50 g51 p0 p1 p2 ta0 ta5 ta10 ta15 dg0 : Addr}
    {oc0 kV0 dc0 pm0 cd0 ct0 oc1 kV1 dc1 pm1 cd1 ct1 oc2 kV2 dc2 pm2 cd2 ct2 oc3 kV3 dc3 pm3 cd3 ct3 oc4 kV4 dc4 pm4 cd4 ct4 oc5 kV5 dc5 pm5 cd5 ct5 oc6 kV6 dc6 pm6 cd6 ct6 oc7 kV7 dc7 pm7 cd7 ct7 oc8 kV8 dc8 pm8 cd8 ct8 oc9 kV9 dc9 pm9 cd9 ct9 oc10 kV10 dc10 pm10 cd10 ct10 oc11 kV11 dc11 pm11 cd11 ct11 oc12 kV12 dc12 pm12 cd12 ct12 oc13 kV13 dc13 pm13 cd13 ct13 oc14 kV14 dc14 pm14 cd14 ct14 oc15 kV15 dc15 pm15 cd15 ct15 oc16 kV16 dc16 pm16 cd16 ct16 oc17 kV17 dc17 pm17 cd17 ct17 oc18 kV18 dc18 pm18 cd18 ct18 oc19 kV19 dc19 pm19 cd19 ct19 oc20 kV20 dc20 pm20 cd20 ct20 oc21 kV21 dc21 pm21 cd21 ct21 oc22 kV22 dc22 pm22 cd22 ct22 oc23 kV23 dc23 pm23 cd23 ct23 oc24 kV24 dc24 pm24 cd24 ct24 oc25 kV25 dc25 pm25 cd25 ct25 oc26 kV26 dc26 pm26 cd26 ct26 oc27 kV27 dc27 pm27 cd27 ct27 oc28 kV28 dc28 pm28 cd28 ct28 oc29 kV29 dc29 pm29 cd29 ct29 oc30 kV30 dc30 pm30 cd30 ct30 oc31 kV31 dc31 pm31 cd31 ct31 oc32 kV32 dc32 pm32 cd32 ct32 oc33 kV33 dc33 pm33 cd33 ct33 oc34 kV34 dc34 pm34 cd34 ct34 oc35 kV35 dc35 pm35 cd35 ct35 oc36 kV36 dc36 pm36 cd36 ct36 oc37 kV37 dc37 pm37 cd37 ct37 oc38 kV38 dc38 pm38 cd38 ct38 oc39 kV39 dc39 pm39 cd39 ct39 oc40 kV40 dc40 pm40 cd40 ct40 oc41 kV41 dc41 pm41 cd41 ct41 oc42 kV42 dc42 pm42 cd42 ct42 oc43 kV43 dc43 pm43 cd43 ct43 oc44 kV44 dc44 pm44 cd44 ct44 oc45 kV45 dc45 pm45 cd45 ct45 oc46 kV46 dc46 pm46 cd46 ct46 oc47 kV47 dc47 pm47 cd47 ct47 oc48 kV48 dc48 pm48 cd48 ct48 oc49 kV49 dc49 pm49 cd49 ct49 oc50 kV50 dc50 pm50 cd50 ct50 oc51 kV51 dc51 pm51 cd51 ct51 : Value}
    {od0 an0 od1 an1 od2 an2 od3 an3 od4 an4 od5 an5 od6 an6 od7 an7 od8 an8 od9 an9 od10 an10 od11 an11 od12 an12 od13 an13 od14 an14 od15 an15 od16 an16 od17 an17 od18 an18 od19 an19 od20 an20 od21 an21 od22 an22 od23 an23 od24 an24 od25 an25 od26 an26 od27 an27 od28 an28 od29 an29 od30 an30 od31 an31 od32 an32 od33 an33 od34 an34 od35 an35 od36 an36 od37 an37 od38 an38 od39 an39 od40 an40 od41 an41 od42 an42 od43 an43 od44 an44 od45 an45 od46 an46 od47 an47 od48 an48 od49 an49 od50 an50 od51 an51 td0 td5 td10 td15 : Option Addr}
    {sl0 sl1 sl2 sl3 sl4 sl5 sl6 sl7 sl8 sl9 sl10 sl11 sl12 sl13 sl14 sl15 sl16 sl17 sl18 sl19 sl20 sl21 sl22 sl23 sl24 sl25 sl26 sl27 sl28 sl29 sl30 sl31 sl32 sl33 sl34 sl35 sl36 sl37 sl38 sl39 sl40 sl41 sl42 sl43 sl44 sl45 sl46 sl47 sl48 sl49 sl50 sl51 ts0 ts5 ts10 ts15 : Array (Option Value)}
    {tm0 tm5 tm10 tm15 dm0 : Nat}
    {dk0 dk1 dk2 : Tok}
    {tk1 tk2 tk3 tk4 tk6 tk7 tk8 tk9 tk11 tk12 tk13 tk14 tk16 tk17 tk18 tk19 tk20 tk21 : Tok}
    (a0 : PySem.W.nsIn K mainGlobals "is_number" = some (some (.ref g0)))
    (l0 : K.lookup g0 = some ⟨oc0, od0, .func (PySem.W.fnOf "is_number" "is_number" (defArgs s0) (defBody s0) (defScope s0) .none kV0 dc0 pm0 an0 cd0 ct0), sl0⟩)
    (c0 : PySem.W.codeIn K cd0 "is_number" = true)
    (k0 : PySem.W.keepIn K (.ref g0) = true)
    (a1 : PySem.W.nsIn K mainGlobals "is_within" = some (some (.ref g1)))
    (l1 : K.lookup g1 = some ⟨oc1, od1, .func (PySem.W.fnOf "is_within" "is_within" (defArgs s1) (defBody s1) (defScope s1) .none kV1 dc1 pm1 an1 cd1 ct1), sl1⟩)
    (c1 : PySem.W.codeIn K cd1 "is_within" = true)
    (k1 : PySem.W.keepIn K (.ref g1) = true)
    (a2 : PySem.W.nsIn K mainGlobals "is_long" = some (some (.ref g2)))
    (l2 : K.lookup g2 = some ⟨oc2, od2, .func (PySem.W.fnOf "is_long" "is_long" (defArgs s2) (defBody s2) (defScope s2) .none kV2 dc2 pm2 an2 cd2 ct2), sl2⟩)
    (c2 : PySem.W.codeIn K cd2 "is_long" = true)
    (k2 : PySem.W.keepIn K (.ref g2) = true)
    (a3 : PySem.W.nsIn K mainGlobals "are_numbers" = some (some (.ref g3)))
    (l3 : K.lookup g3 = some ⟨oc3, od3, .func (PySem.W.fnOf "are_numbers" "are_numbers" (defArgs s3) (defBody s3) (defScope s3) .none kV3 dc3 pm3 an3 cd3 ct3), sl3⟩)
    (c3 : PySem.W.codeIn K cd3 "are_numbers" = true)
    (k3 : PySem.W.keepIn K (.ref g3) = true)
    (a4 : PySem.W.nsIn K mainGlobals "tupled" = some (some (.ref g4)))
    (l4 : K.lookup g4 = some ⟨oc4, od4, .func (PySem.W.fnOf "tupled" "tupled" (defArgs s4) (defBody s4) (defScope s4) .none kV4 dc4 pm4 an4 cd4 ct4), sl4⟩)
    (c4 : PySem.W.codeIn K cd4 "tupled" = true)
    (k4 : PySem.W.keepIn K (.ref g4) = true)
    (a5 : PySem.W.nsIn K mainGlobals "is_move_of" = some (some (.ref g5)))
    (l5 : K.lookup g5 = some ⟨oc5, od5, .func (PySem.W.fnOf "is_move_of" "is_move_of" (defArgs s5) (defBody s5) (defScope s5) .none kV5 dc5 pm5 an5 cd5 ct5), sl5⟩)
    (c5 : PySem.W.codeIn K cd5 "is_move_of" = true)
    (k5 : PySem.W.keepIn K (.ref g5) = true)
    (a6 : PySem.W.nsIn K mainGlobals "sure_move" = some (some (.ref g6)))
    (l6 : K.lookup g6 = some ⟨oc6, od6, .func (PySem.W.fnOf "sure_move" "sure_move" (defArgs s6) (defBody s6) (defScope s6) .none kV6 dc6 pm6 an6 cd6 ct6), sl6⟩)
    (c6 : PySem.W.codeIn K cd6 "sure_move" = true)
    (k6 : PySem.W.keepIn K (.ref g6) = true)
    (a7 : PySem.W.nsIn K mainGlobals "signed" = some (some (.ref g7)))
    (l7 : K.lookup g7 = some ⟨oc7, od7, .func (PySem.W.fnOf "signed" "signed" (defArgs s7) (defBody s7) (defScope s7) .none kV7 dc7 pm7 an7 cd7 ct7), sl7⟩)
    (c7 : PySem.W.codeIn K cd7 "signed" = true)
    (k7 : PySem.W.keepIn K (.ref g7) = true)
    (a8 : PySem.W.nsIn K mainGlobals "product" = some (some (.ref g8)))
    (l8 : K.lookup g8 = some ⟨oc8, od8, .func (PySem.W.fnOf "product" "product" (defArgs s8) (defBody s8) (defScope s8) .none kV8 dc8 pm8 an8 cd8 ct8), sl8⟩)
    (c8 : PySem.W.codeIn K cd8 "product" = true)
    (k8 : PySem.W.keepIn K (.ref g8) = true)
    (a9 : PySem.W.nsIn K mainGlobals "is_row_of" = some (some (.ref g9)))
    (l9 : K.lookup g9 = some ⟨oc9, od9, .func (PySem.W.fnOf "is_row_of" "is_row_of" (defArgs s9) (defBody s9) (defScope s9) .none kV9 dc9 pm9 an9 cd9 ct9), sl9⟩)
    (c9 : PySem.W.codeIn K cd9 "is_row_of" = true)
    (k9 : PySem.W.keepIn K (.ref g9) = true)
    (a10 : PySem.W.nsIn K mainGlobals "is_word_of" = some (some (.ref g10)))
    (l10 : K.lookup g10 = some ⟨oc10, od10, .func (PySem.W.fnOf "is_word_of" "is_word_of" (defArgs s10) (defBody s10) (defScope s10) .none kV10 dc10 pm10 an10 cd10 ct10), sl10⟩)
    (c10 : PySem.W.codeIn K cd10 "is_word_of" = true)
    (k10 : PySem.W.keepIn K (.ref g10) = true)
    (a11 : PySem.W.nsIn K mainGlobals "sure_row" = some (some (.ref g11)))
    (l11 : K.lookup g11 = some ⟨oc11, od11, .func (PySem.W.fnOf "sure_row" "sure_row" (defArgs s11) (defBody s11) (defScope s11) .none kV11 dc11 pm11 an11 cd11 ct11), sl11⟩)
    (c11 : PySem.W.codeIn K cd11 "sure_row" = true)
    (k11 : PySem.W.keepIn K (.ref g11) = true)
    (a12 : PySem.W.nsIn K mainGlobals "sure_word" = some (some (.ref g12)))
    (l12 : K.lookup g12 = some ⟨oc12, od12, .func (PySem.W.fnOf "sure_word" "sure_word" (defArgs s12) (defBody s12) (defScope s12) .none kV12 dc12 pm12 an12 cd12 ct12), sl12⟩)
    (c12 : PySem.W.codeIn K cd12 "sure_word" = true)
    (k12 : PySem.W.keepIn K (.ref g12) = true)
    (a13 : PySem.W.nsIn K mainGlobals "shortest" = some (some (.ref g13)))
    (l13 : K.lookup g13 = some ⟨oc13, od13, .func (PySem.W.fnOf "shortest" "shortest" (defArgs s13) (defBody s13) (defScope s13) .none kV13 dc13 pm13 an13 cd13 ct13), sl13⟩)
    (c13 : PySem.W.codeIn K cd13 "shortest" = true)
    (k13 : PySem.W.keepIn K (.ref g13) = true)
    (a14 : PySem.W.nsIn K mainGlobals "back_of" = some (some (.ref g14)))
    (l14 : K.lookup g14 = some ⟨oc14, od14, .func (PySem.W.fnOf "back_of" "back_of" (defArgs s14) (defBody s14) (defScope s14) .none kV14 dc14 pm14 an14 cd14 ct14), sl14⟩)
    (c14 : PySem.W.codeIn K cd14 "back_of" = true)
    (k14 : PySem.W.keepIn K (.ref g14) = true)
    (a15 : PySem.W.nsIn K mainGlobals "move_in" = some (some (.ref g15)))
    (l15 : K.lookup g15 = some ⟨oc15, od15, .func (PySem.W.fnOf "move_in" "move_in" (defArgs s15) (defBody s15) (defScope s15) .none kV15 dc15 pm15 an15 cd15 ct15), sl15⟩)
    (c15 : PySem.W.codeIn K cd15 "move_in" = true)
    (k15 : PySem.W.keepIn K (.ref g15) = true)
    (a16 : PySem.W.nsIn K mainGlobals "nearest" = some (some (.ref g16)))
    (l16 : K.lookup g16 = some ⟨oc16, od16, .func (PySem.W.fnOf "nearest" "nearest" (defArgs s16) (defBody s16) (defScope s16) .none kV16 dc16 pm16 an16 cd16 ct16), sl16⟩)
    (c16 : PySem.W.codeIn K cd16 "nearest" = true)
    (k16 : PySem.W.keepIn K (.ref g16) = true)
    (a17 : PySem.W.nsIn K mainGlobals "quotients" = some (some (.ref g17)))
    (l17 : K.lookup g17 = some ⟨oc17, od17, .func (PySem.W.fnOf "quotients" "quotients" (defArgs s17) (defBody s17) (defScope s17) .none kV17 dc17 pm17 an17 cd17 ct17), sl17⟩)
    (c17 : PySem.W.codeIn K cd17 "quotients" = true)
    (k17 : PySem.W.keepIn K (.ref g17) = true)
    (a18 : PySem.W.nsIn K mainGlobals "word_in" = some (some (.ref g18)))
    (l18 : K.lookup g18 = some ⟨oc18, od18, .func (PySem.W.fnOf "word_in" "word_in" (defArgs s18) (defBody s18) (defScope s18) .none kV18 dc18 pm18 an18 cd18 ct18), sl18⟩)
    (c18 : PySem.W.codeIn K cd18 "word_in" = true)
    (k18 : PySem.W.keepIn K (.ref g18) = true)
    (a19 : PySem.W.nsIn K mainGlobals "round_of" = some (some (.ref g19)))
    (l19 : K.lookup g19 = some ⟨oc19, od19, .func (PySem.W.fnOf "round_of" "round_of" (defArgs s19) (defBody s19) (defScope s19) .none kV19 dc19 pm19 an19 cd19 ct19), sl19⟩)
    (c19 : PySem.W.codeIn K cd19 "round_of" = true)
    (k19 : PySem.W.keepIn K (.ref g19) = true)
    (a20 : PySem.W.nsIn K mainGlobals "words_of" = some (some (.ref g20)))
    (l20 : K.lookup g20 = some ⟨oc20, od20, .func (PySem.W.fnOf "words_of" "words_of" (defArgs s20) (defBody s20) (defScope s20) .none kV20 dc20 pm20 an20 cd20 ct20), sl20⟩)
    (c20 : PySem.W.codeIn K cd20 "words_of" = true)
    (k20 : PySem.W.keepIn K (.ref g20) = true)
    (a21 : PySem.W.nsIn K mainGlobals "is_word" = some (some (.ref g21)))
    (l21 : K.lookup g21 = some ⟨oc21, od21, .func (PySem.W.fnOf "is_word" "is_word" (defArgs s21) (defBody s21) (defScope s21) .none kV21 dc21 pm21 an21 cd21 ct21), sl21⟩)
    (c21 : PySem.W.codeIn K cd21 "is_word" = true)
    (k21 : PySem.W.keepIn K (.ref g21) = true)
    (a22 : PySem.W.nsIn K mainGlobals "word_of" = some (some (.ref g22)))
    (l22 : K.lookup g22 = some ⟨oc22, od22, .func (PySem.W.fnOf "word_of" "word_of" (defArgs s22) (defBody s22) (defScope s22) .none kV22 dc22 pm22 an22 cd22 ct22), sl22⟩)
    (c22 : PySem.W.codeIn K cd22 "word_of" = true)
    (k22 : PySem.W.keepIn K (.ref g22) = true)
    (a23 : PySem.W.nsIn K mainGlobals "move_by" = some (some (.ref g23)))
    (l23 : K.lookup g23 = some ⟨oc23, od23, .func (PySem.W.fnOf "move_by" "move_by" (defArgs s23) (defBody s23) (defScope s23) .none kV23 dc23 pm23 an23 cd23 ct23), sl23⟩)
    (c23 : PySem.W.codeIn K cd23 "move_by" = true)
    (k23 : PySem.W.keepIn K (.ref g23) = true)
    (a24 : PySem.W.nsIn K mainGlobals "shortened" = some (some (.ref g24)))
    (l24 : K.lookup g24 = some ⟨oc24, od24, .func (PySem.W.fnOf "shortened" "shortened" (defArgs s24) (defBody s24) (defScope s24) .none kV24 dc24 pm24 an24 cd24 ct24), sl24⟩)
    (c24 : PySem.W.codeIn K cd24 "shortened" = true)
    (k24 : PySem.W.keepIn K (.ref g24) = true)
    (a25 : PySem.W.nsIn K mainGlobals "word_behind" = some (some (.ref g25)))
    (l25 : K.lookup g25 = some ⟨oc25, od25, .func (PySem.W.fnOf "word_behind" "word_behind" (defArgs s25) (defBody s25) (defScope s25) .none kV25 dc25 pm25 an25 cd25 ct25), sl25⟩)
    (c25 : PySem.W.codeIn K cd25 "word_behind" = true)
    (k25 : PySem.W.keepIn K (.ref g25) = true)
    (a26 : PySem.W.nsIn K mainGlobals "word_back" = some (some (.ref g26)))
    (l26 : K.lookup g26 = some ⟨oc26, od26, .func (PySem.W.fnOf "word_back" "word_back" (defArgs s26) (defBody s26) (defScope s26) .none kV26 dc26 pm26 an26 cd26 ct26), sl26⟩)
    (c26 : PySem.W.codeIn K cd26 "word_back" = true)
    (k26 : PySem.W.keepIn K (.ref g26) = true)
    (a27 : PySem.W.nsIn K mainGlobals "all_words" = some (some (.ref g27)))
    (l27 : K.lookup g27 = some ⟨oc27, od27, .func (PySem.W.fnOf "all_words" "all_words" (defArgs s27) (defBody s27) (defScope s27) .none kV27 dc27 pm27 an27 cd27 ct27), sl27⟩)
    (c27 : PySem.W.codeIn K cd27 "all_words" = true)
    (k27 : PySem.W.keepIn K (.ref g27) = true)
    (a28 : PySem.W.nsIn K mainGlobals "how_many_words" = some (some (.ref g28)))
    (l28 : K.lookup g28 = some ⟨oc28, od28, .func (PySem.W.fnOf "how_many_words" "how_many_words" (defArgs s28) (defBody s28) (defScope s28) .none kV28 dc28 pm28 an28 cd28 ct28), sl28⟩)
    (c28 : PySem.W.codeIn K cd28 "how_many_words" = true)
    (k28 : PySem.W.keepIn K (.ref g28) = true)
    (a29 : PySem.W.nsIn K mainGlobals "round_word" = some (some (.ref g29)))
    (l29 : K.lookup g29 = some ⟨oc29, od29, .func (PySem.W.fnOf "round_word" "round_word" (defArgs s29) (defBody s29) (defScope s29) .none kV29 dc29 pm29 an29 cd29 ct29), sl29⟩)
    (c29 : PySem.W.codeIn K cd29 "round_word" = true)
    (k29 : PySem.W.keepIn K (.ref g29) = true)
    (a30 : PySem.W.nsIn K mainGlobals "are_turned" = some (some (.ref g30)))
    (l30 : K.lookup g30 = some ⟨oc30, od30, .func (PySem.W.fnOf "are_turned" "are_turned" (defArgs s30) (defBody s30) (defScope s30) .none kV30 dc30 pm30 an30 cd30 ct30), sl30⟩)
    (c30 : PySem.W.codeIn K cd30 "are_turned" = true)
    (k30 : PySem.W.keepIn K (.ref g30) = true)
    (a31 : PySem.W.nsIn K mainGlobals "step_rows" = some (some (.ref g31)))
    (l31 : K.lookup g31 = some ⟨oc31, od31, .func (PySem.W.fnOf "step_rows" "step_rows" (defArgs s31) (defBody s31) (defScope s31) .none kV31 dc31 pm31 an31 cd31 ct31), sl31⟩)
    (c31 : PySem.W.codeIn K cd31 "step_rows" = true)
    (k31 : PySem.W.keepIn K (.ref g31) = true)
    (a32 : PySem.W.nsIn K mainGlobals "_law_box" = some (some (.ref g32)))
    (l32 : K.lookup g32 = some ⟨oc32, od32, .func (PySem.W.fnOf "_law_box" "_law_box" (defArgs s32) (defBody s32) (defScope s32) .none kV32 dc32 pm32 an32 cd32 ct32), sl32⟩)
    (c32 : PySem.W.codeIn K cd32 "_law_box" = true)
    (k32 : PySem.W.keepIn K (.ref g32) = true)
    (a33 : PySem.W.nsIn K mainGlobals "_law_take" = some (some (.ref g33)))
    (l33 : K.lookup g33 = some ⟨oc33, od33, .func (PySem.W.fnOf "_law_take" "_law_take" (defArgs s33) (defBody s33) (defScope s33) .none kV33 dc33 pm33 an33 cd33 ct33), sl33⟩)
    (c33 : PySem.W.codeIn K cd33 "_law_take" = true)
    (k33 : PySem.W.keepIn K (.ref g33) = true)
    (a34 : PySem.W.nsIn K mainGlobals "_law_cells" = some (some (.ref g34)))
    (l34 : K.lookup g34 = some ⟨oc34, od34, .func (PySem.W.fnOf "_law_cells" "_law_cells" (defArgs s34) (defBody s34) (defScope s34) .none kV34 dc34 pm34 an34 cd34 ct34), sl34⟩)
    (c34 : PySem.W.codeIn K cd34 "_law_cells" = true)
    (k34 : PySem.W.keepIn K (.ref g34) = true)
    (a35 : PySem.W.nsIn K mainGlobals "_law_lists" = some (some (.ref g35)))
    (l35 : K.lookup g35 = some ⟨oc35, od35, .func (PySem.W.fnOf "_law_lists" "_law_lists" (defArgs s35) (defBody s35) (defScope s35) .none kV35 dc35 pm35 an35 cd35 ct35), sl35⟩)
    (c35 : PySem.W.codeIn K cd35 "_law_lists" = true)
    (k35 : PySem.W.keepIn K (.ref g35) = true)
    (a36 : PySem.W.nsIn K mainGlobals "_law_same" = some (some (.ref g36)))
    (l36 : K.lookup g36 = some ⟨oc36, od36, .func (PySem.W.fnOf "_law_same" "_law_same" (defArgs s36) (defBody s36) (defScope s36) .none kV36 dc36 pm36 an36 cd36 ct36), sl36⟩)
    (c36 : PySem.W.codeIn K cd36 "_law_same" = true)
    (k36 : PySem.W.keepIn K (.ref g36) = true)
    (a37 : PySem.W.nsIn K mainGlobals "_law_unmarked" = some (some (.ref g37)))
    (l37 : K.lookup g37 = some ⟨oc37, od37, .func (PySem.W.fnOf "_law_unmarked" "_law_unmarked" (defArgs s37) (defBody s37) (defScope s37) .none kV37 dc37 pm37 an37 cd37 ct37), sl37⟩)
    (c37 : PySem.W.codeIn K cd37 "_law_unmarked" = true)
    (k37 : PySem.W.keepIn K (.ref g37) = true)
    (a38 : PySem.W.nsIn K mainGlobals "_law_spoil" = some (some (.ref g38)))
    (l38 : K.lookup g38 = some ⟨oc38, od38, .func (PySem.W.fnOf "_law_spoil" "_law_spoil" (defArgs s38) (defBody s38) (defScope s38) .none kV38 dc38 pm38 an38 cd38 ct38), sl38⟩)
    (c38 : PySem.W.codeIn K cd38 "_law_spoil" = true)
    (k38 : PySem.W.keepIn K (.ref g38) = true)
    (a39 : PySem.W.nsIn K mainGlobals "_law_call" = some (some (.ref g39)))
    (l39 : K.lookup g39 = some ⟨oc39, od39, .func (PySem.W.fnOf "_law_call" "_law_call" (defArgs s39) (defBody s39) (defScope s39) .none kV39 dc39 pm39 an39 cd39 ct39), sl39⟩)
    (c39 : PySem.W.codeIn K cd39 "_law_call" = true)
    (k39 : PySem.W.keepIn K (.ref g39) = true)
    (a40 : PySem.W.nsIn K mainGlobals "_law_told_anew" = some (some (.ref g40)))
    (l40 : K.lookup g40 = some ⟨oc40, od40, .func (PySem.W.fnOf "_law_told_anew" "_law_told_anew" (defArgs s40) (defBody s40) (defScope s40) .none kV40 dc40 pm40 an40 cd40 ct40), sl40⟩)
    (c40 : PySem.W.codeIn K cd40 "_law_told_anew" = true)
    (k40 : PySem.W.keepIn K (.ref g40) = true)
    (a41 : PySem.W.nsIn K mainGlobals "_law_mark" = some (some (.ref g41)))
    (l41 : K.lookup g41 = some ⟨oc41, od41, .func (PySem.W.fnOf "_law_mark" "_law_mark" (defArgs s41) (defBody s41) (defScope s41) .none kV41 dc41 pm41 an41 cd41 ct41), sl41⟩)
    (c41 : PySem.W.codeIn K cd41 "_law_mark" = true)
    (k41 : PySem.W.keepIn K (.ref g41) = true)
    (a42 : PySem.W.nsIn K mainGlobals "_law_times" = some (some (.ref g42)))
    (l42 : K.lookup g42 = some ⟨oc42, od42, .func (PySem.W.fnOf "_law_times" "_law_times" (defArgs s42) (defBody s42) (defScope s42) .none kV42 dc42 pm42 an42 cd42 ct42), sl42⟩)
    (c42 : PySem.W.codeIn K cd42 "_law_times" = true)
    (k42 : PySem.W.keepIn K (.ref g42) = true)
    (a43 : PySem.W.nsIn K mainGlobals "_law_back" = some (some (.ref g43)))
    (l43 : K.lookup g43 = some ⟨oc43, od43, .func (PySem.W.fnOf "_law_back" "_law_back" (defArgs s43) (defBody s43) (defScope s43) .none kV43 dc43 pm43 an43 cd43 ct43), sl43⟩)
    (c43 : PySem.W.codeIn K cd43 "_law_back" = true)
    (k43 : PySem.W.keepIn K (.ref g43) = true)
    (a44 : PySem.W.nsIn K mainGlobals "_law_letter" = some (some (.ref g44)))
    (l44 : K.lookup g44 = some ⟨oc44, od44, .func (PySem.W.fnOf "_law_letter" "_law_letter" (defArgs s44) (defBody s44) (defScope s44) .none kV44 dc44 pm44 an44 cd44 ct44), sl44⟩)
    (c44 : PySem.W.codeIn K cd44 "_law_letter" = true)
    (k44 : PySem.W.keepIn K (.ref g44) = true)
    (a45 : PySem.W.nsIn K mainGlobals "_law_spell" = some (some (.ref g45)))
    (l45 : K.lookup g45 = some ⟨oc45, od45, .func (PySem.W.fnOf "_law_spell" "_law_spell" (defArgs s45) (defBody s45) (defScope s45) .none kV45 dc45 pm45 an45 cd45 ct45), sl45⟩)
    (c45 : PySem.W.codeIn K cd45 "_law_spell" = true)
    (k45 : PySem.W.keepIn K (.ref g45) = true)
    (a46 : PySem.W.nsIn K mainGlobals "_law_short" = some (some (.ref g46)))
    (l46 : K.lookup g46 = some ⟨oc46, od46, .func (PySem.W.fnOf "_law_short" "_law_short" (defArgs s46) (defBody s46) (defScope s46) .none kV46 dc46 pm46 an46 cd46 ct46), sl46⟩)
    (c46 : PySem.W.codeIn K cd46 "_law_short" = true)
    (k46 : PySem.W.keepIn K (.ref g46) = true)
    (a47 : PySem.W.nsIn K mainGlobals "_law_word" = some (some (.ref g47)))
    (l47 : K.lookup g47 = some ⟨oc47, od47, .func (PySem.W.fnOf "_law_word" "_law_word" (defArgs s47) (defBody s47) (defScope s47) .none kV47 dc47 pm47 an47 cd47 ct47), sl47⟩)
    (c47 : PySem.W.codeIn K cd47 "_law_word" = true)
    (k47 : PySem.W.keepIn K (.ref g47) = true)
    (a48 : PySem.W.nsIn K mainGlobals "_law_draw_move" = some (some (.ref g48)))
    (l48 : K.lookup g48 = some ⟨oc48, od48, .func (PySem.W.fnOf "_law_draw_move" "_law_draw_move" (defArgs s48) (defBody s48) (defScope s48) .none kV48 dc48 pm48 an48 cd48 ct48), sl48⟩)
    (c48 : PySem.W.codeIn K cd48 "_law_draw_move" = true)
    (k48 : PySem.W.keepIn K (.ref g48) = true)
    (a49 : PySem.W.nsIn K mainGlobals "_law_ring" = some (some (.ref g49)))
    (l49 : K.lookup g49 = some ⟨oc49, od49, .func (PySem.W.fnOf "_law_ring" "_law_ring" (defArgs s49) (defBody s49) (defScope s49) .none kV49 dc49 pm49 an49 cd49 ct49), sl49⟩)
    (c49 : PySem.W.codeIn K cd49 "_law_ring" = true)
    (k49 : PySem.W.keepIn K (.ref g49) = true)
    (a50 : PySem.W.nsIn K mainGlobals "_law_heard" = some (some (.ref g50)))
    (l50 : K.lookup g50 = some ⟨oc50, od50, .func (PySem.W.fnOf "_law_heard" "_law_heard" (defArgs s50) (defBody s50) (defScope s50) .none kV50 dc50 pm50 an50 cd50 ct50), sl50⟩)
    (c50 : PySem.W.codeIn K cd50 "_law_heard" = true)
    (k50 : PySem.W.keepIn K (.ref g50) = true)
    (a51 : PySem.W.nsIn K mainGlobals "law" = some (some (.ref g51)))
    (l51 : K.lookup g51 = some ⟨oc51, od51, .func (PySem.W.fnOf "law" "law" (defArgs s51) (defBody s51) (defScope s51) .none kV51 dc51 pm51 an51 cd51 ct51), sl51⟩)
    (c51 : PySem.W.codeIn K cd51 "law" = true)
    (k51 : PySem.W.keepIn K (.ref g51) = true)
    (u0 : PySem.W.nsIn K mainGlobals "STILL" = some (some (.ref ta0)))
    (t0 : K.lookup ta0 = some ⟨.type "tuple", td0, .seq #[.int 1 tk1, .int 0 tk2, .int 0 tk3, .int 1 tk4] tm0, ts0⟩)
    (u1 : PySem.W.nsIn K mainGlobals "TURN" = some (some (.ref ta5)))
    (t5 : K.lookup ta5 = some ⟨.type "tuple", td5, .seq #[.int 0 tk6, .int (-1) tk7, .int 1 tk8, .int 0 tk9] tm5, ts5⟩)
    (u2 : PySem.W.nsIn K mainGlobals "THREE" = some (some (.ref ta10)))
    (t10 : K.lookup ta10 = some ⟨.type "tuple", td10, .seq #[.int 0 tk11, .int (-1) tk12, .int 1 tk13, .int 1 tk14] tm10, ts10⟩)
    (u3 : PySem.W.nsIn K mainGlobals "THREE_BACK" = some (some (.ref ta15)))
    (t15 : K.lookup ta15 = some ⟨.type "tuple", td15, .seq #[.int (-1) tk16, .int (-1) tk17, .int 1 tk18, .int 0 tk19] tm15, ts15⟩)
    (u4 : PySem.W.nsIn K mainGlobals "MOST_LETTERS" = some (some (.int 20000 tk20)))
    (u5 : PySem.W.nsIn K mainGlobals "MOST_LISTED" = some (some (.int 12 tk21)))
    (du0 : PySem.W.nsIn K mainGlobals "LETTERS" = some (some (.ref dg0)))
    (dl0 : K.lookup dg0 = some ⟨.type "dict", none, .dict #[⟨1, .int 1 dk0, .ref ta5⟩, ⟨2, .int 2 dk1, .ref ta10⟩, ⟨3, .int 3 dk2, .ref ta15⟩] dm0, #[]⟩)
    (ca0 : PySem.W.nsIn K mainGlobals "CanNot" = some (some (.ref p0)))
    (cx0 : PySem.W.excIn K p0 [.type "ValueError", .type "Exception", .type "BaseException", .type "object"] "ValueError.__new__" = true)
    (ck0 : PySem.W.keepIn K (.ref p0) = true)
    (cb0 : PySem.W.subIn K (.ref p0) (.type "BaseException") = some true)
    (ct_0 : PySem.W.typeIn K (.ref p0) = some (.type "type"))
    (ce0 : PySem.W.findIn K (.ref p0) "__getattribute__" = some (some (.builtin "BaseException.__getattribute__")))
    (cf0 : PySem.W.findIn K (.ref p0) "__getattr__" = some none)
    (ch0 : PySem.W.hasDictIn K p0 = true)
    (ci0 : PySem.W.findIn K (.ref p0) "__class__" = some (some (.builtin "object.__class__")))
    (cm0 : PySem.W.mroIn K p0 (.type "object") = some true)
    (cv0 : PySem.W.subIn K (.ref p0) (.type "ValueError") = some true)
    (ca1 : PySem.W.nsIn K mainGlobals "TooMany" = some (some (.ref p1)))
    (cx1 : PySem.W.excIn K p1 [.type "ValueError", .type "Exception", .type "BaseException", .type "object"] "ValueError.__new__" = true)
    (ck1 : PySem.W.keepIn K (.ref p1) = true)
    (cb1 : PySem.W.subIn K (.ref p1) (.type "BaseException") = some true)
    (ct_1 : PySem.W.typeIn K (.ref p1) = some (.type "type"))
    (ce1 : PySem.W.findIn K (.ref p1) "__getattribute__" = some (some (.builtin "BaseException.__getattribute__")))
    (cf1 : PySem.W.findIn K (.ref p1) "__getattr__" = some none)
    (ch1 : PySem.W.hasDictIn K p1 = true)
    (ci1 : PySem.W.findIn K (.ref p1) "__class__" = some (some (.builtin "object.__class__")))
    (cm1 : PySem.W.mroIn K p1 (.type "object") = some true)
    (cv1 : PySem.W.subIn K (.ref p1) (.type "ValueError") = some true)
    (ca2 : PySem.W.nsIn K mainGlobals "Unfit" = some (some (.ref p2)))
    (cx2 : PySem.W.excIn K p2 [.type "ValueError", .type "Exception", .type "BaseException", .type "object"] "ValueError.__new__" = true)
    (ck2 : PySem.W.keepIn K (.ref p2) = true)
    (cb2 : PySem.W.subIn K (.ref p2) (.type "BaseException") = some true)
    (ct_2 : PySem.W.typeIn K (.ref p2) = some (.type "type"))
    (ce2 : PySem.W.findIn K (.ref p2) "__getattribute__" = some (some (.builtin "BaseException.__getattribute__")))
    (cf2 : PySem.W.findIn K (.ref p2) "__getattr__" = some none)
    (ch2 : PySem.W.hasDictIn K p2 = true)
    (ci2 : PySem.W.findIn K (.ref p2) "__class__" = some (some (.builtin "object.__class__")))
    (cm2 : PySem.W.mroIn K p2 (.type "object") = some true)
    (cv2 : PySem.W.subIn K (.ref p2) (.type "ValueError") = some true)
    (cs0_0 : PySem.W.subIn K (.ref p0) (.ref p0) = some true)
    (cs0_1 : PySem.W.subIn K (.ref p0) (.ref p1) = some false)
    (cs0_2 : PySem.W.subIn K (.ref p0) (.ref p2) = some false)
    (cs1_0 : PySem.W.subIn K (.ref p1) (.ref p0) = some false)
    (cs1_1 : PySem.W.subIn K (.ref p1) (.ref p1) = some true)
    (cs1_2 : PySem.W.subIn K (.ref p1) (.ref p2) = some false)
    (cs2_0 : PySem.W.subIn K (.ref p2) (.ref p0) = some false)
    (cs2_1 : PySem.W.subIn K (.ref p2) (.ref p1) = some false)
    (cs2_2 : PySem.W.subIn K (.ref p2) (.ref p2) = some true)
    (e5 : PySem.W.specialIn K (.builtin "object.__class__") "__get__" = some (some (.builtin "getset_descriptor.__get__")))
    (e6 : PySem.W.takesIn K (.builtin "object.__class__") = some true)
    (z0 : PySem.W.nsIn K mainGlobals "len" = some none)
    (z1 : PySem.W.nsIn K mainGlobals "abs" = some none)
    (z2 : PySem.W.nsIn K mainGlobals "tuple" = some none)
    (z3 : PySem.W.nsIn K mainGlobals "list" = some none)
    (z4 : PySem.W.nsIn K mainGlobals "int" = some none)
    (z5 : PySem.W.nsIn K mainGlobals "sum" = some none)
    (z6 : PySem.W.nsIn K mainGlobals "min" = some none)
    (z7 : PySem.W.nsIn K mainGlobals "max" = some none)
    (z8 : PySem.W.nsIn K mainGlobals "all" = some none)
    (z9 : PySem.W.nsIn K mainGlobals "any" = some none)
    (z10 : PySem.W.nsIn K mainGlobals "sorted" = some none)
    (z11 : PySem.W.nsIn K mainGlobals "isinstance" = some none)
    (z12 : PySem.W.nsIn K mainGlobals "bool" = some none)
    (z13 : PySem.W.nsIn K mainGlobals "str" = some none)
    (z14 : PySem.W.nsIn K mainGlobals "dict" = some none)
    (z15 : PySem.W.nsIn K mainGlobals "range" = some none)
    (z16 : PySem.W.nsIn K mainGlobals "enumerate" = some none)
    (z17 : PySem.W.nsIn K mainGlobals "zip" = some none)
    (z18 : PySem.W.nsIn K mainGlobals "set" = some none)
    (y0 : PySem.W.nsIn K mainGlobals "ValueError" = some none)
    (y1 : PySem.W.nsIn K mainGlobals "LookupError" = some none)
    (ok : ∀ ns : List Int, ns.length ≤ 63 → ∃ as', callF T 200 51 [.val (.scr ns)] = .ok (.v (.bl true)) as') :
    ∃ fd : FuncData, (∀ (s : Shared) (u : Value), BindsTo s fd ⟨[u], []⟩ [("script", u)]) ∧ ∀ base : Heap, K.In base → base.Ns mainGlobals mg → FnOk P w K mg base (L2.CX P w) 200 fa fd ["script"] (spLaw K) := by
  have e2 : g51 = fa := by
    have e := hfa.symm.trans (PySem.W.mg_of X G a51)
    cases e; rfl
  subst e2
  let C : G0 := mkC K [g0, g1, g2, g3, g4, g5, g6, g7, g8, g9, g10, g11, g12, g13, g14, g15, g16, g17, g18, g19, g20, g21, g22, g23, g24, g25, g26, g27, g28, g29, g30, g31, g32, g33, g34, g35, g36, g37, g38, g39, g40, g41, g42, g43, g44, g45, g46, g47, g48, g49, g50, g51] [p0, p1, p2]
  have D0 : ∀ p, T.dcs[0]? = some p → ∃ a, mg "LETTERS" = some (.ref a) ∧ ∀ kk d, dlook p.1 p.2 kk = some d → ∃ i v, kk = .inl i ∧ KDI C.K a i v ∧ ∀ H, Rep C H d v := by
    intro p q
    cases q
    refine ⟨_, PySem.W.mg_of X G du0, fun kk d h => ?_⟩
    rcases dlk_3 h with ⟨rfl, rfl⟩ | ⟨rfl, rfl⟩ | ⟨rfl, rfl⟩
    · obtain ⟨v, r1, r2⟩ := krep (C := C) (.tup [.int 0, .int (-1), .int 1, .int 0]) (.ref ta5) ⟨_, _, _, _, rfl, t5, rfl, rfl, by show 4 ≤ sizeLine; decide, ⟨_, _, rfl, ⟨_, rfl⟩, ⟨_, _, rfl, ⟨_, rfl⟩, ⟨_, _, rfl, ⟨_, rfl⟩, ⟨_, _, rfl, ⟨_, rfl⟩, rfl⟩⟩⟩⟩⟩
      exact ⟨1, v, rfl, kdi_mk (es := [(1, dk0, .ref ta5), (2, dk1, .ref ta10), (3, dk2, .ref ta15)]) dl0 rfl r1, r2⟩
    · obtain ⟨v, r1, r2⟩ := krep (C := C) (.tup [.int 0, .int (-1), .int 1, .int 1]) (.ref ta10) ⟨_, _, _, _, rfl, t10, rfl, rfl, by show 4 ≤ sizeLine; decide, ⟨_, _, rfl, ⟨_, rfl⟩, ⟨_, _, rfl, ⟨_, rfl⟩, ⟨_, _, rfl, ⟨_, rfl⟩, ⟨_, _, rfl, ⟨_, rfl⟩, rfl⟩⟩⟩⟩⟩
      exact ⟨2, v, rfl, kdi_mk (es := [(1, dk0, .ref ta5), (2, dk1, .ref ta10), (3, dk2, .ref ta15)]) dl0 rfl r1, r2⟩
    · obtain ⟨v, r1, r2⟩ := krep (C := C) (.tup [.int (-1), .int (-1), .int 1, .int 0]) (.ref ta15) ⟨_, _, _, _, rfl, t15, rfl, rfl, by show 4 ≤ sizeLine; decide, ⟨_, _, rfl, ⟨_, rfl⟩, ⟨_, _, rfl, ⟨_, rfl⟩, ⟨_, _, rfl, ⟨_, rfl⟩, ⟨_, _, rfl, ⟨_, rfl⟩, rfl⟩⟩⟩⟩⟩
      exact ⟨3, v, rfl, kdi_mk (es := [(1, dk0, .ref ta5), (2, dk1, .ref ta10), (3, dk2, .ref ta15)]) dl0 rfl r1, r2⟩
  have B : Base T C ng mg :=
    { names := fun g x q => AllIx.all (P := fun g x => mg x = some (.ref (C.gv g)) ∧ g < T.fns.length) (l := ng.fn) ⟨⟨PySem.W.mg_of X G a0, by decide⟩, ⟨PySem.W.mg_of X G a1, by decide⟩, ⟨PySem.W.mg_of X G a2, by decide⟩, ⟨PySem.W.mg_of X G a3, by decide⟩, ⟨PySem.W.mg_of X G a4, by decide⟩, ⟨PySem.W.mg_of X G a5, by decide⟩, ⟨PySem.W.mg_of X G a6, by decide⟩, ⟨PySem.W.mg_of X G a7, by decide⟩, ⟨PySem.W.mg_of X G a8, by decide⟩, ⟨PySem.W.mg_of X G a9, by decide⟩, ⟨PySem.W.mg_of X G a10, by decide⟩, ⟨PySem.W.mg_of X G a11, by decide⟩, ⟨PySem.W.mg_of X G a12, by decide⟩, ⟨PySem.W.mg_of X G a13, by decide⟩, ⟨PySem.W.mg_of X G a14, by decide⟩, ⟨PySem.W.mg_of X G a15, by decide⟩, ⟨PySem.W.mg_of X G a16, by decide⟩, ⟨PySem.W.mg_of X G a17, by decide⟩, ⟨PySem.W.mg_of X G a18, by decide⟩, ⟨PySem.W.mg_of X G a19, by decide⟩, ⟨PySem.W.mg_of X G a20, by decide⟩, ⟨PySem.W.mg_of X G a21, by decide⟩, ⟨PySem.W.mg_of X G a22, by decide⟩, ⟨PySem.W.mg_of X G a23, by decide⟩, ⟨PySem.W.mg_of X G a24, by decide⟩, ⟨PySem.W.mg_of X G a25, by decide⟩, ⟨PySem.W.mg_of X G a26, by decide⟩, ⟨PySem.W.mg_of X G a27, by decide⟩, ⟨PySem.W.mg_of X G a28, by decide⟩, ⟨PySem.W.mg_of X G a29, by decide⟩, ⟨PySem.W.mg_of X G a30, by decide⟩, ⟨PySem.W.mg_of X G a31, by decide⟩, ⟨PySem.W.mg_of X G a32, by decide⟩, ⟨PySem.W.mg_of X G a33, by decide⟩, ⟨PySem.W.mg_of X G a34, by decide⟩, ⟨PySem.W.mg_of X G a35, by decide⟩, ⟨PySem.W.mg_of X G a36, by decide⟩, ⟨PySem.W.mg_of X G a37, by decide⟩, ⟨PySem.W.mg_of X G a38, by decide⟩, ⟨PySem.W.mg_of X G a39, by decide⟩, ⟨PySem.W.mg_of X G a40, by decide⟩, ⟨PySem.W.mg_of X G a41, by decide⟩, ⟨PySem.W.mg_of X G a42, by decide⟩, ⟨PySem.W.mg_of X G a43, by decide⟩, ⟨PySem.W.mg_of X G a44, by decide⟩, ⟨PySem.W.mg_of X G a45, by decide⟩, ⟨PySem.W.mg_of X G a46, by decide⟩, ⟨PySem.W.mg_of X G a47, by decide⟩, ⟨PySem.W.mg_of X G a48, by decide⟩, ⟨PySem.W.mg_of X G a49, by decide⟩, ⟨PySem.W.mg_of X G a50, by decide⟩, ⟨PySem.W.mg_of X G a51, by decide⟩, trivial⟩ g x q
      fns := fun g F q => AllIx.all (P := fun g F => ∃ fd, FnB C ng g F fd) (l := T.fns) ⟨⟨_, fb0 (C := C) l0 c0 k0⟩, ⟨_, fb1 (C := C) l1 c1 k1⟩, ⟨_, fb2 (C := C) l2 c2 k2⟩, ⟨_, fb3 (C := C) l3 c3 k3⟩, ⟨_, fb4 (C := C) l4 c4 k4⟩, ⟨_, fb5 (C := C) l5 c5 k5⟩, ⟨_, fb6 (C := C) l6 c6 k6⟩, ⟨_, fb7 (C := C) l7 c7 k7⟩, ⟨_, fb8 (C := C) l8 c8 k8⟩, ⟨_, fb9 (C := C) l9 c9 k9⟩, ⟨_, fb10 (C := C) l10 c10 k10⟩, ⟨_, fb11 (C := C) l11 c11 k11⟩, ⟨_, fb12 (C := C) l12 c12 k12⟩, ⟨_, fb13 (C := C) l13 c13 k13⟩, ⟨_, fb14 (C := C) l14 c14 k14⟩, ⟨_, fb15 (C := C) l15 c15 k15⟩, ⟨_, fb16 (C := C) l16 c16 k16⟩, ⟨_, fb17 (C := C) l17 c17 k17⟩, ⟨_, fb18 (C := C) l18 c18 k18⟩, ⟨_, fb19 (C := C) l19 c19 k19⟩, ⟨_, fb20 (C := C) l20 c20 k20⟩, ⟨_, fb21 (C := C) l21 c21 k21⟩, ⟨_, fb22 (C := C) l22 c22 k22⟩, ⟨_, fb23 (C := C) l23 c23 k23⟩, ⟨_, fb24 (C := C) l24 c24 k24⟩, ⟨_, fb25 (C := C) l25 c25 k25⟩, ⟨_, fb26 (C := C) l26 c26 k26⟩, ⟨_, fb27 (C := C) l27 c27 k27⟩, ⟨_, fb28 (C := C) l28 c28 k28⟩, ⟨_, fb29 (C := C) l29 c29 k29⟩, ⟨_, fb30 (C := C) l30 c30 k30⟩, ⟨_, fb31 (C := C) l31 c31 k31⟩, ⟨_, fb32 (C := C) l32 c32 k32⟩, ⟨_, fb33 (C := C) l33 c33 k33⟩, ⟨_, fb34 (C := C) l34 c34 k34⟩, ⟨_, fb35 (C := C) l35 c35 k35⟩, ⟨_, fb36 (C := C) l36 c36 k36⟩, ⟨_, fb37 (C := C) l37 c37 k37⟩, ⟨_, fb38 (C := C) l38 c38 k38⟩, ⟨_, fb39 (C := C) l39 c39 k39⟩, ⟨_, fb40 (C := C) l40 c40 k40⟩, ⟨_, fb41 (C := C) l41 c41 k41⟩, ⟨_, fb42 (C := C) l42 c42 k42⟩, ⟨_, fb43 (C := C) l43 c43 k43⟩, ⟨_, fb44 (C := C) l44 c44 k44⟩, ⟨_, fb45 (C := C) l45 c45 k45⟩, ⟨_, fb46 (C := C) l46 c46 k46⟩, ⟨_, fb47 (C := C) l47 c47 k47⟩, ⟨_, fb48 (C := C) l48 c48 k48⟩, ⟨_, fb49 (C := C) l49 c49 k49⟩, ⟨_, fb50 (C := C) l50 c50 k50⟩, ⟨_, fb51 (C := C) l51 c51 k51⟩, trivial⟩ g F q
      cons := fun k x d q1 q2 => AllIx.all (P := fun k x => ∀ d, T.cons[k]? = some d → ∃ v u, mg x = some u ∧ RelV v u ∧ ∀ H, Rep C H d v) (l := ng.cn) ⟨fun d q => by cases q; obtain ⟨v, r1, r2⟩ := krep (C := C) (.tup [.int 1, .int 0, .int 0, .int 1]) (.ref ta0) ⟨_, _, _, _, rfl, t0, rfl, rfl, by show 4 ≤ sizeLine; decide, ⟨_, _, rfl, ⟨_, rfl⟩, ⟨_, _, rfl, ⟨_, rfl⟩, ⟨_, _, rfl, ⟨_, rfl⟩, ⟨_, _, rfl, ⟨_, rfl⟩, rfl⟩⟩⟩⟩⟩; exact ⟨v, _, PySem.W.mg_of X G u0, r1, r2⟩, fun d q => by cases q; obtain ⟨v, r1, r2⟩ := krep (C := C) (.tup [.int 0, .int (-1), .int 1, .int 0]) (.ref ta5) ⟨_, _, _, _, rfl, t5, rfl, rfl, by show 4 ≤ sizeLine; decide, ⟨_, _, rfl, ⟨_, rfl⟩, ⟨_, _, rfl, ⟨_, rfl⟩, ⟨_, _, rfl, ⟨_, rfl⟩, ⟨_, _, rfl, ⟨_, rfl⟩, rfl⟩⟩⟩⟩⟩; exact ⟨v, _, PySem.W.mg_of X G u1, r1, r2⟩, fun d q => by cases q; obtain ⟨v, r1, r2⟩ := krep (C := C) (.tup [.int 0, .int (-1), .int 1, .int 1]) (.ref ta10) ⟨_, _, _, _, rfl, t10, rfl, rfl, by show 4 ≤ sizeLine; decide, ⟨_, _, rfl, ⟨_, rfl⟩, ⟨_, _, rfl, ⟨_, rfl⟩, ⟨_, _, rfl, ⟨_, rfl⟩, ⟨_, _, rfl, ⟨_, rfl⟩, rfl⟩⟩⟩⟩⟩; exact ⟨v, _, PySem.W.mg_of X G u2, r1, r2⟩, fun d q => by cases q; obtain ⟨v, r1, r2⟩ := krep (C := C) (.tup [.int (-1), .int (-1), .int 1, .int 0]) (.ref ta15) ⟨_, _, _, _, rfl, t15, rfl, rfl, by show 4 ≤ sizeLine; decide, ⟨_, _, rfl, ⟨_, rfl⟩, ⟨_, _, rfl, ⟨_, rfl⟩, ⟨_, _, rfl, ⟨_, rfl⟩, ⟨_, _, rfl, ⟨_, rfl⟩, rfl⟩⟩⟩⟩⟩; exact ⟨v, _, PySem.W.mg_of X G u3, r1, r2⟩, fun d q => by cases q; obtain ⟨v, r1, r2⟩ := krep (C := C) (.int 20000) (.int 20000 tk20) ⟨_, rfl⟩; exact ⟨v, _, PySem.W.mg_of X G u4, r1, r2⟩, fun d q => by cases q; obtain ⟨v, r1, r2⟩ := krep (C := C) (.int 12) (.int 12 tk21) ⟨_, rfl⟩; exact ⟨v, _, PySem.W.mg_of X G u5, r1, r2⟩, trivial⟩ k x q1 d q2
      dcs := fun k x p q1 q2 => AllIx.all (P := fun k x => ∀ p, T.dcs[k]? = some p → ∃ a, mg x = some (.ref a) ∧ ∀ kk d, dlook p.1 p.2 kk = some d → ∃ i v, kk = .inl i ∧ KDI C.K a i v ∧ ∀ H, Rep C H d v) (l := ng.dn) ⟨D0, trivial⟩ k x q1 p q2
      bi := bi_mk X G ⟨z0, z1, z2, z3, z4, z5, z6, z7, z8, z9, z10, z11, z12, z13, z14, z15, z16, z17, z18, trivial⟩
      gcd := fun q => absurd q (by decide)
      en := fun k x q => AllIx.all (P := fun k x => mg x = some (.ref (C.cv k)) ∧ ExK C.K (C.cv k)) (l := ng.en) ⟨⟨PySem.W.mg_of X G ca0, exk_mk PySem.F.excBase_ValueError cx0 ck0 cb0 ct_0 ce0 cf0 ch0 ci0 e5 e6 cm0⟩, ⟨PySem.W.mg_of X G ca1, exk_mk PySem.F.excBase_ValueError cx1 ck1 cb1 ct_1 ce1 cf1 ch1 ci1 e5 e6 cm1⟩, ⟨PySem.W.mg_of X G ca2, exk_mk PySem.F.excBase_ValueError cx2 ck2 cb2 ct_2 ce2 cf2 ch2 ci2 e5 e6 cm2⟩, trivial⟩ k x q
      exm := fun k k2 x q1 q2 => AllIx.all (P := fun k2 x => ∀ k, k < T.nex → PySem.W.exmOne C.K (.ref (C.cv k)) (.ref (C.cv k2)) = some (decide (k = k2))) (l := ng.en) ⟨fun k q => match k, q with | 0, _ => PySem.W.exm_ref cb0 ch0 ct_0 cs0_0 | 1, _ => PySem.W.exm_ref cb0 ch0 ct_0 cs1_0 | 2, _ => PySem.W.exm_ref cb0 ch0 ct_0 cs2_0, fun k q => match k, q with | 0, _ => PySem.W.exm_ref cb1 ch1 ct_1 cs0_1 | 1, _ => PySem.W.exm_ref cb1 ch1 ct_1 cs1_1 | 2, _ => PySem.W.exm_ref cb1 ch1 ct_1 cs2_1, fun k q => match k, q with | 0, _ => PySem.W.exm_ref cb2 ch2 ct_2 cs0_2 | 1, _ => PySem.W.exm_ref cb2 ch2 ct_2 cs1_2 | 2, _ => PySem.W.exm_ref cb2 ch2 ct_2 cs2_2, trivial⟩ k2 x q2 k q1
      isx := fun p q => by
        simp only [ng, List.mem_cons, List.not_mem_nil, or_false] at q
        rcases q with rfl | rfl | rfl
        · exact kit_sub cv0 (by decide +kernel)
        · exact kit_sub cv1 (by decide +kernel)
        · exact kit_sub cv2 (by decide +kernel)
      mgx := fun s q => by
        simp only [List.mem_cons, List.not_mem_nil, or_false] at q
        rcases q with rfl | rfl
        · exact PySem.W.mg_none_of X G y0
        · exact PySem.W.mg_none_of X G y1 }
  refine ⟨PySem.W.fnOf "law" "law" (defArgs s51) (defBody s51) (defScope s51) .none kV51 dc51 pm51 an51 cd51 ct51, fun s u => .of_eq rfl, fun base _ _ => ?_⟩
  exact (fn_all B 200 51 f51 _ rfl (fb51 (C := C) l51 c51 k51)).imp fun vs H Q E q => law_sp (C := C) ok q
end PL.K01
end

section
namespace PL.K01
open PL PL.K00 PySem PySem.Spec L2

def md (m : M) : D := .tup [.int m.1, .int m.2.1, .int m.2.2.1, .int m.2.2.2]
def ml (m : M) : D := .lst [.int m.1, .int m.2.1, .int m.2.2.1, .int m.2.2.2]
theorem md_one : md one1 = .tup [.int 1, .int 0, .int 0, .int 1] := rfl
theorem sp7 (n : Nat) (m : M) : callF T (n+1) 7 [.val (md m)] = .ok (.v (md (sg m))) [.val (md m)] := by
  rw [x_callF T n 7 _ (F := f7) rfl rfl]
  have hp : pos m = (decide (0 < m.2.2.1) || (decide (m.2.2.1 = 0) && decide (0 < m.2.2.2))) := rfl
  unfold sg
  by_cases h1 : 0 < m.2.2.1
  · simp [f7, md, h1, hp]
  · by_cases h2 : m.2.2.1 = 0
    · by_cases h3 : 0 < m.2.2.2
      · simp [f7, md, h2, h3, hp]
      · simp [f7, md, h2, h3, hp, ngM]
    · simp [f7, md, h1, h2, hp, ngM]
theorem sp8 (n : Nat) (x y : M) {a b : Nat} (hx : BdM a x) (hy : BdM b y) (hb : a + b ≤ 900000) : callF T (n+2) 8 [.val (md x), .val (md y)] = .ok (.v (md (P x y))) [.val (md x), .val (md y)] := by
  rw [x_callF T (n+1) 8 _ (F := f8) rfl rfl]
  obtain ⟨x1, x2, x3, x4⟩ := hx
  obtain ⟨y1, y2, y3, y4⟩ := hy
  have ok : ∀ {i j : Int}, Bd a i → Bd b j → mulOk i j = true := fun h k => h.mulOk k hb
  have e7 := sp7 n (mulM x y)
  simp [mulM, md] at e7
  simp [f8, md, ok x1 y1, ok x1 y2, ok x2 y3, ok x2 y4, ok x3 y1, ok x3 y2, ok x4 y3, ok x4 y4, mulM, e7, P]
theorem sp0i (n : Nat) (i : Int) : callF T (n+1) 0 [.val (.int i)] = .ok (.v (.bl true)) [.val (.int i)] := by
  rw [x_callF T n 0 _ (F := f0) rfl rfl]
  simp [f0, tyOk, isTy]
theorem sp2 (n : Nat) (m : M) : callF T (n+1) 2 [.val (md m), .val (.int 4)] = .ok (.v (.bl true)) [.val (md m), .val (.int 4)] := by
  rw [x_callF T n 2 _ (F := f2) rfl rfl]
  simp [f2, md, tyOk, isTy]
theorem sp3 (n : Nat) (m : M) : callF T (n+2) 3 [.val (md m), .val (.int 4)] = .ok (.v (.bl true)) [.val (md m), .val (.int 4)] := by
  rw [x_callF T (n+1) 3 _ (F := f3) rfl rfl]
  have e2 := sp2 n m
  simp [md] at e2
  simp [f3, md, e2, sp0i]
theorem sp4i (n : Nat) (i : Int) : callF T (n+1) 4 [.val (.int i)] = .ok (.v (.int i)) [.val (.int i)] := by
  rw [x_callF T n 4 _ (F := f4) rfl rfl]
  simp [f4, tyOk, isTy]
theorem sp4 (n : Nat) (m : M) : callF T (n+2) 4 [.val (md m)] = .ok (.v (md m)) [.val (md m)] := by
  rw [x_callF T (n+1) 4 _ (F := f4) rfl rfl]
  simp [f4, md, tyOk, isTy, sp4i]
theorem sp4l (n : Nat) (m : M) : callF T (n+2) 4 [.val (ml m)] = .ok (.v (md m)) [.val (ml m)] := by
  rw [x_callF T (n+1) 4 _ (F := f4) rfl rfl]
  simp [f4, md, ml, tyOk, isTy, sp4i]
theorem sp4ms (n : Nat) (x y z : M) : callF T (n+3) 4 [.val (.lst [ml x, md y, md z])] = .ok (.v (.tup [md x, md y, md z])) [.val (.lst [ml x, md y, md z])] := by
  rw [x_callF T (n+2) 4 _ (F := f4) rfl rfl]
  simp [f4, tyOk, isTy, sp4, sp4l]
def goodB (m : M) : Bool := decide (det m = 1) && (decide (0 < m.2.2.1) || (decide (m.2.2.1 = 0) && decide (m.2.2.2 = 1)))
theorem goodB_of {m : M} (h : good m) : goodB m = true := by
  unfold goodB
  obtain ⟨h1, h2 | ⟨h2, h3⟩⟩ := h
  · simp [h1, h2]
  · simp [h1, h2, h3]
theorem sp5 (n : Nat) (m : M) {a : Nat} (h : BdM a m) (ha : a ≤ 400000) : callF T (n+3) 5 [.val (md m)] = .ok (.v (.bl (goodB m))) [.val (md m)] := by
  rw [x_callF T (n+2) 5 _ (F := f5) rfl rfl]
  obtain ⟨x1, x2, x3, x4⟩ := h
  have ok : ∀ {i j : Int}, Bd a i → Bd a j → mulOk i j = true := fun h k => h.mulOk k (by omega)
  have e3 := sp3 n m
  simp [md] at e3
  have hg : goodB m = (decide (m.1 * m.2.2.2 - m.2.1 * m.2.2.1 = 1) && (decide (0 < m.2.2.1) || (decide (m.2.2.1 = 0) && decide (m.2.2.2 = 1)))) := rfl
  by_cases hd : m.1 * m.2.2.2 - m.2.1 * m.2.2.1 = 1
  · by_cases h1 : 0 < m.2.2.1
    · simp [f5, md, e3, ok x1 x4, ok x2 x3, hd, h1, hg]
    · by_cases h2 : m.2.2.1 = 0
      · obtain ⟨p, q, r, s⟩ := m
        have h2 : r = 0 := h2
        subst h2
        have hd : p * s - q * 0 = 1 := hd
        have e1 := ok x1 x4
        have e2 := ok x2 x3
        simp at e1 e2
        simp [md] at e3
        simp at hd hg
        simp [f5, md, e3, e1, e2, hd, hg]
      · simp [f5, md, e3, ok x1 x4, ok x2 x3, hd, h1, h2, hg]
  · simp [f5, md, e3, ok x1 x4, ok x2 x3, hd, hg]
theorem sp6 (n : Nat) (m : M) {a : Nat} (h : BdM a m) (ha : a ≤ 400000) (g : good m) : callF T (n+4) 6 [.val (md m)] = .ok (.v (md m)) [.val (md m)] := by
  rw [x_callF T (n+3) 6 _ (F := f6) rfl rfl]
  simp [f6, sp4, sp5 n m h ha, goodB_of g]
theorem sp6l (n : Nat) (m : M) {a : Nat} (h : BdM a m) (ha : a ≤ 400000) (g : good m) : callF T (n+4) 6 [.val (ml m)] = .ok (.v (md m)) [.val (ml m)] := by
  rw [x_callF T (n+3) 6 _ (F := f6) rfl rfl]
  simp [f6, sp4l, sp5 n m h ha, goodB_of g]
def absI (i : Int) : Int := if i < 0 then -i else i
theorem eqD_md (x y : M) : eqD (md x) (md y) = some (decide (x = y)) := by
  have := eqD_ints [x.1, x.2.1, x.2.2.1, x.2.2.2] [y.1, y.2.1, y.2.2.1, y.2.2.2]
  show eqD (.tup (List.map D.int [x.1, x.2.1, x.2.2.1, x.2.2.2])) (.tup (List.map D.int [y.1, y.2.1, y.2.2.1, y.2.2.2])) = _
  rw [this]
  congr 1
  obtain ⟨a, b, c, d⟩ := x
  obtain ⟨e, f, g, h⟩ := y
  simp
def kindS (m : M) : Str := if m = one1 then "still" else if absI (m.1 + m.2.2.2) = 0 then "two" else if absI (m.1 + m.2.2.2) = 1 then "three" else if absI (m.1 + m.2.2.2) = 2 then "step" else "far"
theorem sp41 (n : Nat) (m : M) : callF T (n+1) 41 [.val (md m)] = .ok (.v (md (sg m))) [.val (md m)] := by
  rw [x_callF T n 41 _ (F := f41) rfl rfl]
  have hp : pos m = (decide (0 < m.2.2.1) || (decide (m.2.2.1 = 0) && decide (0 < m.2.2.2))) := rfl
  unfold sg
  by_cases h1 : 0 < m.2.2.1
  · simp [f41, md, h1, hp]
  · by_cases h2 : m.2.2.1 = 0
    · by_cases h3 : 0 < m.2.2.2
      · simp [f41, md, h2, h3, hp]
      · simp [f41, md, h2, h3, hp, ngM]
    · simp [f41, md, h1, h2, hp, ngM]
theorem sp42 (n : Nat) (x y : M) {a b : Nat} (hx : BdM a x) (hy : BdM b y) (hb : a + b ≤ 900000) : callF T (n+2) 42 [.val (md x), .val (md y)] = .ok (.v (md (P x y))) [.val (md x), .val (md y)] := by
  rw [x_callF T (n+1) 42 _ (F := f42) rfl rfl]
  obtain ⟨x1, x2, x3, x4⟩ := hx
  obtain ⟨y1, y2, y3, y4⟩ := hy
  have ok : ∀ {i j : Int}, Bd a i → Bd b j → mulOk i j = true := fun h k => h.mulOk k hb
  have e7 := sp41 n (mulM x y)
  simp [mulM, md] at e7
  simp [f42, md, ok x1 y1, ok x1 y2, ok x2 y3, ok x2 y4, ok x3 y1, ok x3 y2, ok x4 y3, ok x4 y4, mulM, e7, P]
theorem sp43 (n : Nat) (x : M) : callF T (n+2) 43 [.val (md x)] = .ok (.v (md (sg (adj x)))) [.val (md x)] := by
  rw [x_callF T (n+1) 43 _ (F := f43) rfl rfl]
  have e7 := sp41 n (adj x)
  simp [adj, md] at e7
  simp [f43, md, e7, adj]
theorem sp35i (n : Nat) (i : Int) : callF T (n+1) 35 [.val (.int i)] = .ok (.v (.int i)) [.val (.int i)] := by
  rw [x_callF T n 35 _ (F := f35) rfl rfl]
  simp [f35, tyOk, isTy]
theorem sp35 (n : Nat) (m : M) : callF T (n+2) 35 [.val (md m)] = .ok (.t (ml m)) [.val (md m)] := by
  rw [x_callF T (n+1) 35 _ (F := f35) rfl rfl]
  simp [f35, md, ml, tyOk, isTy, sp35i]
theorem sp2l (n : Nat) (m : M) : callF T (n+1) 2 [.val (ml m), .val (.int 4)] = .ok (.v (.bl false)) [.val (ml m), .val (.int 4)] := by
  rw [x_callF T n 2 _ (F := f2) rfl rfl]
  simp [f2, ml, tyOk, isTy]
theorem sp3l (n : Nat) (m : M) : callF T (n+2) 3 [.val (ml m), .val (.int 4)] = .ok (.v (.bl false)) [.val (ml m), .val (.int 4)] := by
  rw [x_callF T (n+1) 3 _ (F := f3) rfl rfl]
  simp [f3, sp2l]
theorem sp5l (n : Nat) (m : M) : callF T (n+3) 5 [.val (ml m)] = .ok (.v (.bl false)) [.val (ml m)] := by
  rw [x_callF T (n+2) 5 _ (F := f5) rfl rfl]
  simp [f5, sp3l]
def oftS (k : Str) : D := (dlook ([Sum.inr "still", Sum.inr "two", Sum.inr "three"] : List Key) [.int 1, .int 2, .int 3] (Sum.inr k)).getD .non
theorem sp1 (n : Nat) (k : Int) (h1 : -1000 ≤ k) (h2 : k ≤ 1000) : callF T (n+2) 1 [.val (.int k), .val (.int (-1000)), .val (.int 1000)] = .ok (.v (.bl true)) [.val (.int k), .val (.int (-1000)), .val (.int 1000)] := by
  rw [x_callF T (n+1) 1 _ (F := f1) rfl rfl]
  simp [f1, sp0i, h1, h2]
/-! ### powers -/
theorem dv2 : divOk 2 = true := by decide
theorem good_one : good one1 := ⟨by decide, .inr ⟨rfl, rfl⟩⟩
theorem bd_one : BdM 1 one1 := by unfold BdM Bd; decide
theorem rngD_one (n : Int) (h1 : -(2 ^ 62) ≤ n) (h2 : n < 2 ^ 62) : rngD [.int n] = some ((List.range n.toNat).map fun (k : Nat) => .int (0 + (k : Int))) := by
  have e : (decide (-(2 ^ 62) ≤ n) && decide (n < 2 ^ 62)) = true := by rw [decide_eq_true h1, decide_eq_true h2]; rfl
  show (if (decide (-(2 ^ 62) ≤ n) && decide (n < 2 ^ 62)) = true then _ else _) = _
  rw [if_pos e]
def tinD (x y z : Int) : D := .lst [.int x, .int y, .int z]
theorem mulOk_r {i j : Int} (h : j.natAbs < 2 ^ 64) : mulOk i j = true := by
  unfold mulOk
  rw [decide_eq_true h, Bool.or_true, Bool.true_or]
theorem mulOk_l {i j : Int} (h : i.natAbs < 2 ^ 64) : mulOk i j = true := by
  unfold mulOk
  rw [decide_eq_true h, Bool.true_or, Bool.true_or]
theorem sp33 (n : Nat) (x y z b : Int) (hb : 0 < b) (hb' : b ≤ 4000) (hz0 : 0 ≤ z) (hz : z ≤ 1000) :
    ∃ r x' z', 0 ≤ r ∧ r < b ∧ 0 ≤ z' ∧ z' ≤ z + 1 ∧ callF T (n+1) 33 [.bor (tinD x y z), .val (.int b)] = .ok (.v (.int r)) [.bor (tinD x' y z'), .val (.int b)] := by
  rw [x_callF T n 33 _ (F := f33) rfl rfl]
  have dv : divOk b = true := by
    have : b.natAbs.log2 < 9000 := Nat.lt_of_lt_of_le ((Nat.log2_lt (by omega)).mpr (show b.natAbs < 2 ^ 12 by omega)) (by decide)
    unfold divOk
    rw [decide_eq_true hb, decide_eq_true this]; rfl
  by_cases h : 0 < x
  · refine ⟨x % b, x / b, z, Int.emod_nonneg _ (by omega), Int.emod_lt_of_pos _ hb, hz0, by omega, ?_⟩
    simp [f33, h, tinD, hb, dv, lstAt, mineD, sixE, upS, intD, ixN]
  · have d1 : divOk 1000003 = true := by decide +kernel
    have d2 : divOk 64 = true := by decide +kernel
    have m1 : mulOk 48271 (z + 1) = true := mulOk_l (by decide)
    have m2 : mulOk (y + 48271 * (z + 1)) (39373 + (z + 1)) = true := mulOk_r (by omega)
    generalize ho : (y + 48271 * (z + 1)) * (39373 + (z + 1)) % 2147483647 = o
    have o1 : 0 ≤ o := by rw [← ho]; exact Int.emod_nonneg _ (by decide)
    have m3 : mulOk (o + (z + 1) + y / 1000003) (o % 40009 + 7) = true := mulOk_r (by omega)
    generalize ht : (o + (z + 1) + y / 1000003) * (o % 40009 + 7) % 2147483629 = t
    have m4 : mulOk t 48271 = true := mulOk_r (by decide)
    refine ⟨((t * 48271 + o) % 2147483587 / 64) % b, x, z + 1, Int.emod_nonneg _ (by omega), Int.emod_lt_of_pos _ hb, by omega, by omega, ?_⟩
    simp [f33, h, tinD, hb, dv, lstAt, mineD, sixE, upS, intD, ixN, m1, m2, ho, d1, d2, m3, ht, m4]
theorem sp32 (n : Nat) (c : Int) : ∃ x y, callF T (n+1) 32 [.val (.lst [.int c]), .val (.int 0)] = .ok (.t (tinD x y 0)) [.val (.lst [.int c]), .val (.int 0)] := by
  rw [x_callF T n 32 _ (F := f32) rfl rfl]
  have p1 : powOk 10 18 = true := by decide +kernel
  have m1 : ∀ i : Int, mulOk i 1 = true ∧ mulOk i 0 = true := fun i => ⟨mulOk_r (by decide), mulOk_r (by decide)⟩
  have m2 : mulOk 39373 0 = true := by decide +kernel
  have e1 : (10 : Int) ^ 18 = 1000000000000000000 := by decide +kernel
  generalize ha : (if c < 0 then -c else c) = a
  by_cases h : 1000000000000000000 ≤ a
  · refine ⟨a * 1, c % 2305843009213693951 + 39373 * 0 + 9284001, ?_⟩
    simp [f32, p1, m1, m2, tinD, ha, e1, h]
  · refine ⟨a * 0, c % 2305843009213693951 + 39373 * 0 + 9284001, ?_⟩
    simp [f32, p1, m1, m2, tinD, ha, e1, h]
def body34 : List S := [.set 5 (.bin .mod (.bi .int1 [.var 3]) (.var 1)), .six 2 (.var 5) (.bin .add (.ix (.var 2) (.var 5)) (.bin .mul (.var 4) (.bin .add (.var 3) (.int 2))))]
theorem lp34 (n : Nat) (s0 : SV) : ∀ (ds : List D) (c : Int) (s3 s4 s5 : SV), Fre s3 → Fre s4 → Fre s5 → (∀ d ∈ ds, ∃ k v : Int, d = .tup [.int k, .int v] ∧ 0 ≤ k ∧ k ≤ 100) →
    ∃ c' s3' s4' s5', forL (fun d e => opt (asg (.tp [3, 4]) d e) fun e1 => exB T (callF T n) body34 e1) ds [s0, .val (.int 1), .own (.lst [.int c]), s3, s4, s5] = .ok .next [s0, .val (.int 1), .own (.lst [.int c']), s3', s4', s5']
  | [], c, s3, s4, s5, _, _, _, _ => ⟨c, s3, s4, s5, rfl⟩
  | d :: ds, c, s3, s4, s5, h3, h4, h5, hd => by
    obtain ⟨k, v, rfl, k0, k1⟩ := hd _ (List.mem_cons_self ..)
    have m1 : mulOk v (k + 2) = true := mulOk_r (by omega)
    have e1 : k % 1 = 0 := Int.emod_one k
    obtain ⟨c', s3', s4', s5', h⟩ := lp34 n s0 ds (c + v * (k + 2)) (.val (.int k)) (.val (.int v)) (.val (.int 0)) (.val _) (.val _) (.val _) (fun d hm => hd d (List.mem_cons_of_mem _ hm))
    refine ⟨c', s3', s4', s5', ?_⟩
    rw [forL_cons]
    have : (opt (asg (.tp [3, 4]) (.tup [.int k, .int v]) [s0, .val (.int 1), .own (.lst [.int c]), s3, s4, s5]) fun e1 => exB T (callF T n) body34 e1) = .ok .next [s0, .val (.int 1), .own (.lst [.int (c + v * (k + 2))]), .val (.int k), .val (.int v), .val (.int 0)] := by
      have q3 := h3.ok
      have q4 := h4.ok
      have q5 := h5.ok
      rcases h3 with rfl | ⟨_, rfl⟩ | ⟨_, rfl⟩ <;> rcases h4 with rfl | ⟨_, rfl⟩ | ⟨_, rfl⟩ <;> rcases h5 with rfl | ⟨_, rfl⟩ | ⟨_, rfl⟩ <;> simp [body34, asg, setVals, e1, m1, lstAt, mineD, sixE, upS, intD, ixN]
    rw [this]
    simp only [bd_ok]
    exact h
theorem enum_ints (l : List Int) (h : l.length ≤ 100) : ∀ d ∈ enumD (l.map D.int), ∃ k v : Int, d = .tup [.int k, .int v] ∧ 0 ≤ k ∧ k ≤ 100 := by
  intro d hd
  obtain ⟨i, hi, rfl⟩ := List.getElem_of_mem hd
  unfold enumD at hi ⊢
  simp only [List.length_zipWith, List.length_range, List.length_map, Nat.min_self] at hi
  rw [List.getElem_zipWith]
  simp
  omega
theorem sp34 (n : Nat) (ns : List Int) (hn : ns.length ≤ 63) : ∃ c, callF T (n+1) 34 [.val (.scr ns), .val (.int 1)] = .ok (.t (.lst [.int c])) [.val (.scr ns), .val (.int 1)] := by
  rw [x_callF T n 34 _ (F := f34) rfl rfl]
  show ∃ c, fin [.val (.scr ns), .val (.int 1)] (exB T (callF T n) [.set 2 (.andor false [.bi .list [.sl (.var 0) none (some (.var 1))], .lst [.int 0]]), .for_ (.tp [3, 4]) (.enum (.sl (.var 0) (some (.var 1)) (some (.int 63)))) body34, .ret (.var 2)] [.val (.scr ns), .val (.int 1), .un, .un, .un, .un]) = _
  have h1 : ∃ c0, exS T (callF T n) (.set 2 (.andor false [.bi .list [.sl (.var 0) none (some (.var 1))], .lst [.int 0]])) [.val (.scr ns), .val (.int 1), .un, .un, .un, .un] = .ok .next [.val (.scr ns), .val (.int 1), .own (.lst [.int c0]), .un, .un, .un] := by
    cases ns with
    | nil => exact ⟨0, by simp [sliceD, cutD, HT.sIx, intD, biF, fzR, setR]⟩
    | cons a r => exact ⟨a, by simp [sliceD, cutD, HT.sIx, intD, biF, fzR, setR]⟩
  obtain ⟨c0, h1⟩ := h1
  have h2 : ∃ l : List Int, l.length ≤ 63 ∧ evI T (callF T n) (.enum (.sl (.var 0) (some (.var 1)) (some (.int 63)))) [.val (.scr ns), .val (.int 1), .own (.lst [.int c0]), .un, .un, .un] = .ok (enumD (l.map D.int)) [.val (.scr ns), .val (.int 1), .own (.lst [.int c0]), .un, .un, .un] := by
    refine ⟨cutD ns (some 1) (some 63), by unfold cutD; simp; omega, ?_⟩
    simp [sliceD, seqL, intD, frz]
  obtain ⟨l, hl, h2⟩ := h2
  obtain ⟨c', s3', s4', s5', h3⟩ := lp34 n (.val (.scr ns)) (enumD (l.map D.int)) c0 .un .un .un .un .un .un (enum_ints l (by omega))
  refine ⟨c', ?_⟩
  rw [x_b1, h1]
  simp only [bd_ok]
  rw [x_b1, x_for, h2]
  simp only [bd_ok]
  rw [h3]
  simp [retR, outs]
@[simp] theorem intD_int (i : Int) : intD (.int i) = some i := rfl
@[simp] theorem seqD_lst (xs : List D) : seqD (.lst xs) = some xs := rfl
/-- entries of a length -/
def Le (j : Nat) (m : M) : Prop := m.1.natAbs ≤ 2 ^ j ∧ m.2.1.natAbs ≤ 2 ^ j ∧ m.2.2.1.natAbs ≤ 2 ^ j ∧ m.2.2.2.natAbs ≤ 2 ^ j
theorem Le.bd {j : Nat} {m : M} (h : Le j m) : BdM (j + 1) m := by
  have : 2 ^ j < 2 ^ (j + 1) := Nat.pow_lt_pow_right (by decide) (by omega)
  exact ⟨Nat.lt_of_le_of_lt h.1 this, Nat.lt_of_le_of_lt h.2.1 this, Nat.lt_of_le_of_lt h.2.2.1 this, Nat.lt_of_le_of_lt h.2.2.2 this⟩
theorem Le.mono {i j : Nat} {m : M} (h : Le i m) (k : i ≤ j) : Le j m := by
  have : 2 ^ i ≤ 2 ^ j := Nat.pow_le_pow_right (by decide) k
  exact ⟨Nat.le_trans h.1 this, Nat.le_trans h.2.1 this, Nat.le_trans h.2.2.1 this, Nat.le_trans h.2.2.2 this⟩
theorem Le.sg {j : Nat} {m : M} (h : Le j m) : Le j (PL.K00.sg m) := by
  rcases sg_or m with e | e <;> rw [e]
  · exact h
  · simpa [Le, ngM] using h
def lt (r : Int) : M := if r = 0 then (0, -1, 1, 0) else if r = 1 then (0, -1, 1, 1) else (-1, -1, 1, 0)
theorem Le.letter {j : Nat} {m : M} (h : Le j m) (r : Int) : Le (j + 1) (P m (lt r)) := by
  unfold P
  apply Le.sg
  obtain ⟨h1, h2, h3, h4⟩ := h
  have e : 2 ^ (j + 1) = 2 ^ j + 2 ^ j := by rw [Nat.pow_succ]; omega
  generalize 2 ^ j = q at *
  unfold lt
  split <;> (try split) <;> simp [Le, mulM] <;> omega
theorem det_lt (r : Int) : det (lt r) = 1 := by
  unfold lt
  split <;> (try split) <;> decide
theorem bd_lt (r : Int) : BdM 1 (lt r) := by
  unfold lt
  split <;> (try split) <;> (unfold BdM Bd; decide)
theorem sp44 (n : Nat) (r : Int) (h0 : 0 ≤ r) (h : r < 3) : callF T (n+1) 44 [.val (.int (1 + r))] = .ok (.v (md (lt r))) [.val (.int (1 + r))] := by
  rw [x_callF T n 44 _ (F := f44) rfl rfl]
  have : r = 0 ∨ r = 1 ∨ r = 2 := by omega
  rcases this with rfl | rfl | rfl <;> simp [f44, lt, md, frzs, frz, retR, outs, sizeL]
def body45 : List S := [.set 1 (.call 42 [.var 1, .call 44 [.var 2]])]
theorem lp45 (n : Nat) (s0 : SV) : ∀ (ds : List D) (j : Nat) (m : M) (s2 : SV), Fre s2 → Le j m → good m → j + ds.length ≤ 1000 → (∀ d ∈ ds, ∃ r : Int, d = .int (1 + r) ∧ 0 ≤ r ∧ r < 3) →
    ∃ m' s2', Le (j + ds.length) m' ∧ good m' ∧ forL (fun d e => opt (asg (.nm 2) d e) fun e1 => exB T (callF T (n+2)) body45 e1) ds [s0, .val (md m), s2] = .ok .next [s0, .val (md m'), s2']
  | [], j, m, s2, _, hm, g, _, _ => ⟨m, s2, hm, g, rfl⟩
  | d :: ds, j, m, s2, h2, hm, g, hl, hd => by
    obtain ⟨r, rfl, r0, r3⟩ := hd _ (List.mem_cons_self ..)
    have hl' : j + 1 + ds.length ≤ 1000 := by simp at hl; omega
    obtain ⟨m', s2', l', g', h⟩ := lp45 n s0 ds (j + 1) (P m (lt r)) (.val (.int (1 + r))) (.val _) (hm.letter r) (good_P g.1 (det_lt r)) hl' (fun d hm => hd d (List.mem_cons_of_mem _ hm))
    have e3 : j + 1 + ds.length = j + (D.int (1 + r) :: ds).length := by simp; omega
    refine ⟨m', s2', e3 ▸ l', g', ?_⟩
    rw [forL_cons]
    have e := sp42 n m (lt r) hm.bd (bd_lt r) (by omega)
    have e4 := sp44 (n + 1) r r0 r3
    have : (opt (asg (.nm 2) (.int (1 + r)) [s0, .val (md m), s2]) fun e1 => exB T (callF T (n+2)) body45 e1) = .ok .next [s0, .val (md (P m (lt r))), .val (.int (1 + r))] := by
      rcases h2 with rfl | ⟨_, rfl⟩ | ⟨_, rfl⟩ <;> simp [body45, e, e4]
    rw [this]
    simp only [bd_ok]
    exact h
theorem sp45 (n : Nat) (ds : List D) (hl : ds.length ≤ 1000) (hd : ∀ d ∈ ds, ∃ r : Int, d = .int (1 + r) ∧ 0 ≤ r ∧ r < 3) :
    ∃ m, Le ds.length m ∧ good m ∧ callF T (n+3) 45 [.val (.lst ds)] = .ok (.v (md m)) [.val (.lst ds)] := by
  rw [x_callF T (n+2) 45 _ (F := f45) rfl rfl]
  obtain ⟨m, s2, l, g, h⟩ := lp45 n (.val (.lst ds)) ds 0 one1 .un .un ⟨by decide, by decide, by decide, by decide⟩ ⟨by decide, by decide⟩ (by omega) hd
  refine ⟨m, by simpa using l, g, ?_⟩
  show fin [.val (.lst ds)] (exB T (callF T (n+2)) [.set 1 (.tup [.int 1, .int 0, .int 0, .int 1]), .for_ (.nm 2) (.e (.var 0)) body45, .ret (.var 1)] [.val (.lst ds), .un, .un]) = _
  have h1 : exS T (callF T (n+2)) (.set 1 (.tup [.int 1, .int 0, .int 0, .int 1])) [.val (.lst ds), .un, .un] = .ok .next [.val (.lst ds), .val (md one1), .un] := by
    simp [md_one, fzR, setR]
  rw [x_b1, h1]
  simp only [bd_ok]
  rw [x_b1, x_for]
  have h2 : evI T (callF T (n+2)) (.e (.var 0)) [.val (.lst ds), .val (md one1), .un] = .ok ds [.val (.lst ds), .val (md one1), .un] := by
    simp
  rw [h2]
  simp only [bd_ok]
  rw [h]
  simp [retR, outs]
def elt48 : E := .bin .add (.int 1) (.call 33 [.var 0, .int 3])
theorem lp48 (n : Nat) (y : Int) (s1 : SV) : ∀ (ds : List D) (x z : Int) (acc : List D), 0 ≤ z → z + ds.length ≤ 1000 → acc.length + ds.length ≤ 1000 → (∀ d ∈ acc, ∃ r : Int, d = .int (1 + r) ∧ 0 ≤ r ∧ r < 3) →
    ∃ acc' x' z', (∀ d ∈ acc', ∃ r : Int, d = .int (1 + r) ∧ 0 ≤ r ∧ r < 3) ∧ acc'.length = acc.length + ds.length ∧ 0 ≤ z' ∧ z' ≤ z + ds.length ∧
      compL (fun d e => opt (asg (.nm 2) d e) fun e1 => (evC T (callF T (n+1)) none e1).bd fun k e2 => if k then (evE T (callF T (n+1)) false elt48 e2).bd fun r e3 => opt (frz e3 r) fun (x, e4) => .ok (some x) e4 else .ok none e2) [2] ds [.bor (tinD x y z), s1, .un] acc = .ok acc' [.bor (tinD x' y z'), s1, .un]
  | [], x, z, acc, hz, _, _, ha => ⟨acc, x, z, ha, by simp, hz, by simp, rfl⟩
  | d :: ds, x, z, acc, hz, hz', hl, ha => by
    simp only [List.length_cons] at hz' hl
    obtain ⟨r, x1, z1, r0, r3, z0, z1', e⟩ := sp33 n x y z 3 (by decide) (by decide) hz (by omega)
    obtain ⟨acc', x', z', ha', hl', hz0, hz1, h⟩ := lp48 n y s1 ds x1 z1 (acc ++ [.int (1 + r)]) z0 (by omega) (by simp; omega) (by
      intro d hd
      rcases List.mem_append.mp hd with hd | hd
      · exact ha d hd
      · exact ⟨r, by simpa using hd, r0, r3⟩)
    refine ⟨acc', x', z', ha', by simp at hl' ⊢; omega, hz0, by simp; omega, ?_⟩
    rw [compL]
    have : (opt (asg (.nm 2) d [.bor (tinD x y z), s1, .un]) fun e1 => (evC T (callF T (n+1)) none e1).bd fun k e2 => if k then (evE T (callF T (n+1)) false elt48 e2).bd fun r e3 => opt (frz e3 r) fun (x, e4) => .ok (some x) e4 else .ok none e2) = .ok (some (.int (1 + r))) [.bor (tinD x1 y z1), s1, .val d] := by
      simp [elt48, e, frz]
    rw [this]
    dsimp only
    rw [if_pos (by unfold sizeL; omega)]
    exact h
theorem sp48 (n : Nat) (x y z : Int) (hz0 : 0 ≤ z) (hz : z ≤ 900) :
    ∃ m x' z', Le 12 m ∧ good m ∧ 0 ≤ z' ∧ z' ≤ z + 13 ∧ callF T (n+4) 48 [.bor (tinD x y z), .val (.int 13)] = .ok (.v (md m)) [.bor (tinD x' y z'), .val (.int 13)] := by
  rw [x_callF T (n+3) 48 _ (F := f48) rfl rfl]
  obtain ⟨r, x1, z1, r0, r3, z0, z1', e⟩ := sp33 (n + 2) x y z 13 (by decide) (by decide) hz0 (by omega)
  have hr : rngD [.int r] = some ((List.range r.toNat).map fun (k : Nat) => .int (0 + (k : Int))) := rngD_one r (by omega) (by omega)
  generalize hds : ((List.range r.toNat).map fun (k : Nat) => D.int (0 + (k : Int))) = ds at hr
  have hlen : ds.length ≤ 12 := by rw [← hds]; simp; omega
  obtain ⟨acc, x', z', ha, hl, hz0', hz1, h⟩ := lp48 (n + 2) y (.val (.int 13)) ds x1 z1 [] z0 (by omega) (by simp; omega) (by simp)
  obtain ⟨m, l, g, e2⟩ := sp45 n acc (by simp at hl; omega) ha
  refine ⟨m, x', z', l.mono (by simp at hl; omega), g, hz0', by omega, ?_⟩
  show fin [.bor (tinD x y z), .val (.int 13)] (exB T (callF T (n+3)) [.ret (.call 45 [.comp [2] (.rng [.call 33 [.var 0, .var 1]]) (.nm 2) none elt48])] [.bor (tinD x y z), .val (.int 13), .un]) = _
  simp [e, hr, wipeE]
  simp at h
  rw [h]
  simp [unwipe, e2, retR, outs]
@[simp] theorem nex_T : T.nex = 3 := rfl
theorem sp37t (n : Nat) (ds : List D) : callF T (n+1) 37 [.val (.tup ds)] = .ok (.v (.tup ds)) [.val (.tup ds)] := by
  rw [x_callF T n 37 _ (F := f37) rfl rfl]
  simp [f37, tyOk, isTy, retR, outs]
theorem sp39 (n g : Nat) (a : D) (r : D) (hg : g < T.fns.length) (h : callF T n g [.val a] = .ok (.v r) [.val a]) :
    callF T (n+1) 39 [.val (.fn g), .val (.tup [a])] = .ok (.v r) [.val (.fn g), .val (.tup [a])] := by
  rw [x_callF T n 39 _ (F := f39) rfl rfl]
  simp [f39, h, hg, retR, outs, biF]
theorem sp39x (n g c : Nat) (a : D) (hg : g < T.fns.length) (h : callF T n g [.val a] = .exc c [] [.val a]) :
    callF T (n+1) 39 [.val (.fn g), .val (.tup [a])] = .exc c [] [.val (.fn g), .val (.tup [a])] := by
  rw [x_callF T n 39 _ (F := f39) rfl rfl]
  simp [f39, h, hg, retR, outs, biF]
theorem sp50t (n g : Nat) (a : D) (ds : List D) (hg : g < T.fns.length) (h : callF T (n+1) g [.val a] = .ok (.v (.tup ds)) [.val a]) :
    callF T (n+3) 50 [.val (.fn g), .val (.tup [a])] = .ok (.v (.tup ds)) [.val (.fn g), .val (.tup [a])] := by
  rw [x_callF T (n+2) 50 _ (F := f50) rfl rfl]
  have e34 := sp39 (n+1) g a (.tup ds) hg h
  have e33 := sp37t (n+1) ds
  simp [f50, e34, e33, retR, outs, fzR, setR, frzs, frz, setVals, isNon]
theorem sp50x (n g : Nat) (a : D) (hg : g < T.fns.length) (h : callF T (n+1) g [.val a] = .exc 0 [] [.val a]) :
    callF T (n+3) 50 [.val (.fn g), .val (.tup [a])] = .ok (.t (.lst [.str "cannot", .bl true])) [.val (.fn g), .val (.tup [a])] := by
  rw [x_callF T (n+2) 50 _ (F := f50) rfl rfl]
  have e34 := sp39x (n+1) g 0 a hg h
  simp [f50, e34, retR, outs, fzR, setR, frzs, frz, setVals, exH, isNon]
def flat0 : D → Bool
  | .non => true
  | .bl _ => true
  | .int _ => true
  | .str x => PyData.strOk x
  | _ => false
def dp : Nat → D → Prop
  | 0, d => flat0 d = true
  | k + 1, d => flat0 d = true ∨ ∃ ds, (d = .tup ds ∨ d = .lst ds) ∧ ds.length ≤ 1000 ∧ ∀ x ∈ ds, dp k x
theorem eqD_strr (x : Str) (h : PyData.strOk x = true) : eqD (.str x) (.str x) = some true := by
  simp [h, eqD, toPy, SeqAt.shaped, PyData.canLay0, PyData.depth, PyData.eqv]
def aft : SV → SV
  | .bor d => if flat0 d then .bor d else .fro d
  | s => s
theorem frz_v (e : EV) (d : D) : frz e (.v d) = some (d, e) := rfl
theorem frz_h (e : EV) (i : Nat) : frz e (.h i) = (match e[i]? with
    | some (.own d) => some (d, e.set i (.val d))
    | some (.bor d) => some (d, e.set i (.fro d))
    | some (.val d) => some (d, e)
    | some (.fro d) => some (d, e)
    | _ => none) := rfl
theorem sp36f (n : Nat) (d : D) (s0 s1 : SV) (hd : flat0 d = true) (h0 : s0 = .val d ∨ s0 = .bor d) (h1 : s1 = .val d ∨ s1 = .bor d) :
    callF T (n+1) 36 [s0, s1] = .ok (.v (.bl true)) [aft s0, aft s1] := by
  rw [x_callF T n 36 _ (F := f36) rfl rfl]
  rcases h0 with rfl | rfl <;> rcases h1 with rfl | rfl <;> cases d <;> simp [flat0] at hd <;> simp [f36, tyOk, isTy, isNon, retR, outs, eqD_strr, hd, aft, flat0]
theorem sp36 : ∀ (k n : Nat) (d : D) (s0 s1 : SV), dp k d → (s0 = .val d ∨ s0 = .bor d) → (s1 = .val d ∨ s1 = .bor d) → callF T (n + k + 1) 36 [s0, s1] = .ok (.v (.bl true)) [aft s0, aft s1]
  | 0, n, d, s0, s1, hd, h0, h1 => sp36f n d s0 s1 hd h0 h1
  | k + 1, n, d, s0, s1, hd, h0, h1 => by
    rcases hd with hd | ⟨ds, hd, hl, hx⟩
    · exact sp36f (n + (k + 1)) d s0 s1 hd h0 h1
    · rw [x_callF T (n + (k + 1)) 36 _ (F := f36) rfl rfl]
      have hc : ∀ t0 t1, compL (fun d e => opt (asg (.tp [2, 3]) d e) fun e1 => (evC T (callF T (n + (k + 1))) none e1).bd fun k' e2 => if k' then (evE T (callF T (n + (k + 1))) false (.call 36 [.var 2, .var 3]) e2).bd fun r e3 => opt (frz e3 r) fun (x, e4) => .ok (some x) e4 else .ok none e2) [2, 3] (zipD ds ds) [t0, t1, .un, .un] [] = .ok ((zipD ds ds).map fun _ => .bl true) [t0, t1, .un, .un] := by
        intro t0 t1
        have := compL_map (f := fun d e => opt (asg (.tp [2, 3]) d e) fun e1 => (evC T (callF T (n + (k + 1))) none e1).bd fun k' e2 => if k' then (evE T (callF T (n + (k + 1))) false (.call 36 [.var 2, .var 3]) e2).bd fun r e3 => opt (frz e3 r) fun (x, e4) => .ok (some x) e4 else .ok none e2) (own := [2, 3]) (e0 := [t0, t1, .un, .un]) (fun _ => .bl true) (zipD ds ds) [] (by
          intro d hm
          obtain ⟨i, hi, rfl⟩ := List.getElem_of_mem hm
          have hi' : i < ds.length := by simpa [zipD] using hi
          have e : (zipD ds ds)[i] = .tup [ds[i], ds[i]] := by simp [zipD]
          have h := sp36 k n (ds[i]) (.val ds[i]) (.val ds[i]) (hx _ (List.getElem_mem _)) (.inl rfl) (.inl rfl)
          rw [e]
          refine ⟨[t0, t1, .val ds[i], .val ds[i]], ?_, by simp [wipeE]⟩
          have h' : callF T (n + (k + 1)) 36 [.val ds[i], .val ds[i]] = _ := h
          simp [asg, setVals, h', frz]) (by simp [zipD, sizeL]; omega)
        simpa using this
      have hb : blsD ((zipD ds ds).map fun _ => D.bl true) = some ((zipD ds ds).map fun _ => true) := by
        rw [show ((zipD ds ds).map fun _ => D.bl true) = ((zipD ds ds).map fun _ => true).map D.bl from by rw [List.map_map]; rfl]
        exact blsD_map _
      have ha : ((zipD ds ds).map fun _ => true).all id = true := by simp
      simp at hc
      rcases hd with rfl | rfl <;> rcases h0 with rfl | rfl <;> rcases h1 with rfl | rfl <;> simp [f36, tyOk, isTy, isNon, retR, outs, seqL, frz_v, frz_h, frzs, wipeE, hc, unwipe, hb, aft, flat0]
end PL.K01
end

section
set_option exponentiation.threshold 5000
namespace PL.K01
open PL PL.K00 PL.RY PL.WD PySem PySem.Spec L2

def wd (w : List Int) : D := .tup (w.map D.int)
def wl_ (w : List Int) : D := .lst (w.map D.int)
theorem eqD_bb (a b : Bool) : eqD (.bl a) (.bl b) = some (decide (a = b)) := by
  simp [eqD, toPy, SeqAt.shaped, PyData.canLay0, PyData.depth, PyData.eqv]
  cases a <;> cases b <;> rfl
theorem eqD_ln (is : List Int) : eqD (.lst (is.map D.int)) (.lst []) = some (decide (is = [])) := by
  obtain ⟨h1, h2⟩ := shaped_ints is
  unfold eqD SeqAt.shaped
  cases is with
  | nil => decide
  | cons i is =>
    have e : toPy (.lst ((i :: is).map D.int)) = .list (toPys ((i :: is).map D.int)) := rfl
    rw [e]
    have e2 : toPys ((i :: is).map D.int) = .int i :: toPys (is.map D.int) := rfl
    simp [PyData.canLay0, PyData.depth, h1, h2, toPy, toPys, PyData.canLayAll0, PyData.depthAll, PyData.eqv, PyData.eqvAll, shaped_ints is]
theorem eqD_wd (u v : List Int) : eqD (wd u) (wd v) = some (decide (u = v)) := eqD_ints u v
/-! cuts -/
theorem cut_from {α : Type} (xs : List α) (k : Nat) : cutD xs (some (k : Int)) none = xs.drop k := by
  unfold cutD
  rw [HT.sIx_nat, HT.sIx_none]
  rcases Nat.le_total k xs.length with h | h
  · rw [Nat.min_eq_left h, List.take_of_length_le (by simp)]
  · rw [Nat.min_eq_right h, List.drop_length, List.drop_of_length_le h]; simp
theorem cut_to {α : Type} (xs : List α) (k : Nat) : cutD xs none (some (k : Int)) = xs.take k := by
  unfold cutD
  rw [HT.sIx_nat, HT.sIx_none, List.drop_zero, Nat.sub_zero]
  rcases Nat.le_total k xs.length with h | h
  · rw [Nat.min_eq_left h]
  · rw [Nat.min_eq_right h, List.take_length, List.take_of_length_le h]
theorem cut_from1 {α : Type} (xs : List α) : cutD xs (some 1) none = xs.drop 1 := cut_from xs 1
theorem cut_to1 {α : Type} (xs : List α) : cutD xs none (some 1) = xs.take 1 := cut_to xs 1
theorem cut_init {α : Type} (xs : List α) : cutD xs none (some (-1)) = xs.dropLast := by
  unfold cutD
  rw [HT.sIx_none, List.drop_zero, Nat.sub_zero, List.dropLast_eq_take]
  congr 1
  show (if (-1 : Int) < 0 then (-1 + (xs.length : Int)).toNat else min (-1 : Int).toNat xs.length) = xs.length - 1
  rw [if_pos (by decide)]; omega
/-! comprehensions -/
section
variable {T : GT} {cf : Nat → List SV → CO} {e e1 : EV}
theorem andF1 {a b : E} {r : List E} (he : evE T cf false a e = .ok (.v (.bl true)) e1) : evV T cf false true (a :: b :: r) e = evV T cf false true (b :: r) e1 := by
  rw [x_v2, he]; simp [truth, opt]
theorem andFf {a b : E} {r : List E} (he : evE T cf false a e = .ok (.v (.bl false)) e1) : evV T cf false true (a :: b :: r) e = .ok (.v (.bl false)) e1 := by
  rw [x_v2, he]; simp [truth, opt]
theorem ev_compP {i j : Nat} (hij : i ≠ j) {it : It} {elt : E} {ds : List D} {s t : SV} (x y h : D → D) (hi : evI T cf it e = .ok ds e1) (hs : e1[i]? = some s) (ht : e1[j]? = some t) (hl : ds.length ≤ 1000)
    (hf : ∀ d ∈ ds, d = .tup [x d, y d] ∧ evE T cf false elt ((e1.set i (.val (x d))).set j (.val (y d))) = .ok (.v (h d)) ((e1.set i (.val (x d))).set j (.val (y d)))) :
    evE T cf false (.comp [i, j] it (.tp [i, j]) none elt) e = .ok (.t (.lst (ds.map h))) e1 := by
  have hlt := lt_of_get hs
  have hlt2 := lt_of_get ht
  have ha : ∀ a b : D, asg (.tp [i, j]) (.tup [a, b]) ((e1.set j .un).set i .un) = some ((e1.set i (.val a)).set j (.val b)) := by
    intro a b
    have o1 : setOk ((e1.set j .un).set i .un) i = true := setOk_fre (get_set .un (by simpa using hlt)) Fre.un
    have e2 : ((e1.set j .un).set i .un).set i (.val a) = (e1.set i (.val a)).set j .un := by
      rw [List.set_set, List.set_comm _ _ (Ne.symm hij)]
    have o2 : setOk ((e1.set i (.val a)).set j .un) j = true := setOk_fre (get_set .un (by simpa using hlt2)) Fre.un
    show setVals [i, j] [a, b] _ = _
    simp only [setVals, o1, if_true, e2, o2, List.set_set]
  have hc := compL_filter (f := fun d e => opt (asg (.tp [i, j]) d e) fun e1 => (evC T cf none e1).bd fun k e2 => if k then (evE T cf false elt e2).bd fun r e3 => opt (frz e3 r) fun (x, e4) => .ok (some x) e4 else .ok none e2) (own := [i, j]) (e0 := (e1.set j .un).set i .un) h (fun _ => true) ds [] (by
    intro d hd
    obtain ⟨h1, h2⟩ := hf d hd
    have h3 := ha (x d) (y d)
    rw [← h1] at h3
    refine ⟨(e1.set i (.val (x d))).set j (.val (y d)), ?_, ?_⟩
    · simp only [h3, opt, x_c0, bd_ok, if_true, h2]
      rfl
    · show (((e1.set i (.val (x d))).set j (.val (y d))).set j .un).set i .un = _
      rw [List.set_set, List.set_comm _ _ hij, List.set_set]) (by simp [sizeL]; omega)
  rw [List.filter_eq_self.mpr (fun _ _ => rfl)] at hc
  rw [x_comp, hi]
  simp only [tst, Bool.false_eq_true, if_false, bd_ok, wipeE_cons, wipeE_nil]
  rw [hc]
  simp only [bd_ok, List.nil_append, unwipe_cons, unwipe_nil, hs, ht]
  rw [List.set_comm _ _ hij, List.set_set, List.set_set, set_same ht, set_same hs]
end
theorem bls_true : ∀ ds : List D, blsD (ds.map fun _ => D.bl true) = some (ds.map fun _ => true)
  | [] => rfl
  | x :: l => by simp [blsD, bls_true l]
theorem all_ev (ds : List D) : biF .all [.lst (ds.map fun _ => D.bl true)] = some (.v (.bl true)) := by
  show (blsD _).map _ = _
  rw [bls_true]; simp
/-! rows and words -/
theorem sp1l (n : Nat) (k : Int) (h : k = 1 ∨ k = 2 ∨ k = 3) : callF T (n+2) 1 [.val (.int k), .val (.int 1), .val (.int 3)] = .ok (.v (.bl true)) [.val (.int k), .val (.int 1), .val (.int 3)] := by
  rw [x_callF T (n+1) 1 _ (F := f1) rfl rfl]
  rcases h with rfl | rfl | rfl <;> simp [f1, sp0i]
theorem sp9 (n : Nat) (w : List Int) (hw : okL w) (hl : w.length ≤ 1000) : callF T (n+3) 9 [.val (wd w)] = .ok (.v (.bl true)) [.val (wd w)] := by
  rw [x_callF T (n+2) 9 _ (F := f9) rfl rfl]
  have hc := ev_comp (T := T) (cf := callF T (n+2)) (e := [.val (wd w), .un]) (e1 := [.val (wd w), .un]) (i := 1) (it := .e (.var 0)) (cond := none) (elt := .call 1 [.var 1, .int 1, .int 3]) (ds := w.map D.int) (s := .un) (fun _ => true) (fun _ => .bl true) (by simp [wd]) rfl (by simpa using hl) (by
    intro d hd
    obtain ⟨k, hk, rfl⟩ := List.mem_map.mp hd
    exact ⟨by simp, fun _ => .inl (by simp [sp1l n k (hw k hk)])⟩)
  rw [List.filter_eq_self.mpr (fun _ _ => rfl)] at hc
  show fin [.val (wd w)] (exB T (callF T (n+2)) [.ret (.andor true [.isi (.var 0) ["tuple"], .bi .all [.comp [1] (.e (.var 0)) (.nm 1) none (.call 1 [.var 1, .int 1, .int 3])]])] [.val (wd w), .un]) = _
  rw [x_b1, x_ret, x_andor, andF1 (e1 := [.val (wd w), .un]) (by simp [wd, tyOk, isTy]), x_v1, x_bi, x_a1, hc]
  simp only [bd_ok, x_a0, x_conts1, x_conts0, x_cont_t, Option.bind, Option.map, opt, all_ev, tst, Bool.false_eq_true, if_false]
  simp [retR, outs]
theorem alt_zip : ∀ w : List Int, altB w = (w.zip w.tail).all fun p => (p.1 == 1) != (p.2 == 1)
  | [] => rfl
  | [a] => rfl
  | a :: b :: r => by rw [altB, alt_zip (b :: r)]; rfl
theorem sp10 (n : Nat) (w : List Int) (hw : okL w) (hl : w.length ≤ 1000) : callF T (n+4) 10 [.val (wd w)] = .ok (.v (.bl (altB w))) [.val (wd w)] := by
  rw [x_callF T (n+3) 10 _ (F := f10) rfl rfl]
  have e9 := sp9 n w hw hl
  have hz : evI T (callF T (n+3)) (.zip [.var 0, .sl (.var 0) (some (.int 1)) none]) [.val (wd w), .un, .un] = .ok ((w.zip w.tail).map fun p => .tup [.int p.1, .int p.2]) [.val (wd w), .un, .un] := by
    have : zipD (w.map D.int) ((w.map D.int).drop 1) = (w.zip w.tail).map fun p => .tup [.int p.1, .int p.2] := by
      unfold zipD
      rw [← List.map_drop, List.drop_one, List.zipWith_map]
      simp [List.zip, List.map_zipWith]
    simp [wd, sliceD, intD, cut_from1, frzs, frz]
    rw [← this]; simp
  have hc := ev_compP (T := T) (cf := callF T (n+3)) (e := [.val (wd w), .un, .un]) (i := 1) (j := 2) (by decide) (elt := .cmp .NotEq (.cmp .Eq (.var 1) (.int 1)) (.cmp .Eq (.var 2) (.int 1))) (s := .un) (t := .un)
    (fun d => match d with | .tup [a, _] => a | _ => .non) (fun d => match d with | .tup [_, b] => b | _ => .non) (fun d => match d with | .tup [.int a, .int b] => .bl ((a == 1) != (b == 1)) | _ => .non) hz rfl rfl (by simp; omega) (by
    intro d hd
    obtain ⟨p, _, rfl⟩ := List.mem_map.mp hd
    refine ⟨rfl, ?_⟩
    simp [eqD_bb]
    have c1 : (p.1 == 1) = decide (p.1 = 1) := rfl
    have c2 : (p.2 == 1) = decide (p.2 = 1) := rfl
    rw [c1, c2]
    by_cases h1 : p.1 = 1 <;> by_cases h2 : p.2 = 1 <;> simp [h1, h2])
  have ha : biF .all [.lst (((w.zip w.tail).map fun p => D.tup [.int p.1, .int p.2]).map fun d => match d with | .tup [.int a, .int b] => .bl ((a == 1) != (b == 1)) | _ => .non)] = some (.v (.bl (altB w))) := by
    rw [alt_zip, List.map_map]
    show (blsD _).map _ = _
    have : ∀ l : List (Int × Int), blsD (l.map ((fun d => match d with | .tup [.int a, .int b] => D.bl ((a == 1) != (b == 1)) | _ => .non) ∘ fun p => D.tup [.int p.1, .int p.2])) = some (l.map fun p => (p.1 == 1) != (p.2 == 1)) := by
      intro l
      induction l with
      | nil => rfl
      | cons p l ih => rw [List.map_cons]; show (blsD _).map _ = _; rw [ih]; rfl
    rw [this, Option.map_some, List.all_map]
    rfl
  show fin [.val (wd w)] (exB T (callF T (n+3)) [.ret (.andor true [.call 9 [.var 0], .bi .all [.comp [1, 2] (.zip [.var 0, .sl (.var 0) (some (.int 1)) none]) (.tp [1, 2]) none (.cmp .NotEq (.cmp .Eq (.var 1) (.int 1)) (.cmp .Eq (.var 2) (.int 1)))]])] [.val (wd w), .un, .un]) = _
  rw [x_b1, x_ret, x_andor, andF1 (e1 := [.val (wd w), .un, .un]) (by simp [e9]), x_v1, x_bi, x_a1, hc]
  simp only [bd_ok, x_a0, x_conts1, x_conts0, x_cont_t, Option.bind, Option.map, opt, ha, tst, Bool.false_eq_true, if_false]
  simp [retR, outs]
/-! tupled -/
theorem sp4w (n : Nat) (w : List Int) (hl : w.length ≤ 1000) (d : D) (hd : d = wd w ∨ d = wl_ w) : callF T (n+2) 4 [.val d] = .ok (.v (wd w)) [.val d] := by
  rw [x_callF T (n+1) 4 _ (F := f4) rfl rfl]
  have hi : evI T (callF T (n+1)) (.e (.var 0)) [.val d, .un] = .ok (w.map D.int) [.val d, .un] := by
    rcases hd with rfl | rfl <;> simp [wd, wl_, frz]
  have hc := ev_comp (T := T) (cf := callF T (n+1)) (e := [.val d, .un]) (e1 := [.val d, .un]) (i := 1) (it := .e (.var 0)) (cond := none) (elt := .call 4 [.var 1]) (ds := w.map D.int) (s := .un) (fun _ => true) (fun d => d) hi rfl (by simpa using hl) (by
    intro d hd
    obtain ⟨m, _, rfl⟩ := List.mem_map.mp hd
    exact ⟨by simp, fun _ => .inl (by simp [sp4i n m])⟩)
  rw [List.filter_eq_self.mpr (fun _ _ => rfl), List.map_id'] at hc
  show fin [.val d] (exB T (callF T (n+1)) [.ret (.ite (.isi (.var 0) ["list", "tuple"]) (.bi .tuple [.comp [1] (.e (.var 0)) (.nm 1) none (.call 4 [.var 1])]) (.var 0))] [.val d, .un]) = _
  rw [x_b1, x_ret, x_ite]
  have h1 : toB (evE T (callF T (n+1)) true (.isi (.var 0) ["list", "tuple"]) [.val d, .un]) = .ok true [.val d, .un] := by
    rcases hd with rfl | rfl <;> simp [wd, wl_, tyOk, isTy, toB, tst, truth, opt]
  rw [h1]
  simp only [bd_ok, if_true]
  rw [x_bi, x_a1, hc]
  simp [retR, outs, wd]
theorem sp11 (n : Nat) (w : List Int) (hw : okL w) (hl : w.length ≤ 1000) (d : D) (hd : d = wd w ∨ d = wl_ w) : callF T (n+4) 11 [.val d] = .ok (.v (wd w)) [.val d] := by
  rw [x_callF T (n+3) 11 _ (F := f11) rfl rfl]
  simp [f11, sp4w (n+1) w hl d hd, sp9 n w hw hl]
theorem sp12 (n : Nat) (w : List Int) (hw : red w) (hl : w.length ≤ 1000) (d : D) (hd : d = wd w ∨ d = wl_ w) : callF T (n+5) 12 [.val d] = .ok (.v (wd w)) [.val d] := by
  rw [x_callF T (n+4) 12 _ (F := f12) rfl rfl]
  have e := sp10 n w hw.1 hl
  rw [hw.2] at e
  simp [f12, sp4w (n+2) w hl d hd, e]
theorem sp21 (n : Nat) (w : List Int) (hw : okL w) (hl : w.length ≤ 1000) : callF T (n+5) 21 [.val (wd w)] = .ok (.v (.bl (altB w))) [.val (wd w)] := by
  rw [x_callF T (n+4) 21 _ (F := f21) rfl rfl]
  simp [f21, sp10 n w hw hl]
theorem sp10l (n : Nat) (w : List Int) : callF T (n+4) 10 [.val (wl_ w)] = .ok (.v (.bl false)) [.val (wl_ w)] := by
  have e9 : callF T (n+3) 9 [.val (wl_ w)] = .ok (.v (.bl false)) [.val (wl_ w)] := by
    rw [x_callF T (n+2) 9 _ (F := f9) rfl rfl]
    show fin [.val (wl_ w)] (exB T (callF T (n+2)) [.ret (.andor true [.isi (.var 0) ["tuple"], .bi .all [.comp [1] (.e (.var 0)) (.nm 1) none (.call 1 [.var 1, .int 1, .int 3])]])] [.val (wl_ w), .un]) = _
    rw [x_b1, x_ret, x_andor, andFf (e1 := [.val (wl_ w), .un]) (by simp [wl_, tyOk, isTy])]
    simp [retR, outs]
  rw [x_callF T (n+3) 10 _ (F := f10) rfl rfl]
  show fin [.val (wl_ w)] (exB T (callF T (n+3)) [.ret (.andor true [.call 9 [.var 0], .bi .all [.comp [1, 2] (.zip [.var 0, .sl (.var 0) (some (.int 1)) none]) (.tp [1, 2]) none (.cmp .NotEq (.cmp .Eq (.var 1) (.int 1)) (.cmp .Eq (.var 2) (.int 1)))]])] [.val (wl_ w), .un, .un]) = _
  rw [x_b1, x_ret, x_andor, andFf (e1 := [.val (wl_ w), .un, .un]) (by simp [e9])]
  simp [retR, outs]
theorem sp21l (n : Nat) (w : List Int) : callF T (n+5) 21 [.val (wl_ w)] = .ok (.v (.bl false)) [.val (wl_ w)] := by
  rw [x_callF T (n+4) 21 _ (F := f21) rfl rfl]
  simp [f21, sp10l n w]
/-! backwards -/
theorem sp14 (n : Nat) (w : List Int) (hl : w.length ≤ 1000) : callF T (n+1) 14 [.val (wd w)] = .ok (.v (wd (back w))) [.val (wd w)] := by
  rw [x_callF T n 14 _ (F := f14) rfl rfl]
  have hc := ev_comp (T := T) (cf := callF T n) (e := [.val (wd w), .un]) (e1 := [.val (wd w), .un]) (i := 1) (it := .e (.rev (.var 0))) (cond := none) (elt := .ite (.cmp .Eq (.var 1) (.int 1)) (.var 1) (.bin .sub (.int 5) (.var 1))) (ds := w.reverse.map D.int) (s := .un) (fun _ => true) (fun d => match d with | .int k => .int (bk k) | _ => .non) (by simp [wd, revD, frz]) rfl (by simpa using hl) (by
    intro d hd
    obtain ⟨k, _, rfl⟩ := List.mem_map.mp hd
    refine ⟨by simp, fun _ => .inl ?_⟩
    by_cases h : k = 1 <;> simp [h, bk, toB])
  have hm : ((w.reverse.map D.int).filter fun _ => true).map (fun d => match d with | .int k => D.int (bk k) | _ => .non) = (back w).map D.int := by
    rw [List.filter_eq_self.mpr (fun _ _ => rfl), List.map_map]; unfold back; rw [List.map_map]; rfl
  rw [hm] at hc
  show fin [.val (wd w)] (exB T (callF T n) [.ret (.bi .tuple [.comp [1] (.e (.rev (.var 0))) (.nm 1) none (.ite (.cmp .Eq (.var 1) (.int 1)) (.var 1) (.bin .sub (.int 5) (.var 1)))])] [.val (wd w), .un]) = _
  rw [x_b1, x_ret, x_bi, x_a1, hc]
  simp [retR, outs, wd]
theorem sp26 (n : Nat) (w : List Int) (hw : red w) (hl : w.length ≤ 1000) : callF T (n+6) 26 [.val (wd w)] = .ok (.v (wd (back w))) [.val (wd w)] := by
  rw [x_callF T (n+5) 26 _ (F := f26) rfl rfl]
  simp [f26, sp12 n w hw hl _ (.inl rfl), sp14 (n+4) w hl]
end PL.K01
end

section
set_option exponentiation.threshold 5000
namespace PL.K01
open PL PL.K00 PL.RY PL.WD PySem PySem.Spec L2

/-! shortening -/
theorem atI_last {α : Type} (l : List α) (x : α) : atI (l ++ [x]) (-1) = some x := by
  simp [atI, ixN]
  rw [if_pos (by omega)]
  have : (-1 + ((l.length : Int) + 1)).toNat = l.length := by omega
  simp [this]
def b13 : List S := [.if_ (.andor false [.cmp .Eq (.var 1) (.lst []), .cmp .NotEq (.cmp .Eq (.ix (.var 1) (.neg (.int 1))) (.int 1)) (.cmp .Eq (.var 2) (.int 1))]) [.ex (.app 1 (.var 2))] [.if_ (.cmp .Eq (.var 2) (.int 1)) [.ex (.pop 1)] [.set 3 (.bin .mod (.bin .sub (.bin .add (.bin .sub (.pop 1) (.int 1)) (.var 2)) (.int 1)) (.int 3)), .if_ (.cmp .NotEq (.var 3) (.int 0)) [.ex (.app 1 (.bin .add (.var 3) (.int 1)))] []]]]
theorem st13 (n : Nat) (s0 s3 : SV) (f : List Int) (o : Int) (hf : okL f) (ho : o = 1 ∨ o = 2 ∨ o = 3) (h3 : Fre s3) (hl : f.length ≤ 1000000) :
    ∃ s3', Fre s3' ∧ exB T (callF T n) b13 [s0, .own (.lst (f.map D.int)), .val (.int o), s3] = .ok .next [s0, .own (.lst ((stp f o).map D.int)), .val (.int o), s3'] := by
  rcases List.eq_nil_or_concat f with rfl | ⟨u, l, rfl⟩
  · refine ⟨s3, h3, ?_⟩
    have e := eqD_ln []
    simp only [List.map_nil] at e
    simp [b13, e, toB, tst, truth, opt, stp, lstAt, mineD, upS, sizeL, frz_v, frzs]
  · rw [List.concat_eq_append] at hf hl ⊢
    have hll := hf l (by simp)
    have e := eqD_ln (u ++ [l])
    have hne : ¬ (u ++ [l] = []) := by simp
    rw [decide_eq_false hne] at e
    have ea := atI_last (u.map D.int) (.int l)
    simp only [List.length_append, List.length_cons, List.length_nil] at hl
    simp only [List.map_append, List.map_cons, List.map_nil] at e ⊢
    have h1 : u.length + 1 < 16777216 := by omega
    have h2 : u.length < 16777216 := by omega
    have hs : stp (u ++ [l]) o = if (l == 1) != (o == 1) then u ++ [l] ++ [o] else if o = 1 then u else if (l - 1 + o - 1) % 3 ≠ 0 then u ++ [(l - 1 + o - 1) % 3 + 1] else u := by
      unfold stp
      rw [List.getLast?_append]
      simp
    rw [hs]
    rcases hll with rfl | rfl | rfl <;> rcases ho with rfl | rfl | rfl
    · exact ⟨s3, h3, by simp [b13, e, ea, eqD_bb, eqD_int, toB, tst, truth, opt, intD, lstAt, mineD, upS, sizeL, frz_v, frzs, fzR, setR, h1, h2]⟩
    · exact ⟨s3, h3, by simp [b13, e, ea, eqD_bb, eqD_int, toB, tst, truth, opt, intD, lstAt, mineD, upS, sizeL, frz_v, frzs, fzR, setR, h1, h2]⟩
    · exact ⟨s3, h3, by simp [b13, e, ea, eqD_bb, eqD_int, toB, tst, truth, opt, intD, lstAt, mineD, upS, sizeL, frz_v, frzs, fzR, setR, h1, h2]⟩
    · exact ⟨s3, h3, by simp [b13, e, ea, eqD_bb, eqD_int, toB, tst, truth, opt, intD, lstAt, mineD, upS, sizeL, frz_v, frzs, fzR, setR, h1, h2]⟩
    · refine ⟨.val (.int 2), Fre.val _, ?_⟩
      rcases h3 with rfl | ⟨_, rfl⟩ | ⟨_, rfl⟩ <;> simp [b13, e, ea, eqD_bb, eqD_int, toB, tst, truth, opt, intD, lstAt, mineD, upS, sizeL, frz_v, frzs, fzR, setR, h1, h2]
    · refine ⟨.val (.int 0), Fre.val _, ?_⟩
      rcases h3 with rfl | ⟨_, rfl⟩ | ⟨_, rfl⟩ <;> simp [b13, e, ea, eqD_bb, eqD_int, toB, tst, truth, opt, intD, lstAt, mineD, upS, sizeL, frz_v, frzs, fzR, setR, h1, h2]
    · exact ⟨s3, h3, by simp [b13, e, ea, eqD_bb, eqD_int, toB, tst, truth, opt, intD, lstAt, mineD, upS, sizeL, frz_v, frzs, fzR, setR, h1, h2]⟩
    · refine ⟨.val (.int 0), Fre.val _, ?_⟩
      rcases h3 with rfl | ⟨_, rfl⟩ | ⟨_, rfl⟩ <;> simp [b13, e, ea, eqD_bb, eqD_int, toB, tst, truth, opt, intD, lstAt, mineD, upS, sizeL, frz_v, frzs, fzR, setR, h1, h2]
    · refine ⟨.val (.int 1), Fre.val _, ?_⟩
      rcases h3 with rfl | ⟨_, rfl⟩ | ⟨_, rfl⟩ <;> simp [b13, e, ea, eqD_bb, eqD_int, toB, tst, truth, opt, intD, lstAt, mineD, upS, sizeL, frz_v, frzs, fzR, setR, h1, h2]
theorem lp13 (n : Nat) (s0 : SV) : ∀ (ws f : List Int) (s2 s3 : SV), Fre s2 → Fre s3 → okL f → okL ws → f.length + ws.length ≤ 1000000 →
    ∃ s2' s3', forL (fun d e => opt (asg (.nm 2) d e) fun e1 => exB T (callF T n) b13 e1) (ws.map D.int) [s0, .own (.lst (f.map D.int)), s2, s3] = .ok .next [s0, .own (.lst ((ws.foldl stp f).map D.int)), s2', s3']
  | [], f, s2, s3, _, _, _, _, _ => ⟨s2, s3, rfl⟩
  | o :: ws, f, s2, s3, h2, h3, hf, hw, hl => by
    have ho := hw o (by simp)
    simp only [List.length_cons] at hl
    obtain ⟨s3', f3, h⟩ := st13 n s0 s3 f o hf ho h3 (by omega)
    have hsl := stp_len f o
    obtain ⟨t2, t3, ih⟩ := lp13 n s0 ws (stp f o) (.val (.int o)) s3' (Fre.val _) f3 (stp_W hf ho).2 (fun x hx => hw x (by simp [hx])) (by omega)
    refine ⟨t2, t3, ?_⟩
    have ha : asg (.nm 2) (.int o) [s0, .own (.lst (f.map D.int)), s2, s3] = some [s0, .own (.lst (f.map D.int)), .val (.int o), s3] := by
      rcases h2 with rfl | ⟨_, rfl⟩ | ⟨_, rfl⟩ <;> simp
    rw [List.map_cons, forL_cons, ha]
    simp only [opt, h, bd_ok]
    exact ih
theorem sp13t (n : Nat) (ws : List Int) (hw : okL ws) (hl : ws.length ≤ 1000000) : callF T (n+1) 13 [.val (wd ws)] = .ok (.v (wd (shrt ws))) [.val (wd ws)] := by
  rw [x_callF T n 13 _ (F := f13) rfl rfl]
  obtain ⟨t2, t3, h⟩ := lp13 n (.val (wd ws)) ws [] .un .un Fre.un Fre.un (fun x hx => by cases hx) hw (by simpa using hl)
  show fin [.val (wd ws)] (exB T (callF T n) [.set 1 (.lst []), .for_ (.nm 2) (.e (.var 0)) b13, .ret (.bi .tuple [.var 1])] [.val (wd ws), .un, .un, .un]) = _
  have h1 : exS T (callF T n) (.set 1 (.lst [])) [.val (wd ws), .un, .un, .un] = .ok .next [.val (wd ws), .own (.lst []), .un, .un] := by
    simp [frzs, sizeL, fzR, setR]
  have h2 : evI T (callF T n) (.e (.var 0)) [.val (wd ws), .own (.lst []), .un, .un] = .ok (ws.map D.int) [.val (wd ws), .own (.lst []), .un, .un] := by
    simp [wd, frz]
  rw [x_b1, h1]
  simp only [bd_ok]
  rw [x_b1, x_for, h2]
  simp only [bd_ok, List.map_nil] at h ⊢
  rw [h]
  simp [retR, outs, shrt, wd]
theorem sp13l (n : Nat) (ws : List Int) (hw : okL ws) (hl : ws.length ≤ 1000000) : callF T (n+1) 13 [.bor (.lst (ws.map D.int))] = .ok (.v (wd (shrt ws))) [.fro (.lst (ws.map D.int))] := by
  rw [x_callF T n 13 _ (F := f13) rfl rfl]
  obtain ⟨t2, t3, h⟩ := lp13 n (.fro (.lst (ws.map D.int))) ws [] .un .un Fre.un Fre.un (fun x hx => by cases hx) hw (by simpa using hl)
  show fin [.bor (.lst (ws.map D.int))] (exB T (callF T n) [.set 1 (.lst []), .for_ (.nm 2) (.e (.var 0)) b13, .ret (.bi .tuple [.var 1])] [.bor (.lst (ws.map D.int)), .un, .un, .un]) = _
  have h1 : exS T (callF T n) (.set 1 (.lst [])) [.bor (.lst (ws.map D.int)), .un, .un, .un] = .ok .next [.bor (.lst (ws.map D.int)), .own (.lst []), .un, .un] := by
    simp [frzs, sizeL, fzR, setR]
  have h2 : evI T (callF T n) (.e (.var 0)) [.bor (.lst (ws.map D.int)), .own (.lst []), .un, .un] = .ok (ws.map D.int) [.fro (.lst (ws.map D.int)), .own (.lst []), .un, .un] := by
    simp [frz_h]
  rw [x_b1, h1]
  simp only [bd_ok]
  rw [x_b1, x_for, h2]
  simp only [bd_ok, List.map_nil] at h ⊢
  rw [h]
  simp [retR, outs, shrt, wd]
/-! the law's own -/
def b46 : List S := [.if_ (.andor false [.cmp .Eq (.var 1) (.lst []), .cmp .NotEq (.cmp .Eq (.ix (.var 1) (.neg (.int 1))) (.int 1)) (.cmp .Eq (.var 2) (.int 1))]) [.ex (.app 1 (.var 2))] [.if_ (.cmp .Eq (.var 2) (.int 1)) [.ex (.pop 1)] [.set 3 (.bin .mod (.bin .sub (.bin .add (.pop 1) (.var 2)) (.int 2)) (.int 3)), .if_ (.cmp .Gt (.var 3) (.int 0)) [.ex (.app 1 (.bin .add (.var 3) (.int 1)))] []]]]
theorem st46 (n : Nat) (s0 s3 : SV) (f : List Int) (o : Int) (hf : okL f) (ho : o = 1 ∨ o = 2 ∨ o = 3) (h3 : Fre s3) (hl : f.length ≤ 1000000) :
    ∃ s3', Fre s3' ∧ exB T (callF T n) b46 [s0, .own (.lst (f.map D.int)), .val (.int o), s3] = .ok .next [s0, .own (.lst ((stp f o).map D.int)), .val (.int o), s3'] := by
  rcases List.eq_nil_or_concat f with rfl | ⟨u, l, rfl⟩
  · refine ⟨s3, h3, ?_⟩
    have e := eqD_ln []
    simp only [List.map_nil] at e
    simp [b46, e, toB, tst, truth, opt, stp, lstAt, mineD, upS, sizeL, frz_v, frzs]
  · rw [List.concat_eq_append] at hf hl ⊢
    have hll := hf l (by simp)
    have e := eqD_ln (u ++ [l])
    have hne : ¬ (u ++ [l] = []) := by simp
    rw [decide_eq_false hne] at e
    have ea := atI_last (u.map D.int) (.int l)
    simp only [List.length_append, List.length_cons, List.length_nil] at hl
    simp only [List.map_append, List.map_cons, List.map_nil] at e ⊢
    have h1 : u.length + 1 < 16777216 := by omega
    have h2 : u.length < 16777216 := by omega
    have hs : stp (u ++ [l]) o = if (l == 1) != (o == 1) then u ++ [l] ++ [o] else if o = 1 then u else if (l - 1 + o - 1) % 3 ≠ 0 then u ++ [(l - 1 + o - 1) % 3 + 1] else u := by
      unfold stp
      rw [List.getLast?_append]
      simp
    rw [hs]
    rcases hll with rfl | rfl | rfl <;> rcases ho with rfl | rfl | rfl
    · exact ⟨s3, h3, by simp [b46, e, ea, eqD_bb, eqD_int, toB, tst, truth, opt, intD, lstAt, mineD, upS, sizeL, frz_v, frzs, fzR, setR, h1, h2]⟩
    · exact ⟨s3, h3, by simp [b46, e, ea, eqD_bb, eqD_int, toB, tst, truth, opt, intD, lstAt, mineD, upS, sizeL, frz_v, frzs, fzR, setR, h1, h2]⟩
    · exact ⟨s3, h3, by simp [b46, e, ea, eqD_bb, eqD_int, toB, tst, truth, opt, intD, lstAt, mineD, upS, sizeL, frz_v, frzs, fzR, setR, h1, h2]⟩
    · exact ⟨s3, h3, by simp [b46, e, ea, eqD_bb, eqD_int, toB, tst, truth, opt, intD, lstAt, mineD, upS, sizeL, frz_v, frzs, fzR, setR, h1, h2]⟩
    · refine ⟨.val (.int 2), Fre.val _, ?_⟩
      rcases h3 with rfl | ⟨_, rfl⟩ | ⟨_, rfl⟩ <;> simp [b46, e, ea, eqD_bb, eqD_int, toB, tst, truth, opt, intD, lstAt, mineD, upS, sizeL, frz_v, frzs, fzR, setR, h1, h2]
    · refine ⟨.val (.int 0), Fre.val _, ?_⟩
      rcases h3 with rfl | ⟨_, rfl⟩ | ⟨_, rfl⟩ <;> simp [b46, e, ea, eqD_bb, eqD_int, toB, tst, truth, opt, intD, lstAt, mineD, upS, sizeL, frz_v, frzs, fzR, setR, h1, h2]
    · exact ⟨s3, h3, by simp [b46, e, ea, eqD_bb, eqD_int, toB, tst, truth, opt, intD, lstAt, mineD, upS, sizeL, frz_v, frzs, fzR, setR, h1, h2]⟩
    · refine ⟨.val (.int 0), Fre.val _, ?_⟩
      rcases h3 with rfl | ⟨_, rfl⟩ | ⟨_, rfl⟩ <;> simp [b46, e, ea, eqD_bb, eqD_int, toB, tst, truth, opt, intD, lstAt, mineD, upS, sizeL, frz_v, frzs, fzR, setR, h1, h2]
    · refine ⟨.val (.int 1), Fre.val _, ?_⟩
      rcases h3 with rfl | ⟨_, rfl⟩ | ⟨_, rfl⟩ <;> simp [b46, e, ea, eqD_bb, eqD_int, toB, tst, truth, opt, intD, lstAt, mineD, upS, sizeL, frz_v, frzs, fzR, setR, h1, h2]
theorem lp46 (n : Nat) (s0 : SV) : ∀ (ws f : List Int) (s2 s3 : SV), Fre s2 → Fre s3 → okL f → okL ws → f.length + ws.length ≤ 1000000 →
    ∃ s2' s3', forL (fun d e => opt (asg (.nm 2) d e) fun e1 => exB T (callF T n) b46 e1) (ws.map D.int) [s0, .own (.lst (f.map D.int)), s2, s3] = .ok .next [s0, .own (.lst ((ws.foldl stp f).map D.int)), s2', s3']
  | [], f, s2, s3, _, _, _, _, _ => ⟨s2, s3, rfl⟩
  | o :: ws, f, s2, s3, h2, h3, hf, hw, hl => by
    have ho := hw o (by simp)
    simp only [List.length_cons] at hl
    obtain ⟨s3', f3, h⟩ := st46 n s0 s3 f o hf ho h3 (by omega)
    have hsl := stp_len f o
    obtain ⟨t2, t3, ih⟩ := lp46 n s0 ws (stp f o) (.val (.int o)) s3' (Fre.val _) f3 (stp_W hf ho).2 (fun x hx => hw x (by simp [hx])) (by omega)
    refine ⟨t2, t3, ?_⟩
    have ha : asg (.nm 2) (.int o) [s0, .own (.lst (f.map D.int)), s2, s3] = some [s0, .own (.lst (f.map D.int)), .val (.int o), s3] := by
      rcases h2 with rfl | ⟨_, rfl⟩ | ⟨_, rfl⟩ <;> simp
    rw [List.map_cons, forL_cons, ha]
    simp only [opt, h, bd_ok]
    exact ih
theorem sp46 (n : Nat) (ws : List Int) (hw : okL ws) (hl : ws.length ≤ 1000000) (d : D) (hd : d = wd ws ∨ d = wl_ ws) : callF T (n+1) 46 [.val d] = .ok (.v (wd (shrt ws))) [.val d] := by
  rw [x_callF T n 46 _ (F := f46) rfl rfl]
  obtain ⟨t2, t3, h⟩ := lp46 n (.val d) ws [] .un .un Fre.un Fre.un (fun x hx => by cases hx) hw (by simpa using hl)
  show fin [.val d] (exB T (callF T n) [.set 1 (.lst []), .for_ (.nm 2) (.e (.var 0)) b46, .ret (.bi .tuple [.var 1])] [.val d, .un, .un, .un]) = _
  have h1 : exS T (callF T n) (.set 1 (.lst [])) [.val d, .un, .un, .un] = .ok .next [.val d, .own (.lst []), .un, .un] := by
    simp [frzs, sizeL, fzR, setR]
  have h2 : evI T (callF T n) (.e (.var 0)) [.val d, .own (.lst []), .un, .un] = .ok (ws.map D.int) [.val d, .own (.lst []), .un, .un] := by
    rcases hd with rfl | rfl <;> simp [wd, wl_, frz]
  rw [x_b1, h1]
  simp only [bd_ok]
  rw [x_b1, x_for, h2]
  simp only [bd_ok, List.map_nil] at h ⊢
  rw [h]
  simp [retR, outs, shrt, wd]
theorem sp24 (n : Nat) (w : List Int) (hw : okL w) (hl : w.length ≤ 1000) (d : D) (hd : d = wd w ∨ d = wl_ w) : callF T (n+5) 24 [.val d] = .ok (.v (wd (shrt w))) [.val d] := by
  rw [x_callF T (n+4) 24 _ (F := f24) rfl rfl]
  simp [f24, sp11 n w hw hl d hd, sp13t (n+3) w hw (by omega)]
theorem sp25 (n : Nat) (u v : List Int) (hu : red u) (hv : red v) (hlu : u.length ≤ 1000) (hlv : v.length ≤ 1000) (d : D) (hd : d = wd v ∨ d = wl_ v) : callF T (n+6) 25 [.val (wd u), .val d] = .ok (.v (wd (shrt (u ++ v)))) [.val (wd u), .val d] := by
  rw [x_callF T (n+5) 25 _ (F := f25) rfl rfl]
  have e := sp13t (n+4) (u ++ v) (okL_app.mpr ⟨hu.1, hv.1⟩) (by simp; omega)
  have hb : binop .add (wd u) (wd v) = some (.v (wd (u ++ v))) := by
    simp [wd, binop, sizeL]; omega
  simp [f25, sp12 n u hu hlu _ (.inl rfl), sp12 n v hv hlv d hd, fzRs, fzR, setRs, setR, hb, e]
/-! moves of rows -/
theorem Le.ltr {j : Nat} {m : M} (h : Le j m) {k : Int} (hk : k = 1 ∨ k = 2 ∨ k = 3) : Le (j + 1) (P m (ltr k)) := by
  rcases hk with rfl | rfl | rfl
  · exact h.letter 0
  · exact h.letter 1
  · exact h.letter 2
theorem W_Le : ∀ (n : Nat) (w : List Int), w.length = n → okL w → Le n (W w)
  | 0, w, h, _ => by
    rw [List.eq_nil_of_length_eq_zero h]
    exact ⟨by decide, by decide, by decide, by decide⟩
  | n + 1, w, h, hw => by
    rcases List.eq_nil_or_concat w with rfl | ⟨u, l, rfl⟩
    · simp at h
    · rw [List.concat_eq_append] at h hw ⊢
      rw [W_snoc]
      exact (W_Le n u (by simpa using h) (okL_app.mp hw).1).ltr (hw l (by simp))
theorem bd_ltr (l : Int) : BdM 1 (ltr l) := by
  unfold ltr
  split <;> (try split) <;> (unfold BdM Bd; decide)
theorem sp44l (n : Nat) (k : Int) (h : k = 1 ∨ k = 2 ∨ k = 3) : callF T (n+1) 44 [.val (.int k)] = .ok (.v (md (ltr k))) [.val (.int k)] := by
  rcases h with rfl | rfl | rfl
  · exact sp44 n 0 (by decide) (by decide)
  · exact sp44 n 1 (by decide) (by decide)
  · exact sp44 n 2 (by decide) (by decide)
theorem dix_l (n : Nat) (e : EV) (i : Nat) (k : Int) (h : k = 1 ∨ k = 2 ∨ k = 3) (he : e[i]? = some (.val (.int k))) : evE T (callF T n) false (.dix 0 (.var i)) e = .ok (.v (md (ltr k))) e := by
  have hd : T.dcs[0]? = some ([.inl 1, .inl 2, .inl 3], [.tup [.int 0, .int (-1), .int 1, .int 0], .tup [.int 0, .int (-1), .int 1, .int 1], .tup [.int (-1), .int (-1), .int 1, .int 0]]) := rfl
  rw [x_dix, hd]
  rcases h with rfl | rfl | rfl <;> simp [opt, he, keyOf, dlook, md, ltr] <;> rfl
theorem lp15 (n : Nat) (s0 : SV) : ∀ (ws : List Int) (j : Nat) (m : M) (s2 : SV), Fre s2 → Le j m → okL ws → j + ws.length ≤ 1000 →
    ∃ s2', forL (fun d e => opt (asg (.nm 2) d e) fun e1 => exB T (callF T (n+2)) [.set 1 (.call 8 [.var 1, .dix 0 (.var 2)])] e1) (ws.map D.int) [s0, .val (md m), s2] = .ok .next [s0, .val (md (ws.foldl (fun m l => P m (ltr l)) m)), s2']
  | [], j, m, s2, _, _, _, _ => ⟨s2, rfl⟩
  | k :: ws, j, m, s2, h2, hm, hw, hl => by
    obtain ⟨hk, hw'⟩ := okL_cons.mp hw
    simp only [List.length_cons] at hl
    have e8 := sp8 n m (ltr k) hm.bd (bd_ltr k) (by omega)
    obtain ⟨t2, ih⟩ := lp15 n s0 ws (j + 1) (P m (ltr k)) (.val (.int k)) (Fre.val _) (hm.ltr hk) hw' (by omega)
    refine ⟨t2, ?_⟩
    have ha : asg (.nm 2) (.int k) [s0, .val (md m), s2] = some [s0, .val (md m), .val (.int k)] := by
      rcases h2 with rfl | ⟨_, rfl⟩ | ⟨_, rfl⟩ <;> simp
    have hx := dix_l (n+2) [s0, .val (md m), .val (.int k)] 2 k hk rfl
    have hb : exB T (callF T (n+2)) [.set 1 (.call 8 [.var 1, .dix 0 (.var 2)])] [s0, .val (md m), .val (.int k)] = .ok .next [s0, .val (md (P m (ltr k))), .val (.int k)] := by
      simp [-x_dix, hx, e8, fzR, setR]
    rw [List.map_cons, forL_cons, ha]
    simp only [opt, hb, bd_ok]
    exact ih
theorem sp15 (n : Nat) (w : List Int) (hw : okL w) (hl : w.length ≤ 1000) : callF T (n+3) 15 [.val (wd w)] = .ok (.v (md (W w))) [.val (wd w)] := by
  rw [x_callF T (n+2) 15 _ (F := f15) rfl rfl]
  obtain ⟨t2, h⟩ := lp15 n (.val (wd w)) w 0 one1 .un Fre.un ⟨by decide, by decide, by decide, by decide⟩ hw (by omega)
  show fin [.val (wd w)] (exB T (callF T (n+2)) [.set 1 (.con 0), .for_ (.nm 2) (.e (.var 0)) [.set 1 (.call 8 [.var 1, .dix 0 (.var 2)])], .ret (.var 1)] [.val (wd w), .un, .un]) = _
  have hc0 : T.cons[0]? = some (md one1) := rfl
  have h1 : exS T (callF T (n+2)) (.set 1 (.con 0)) [.val (wd w), .un, .un] = .ok .next [.val (wd w), .val (md one1), .un] := by
    simp [hc0]
  have h2 : evI T (callF T (n+2)) (.e (.var 0)) [.val (wd w), .val (md one1), .un] = .ok (w.map D.int) [.val (wd w), .val (md one1), .un] := by
    simp [wd, frz]
  rw [x_b1, h1]
  simp only [bd_ok]
  rw [x_b1, x_for, h2]
  simp only [bd_ok]
  rw [h]
  simp [retR, outs, W]
theorem sp23 (n : Nat) (w : List Int) (hw : okL w) (hl : w.length ≤ 1000) (d : D) (hd : d = wd w ∨ d = wl_ w) : callF T (n+5) 23 [.val d] = .ok (.v (md (W w))) [.val d] := by
  rw [x_callF T (n+4) 23 _ (F := f23) rfl rfl]
  simp [f23, sp11 n w hw hl d hd, sp15 (n+1) w hw hl]
theorem lp45w (n : Nat) (s0 : SV) : ∀ (ws : List Int) (j : Nat) (m : M) (s2 : SV), Fre s2 → Le j m → okL ws → j + ws.length ≤ 1000 →
    ∃ s2', forL (fun d e => opt (asg (.nm 2) d e) fun e1 => exB T (callF T (n+2)) body45 e1) (ws.map D.int) [s0, .val (md m), s2] = .ok .next [s0, .val (md (ws.foldl (fun m l => P m (ltr l)) m)), s2']
  | [], j, m, s2, _, _, _, _ => ⟨s2, rfl⟩
  | k :: ws, j, m, s2, h2, hm, hw, hl => by
    obtain ⟨hk, hw'⟩ := okL_cons.mp hw
    simp only [List.length_cons] at hl
    have e8 := sp42 n m (ltr k) hm.bd (bd_ltr k) (by omega)
    have e4 := sp44l (n+1) k hk
    obtain ⟨t2, ih⟩ := lp45w n s0 ws (j + 1) (P m (ltr k)) (.val (.int k)) (Fre.val _) (hm.ltr hk) hw' (by omega)
    refine ⟨t2, ?_⟩
    have ha : asg (.nm 2) (.int k) [s0, .val (md m), s2] = some [s0, .val (md m), .val (.int k)] := by
      rcases h2 with rfl | ⟨_, rfl⟩ | ⟨_, rfl⟩ <;> simp
    have hb : exB T (callF T (n+2)) body45 [s0, .val (md m), .val (.int k)] = .ok .next [s0, .val (md (P m (ltr k))), .val (.int k)] := by
      simp [body45, e4, e8, fzR, setR]
    rw [List.map_cons, forL_cons, ha]
    simp only [opt, hb, bd_ok]
    exact ih
theorem sp45w (n : Nat) (w : List Int) (hw : okL w) (hl : w.length ≤ 1000) (d : D) (hd : d = wd w ∨ d = wl_ w) : callF T (n+3) 45 [.val d] = .ok (.v (md (W w))) [.val d] := by
  rw [x_callF T (n+2) 45 _ (F := f45) rfl rfl]
  obtain ⟨t2, h⟩ := lp45w n (.val d) w 0 one1 .un Fre.un ⟨by decide, by decide, by decide, by decide⟩ hw (by omega)
  show fin [.val d] (exB T (callF T (n+2)) [.set 1 (.tup [.int 1, .int 0, .int 0, .int 1]), .for_ (.nm 2) (.e (.var 0)) body45, .ret (.var 1)] [.val d, .un, .un]) = _
  have h1 : exS T (callF T (n+2)) (.set 1 (.tup [.int 1, .int 0, .int 0, .int 1])) [.val d, .un, .un] = .ok .next [.val d, .val (md one1), .un] := by
    simp [md_one, fzR, setR]
  have h2 : evI T (callF T (n+2)) (.e (.var 0)) [.val d, .val (md one1), .un] = .ok (w.map D.int) [.val d, .val (md one1), .un] := by
    rcases hd with rfl | rfl <;> simp [wd, wl_, frz]
  rw [x_b1, h1]
  simp only [bd_ok]
  rw [x_b1, x_for, h2]
  simp only [bd_ok]
  rw [h]
  simp [retR, outs, W]
end PL.K01
end

section
set_option exponentiation.threshold 5000
namespace PL.K01
open PL PL.K00 PL.RY PL.WD PySem PySem.Spec L2

theorem dvB {i : Int} (h0 : 0 < i) (h : i.natAbs < 2 ^ 1000) : divOk i = true := by
  have : i.natAbs.log2 < 9000 := Nat.lt_of_lt_of_le ((Nat.log2_lt (by omega)).mpr h) (by decide)
  unfold divOk
  rw [decide_eq_true h0, decide_eq_true this]; rfl
theorem sp16 (n : Nat) (a c : Int) (hc : c ≠ 0) (hb : c.natAbs < 2 ^ 900) : callF T (n+1) 16 [.val (.int a), .val (.int c)] = .ok (.v (.int (near a c))) [.val (.int a), .val (.int c)] := by
  rw [x_callF T n 16 _ (F := f16) rfl rfl]
  have m2 : ∀ i : Int, mulOk 2 i = true := fun i => mulOk_l (by decide)
  have hp : (2 : Nat) ^ 1000 = 2 ^ 900 * 2 ^ 100 := by rw [← Nat.pow_add]
  have hp2 : 2 * 2 ^ 900 ≤ (2 : Nat) ^ 1000 := by rw [hp, Nat.mul_comm 2]; exact Nat.mul_le_mul_left _ (by decide)
  have dvX : ∀ {i : Int}, 0 < i → i.natAbs < 2 ^ 1000 → divOk i = true := dvB
  generalize (2 : Nat) ^ 1000 = B1 at *
  generalize (2 : Nat) ^ 900 = B2 at *
  unfold near
  by_cases h : c < 0
  · have hd := dvX (i := 2 * (0 - c)) (by omega) (by omega)
    simp only [Int.zero_sub] at hd
    simp [f16, h, m2, hd, fzRs, fzR, setRs, setR]
  · have hd := dvX (i := 2 * c) (by omega) (by omega)
    simp [f16, h, m2, hd]
def c17 : E := .cmp .NotEq (.var 3) (.int 0)
def b17 : List S := [.set 6 (.call 16 [.var 1, .var 3]), .ex (.app 5 (.var 6)), .par [1, 2, 3, 4] [.var 3, .var 4, .bin .sub (.bin .mul (.var 6) (.var 3)) (.var 1), .bin .sub (.bin .mul (.var 6) (.var 4)) (.var 2)]]
theorem lp17 (n : Nat) (x : SV) : ∀ (f : Nat) (a b c d : Int) (acc : List Int) (s6 : SV), Fre s6 → C (a, b, c, d) ≤ f → c.natAbs < 2 ^ 60 → a.natAbs < 2 ^ 60 → acc.length + f ≤ 10000 →
    ∃ a' b' d' acc' s6', whL (fun e => toB (evE T (callF T (n+1)) true c17 e)) (fun e => exB T (callF T (n+1)) b17 e) (f + 90000) [x, .val (.int a), .val (.int b), .val (.int c), .val (.int d), .own (.lst (acc.map D.int)), s6] = .ok .next [x, .val (.int a'), .val (.int b'), .val (.int 0), .val (.int d'), .own (.lst (acc'.map D.int)), s6'] ∧ acc' ++ [if 0 < d' then b' else 0 - b'] = acc ++ quoC (a, b, c, d) ∧ acc'.length ≤ acc.length + f
  | f, a, b, c, d, acc, s6, h6, h1, h2, h3, h4 => by
    by_cases hz : c = 0
    · subst hz
      refine ⟨a, b, d, acc, s6, ?_, by rw [quoC_z], by omega⟩
      rw [show f + 90000 = (f + 89999) + 1 from rfl, wh_end (e1 := [x, .val (.int a), .val (.int b), .val (.int 0), .val (.int d), .own (.lst (acc.map D.int)), s6]) (by simp [c17, eqD_int, toB])]
    · obtain ⟨q1, q2⟩ := near_ok a c hz
      have hC := C_s (a := a) (b := b) (d := d) hz
      match f, h1, h4 with
      | 0, h1, _ => omega
      | f + 1, h1, h4 =>
      rw [show f + 1 + 90000 = (f + 90000) + 1 from by omega]
      have e42 := sp16 n a c hz (Nat.lt_of_lt_of_le h2 (Nat.pow_le_pow_right (by decide) (by decide)))
      have k1 : ∀ i, mulOk (near a c) i = true := fun i => mulOk_l (by omega)
      have hl : acc.length < 16777216 := by omega
      obtain ⟨a', b', d', acc', s6', ih, ih2, ih3⟩ := lp17 n x f c d (near a c * c - a) (near a c * d - b) (acc ++ [near a c]) (.val (.int (near a c))) (Fre.val _) (by omega) (by omega) (by omega) (by simp; omega)
      refine ⟨a', b', d', acc', s6', ?_, ?_, by simp at ih3; omega⟩
      · rw [wh_step (e1 := [x, .val (.int a), .val (.int b), .val (.int c), .val (.int d), .own (.lst (acc.map D.int)), s6]) (e2 := [x, .val (.int c), .val (.int d), .val (.int (near a c * c - a)), .val (.int (near a c * d - b)), .own (.lst ((acc ++ [near a c]).map D.int)), .val (.int (near a c))]) (by simp [c17, eqD_int, toB, hz]) (by
          rcases h6 with rfl | ⟨_, rfl⟩ | ⟨_, rfl⟩ <;> simp [b17, e42, k1, fzR, fzRs, setR, setRs, lstAt, mineD, upS, sizeL, hl, frz_v]), ih]
      · rw [ih2, quoC_s hz]; simp
theorem sp17 (n : Nat) (m : M) (hC : C m ≤ 3000) (hc : m.2.2.1.natAbs < 2 ^ 60) (ha : m.1.natAbs < 2 ^ 60) : callF T (n+2) 17 [.val (md m)] = .ok (.t (wl_ (quoC m))) [.val (md m)] := by
  rw [x_callF T (n+1) 17 _ (F := f17) rfl rfl]
  obtain ⟨a', b', d', acc', s6', hw, he, hl⟩ := lp17 n (.val (md m)) 10000 m.1 m.2.1 m.2.2.1 m.2.2.2 [] .un Fre.un (by show C m ≤ _; omega) hc ha (by simp)
  show fin [.val (md m)] (exB T (callF T (n+1)) [.unp [1, 2, 3, 4] (.var 0), .set 5 (.lst []), .wh c17 b17, .ret (.bin .add (.var 5) (.lst [.ite (.cmp .Gt (.var 4) (.int 0)) (.var 2) (.bin .sub (.int 0) (.var 2))]))] [.val (md m), .un, .un, .un, .un, .un, .un]) = _
  have h1 : exS T (callF T (n+1)) (.unp [1, 2, 3, 4] (.var 0)) [.val (md m), .un, .un, .un, .un, .un, .un] = .ok .next [.val (md m), .val (.int m.1), .val (.int m.2.1), .val (.int m.2.2.1), .val (.int m.2.2.2), .un, .un] := by
    simp [md, setVals]
  have h2 : exS T (callF T (n+1)) (.set 5 (.lst [])) [.val (md m), .val (.int m.1), .val (.int m.2.1), .val (.int m.2.2.1), .val (.int m.2.2.2), .un, .un] = .ok .next [.val (md m), .val (.int m.1), .val (.int m.2.1), .val (.int m.2.2.1), .val (.int m.2.2.2), .own (.lst []), .un] := by
    simp [frzs, sizeL, fzR, setR]
  rw [x_b1, h1]
  simp only [bd_ok]
  rw [x_b1, h2]
  simp only [bd_ok]
  rw [x_b1, x_wh]
  rw [show T.wf = 10000 + 90000 from rfl]
  simp only [List.map] at hw
  rw [hw]
  simp only [List.nil_append] at he
  have hq : wl_ (quoC m) = .lst (acc'.map D.int ++ [.int (if 0 < d' then b' else 0 - b')]) := by
    unfold wl_
    rw [show quoC m = quoC (m.1, m.2.1, m.2.2.1, m.2.2.2) from rfl, ← he, List.map_append]; rfl
  rw [hq]
  simp at hl
  by_cases hd : 0 < d'
  · simp [hd, frzs, frz_v, sizeL, retR, outs, toB, tst, truth, opt]
    rw [if_pos (by omega)]
    simp [retR]
  · simp [hd, frzs, frz_v, sizeL, retR, outs, toB, tst, truth, opt]
    rw [if_pos (by omega)]
    simp [retR]
/-! a move's word -/
theorem intsD_map : ∀ l : List Int, intsD (l.map D.int) = some l
  | [] => rfl
  | x :: l => by simp [intsD, intsD_map l]
theorem sumA_eq : ∀ l : List Int, (l.map aI).sum = (sumA l : Int)
  | [] => rfl
  | x :: l => by
    have := sumA_eq l
    simp only [sumA, List.map_cons, List.sum_cons] at this ⊢
    have e : aI x = (x.natAbs : Int) := by unfold aI; split <;> omega
    omega
def enumK : Nat → List D → List D
  | _, [] => []
  | k, x :: xs => .tup [.int k, x] :: enumK (k + 1) xs
theorem enum_eq (xs : List D) : enumD xs = enumK 0 xs := by
  have : ∀ (xs : List D) (k : Nat), (List.range' k xs.length).zipWith (fun (k : Nat) x => D.tup [.int k, x]) xs = enumK k xs := by
    intro xs
    induction xs with
    | nil => intro k; rfl
    | cons x xs ih =>
      intro k
      rw [List.length_cons, List.range'_succ, List.zipWith_cons_cons, ih]
      rfl
  unfold enumD
  rw [List.range_eq_range', this]
theorem lw_map (q : Int) : (lw q).map D.int = if 0 ≤ q then (List.replicate q.toNat [D.int 1, D.int 2]).flatten else (List.replicate (0 - q).toNat [D.int 3, D.int 1]).flatten := by
  unfold lw
  split <;> rw [List.map_flatten, List.map_replicate] <;> rfl
def b18 : List S := [.if_ (.cmp .Gt (.var 4) (.int 0)) [.ex (.app 3 (.int 1))] [], .ex (.ext 3 (.ite (.cmp .GtE (.var 2) (.int 0)) (.bin .mul (.lst [.int 1, .int 2]) (.var 2)) (.bin .mul (.lst [.int 3, .int 1]) (.bin .sub (.int 0) (.var 2)))))]
theorem st18 (n k : Nat) (s0 s1 : SV) (acc : List Int) (q : Int) (hq : q.natAbs ≤ 100000) (hl : acc.length ≤ 1000000) :
    exB T (callF T n) b18 [s0, s1, .val (.int q), .own (.lst (acc.map D.int)), .val (.int k)] = .ok .next [s0, s1, .val (.int q), .own (.lst ((acc ++ ((if 0 < k then [1] else []) ++ lw q)).map D.int)), .val (.int k)] := by
  have hm := lw_map q
  have hb1 : acc.length < 16777216 := by omega
  have mulT : ∀ (xs : List D) (j : Int), xs.length = 2 → 0 ≤ j → j ≤ 100000 → binop .mul (.lst xs) (.int j) = some (.t (.lst (List.replicate j.toNat xs).flatten)) := by
    intro xs j h2 h0 h1
    show (if decide (-(2 ^ 63) ≤ j) && decide (j < 2 ^ 63) && decide (xs.length * j.toNat ≤ sizeL) then some (RV.t (.lst (List.replicate j.toNat xs).flatten)) else none) = _
    rw [decide_eq_true (show -(2 ^ 63) ≤ j by omega), decide_eq_true (show j < 2 ^ 63 by omega), decide_eq_true (show xs.length * j.toNat ≤ sizeL by rw [h2]; unfold sizeL; omega)]
    rfl
  have len2 : ∀ (xs : List D) (j : Nat), xs.length = 2 → (List.replicate j xs).flatten.length = j * 2 := by
    intro xs j h2
    rw [List.length_flatten, List.map_replicate, List.sum_replicate_nat, h2]
  by_cases hq0 : 0 ≤ q
  · rw [if_pos hq0] at hm
    have e1 := mulT [.int 1, .int 2] q rfl hq0 (by omega)
    have l1 := len2 [.int 1, .int 2] q.toNat rfl
    by_cases hk : 0 < k
    · have hk' : (0 : Int) < (k : Int) := by omega
      simp only [if_pos hk, List.map_append, hm]
      generalize (List.replicate q.toNat [D.int 1, D.int 2]).flatten = L at *
      have hs : acc.length + 1 + L.length ≤ 16777216 := by omega
      simp [b18, hk, hk', hq0, toB, tst, truth, opt, lstAt, mineD, upS, sizeL, frz_v, frzs, hb1, e1, hs, Nat.add_assoc] <;> first | done | (rw [if_pos (by omega)]; simp)
    · have hk0 : k = 0 := by omega
      subst hk0
      simp only [if_neg hk, List.map_append, hm]
      generalize (List.replicate q.toNat [D.int 1, D.int 2]).flatten = L at *
      have hs : acc.length + L.length ≤ 16777216 := by omega
      simp [b18, hq0, toB, tst, truth, opt, lstAt, mineD, upS, sizeL, frz_v, frzs, hb1, e1, hs]
  · rw [if_neg hq0] at hm
    have e1 := mulT [.int 3, .int 1] (0 - q) rfl (by omega) (by omega)
    have l1 := len2 [.int 3, .int 1] (0 - q).toNat rfl
    simp only [Int.zero_sub] at e1
    by_cases hk : 0 < k
    · have hk' : (0 : Int) < (k : Int) := by omega
      simp only [if_pos hk, List.map_append, hm, Int.zero_sub] at *
      generalize (List.replicate (-q).toNat [D.int 3, D.int 1]).flatten = L at *
      have hs : acc.length + 1 + L.length ≤ 16777216 := by omega
      simp [b18, hk, hk', hq0, toB, tst, truth, opt, lstAt, mineD, upS, sizeL, frz_v, frzs, hb1, e1, hs, Nat.add_assoc] <;> first | done | (rw [if_pos (by omega)]; simp)
    · have hk0 : k = 0 := by omega
      subst hk0
      simp only [if_neg hk, List.map_append, hm, Int.zero_sub] at *
      generalize (List.replicate (-q).toNat [D.int 3, D.int 1]).flatten = L at *
      have hs : acc.length + L.length ≤ 16777216 := by omega
      simp [b18, hq0, toB, tst, truth, opt, lstAt, mineD, upS, sizeL, frz_v, frzs, hb1, e1, hs]
theorem lp18 (n : Nat) (s0 s1 : SV) : ∀ (rs : List Int) (k : Nat) (acc : List Int) (s2 s4 : SV), Fre s2 → Fre s4 → (∀ q ∈ rs, q.natAbs ≤ 100000) → acc.length + 2 * sumA rs + rs.length ≤ 1000000 →
    ∃ s2' s4', forL (fun d e => opt (asg (.tp [4, 2]) d e) fun e1 => exB T (callF T n) b18 e1) (enumK k (rs.map D.int)) [s0, s1, s2, .own (.lst (acc.map D.int)), s4] = .ok .next [s0, s1, s2', .own (.lst ((acc ++ wl k rs).map D.int)), s4']
  | [], k, acc, s2, s4, _, _, _, _ => ⟨s2, s4, by simp [enumK, wl]⟩
  | q :: rs, k, acc, s2, s4, h2, h4, hq, hl => by
    have hs : sumA (q :: rs) = q.natAbs + sumA rs := by simp [sumA]
    rw [hs, List.length_cons] at hl
    have hll := lw_len q
    have hone : (if 0 < k then [(1 : Int)] else []).length ≤ 1 := by split <;> simp
    obtain ⟨t2, t4, ih⟩ := lp18 n s0 s1 rs (k + 1) (acc ++ ((if 0 < k then [1] else []) ++ lw q)) (.val (.int q)) (.val (.int k)) (Fre.val _) (Fre.val _) (fun x hx => hq x (by simp [hx])) (by simp only [List.length_append]; omega)
    refine ⟨t2, t4, ?_⟩
    have ha : asg (.tp [4, 2]) (.tup [.int k, .int q]) [s0, s1, s2, .own (.lst (acc.map D.int)), s4] = some [s0, s1, .val (.int q), .own (.lst (acc.map D.int)), .val (.int k)] := by
      rcases h2 with rfl | ⟨_, rfl⟩ | ⟨_, rfl⟩ <;> rcases h4 with rfl | ⟨_, rfl⟩ | ⟨_, rfl⟩ <;> simp [setVals]
    rw [List.map_cons, enumK, forL_cons, ha]
    simp only [opt, st18 n k s0 s1 acc q (hq q (by simp)) (by omega), bd_ok]
    exact Eq.trans ih (by simp [wl])
theorem sp18 (n : Nat) (m : M) (hC : C m ≤ 800) (hc : m.2.2.1.natAbs < 2 ^ 60) (ha : m.1.natAbs < 2 ^ 60) :
    callF T (n+3) 18 [.val (md m)] = .ok (.v (wd (wordC m))) [.val (md m)] := by
  rw [x_callF T (n+2) 18 _ (F := f18) rfl rfl]
  have e17 := sp17 n m (by omega) hc ha
  have ho := (wl_ok _ (quoC_ne m)).2
  have hC2 := C_quo m
  have hwl0 := wl_len 0 (quoC m)
  have hq0 := mem_sumA (quoC m)
  unfold wordC
  generalize quoC m = rs at *
  have hs : sumA rs ≤ 20000 := by omega
  have hl : rs.length ≤ 1000 := by omega
  have hwl : (wl 0 rs).length ≤ 1000000 := by omega
  have hq : ∀ q ∈ rs, q.natAbs ≤ 100000 := fun q hm => by have := hq0 q hm; omega
  show fin [.val (md m)] (exB T (callF T (n+2)) [.set 1 (.call 17 [.var 0]), .if_ (.cmp .Gt (.bi .sum [.comp [2] (.e (.var 1)) (.nm 2) none (.bi .abs [.var 2])]) (.con 4)) [.raise_ 1] [], .set 3 (.lst []), .for_ (.tp [4, 2]) (.enum (.var 1)) b18, .ret (.call 13 [.var 3])] [.val (md m), .un, .un, .un, .un]) = _
  have h1 : exS T (callF T (n+2)) (.set 1 (.call 17 [.var 0])) [.val (md m), .un, .un, .un, .un] = .ok .next [.val (md m), .own (.lst (rs.map D.int)), .un, .un, .un] := by
    simp [e17, wl_, fzR, setR]
  have hcmp := ev_comp (T := T) (cf := callF T (n+2)) (e := [.val (md m), .own (.lst (rs.map D.int)), .un, .un, .un]) (e1 := [.val (md m), .val (.lst (rs.map D.int)), .un, .un, .un]) (i := 2) (it := .e (.var 1)) (cond := none) (elt := .bi .abs [.var 2]) (ds := rs.map D.int) (s := .un) (fun _ => true) (fun d => match d with | .int j => .int (aI j) | _ => .non) (by simp [frz_h]) rfl (by simpa using hl) (by
    intro d hd
    obtain ⟨j, _, rfl⟩ := List.mem_map.mp hd
    exact ⟨by simp, fun _ => .inl (by simp [aI])⟩)
  have hmm : ((rs.map D.int).filter fun _ => true).map (fun d => match d with | .int j => D.int (aI j) | _ => .non) = (rs.map aI).map D.int := by
    rw [List.filter_eq_self.mpr (fun _ _ => rfl), List.map_map, List.map_map]; rfl
  rw [hmm] at hcmp
  have h2 : exS T (callF T (n+2)) (.if_ (.cmp .Gt (.bi .sum [.comp [2] (.e (.var 1)) (.nm 2) none (.bi .abs [.var 2])]) (.con 4)) [.raise_ 1] []) [.val (md m), .own (.lst (rs.map D.int)), .un, .un, .un] = .ok .next [.val (md m), .val (.lst (rs.map D.int)), .un, .un, .un] := by
    refine st_if ?_
    rw [x_cmp, x_bi, x_a1, hcmp]
    have hc4 : T.cons[4]? = some (.int 20000) := rfl
    have hb : biF .sum [.lst ((rs.map aI).map D.int)] = some (.v (.int (sumA rs : Int))) := by
      show (intsD ((rs.map aI).map D.int)).map _ = _
      rw [intsD_map, Option.map_some, sumA_eq]
    have hng : ¬ (20000 < (sumA rs : Int)) := by omega
    simp only [bd_ok, x_a0, x_conts1, x_conts0, x_cont_t, Option.bind, Option.map, opt, hb, tst, Bool.false_eq_true, if_false, x_con, hc4, x_cont_v, cmpop, if_true, truth, decide_eq_false hng]
  have h3 : exS T (callF T (n+2)) (.set 3 (.lst [])) [.val (md m), .val (.lst (rs.map D.int)), .un, .un, .un] = .ok .next [.val (md m), .val (.lst (rs.map D.int)), .un, .own (.lst []), .un] := by
    simp [frzs, sizeL, fzR, setR]
  have h4 : evI T (callF T (n+2)) (.enum (.var 1)) [.val (md m), .val (.lst (rs.map D.int)), .un, .own (.lst []), .un] = .ok (enumK 0 (rs.map D.int)) [.val (md m), .val (.lst (rs.map D.int)), .un, .own (.lst []), .un] := by
    simp [enum_eq]
  obtain ⟨t2, t4, h5⟩ := lp18 (n+2) (.val (md m)) (.val (.lst (rs.map D.int))) rs 0 [] .un .un Fre.un Fre.un hq (by simp; omega)
  have e13 := sp13l (n+1) (wl 0 rs) ho hwl
  rw [x_b1, h1]
  simp only [bd_ok]
  rw [x_b1, h2]
  simp only [bd_ok]
  rw [x_b1, h3]
  simp only [bd_ok]
  rw [x_b1, x_for, h4]
  simp only [bd_ok, List.map_nil, List.nil_append] at h5 ⊢
  rw [h5]
  simp [e13, retR, outs]
structure Sh (m : M) : Prop where
  g : good m
  C : C m ≤ 800
  bd : BdM 60 m
theorem W_sh {w : List Int} (hr : red w) (hl : w.length ≤ 50) : Sh (W w) where
  g := W_good w
  C := by have := C_word hr; omega
  bd := (W_Le _ w rfl hr.1).bd.mono (by omega)
theorem sp22 (n : Nat) (m : M) (h : Sh m) (d : D) (hd : d = md m ∨ d = ml m) : callF T (n+5) 22 [.val d] = .ok (.v (wd (wordC m))) [.val d] := by
  rw [x_callF T (n+4) 22 _ (F := f22) rfl rfl]
  have e6 : callF T (n+4) 6 [.val d] = .ok (.v (md m)) [.val d] := by
    rcases hd with rfl | rfl
    · exact sp6 n m h.bd (by decide) h.g
    · exact sp6l n m h.bd (by decide) h.g
  have e := sp18 (n+1) m h.C h.bd.2.2.1 h.bd.1
  simp [f22, e6, e]
theorem sp31 (n : Nat) (m : M) (h : Sh m) : callF T (n+5) 31 [.val (md m)] = .ok (.v (wd (quoC m))) [.val (md m)] := by
  rw [x_callF T (n+4) 31 _ (F := f31) rfl rfl]
  have e6 := sp6 n m h.bd (by decide) h.g
  have e := sp17 (n+2) m (by have := h.C; omega) h.bd.2.2.1 h.bd.1
  simp [f31, e6, e, wl_, wd]
end PL.K01
end

section
set_option exponentiation.threshold 5000
namespace PL.K01
open PL PL.K00 PL.RY PL.WD PySem PySem.Spec L2

/-! round about -/
def cS : E := .andor true [.cmp .Gt (.bi .len [.var 1]) (.int 1), .cmp .Eq (.cmp .Eq (.ix (.var 1) (.int 0)) (.int 1)) (.cmp .Eq (.ix (.var 1) (.neg (.int 1))) (.int 1))]
theorem ev_same (n : Nat) (e : EV) (w : List Int) (h : e[1]? = some (.val (wd w))) : evE T (callF T n) true cS e = .ok (.v (.bl (same w))) e := by
  match w, h with
  | [], h =>
    rw [cS, x_andor, andf (e1 := e) (by simp [h, wd, toB, tst, truth, opt])]
    rfl
  | [a], h =>
    rw [cS, x_andor, andf (e1 := e) (by simp [h, wd, toB, tst, truth, opt])]
    rfl
  | a :: c :: m, h =>
    obtain ⟨m', b, q⟩ : ∃ m' b, c :: m = m' ++ [b] := by
      rcases List.eq_nil_or_concat (c :: m) with q | ⟨m', b, q⟩
      · cases q
      · exact ⟨m', b, by rw [q, List.concat_eq_append]⟩
    rw [q, same_ends]
    rw [q] at h
    have hw : wd (a :: (m' ++ [b])) = .tup ((.int a :: m'.map D.int) ++ [.int b]) := by simp [wd]
    rw [hw] at h
    have ea := atI_last (.int a :: m'.map D.int) (.int b)
    have e0 : atI ((.int a :: m'.map D.int) ++ [D.int b]) 0 = some (.int a) := by simp
    have hl : (1 : Int) < (((.int a :: m'.map D.int) ++ [D.int b]).length : Int) := by simp; omega
    generalize (D.int a :: m'.map D.int) ++ [.int b] = xs at *
    rw [cS, x_andor, and1 (e1 := e) (by simp [h, hl, tst, truth, opt]), x_v1]
    simp [h, ea, e0, intD, eqD_int, eqD_bb, tst, truth, opt]
    rfl
theorem wd_cut (w : List Int) : cutD (w.map D.int) (some 1) none = (w.drop 1).map D.int ∧ cutD (w.map D.int) none (some 1) = (w.take 1).map D.int := by
  rw [cut_from1, cut_to1, List.map_drop, List.map_take]; exact ⟨rfl, rfl⟩
theorem rot_cut (w : List Int) (hr : red w) : rot w = shrt (w.drop 1 ++ w.take 1) := by
  cases w with
  | nil => rfl
  | cons a m => rfl
theorem okL_cut {w : List Int} (h : okL w) (i j : Nat) : okL (w.drop i ++ w.take j) := okL_app.mpr ⟨fun l hl => h l (List.mem_of_mem_drop hl), fun l hl => h l (List.mem_of_mem_take hl)⟩
theorem ev_rot (n : Nat) (e : EV) (w : List Int) (g : Nat) (hg : ∀ ws : List Int, okL ws → ws.length ≤ 1000000 → callF T n g [.val (wd ws)] = .ok (.v (wd (shrt ws))) [.val (wd ws)]) (hr : red w) (hl : w.length ≤ 1000) (h : e[1]? = some (.val (wd w))) :
    evE T (callF T n) false (.call g [.bin .add (.sl (.var 1) (some (.int 1)) none) (.sl (.var 1) none (some (.int 1)))]) e = .ok (.v (wd (rot w))) e := by
  obtain ⟨c1, c2⟩ := wd_cut w
  have hb : binop .add (.tup ((w.drop 1).map D.int)) (.tup ((w.take 1).map D.int)) = some (.v (wd (w.drop 1 ++ w.take 1))) := by
    simp [wd, binop, sizeL]; omega
  have e1 := hg (w.drop 1 ++ w.take 1) (okL_cut hr.1 1 1) (by simp; omega)
  rw [← rot_cut w hr] at e1
  have hs1 : sliceD (wd w) (some 1) none = some (.v (.tup ((w.drop 1).map D.int))) := by simp [wd, sliceD, c1]
  have hs2 : sliceD (wd w) none (some 1) = some (.v (.tup ((w.take 1).map D.int))) := by simp [wd, sliceD, c2]
  clear c1 c2
  generalize (w.drop 1).map D.int = L1 at *
  generalize (w.take 1).map D.int = L2 at *
  generalize w.drop 1 ++ w.take 1 = W1 at *
  simp [h, hs1, hs2, intD, hb, e1]
theorem ev_last (n : Nat) (e : EV) (w : List Int) (hr : red w) (hl : w.length ≤ 1000) (hs : same w = true) (h : e[1]? = some (.val (wd w))) :
    evE T (callF T (n+1)) false (.call 13 [.bin .add (.tup [.ix (.var 1) (.neg (.int 1))]) (.sl (.var 1) none (some (.neg (.int 1))))]) e = .ok (.v (wd (shrt (w.getLastD 0 :: w.dropLast)))) e := by
  obtain ⟨a, m, b, rfl, q⟩ := ends_of hs
  have hlast : (a :: (m ++ [b])).getLastD 0 = b := by
    rw [List.getLastD_eq_getLast?, ← List.cons_append, List.getLast?_append]; simp
  have hd : (a :: (m ++ [b])).dropLast = a :: m := by rw [← List.cons_append, List.dropLast_concat]
  rw [hlast, hd]
  have hw : wd (a :: (m ++ [b])) = .tup ((.int a :: m.map D.int) ++ [.int b]) := by simp [wd]
  rw [hw] at h
  have ea := atI_last (.int a :: m.map D.int) (.int b)
  have c1 : cutD ((.int a :: m.map D.int) ++ [D.int b]) none (some (-1)) = (a :: m).map D.int := by
    rw [cut_init, List.dropLast_concat]; rfl
  generalize (D.int a :: m.map D.int) ++ [.int b] = xs at *
  have hb : binop .add (.tup [.int b]) (.tup ((a :: m).map D.int)) = some (.v (wd (b :: a :: m))) := by
    have : (a :: (m ++ [b])).length ≤ 1000 := hl
    simp at this
    simp [wd, binop, sizeL]; omega
  have hok : okL (b :: a :: m) := by
    have := okL_app.mp (show okL ((a :: m) ++ [b]) from hr.1)
    exact okL_cons.mpr ⟨hr.1 b (by simp), this.1⟩
  have e1 := sp13t n (b :: a :: m) hok (by simp at hl ⊢; omega)
  have hs2 : sliceD (.tup xs) none (some (-1)) = some (.v (.tup ((a :: m).map D.int))) := by simp [sliceD, c1]
  simp only [List.map_cons] at hb hs2
  simp [h, ea, intD, hs2, frzs, frz_v, sizeL, hb, e1]
def b19 : List S := [.set 1 (.call 13 [.bin .add (.sl (.var 1) (some (.int 1)) none) (.sl (.var 1) none (some (.int 1)))]), .if_ cS [.set 1 (.call 13 [.bin .add (.tup [.ix (.var 1) (.neg (.int 1))]) (.sl (.var 1) none (some (.neg (.int 1))))])] []]
theorem st19 (n : Nat) (x : SV) (w : List Int) (hr : red w) (hl : w.length ≤ 1000) : exB T (callF T (n+1)) b19 [x, .val (wd w), .un] = .ok .next [x, .val (wd (stepP w)), .un] := by
  have e1 := ev_rot (n+1) [x, .val (wd w), .un] w 13 (fun ws h1 h2 => sp13t n ws h1 h2) hr hl rfl
  have hlr : (rot w).length ≤ 1000 := by
    have := shrt_len (w.drop 1 ++ w.take 1)
    rw [← rot_cut w hr] at this
    simp at this; omega
  have s1 : exS T (callF T (n+1)) (.set 1 (.call 13 [.bin .add (.sl (.var 1) (some (.int 1)) none) (.sl (.var 1) none (some (.int 1)))])) [x, .val (wd w), .un] = .ok .next [x, .val (wd (rot w)), .un] := by
    rw [st_v e1 rfl]; rfl
  have e2 := ev_same (n+1) [x, .val (wd (rot w)), .un] (rot w) rfl
  rw [b19, x_b1, s1]
  simp only [bd_ok]
  rw [x_b1, x_if, e2]
  simp only [toB_ok, bd_ok]
  unfold stepP
  cases hs : same (rot w) with
  | false => simp
  | true =>
    have e3 := ev_last n [x, .val (wd (rot w)), .un] (rot w) (rot_red hr) hlr hs rfl
    rw [if_pos rfl, x_b1, st_v e3 rfl]
    simp
theorem lp19 (n : Nat) (x : SV) : ∀ (f : Nat) (w : List Int), red w → w.length ≤ f → f ≤ 1000 →
    whL (fun e => toB (evE T (callF T (n+1)) true cS e)) (fun e => exB T (callF T (n+1)) b19 e) (f + 99000) [x, .val (wd w), .un] = .ok .next [x, .val (wd (loopP f w)), .un]
  | 0, w, hr, h, _ => by
    have := List.eq_nil_of_length_eq_zero (Nat.le_zero.mp h)
    subst this
    rw [show 0 + 99000 = 98999 + 1 from rfl, wh_end (e1 := [x, .val (wd []), .un]) (by rw [ev_same _ _ [] rfl]; rfl)]
    rfl
  | f + 1, w, hr, h, h2 => by
    rw [show f + 1 + 99000 = (f + 99000) + 1 from by omega]
    have e := ev_same (n+1) [x, .val (wd w), .un] w rfl
    cases hs : same w with
    | false =>
      rw [wh_end (e1 := [x, .val (wd w), .un]) (by rw [e, hs]; rfl), loopP, hs]; rfl
    | true =>
      obtain ⟨_, k2, k3⟩ := stepP_ok hr hs
      rw [wh_step (e1 := [x, .val (wd w), .un]) (by rw [e, hs]; rfl) (st19 n x w hr (by omega)), lp19 n x f (stepP w) k2 (by omega) (by omega), loopP, hs]; rfl
def b49 : List S := [.set 1 (.call 46 [.bin .add (.sl (.var 1) (some (.int 1)) none) (.sl (.var 1) none (some (.int 1)))])]
theorem lp49 (n : Nat) (x : SV) : ∀ (f : Nat) (w : List Int), red w → w.length ≤ f → f ≤ 1000 →
    whL (fun e => toB (evE T (callF T (n+1)) true cS e)) (fun e => exB T (callF T (n+1)) b49 e) (f + 99000) [x, .val (wd w), .un] = .ok .next [x, .val (wd (cyc f w)), .un]
  | 0, w, hr, h, _ => by
    have := List.eq_nil_of_length_eq_zero (Nat.le_zero.mp h)
    subst this
    rw [show 0 + 99000 = 98999 + 1 from rfl, wh_end (e1 := [x, .val (wd []), .un]) (by rw [ev_same _ _ [] rfl]; rfl)]
    rfl
  | f + 1, w, hr, h, h2 => by
    rw [show f + 1 + 99000 = (f + 99000) + 1 from by omega]
    have e := ev_same (n+1) [x, .val (wd w), .un] w rfl
    cases hs : same w with
    | false =>
      rw [wh_end (e1 := [x, .val (wd w), .un]) (by rw [e, hs]; rfl), cyc, hs]; rfl
    | true =>
      have k3 := rot_len hr hs
      have e1 := ev_rot (n+1) [x, .val (wd w), .un] w 46 (fun ws h1 h2 => sp46 n ws h1 h2 _ (.inl rfl)) hr (by omega) rfl
      have s1 : exB T (callF T (n+1)) b49 [x, .val (wd w), .un] = .ok .next [x, .val (wd (rot w)), .un] := by
        rw [b49, x_b1, st_v e1 rfl]; simp
      rw [wh_step (e1 := [x, .val (wd w), .un]) (by rw [e, hs]; rfl) s1, lp49 n x f (rot w) (rot_red hr) (by omega) (by omega), cyc, hs]; rfl
/-! the least one -/
theorem intsT_wd : ∀ l : List (List Int), intsT (l.map wd) = some l
  | [] => rfl
  | w :: l => by
    rw [List.map_cons]
    show (intsD (w.map D.int)).bind _ = _
    rw [intsD_map, intsT_wd l]; rfl
theorem min_ev {l : List (List Int)} (h : l ≠ []) : biF .min1 [.lst (l.map wd)] = some (.v (wd (tmin l))) := by
  match l, h with
  | w :: l, _ =>
    have e := intsT_wd (w :: l)
    rw [List.map_cons] at e ⊢
    have e0 : intsD (wd w :: l.map wd) = none := rfl
    simp only [biF, e0, e, Option.map]
    rfl
theorem max_len (k : Nat) : biF .max2 [.int 1, .int (k : Int)] = some (.v (.int ((max 1 k : Nat) : Int))) := by
  have hm : (if (k : Int) > 1 then (k : Int) else 1) = ((max 1 k : Nat) : Int) := by
    split <;> omega
  simp only [biF, hm]
theorem len_wd (w : List Int) : biF .len [wd w] = some (.v (.int (w.length : Nat))) := by
  show some (RV.v (.int ((w.map D.int).length : Nat))) = _
  rw [List.length_map]
theorem rngD_q (q : Nat) (hq : q ≤ 1000) : rngD [.int (q : Int)] = some ((List.range q).map fun (k : Nat) => .int (0 + (k : Int))) := by
  have h1 : -(2 ^ 62) ≤ (q : Int) := by omega
  have h2 : (q : Int) < 2 ^ 62 := by omega
  have := rngD_one (q : Int) h1 h2
  rwa [Int.toNat_natCast] at this
theorem evr1 (n : Nat) (x : SV) (w : D) (q2 : Int) (hb1 : biF .len [w] = some (.v (.int q2))) : evE T (callF T n) false (.bi .len [.var 1]) [x, .val w, .un] = .ok (.v (.int q2)) [x, .val w, .un] := by
    rw [x_bi, x_a1, x_var]
    simp only [List.getElem?_cons_succ, List.getElem?_cons_zero, tst_false, bd_ok, x_a0, x_conts1, x_conts0, x_cont_v, Option.bind, Option.map, opt, hb1]
theorem evr2 (n : Nat) (x : SV) (w : D) (q q2 : Int) (hb1 : biF .len [w] = some (.v (.int q2))) (hb2 : biF .max2 [.int 1, .int q2] = some (.v (.int q))) : evE T (callF T n) false (.bi .max2 [.int 1, .bi .len [.var 1]]) [x, .val w, .un] = .ok (.v (.int q)) [x, .val w, .un] := by
    rw [x_bi, x_a1, x_int]
    simp only [tst_false, bd_ok]
    rw [x_a1, evr1 n x w q2 hb1]
    simp only [bd_ok, x_a0, x_conts1, x_conts0, x_cont_v, Option.bind, Option.map, opt, hb2]
theorem evr3 (n : Nat) (x : SV) (w : D) (q q2 : Int) (ds : List D) (hb1 : biF .len [w] = some (.v (.int q2))) (hb2 : biF .max2 [.int 1, .int q2] = some (.v (.int q))) (hr : rngD [.int q] = some ds) : evI T (callF T n) (.rng [.bi .max2 [.int 1, .bi .len [.var 1]]]) [x, .val w, .un] = .ok ds [x, .val w, .un] := by
  rw [x_ir, x_a1, evr2 n x w q q2 hb1 hb2]
  simp only [bd_ok, x_a0, x_conts1, x_conts0, x_cont_v, Option.bind, Option.map, opt, hr]
theorem ev_rngm (n : Nat) (x : SV) (w : List Int) (hl : w.length ≤ 900) : evI T (callF T n) (.rng [.bi .max2 [.int 1, .bi .len [.var 1]]]) [x, .val (wd w), .un] = .ok ((List.range (max 1 w.length)).map fun (k : Nat) => .int (0 + (k : Int))) [x, .val (wd w), .un] :=
  evr3 n x (wd w) _ _ _ (len_wd w) (max_len w.length) (rngD_q (max 1 w.length) (by omega))
theorem ev_part (n : Nat) (x : SV) (w : List Int) (hl : w.length ≤ 900) (k : Nat) : evE T (callF T n) false (.bin .add (.sl (.var 1) (some (.var 2)) none) (.sl (.var 1) none (some (.var 2)))) [x, .val (wd w), .val (.int k)] = .ok (.v (wd (w.drop k ++ w.take k))) [x, .val (wd w), .val (.int k)] := by
  have s1 : sliceD (wd w) (some (k : Int)) none = some (.v (.tup ((w.drop k).map D.int))) := by
    simp only [wd, sliceD, cut_from, List.map_drop]
  have s2 : sliceD (wd w) none (some (k : Int)) = some (.v (.tup ((w.take k).map D.int))) := by
    simp only [wd, sliceD, cut_to, List.map_take]
  have hb : binop .add (.tup ((w.drop k).map D.int)) (.tup ((w.take k).map D.int)) = some (.v (wd (w.drop k ++ w.take k))) := by
    simp [wd, binop, sizeL]; omega
  generalize (w.drop k).map D.int = L1 at *
  generalize (w.take k).map D.int = L2 at *
  generalize w.drop k ++ w.take k = W1 at *
  simp [intD, s1, s2, hb]
theorem ev_min (n : Nat) (x : SV) (w : List Int) (hl : w.length ≤ 900) :
    evE T (callF T n) false (.bi .min1 [.comp [2] (.rng [.bi .max2 [.int 1, .bi .len [.var 1]]]) (.nm 2) none (.bin .add (.sl (.var 1) (some (.var 2)) none) (.sl (.var 1) none (some (.var 2))))]) [x, .val (wd w), .un] = .ok (.v (wd (canon w))) [x, .val (wd w), .un] := by
  have hi := ev_rngm n x w hl
  have e0 : (fun (k : Nat) => D.int (0 + (k : Int))) = fun (k : Nat) => D.int (k : Int) := by funext k; rw [Int.zero_add]
  rw [e0] at hi
  have hc := ev_comp (T := T) (cf := callF T n) (e := [x, .val (wd w), .un]) (e1 := [x, .val (wd w), .un]) (i := 2) (cond := none) (elt := .bin .add (.sl (.var 1) (some (.var 2)) none) (.sl (.var 1) none (some (.var 2)))) (s := .un) (fun _ => true) (fun d => match d with | .int k => wd (w.drop k.toNat ++ w.take k.toNat) | _ => .non) hi rfl (by simp; omega) (by
    intro d hd
    obtain ⟨k, _, rfl⟩ := List.mem_map.mp hd
    exact ⟨x_c0 .., fun _ => .inl (ev_part n x w hl k)⟩)
  have hm : (((List.range (max 1 w.length)).map fun (k : Nat) => D.int (k : Int)).filter fun _ => true).map (fun d => match d with | .int k => wd (w.drop k.toNat ++ w.take k.toNat) | _ => .non) = (rots w).map wd := by
    rw [List.filter_eq_self.mpr (fun _ _ => rfl), List.map_map]
    unfold rots
    rw [List.map_map]
    rfl
  rw [hm] at hc
  rw [x_bi, x_a1, hc]
  simp only [bd_ok, x_a0, x_conts1, x_conts0, x_cont_t, Option.bind, Option.map, opt, min_ev (rots_ne w), tst, Bool.false_eq_true, if_false, canon]
theorem sp19 (n : Nat) (w : List Int) (hr : red w) (hl : w.length ≤ 900) : callF T (n+2) 19 [.val (wd w)] = .ok (.v (wd (ring w))) [.val (wd w)] := by
  rw [x_callF T (n+1) 19 _ (F := f19) rfl rfl]
  obtain ⟨k1, k2, k3⟩ := loopP_ok 1000 w hr (by omega)
  have h := lp19 n (.val (wd w)) 1000 w hr (by omega) (by omega)
  show fin [.val (wd w)] (exB T (callF T (n+1)) [.set 1 (.var 0), .wh cS b19, .ret (.bi .min1 [.comp [2] (.rng [.bi .max2 [.int 1, .bi .len [.var 1]]]) (.nm 2) none (.bin .add (.sl (.var 1) (some (.var 2)) none) (.sl (.var 1) none (some (.var 2))))])] [.val (wd w), .un, .un]) = _
  have h1 : exS T (callF T (n+1)) (.set 1 (.var 0)) [.val (wd w), .un, .un] = .ok .next [.val (wd w), .val (wd w), .un] := by
    simp [fzR, setR]
  rw [x_b1, h1]
  simp only [bd_ok]
  rw [x_b1, x_wh, show T.wf = 1000 + 99000 from rfl, h]
  simp only [bd_ok]
  rw [x_b1, x_ret, ev_min (n+1) (.val (wd w)) (loopP 1000 w) (by omega), k1]
  simp [retR, outs]
theorem cyc_ok : ∀ (n : Nat) (w : List Int), red w → (cyc n w).length ≤ w.length
  | 0, w, _ => Nat.le_refl _
  | n + 1, w, hr => by
    rw [cyc]
    cases hs : same w with
    | false => simp
    | true =>
      have := rot_len hr hs
      have := cyc_ok n (rot w) (rot_red hr)
      rw [if_pos rfl]; omega
theorem sp49 (n : Nat) (w : List Int) (hr : red w) (hl : w.length ≤ 900) : callF T (n+2) 49 [.val (wd w)] = .ok (.v (wd (ring w))) [.val (wd w)] := by
  rw [x_callF T (n+1) 49 _ (F := f49) rfl rfl]
  have k1 : canon (cyc 1000 w) = ring w := by unfold ring; rw [cyc_fuel 1000 w.length w hr (by omega) (by omega)]
  have k2 := cyc_ok 1000 w hr
  have h := lp49 n (.val (wd w)) 1000 w hr (by omega) (by omega)
  show fin [.val (wd w)] (exB T (callF T (n+1)) [.set 1 (.var 0), .wh cS b49, .ret (.bi .min1 [.comp [2] (.rng [.bi .max2 [.int 1, .bi .len [.var 1]]]) (.nm 2) none (.bin .add (.sl (.var 1) (some (.var 2)) none) (.sl (.var 1) none (some (.var 2))))])] [.val (wd w), .un, .un]) = _
  have h1 : exS T (callF T (n+1)) (.set 1 (.var 0)) [.val (wd w), .un, .un] = .ok .next [.val (wd w), .val (wd w), .un] := by
    simp [fzR, setR]
  rw [x_b1, h1]
  simp only [bd_ok]
  rw [x_b1, x_wh, show T.wf = 1000 + 99000 from rfl, h]
  simp only [bd_ok]
  rw [x_b1, x_ret, ev_min (n+1) (.val (wd w)) (cyc 1000 w) (by omega), k1]
  simp [retR, outs]
theorem sp29 (n : Nat) (w : List Int) (hr : red w) (hl : w.length ≤ 900) : callF T (n+6) 29 [.val (wd w)] = .ok (.v (wd (ring w))) [.val (wd w)] := by
  rw [x_callF T (n+5) 29 _ (F := f29) rfl rfl]
  simp [f29, sp12 n w hr (by omega) _ (.inl rfl), sp19 (n+3) w hr hl]
theorem sp30 (n : Nat) (u v : List Int) (hu : red u) (hv : red v) (hlu : u.length ≤ 50) (hlv : v.length ≤ 50) : callF T (n+5) 30 [.val (md (W u)), .val (md (W v))] = .ok (.v (.bl (decide (ring u = ring v)))) [.val (md (W u)), .val (md (W v))] := by
  rw [x_callF T (n+4) 30 _ (F := f30) rfl rfl]
  have s1 := W_sh hu hlu
  have s2 := W_sh hv hlv
  have a1 := sp6 n (W u) s1.bd (by decide) s1.g
  have a2 := sp6 n (W v) s2.bd (by decide) s2.g
  have b1 := sp18 (n+1) (W u) s1.C s1.bd.2.2.1 s1.bd.1
  have b2 := sp18 (n+1) (W v) s2.C s2.bd.2.2.1 s2.bd.1
  rw [wordC_W hu] at b1
  rw [wordC_W hv] at b2
  have c1 := sp19 (n+2) u hu (by omega)
  have c2 := sp19 (n+2) v hv (by omega)
  simp [f30, a1, a2, b1, b2, c1, c2, fzRs, fzR, setRs, setR, eqD_wd]
end PL.K01
end

section
set_option exponentiation.threshold 5000
namespace PL.K01
open PL PL.K00 PL.RY PL.WD PySem PySem.Spec L2

/-! the law's own way to a row -/
def bi47 : List S := [.ex (.app 1 (.var 8)), .set 2 (.call 42 [.var 2, .call 43 [.call 44 [.var 8]]])]
def be47 : S := .set 6 (.ite (.cmp .Gt (.ix (.var 2) (.int 1)) (.int 0)) (.lst [.int 1, .int 2]) (.lst [.int 3, .int 1]))
def bf47 : List S := [.set 7 (.bin .sub (.int 0) (.bin .fdiv (.bin .add (.bin .mul (.int 2) (.var 5)) (.var 4)) (.bin .mul (.int 2) (.var 4)))), .if_ (.cmp .Eq (.var 7) (.int 0)) [.set 2 (.call 42 [.var 2, .tup [.int 0, .neg (.int 1), .int 1, .int 0]]), .ex (.app 1 (.int 1)), .cnt] [], .set 6 (.ite (.cmp .Gt (.var 7) (.int 0)) (.lst [.int 3, .int 1]) (.lst [.int 1, .int 2]))]
def b47 : List S := [.if_ (.cmp .Eq (.var 2) (.tup [.int 1, .int 0, .int 0, .int 1])) [.ret (.call 46 [.rev (.var 1)])] [], .par [4, 5] [.ix (.var 2) (.int 2), .ix (.var 2) (.int 3)], .if_ (.cmp .Eq (.var 4) (.int 0)) [be47] bf47, .for_ (.nm 8) (.e (.rev (.var 6))) bi47]
theorem Le.iv {j : Nat} {m : M} (h : Le j m) (l : Int) (hl : l = 1 ∨ l = 2 ∨ l = 3) : Le (j + 1) (P m (iv l)) := by
  unfold P
  apply Le.sg
  obtain ⟨h1, h2, h3, h4⟩ := h
  have e : 2 ^ (j + 1) = 2 ^ j + 2 ^ j := by rw [Nat.pow_succ]; omega
  generalize 2 ^ j = q at *
  rcases hl with rfl | rfl | rfl
  · rw [show PL.WD.iv 1 = (0, -1, 1, 0) from by decide]; simp [Le, mulM]; omega
  · rw [show PL.WD.iv 2 = (-1, -1, 1, 0) from by decide]; simp [Le, mulM]; omega
  · rw [show PL.WD.iv 3 = (0, -1, 1, 1) from by decide]; simp [Le, mulM]; omega
theorem bd_iv (l : Int) (hl : l = 1 ∨ l = 2 ∨ l = 3) : BdM 1 (iv l) := by
  rcases hl with rfl | rfl | rfl <;> (unfold BdM Bd; decide)
theorem x_cnt (T : GT) (cf : Nat → List SV → CO) (e : EV) : exS T cf .cnt e = .ok .cnt e := by first | (rw [exS]; done) | (rw [exS]; rfl)
section
variable {n : Nat} {x s3 s4 s5 s6 s7 s8 : SV} {f : List Int} {h : M}
theorem w8 (l : Int) (hl : l = 1 ∨ l = 2 ∨ l = 3) {j : Nat} (hj : Le j h) (hj2 : j ≤ 1000) (hf : f.length ≤ 100000) :
    exB T (callF T (n+3)) bi47 [x, .own (.lst (f.map D.int)), .val (md h), s3, s4, s5, s6, s7, .val (.int l)] = .ok .next [x, .own (.lst ((f ++ [l]).map D.int)), .val (md (P h (iv l))), s3, s4, s5, s6, s7, .val (.int l)] := by
  have e1 := sp44l (n+2) l hl
  have e2 := sp43 (n+1) (ltr l)
  have e3 := sp42 (n+1) h (iv l) hj.bd (bd_iv l hl) (by omega)
  have hs : f.length < 16777216 := by omega
  rw [show sg (adj (ltr l)) = iv l from rfl] at e2
  generalize iv l = m at *
  generalize ltr l = m2 at *
  simp [bi47, e1, e2, e3, lstAt, mineD, upS, sizeL, hs, frz_v, fzR, setR]
theorem w9 (l1 l2 : Int) (h1 : l1 = 1 ∨ l1 = 2 ∨ l1 = 3) (h2 : l2 = 1 ∨ l2 = 2 ∨ l2 = 3) {j : Nat} (hj : Le j h) (hj2 : j ≤ 900) (hf : f.length ≤ 90000) (k8 : Fre s8) :
    exS T (callF T (n+3)) (.for_ (.nm 8) (.e (.rev (.var 6))) bi47) [x, .own (.lst (f.map D.int)), .val (md h), s3, s4, s5, .own (.lst [.int l1, .int l2]), s7, s8] = .ok .next [x, .own (.lst ((f ++ [l2] ++ [l1]).map D.int)), .val (md (P (P h (iv l2)) (iv l1))), s3, s4, s5, .own (.lst [.int l1, .int l2]), s7, .val (.int l1)] := by
  have hi : evI T (callF T (n+3)) (.e (.rev (.var 6))) [x, .own (.lst (f.map D.int)), .val (md h), s3, s4, s5, .own (.lst [.int l1, .int l2]), s7, s8] = .ok [.int l2, .int l1] [x, .own (.lst (f.map D.int)), .val (md h), s3, s4, s5, .own (.lst [.int l1, .int l2]), s7, s8] := by
    simp [revD, frz]
  have a1 := w8 (n := n) (x := x) (s3 := s3) (s4 := s4) (s5 := s5) (s6 := .own (.lst [.int l1, .int l2])) (s7 := s7) (f := f) (h := h) l2 h2 hj (by omega) (by omega)
  have a2 := w8 (n := n) (x := x) (s3 := s3) (s4 := s4) (s5 := s5) (s6 := .own (.lst [.int l1, .int l2])) (s7 := s7) (f := f ++ [l2]) (h := P h (iv l2)) l1 h1 (hj.iv l2 h2) (by omega) (by simp; omega)
  have g1 : asg (.nm 8) (.int l2) [x, .own (.lst (f.map D.int)), .val (md h), s3, s4, s5, .own (.lst [.int l1, .int l2]), s7, s8] = some [x, .own (.lst (f.map D.int)), .val (md h), s3, s4, s5, .own (.lst [.int l1, .int l2]), s7, .val (.int l2)] := by
    rcases k8 with rfl | ⟨_, rfl⟩ | ⟨_, rfl⟩ <;> simp
  have g2 : asg (.nm 8) (.int l1) [x, .own (.lst ((f ++ [l2]).map D.int)), .val (md (P h (iv l2))), s3, s4, s5, .own (.lst [.int l1, .int l2]), s7, .val (.int l2)] = some [x, .own (.lst ((f ++ [l2]).map D.int)), .val (md (P h (iv l2))), s3, s4, s5, .own (.lst [.int l1, .int l2]), s7, .val (.int l1)] := by
    simp
  rw [x_for, hi]
  simp only [bd_ok]
  rw [forL_cons, g1]
  simp only [opt, a1, bd_ok]
  rw [forL_cons, g2]
  simp only [opt, a2, bd_ok]
  rfl
theorem w1 (F : SV) (hn : h ≠ one1) (b : List S) : exS T (callF T n) (.if_ (.cmp .Eq (.var 2) (.tup [.int 1, .int 0, .int 0, .int 1])) b []) [x, F, .val (md h), s3, s4, s5, s6, s7, s8] = .ok .next [x, F, .val (md h), s3, s4, s5, s6, s7, s8] := by
  have e := eqD_md h one1
  rw [md_one, decide_eq_false hn] at e
  refine st_if ?_
  simp [frzs, frz_v, sizeL, e, tst, truth, opt]
theorem w2 (F : SV) (k4 : Fre s4) (k5 : Fre s5) : exS T (callF T n) (.par [4, 5] [.ix (.var 2) (.int 2), .ix (.var 2) (.int 3)]) [x, F, .val (md h), s3, s4, s5, s6, s7, s8] = .ok .next [x, F, .val (md h), s3, .val (.int h.2.2.1), .val (.int h.2.2.2), s6, s7, s8] := by
  rcases k4 with rfl | ⟨_, rfl⟩ | ⟨_, rfl⟩ <;> rcases k5 with rfl | ⟨_, rfl⟩ | ⟨_, rfl⟩ <;> simp [md, fzRs, fzR, setRs, setR]
theorem w3z (F : SV) (hc : h.2.2.1 = 0) (k6 : Fre s6) : exS T (callF T n) (.if_ (.cmp .Eq (.var 4) (.int 0)) [be47] bf47) [x, F, .val (md h), s3, .val (.int h.2.2.1), .val (.int h.2.2.2), s6, s7, s8] = .ok .next [x, F, .val (md h), s3, .val (.int h.2.2.1), .val (.int h.2.2.2), .own (.lst (if 0 < h.2.1 then [.int 1, .int 2] else [.int 3, .int 1])), s7, s8] := by
  rw [hc]
  by_cases hb : 0 < h.2.1 <;> rcases k6 with rfl | ⟨_, rfl⟩ | ⟨_, rfl⟩ <;> simp [be47, md, hb, eqD_int, toB, tst, truth, opt, frzs, frz_v, sizeL, fzR, setR]
theorem ev_step (F : SV) (hc : 0 < h.2.2.1) (hb : h.2.2.1.natAbs < 2 ^ 900) : evE T (callF T n) false (.bin .sub (.int 0) (.bin .fdiv (.bin .add (.bin .mul (.int 2) (.var 5)) (.var 4)) (.bin .mul (.int 2) (.var 4)))) [x, F, .val (md h), s3, .val (.int h.2.2.1), .val (.int h.2.2.2), s6, s7, s8] = .ok (.v (.int (stepN h))) [x, F, .val (md h), s3, .val (.int h.2.2.1), .val (.int h.2.2.2), s6, s7, s8] := by
  have m2 : ∀ i : Int, mulOk 2 i = true := fun i => mulOk_l (by decide)
  have hd : divOk (2 * h.2.2.1) = true := by
    apply dvB (by omega)
    have hp : (2 : Nat) ^ 1000 = 2 ^ 900 * 2 ^ 100 := by rw [← Nat.pow_add]
    have hp2 : 2 * 2 ^ 900 ≤ (2 : Nat) ^ 1000 := by rw [hp, Nat.mul_comm 2]; exact Nat.mul_le_mul_left _ (by decide)
    generalize (2 : Nat) ^ 1000 = B1 at *
    generalize (2 : Nat) ^ 900 = B2 at *
    omega
  unfold stepN
  generalize h.2.2.1 = c at *
  generalize h.2.2.2 = d at *
  simp [m2, hd]
theorem w3t (hc : 0 < h.2.2.1) {j : Nat} (hj : Le j h) (hj2 : j ≤ 800) (hs : stepN h = 0) (hf : f.length ≤ 90000) (k7 : Fre s7) : exS T (callF T (n+2)) (.if_ (.cmp .Eq (.var 4) (.int 0)) [be47] bf47) [x, .own (.lst (f.map D.int)), .val (md h), s3, .val (.int h.2.2.1), .val (.int h.2.2.2), s6, s7, s8] = .ok .cnt [x, .own (.lst ((f ++ [1]).map D.int)), .val (md (P h Tn)), s3, .val (.int h.2.2.1), .val (.int h.2.2.2), s6, .val (.int 0), s8] := by
  have e0 := ev_step (n := n+2) (x := x) (s3 := s3) (s6 := s6) (s7 := s7) (s8 := s8) (.own (.lst (f.map D.int))) hc (Nat.lt_of_lt_of_le hj.bd.2.2.1 (Nat.pow_le_pow_right (by decide) (by omega)))
  rw [hs] at e0
  have e3 := sp42 n h Tn hj.bd (show BdM 1 Tn by unfold BdM Bd; decide) (by omega)
  have hl : f.length < 16777216 := by omega
  have hn : ¬ h.2.2.1 = 0 := by omega
  have mdT : md Tn = .tup [.int 0, .int (-1), .int 1, .int 0] := rfl
  rw [mdT] at e3
  have s1 : exS T (callF T (n+2)) (.set 7 (.bin .sub (.int 0) (.bin .fdiv (.bin .add (.bin .mul (.int 2) (.var 5)) (.var 4)) (.bin .mul (.int 2) (.var 4))))) [x, .own (.lst (f.map D.int)), .val (md h), s3, .val (.int h.2.2.1), .val (.int h.2.2.2), s6, s7, s8] = .ok .next [x, .own (.lst (f.map D.int)), .val (md h), s3, .val (.int h.2.2.1), .val (.int h.2.2.2), s6, .val (.int 0), s8] := by
    rw [st_v e0 (setOk_fre (i := 7) rfl k7)]; rfl
  generalize md h = dh at *
  generalize md (P h Tn) = dp at *
  generalize h.2.2.1 = c at *
  generalize h.2.2.2 = d at *
  rw [x_if]
  have hcond : toB (evE T (callF T (n+2)) true (.cmp .Eq (.var 4) (.int 0)) [x, .own (.lst (f.map D.int)), .val dh, s3, .val (.int c), .val (.int d), s6, s7, s8]) = .ok false [x, .own (.lst (f.map D.int)), .val dh, s3, .val (.int c), .val (.int d), s6, s7, s8] := by
    simp [eqD_int, hn, toB, tst, truth, opt]
  rw [hcond]
  simp only [bd_ok, Bool.false_eq_true, if_false]
  rw [bf47, x_b1, s1]
  simp only [bd_ok]
  simp [x_cnt, eqD_int, toB, tst, truth, opt, e3, frzs, frz_v, sizeL, fzR, setR, intD, lstAt, mineD, upS, hl]
theorem w3s (F : SV) (hc : 0 < h.2.2.1) {j : Nat} (hj : Le j h) (hj2 : j ≤ 800) (hs : stepN h ≠ 0) (k6 : Fre s6) (k7 : Fre s7) : exS T (callF T n) (.if_ (.cmp .Eq (.var 4) (.int 0)) [be47] bf47) [x, F, .val (md h), s3, .val (.int h.2.2.1), .val (.int h.2.2.2), s6, s7, s8] = .ok .next [x, F, .val (md h), s3, .val (.int h.2.2.1), .val (.int h.2.2.2), .own (.lst (if 0 < stepN h then [.int 3, .int 1] else [.int 1, .int 2])), .val (.int (stepN h)), s8] := by
  have e0 := ev_step (n := n) (x := x) (s3 := s3) (s6 := s6) (s7 := s7) (s8 := s8) F hc (Nat.lt_of_lt_of_le hj.bd.2.2.1 (Nat.pow_le_pow_right (by decide) (by omega)))
  have hn : ¬ h.2.2.1 = 0 := by omega
  have s1 : exS T (callF T n) (.set 7 (.bin .sub (.int 0) (.bin .fdiv (.bin .add (.bin .mul (.int 2) (.var 5)) (.var 4)) (.bin .mul (.int 2) (.var 4))))) [x, F, .val (md h), s3, .val (.int h.2.2.1), .val (.int h.2.2.2), s6, s7, s8] = .ok .next [x, F, .val (md h), s3, .val (.int h.2.2.1), .val (.int h.2.2.2), s6, .val (.int (stepN h)), s8] := by
    rw [st_v e0 (setOk_fre (i := 7) rfl k7)]; rfl
  generalize stepN h = st at *
  generalize md h = dh at *
  generalize h.2.2.1 = c at *
  generalize h.2.2.2 = d at *
  rw [x_if]
  have hcond : toB (evE T (callF T n) true (.cmp .Eq (.var 4) (.int 0)) [x, F, .val dh, s3, .val (.int c), .val (.int d), s6, s7, s8]) = .ok false [x, F, .val dh, s3, .val (.int c), .val (.int d), s6, s7, s8] := by
    simp [eqD_int, hn, toB, tst, truth, opt]
  rw [hcond]
  simp only [bd_ok, Bool.false_eq_true, if_false]
  rw [bf47, x_b1, s1]
  simp only [bd_ok]
  by_cases hp : 0 < st <;> rcases k6 with rfl | ⟨_, rfl⟩ | ⟨_, rfl⟩ <;> simp [hs, hp, eqD_int, toB, tst, truth, opt, frzs, frz_v, sizeL, fzR, setR]
end
/-- what one lap does to the move and to the letters -/
structure Lap (h h' : M) (g : List Int) : Prop where
  gd : good h'
  w : P h' (W g.reverse) = h
  c : C (adj h') + 1 = C (adj h)
  ok : okL g
  len : g.length ≤ 2
theorem lap47 (n : Nat) (x : SV) {h : M} (f : List Int) (s3 s4 s5 s6 s7 s8 : SV) (k4 : Fre s4) (k5 : Fre s5) (k6 : Fre s6) (k7 : Fre s7) (k8 : Fre s8) (g : good h) (hn : h ≠ one1) {j : Nat} (hj : Le j h) (hj2 : j ≤ 700) (hf : f.length ≤ 80000) :
    ∃ h' u fl s4' s5' s6' s7' s8', Lap h h' u ∧ Le (j + 2) h' ∧ Fre s4' ∧ Fre s5' ∧ Fre s6' ∧ Fre s7' ∧ Fre s8' ∧ (fl = .next ∨ fl = .cnt) ∧
      exB T (callF T (n+3)) b47 [x, .own (.lst (f.map D.int)), .val (md h), s3, s4, s5, s6, s7, s8] = .ok fl [x, .own (.lst ((f ++ u).map D.int)), .val (md h'), s3, s4', s5', s6', s7', s8'] := by
  have t1 := w1 (n := n+3) (x := x) (s3 := s3) (s4 := s4) (s5 := s5) (s6 := s6) (s7 := s7) (s8 := s8) (.own (.lst (f.map D.int))) hn [.ret (.call 46 [.rev (.var 1)])]
  have t2 := w2 (n := n+3) (x := x) (s3 := s3) (s6 := s6) (s7 := s7) (s8 := s8) (h := h) (.own (.lst (f.map D.int))) k4 k5
  have go : ∀ r, exB T (callF T (n+3)) [.if_ (.cmp .Eq (.var 4) (.int 0)) [be47] bf47, .for_ (.nm 8) (.e (.rev (.var 6))) bi47] [x, .own (.lst (f.map D.int)), .val (md h), s3, .val (.int h.2.2.1), .val (.int h.2.2.2), s6, s7, s8] = r → exB T (callF T (n+3)) b47 [x, .own (.lst (f.map D.int)), .val (md h), s3, s4, s5, s6, s7, s8] = r := by
    intro r hr
    rw [b47, x_b1, t1]
    simp only [bd_ok]
    rw [x_b1, t2]
    simp only [bd_ok]
    exact hr
  have two : ∀ l1 l2 s7', (l1 = 1 ∨ l1 = 2 ∨ l1 = 3) → (l2 = 1 ∨ l2 = 2 ∨ l2 = 3) → exS T (callF T (n+3)) (.if_ (.cmp .Eq (.var 4) (.int 0)) [be47] bf47) [x, .own (.lst (f.map D.int)), .val (md h), s3, .val (.int h.2.2.1), .val (.int h.2.2.2), s6, s7, s8] = .ok .next [x, .own (.lst (f.map D.int)), .val (md h), s3, .val (.int h.2.2.1), .val (.int h.2.2.2), .own (.lst [.int l1, .int l2]), s7', s8] →
      exB T (callF T (n+3)) b47 [x, .own (.lst (f.map D.int)), .val (md h), s3, s4, s5, s6, s7, s8] = .ok .next [x, .own (.lst ((f ++ [l2, l1]).map D.int)), .val (md (P (P h (iv l2)) (iv l1))), s3, .val (.int h.2.2.1), .val (.int h.2.2.2), .own (.lst [.int l1, .int l2]), s7', .val (.int l1)] := by
    intro l1 l2 s7' a1 a2 e
    have t4 := w9 (n := n) (x := x) (s3 := s3) (s4 := .val (.int h.2.2.1)) (s5 := .val (.int h.2.2.2)) (s7 := s7') (s8 := s8) (f := f) (h := h) l1 l2 a1 a2 hj (by omega) (by omega) k8
    apply go
    rw [x_b1, e]
    simp only [bd_ok]
    rw [x_b1, t4]
    simp
  have lp2 : ∀ l1 l2, (l1 = 1 ∨ l1 = 2 ∨ l1 = 3) → (l2 = 1 ∨ l2 = 2 ∨ l2 = 3) → C (adj (P (P h (iv l2)) (iv l1))) + 1 = C (adj h) → Lap h (P (P h (iv l2)) (iv l1)) [l2, l1] := by
    intro l1 l2 a1 a2 hc
    refine ⟨good_P (det_P g.1 (det_iv l2)) (det_iv l1), two_W g l1 l2, hc, ?_, by simp⟩
    exact okL_cons.mpr ⟨a2, okL_cons.mpr ⟨a1, okL_nil⟩⟩
  have le2 : ∀ l1 l2, (l1 = 1 ∨ l1 = 2 ∨ l1 = 3) → (l2 = 1 ∨ l2 = 2 ∨ l2 = 3) → Le (j + 2) (P (P h (iv l2)) (iv l1)) := fun l1 l2 a1 a2 => (hj.iv l2 a2).iv l1 a1
  by_cases hz : h.2.2.1 = 0
  · obtain ⟨g1, g2⟩ := good_z g hz
    have hb : h.2.1 ≠ 0 := fun q => hn (by obtain ⟨a, b, c, d⟩ := h; simp only at *; subst q hz g1 g2; rfl)
    have t3 := w3z (n := n+3) (x := x) (s3 := s3) (s7 := s7) (s8 := s8) (.own (.lst (f.map D.int))) hz k6
    have cz : ∀ p, C (adj (bkT p h)) = (h.2.1 + p * h.1).natAbs + 1 := fun p => C_adj_z hz
    by_cases hp : 0 < h.2.1
    · rw [if_pos hp] at t3
      refine ⟨_, [2, 1], .next, _, _, _, _, _, lp2 1 2 (by simp) (by simp) ?_, le2 1 2 (by simp) (by simp), Fre.val _, Fre.val _, Fre.own _, k7, Fre.val _, .inl rfl, two 1 2 s7 (by simp) (by simp) t3⟩
      rw [two_12 g, cz, C_adj_z hz, g1]
      omega
    · rw [if_neg hp] at t3
      refine ⟨_, [1, 3], .next, _, _, _, _, _, lp2 3 1 (by simp) (by simp) ?_, le2 3 1 (by simp) (by simp), Fre.val _, Fre.val _, Fre.own _, k7, Fre.val _, .inl rfl, two 3 1 s7 (by simp) (by simp) t3⟩
      rw [two_31 g, cz, C_adj_z hz, g1]
      omega
  · have hc : 0 < h.2.2.1 := by
      rcases g.2 with q | q
      · exact q
      · exact absurd q.1 hz
    by_cases hs : stepN h = 0
    · have t3 := w3t (n := n+1) (x := x) (s3 := s3) (s6 := s6) (s7 := s7) (s8 := s8) (f := f) hc hj (by omega) hs (by omega) k7
      refine ⟨P h Tn, [1], .cnt, .val (.int h.2.2.1), .val (.int h.2.2.2), s6, .val (.int 0), s8, ⟨good_P g.1 (by rfl), one_W g, C_adj_T g hc hs, okL_cons.mpr ⟨.inl rfl, okL_nil⟩, by simp⟩, ?_, Fre.val _, Fre.val _, k6, Fre.val _, k8, .inr rfl, go _ ?_⟩
      · have := hj.iv 1 (.inl rfl)
        rw [show PL.WD.iv 1 = Tn from by decide] at this
        exact this.mono (by omega)
      · rw [x_b1, t3]
        simp only [bd_ok]
    · have t3 := w3s (n := n+3) (x := x) (s3 := s3) (s6 := s6) (s7 := s7) (s8 := s8) (.own (.lst (f.map D.int))) hc hj (by omega) hs k6 k7
      by_cases hp : 0 < stepN h
      · rw [if_pos hp] at t3
        refine ⟨_, [1, 3], .next, _, _, _, _, _, lp2 3 1 (by simp) (by simp) ?_, le2 3 1 (by simp) (by simp), Fre.val _, Fre.val _, Fre.own _, Fre.val _, Fre.val _, .inl rfl, two 3 1 _ (by simp) (by simp) t3⟩
        rw [two_31 g]
        exact C_adj_bk 1 hc (by omega)
      · rw [if_neg hp] at t3
        refine ⟨_, [2, 1], .next, _, _, _, _, _, lp2 1 2 (by simp) (by simp) ?_, le2 1 2 (by simp) (by simp), Fre.val _, Fre.val _, Fre.own _, Fre.val _, Fre.val _, .inl rfl, two 1 2 _ (by simp) (by simp) t3⟩
        rw [two_12 g]
        exact C_adj_bk (-1) hc (by omega)
theorem lp47 (n : Nat) (x : SV) : ∀ (ds : List D) (h : M) (f : List Int) (j : Nat) (s3 s4 s5 s6 s7 s8 : SV), Fre s3 → Fre s4 → Fre s5 → Fre s6 → Fre s7 → Fre s8 → good h → Le j h → j + 2 * C (adj h) ≤ 700 → f.length + 2 * C (adj h) ≤ 70000 → okL f → C (adj h) ≤ ds.length →
    ∃ w e', okL w ∧ W w = P h (W f.reverse) ∧ forL (fun d e => opt (asg (.nm 3) d e) fun e1 => exB T (callF T (n+3)) b47 e1) ds [x, .own (.lst (f.map D.int)), .val (md h), s3, s4, s5, s6, s7, s8] = .ok (.ret (.v (wd (shrt w)))) (x :: e')
  | [], h, f, j, s3, s4, s5, s6, s7, s8, _, _, _, _, _, _, _, _, _, _, _, hC => by
    have := C_pos (adj h)
    simp at hC; omega
  | d :: ds, h, f, j, s3, s4, s5, s6, s7, s8, k3, k4, k5, k6, k7, k8, g, hj, hj2, hf, hok, hC => by
    have ha : asg (.nm 3) d [x, .own (.lst (f.map D.int)), .val (md h), s3, s4, s5, s6, s7, s8] = some [x, .own (.lst (f.map D.int)), .val (md h), .val d, s4, s5, s6, s7, s8] := by
      rcases k3 with rfl | ⟨_, rfl⟩ | ⟨_, rfl⟩ <;> simp
    rw [forL_cons, ha]
    simp only [opt]
    by_cases hn : h = one1
    · subst hn
      have hr : okL f.reverse := fun l hl => hok l (by simpa using hl)
      refine ⟨f.reverse, [.own (.lst (f.map D.int)), .val (md one1), .val d, s4, s5, s6, s7, s8], hr, (P_one (W_good _)).symm, ?_⟩
      have e := eqD_md one1 one1
      rw [decide_eq_true rfl] at e
      have e46 := sp46 (n+2) f.reverse hr (by simp; omega) _ (.inr rfl)
      simp only [wl_, List.map_reverse] at e46
      have s1 : exS T (callF T (n+3)) (.if_ (.cmp .Eq (.var 2) (.tup [.int 1, .int 0, .int 0, .int 1])) [.ret (.call 46 [.rev (.var 1)])] []) [x, .own (.lst (f.map D.int)), .val (md one1), .val d, s4, s5, s6, s7, s8] = .ok (.ret (.v (wd (shrt f.reverse)))) [x, .own (.lst (f.map D.int)), .val (md one1), .val d, s4, s5, s6, s7, s8] := by
        rw [md_one] at e ⊢
        simp [frzs, frz_v, sizeL, e, toB, tst, truth, opt, revD, e46, retR]
      rw [b47, x_b1, s1]
      simp
    · obtain ⟨h', u, fl, t4, t5, t6, t7, t8, lp, le, q4, q5, q6, q7, q8, hfl, ex⟩ := lap47 n x f (.val d) s4 s5 s6 s7 s8 k4 k5 k6 k7 k8 g hn hj (by have := C_pos (adj h); omega) (by omega)
      have lc := lp.c
      have ll := lp.len
      simp only [List.length_cons] at hC
      obtain ⟨w, e', w1, w2, w3⟩ := lp47 n x ds h' (f ++ u) (j + 2) (.val d) t4 t5 t6 t7 t8 (Fre.val _) q4 q5 q6 q7 q8 lp.gd le (by omega) (by simp; omega) (okL_app.mpr ⟨hok, lp.ok⟩) (by omega)
      refine ⟨w, e', w1, ?_, ?_⟩
      · rw [w2, List.reverse_append, W_app, ← P_assoc lp.gd.1 (W_det _) (W_det _), lp.w]
      · rw [ex]
        rcases hfl with rfl | rfl <;> (simp only [bd_ok]; exact w3)
theorem sp47 (n : Nat) (w : List Int) (hr : red w) (hl : w.length ≤ 50) : callF T (n+4) 47 [.val (md (W w))] = .ok (.v (wd w)) [.val (md (W w))] := by
  rw [x_callF T (n+3) 47 _ (F := f47) rfl rfl]
  have hb : C (adj (W w)) ≤ 2 * w.length + 6 := by
    have := C_word (back_red hr)
    rw [W_adj hr.1, C_sg] at this
    simpa [back] using this
  have hlen : ∀ q : Nat, (List.range q).length = q := fun q => List.length_range
  obtain ⟨v, e', v1, v2, v3⟩ := lp47 n (.val (md (W w))) ((List.range 4000).map fun (k : Nat) => .int (0 + (k : Int))) (W w) [] w.length .un .un .un .un .un .un Fre.un Fre.un Fre.un Fre.un Fre.un Fre.un (W_good w) (W_Le _ w rfl hr.1) (by omega) (by simp; omega) okL_nil (by simp; omega)
  have hv : shrt v = w := shrt_is v1 hr (by rw [v2]; exact P_one' (W_good w))
  rw [hv] at v3
  have hr4 : rngD [.int 4000] = some ((List.range 4000).map fun (k : Nat) => .int (0 + (k : Int))) := rngD_one 4000 (by decide) (by decide)
  generalize ((List.range 4000).map fun (k : Nat) => D.int (0 + (k : Int))) = ds at *
  show fin [.val (md (W w))] (exB T (callF T (n+3)) [.par [1, 2] [.lst [], .var 0], .for_ (.nm 3) (.rng [.int 4000]) b47, .ret (.non)] [.val (md (W w)), .un, .un, .un, .un, .un, .un, .un, .un]) = _
  have h1 : exS T (callF T (n+3)) (.par [1, 2] [.lst [], .var 0]) [.val (md (W w)), .un, .un, .un, .un, .un, .un, .un, .un] = .ok .next [.val (md (W w)), .own (.lst (([] : List Int).map D.int)), .val (md (W w)), .un, .un, .un, .un, .un, .un] := by
    simp [fzRs, fzR, setRs, setR, frzs, sizeL]
  rw [x_b1, h1]
  simp only [bd_ok]
  have h2 : evI T (callF T (n+3)) (.rng [.int 4000]) [.val (md (W w)), .own (.lst (([] : List Int).map D.int)), .val (md (W w)), .un, .un, .un, .un, .un, .un] = .ok ds [.val (md (W w)), .own (.lst (([] : List Int).map D.int)), .val (md (W w)), .un, .un, .un, .un, .un, .un] := by
    rw [x_ir, x_a1, x_int]
    simp only [tst_false, bd_ok, x_a0, x_conts1, x_conts0, x_cont_v, Option.bind, Option.map, opt, hr4]
  rw [x_b1, x_for, h2]
  simp only [bd_ok]
  rw [v3]
  simp [outs]
end PL.K01
end

section
set_option exponentiation.threshold 5000
namespace PL.K01
open PL PL.K00 PL.RY PL.WD PySem PySem.Spec L2

def end0 : S := .set 1 (.call 32 [.call 34 [.var 0, .int 1], .int 0])
def lap0 : S := .set 3 (.bi .tuple [.comp [4] (.rng [.call 33 [.var 1, .int 15]]) (.nm 4) none (.bin .add (.int 1) (.call 33 [.var 1, .int 3]))])
def lap1 : S := .set 5 (.call 46 [.var 3])
def lap2 : S := .set 6 (.call 45 [.var 3])
def lap3 : S := .set 7 (.lst [.callk 23 [] ["row"] [.bi .list [.var 3]], .callk 24 [] ["row"] [.var 3], .callk 22 [] ["move"] [.bi .list [.var 6]], .callk 21 [] ["thing"] [.var 5], .call 21 [.bi .list [.var 5]], .call 21 [.var 3], .callk 26 [] ["word"] [.var 5]])
def lap4 : S := .set 8 (.bi .tuple [.comp [9] (.e (.rev (.var 5))) (.nm 9) none (.ite (.cmp .Eq (.var 9) (.int 1)) (.var 9) (.bin .sub (.int 5) (.var 9)))])
def lap5 : S := .if_ (.andor false [.not_ (.call 36 [.var 7, .lst [.var 6, .var 5, .var 5, .bl true, .bl false, .cmp .Eq (.var 3) (.var 5), .var 8]]), .cmp .NotEq (.call 47 [.var 6]) (.var 5)]) [.ret (.bl false)] []
def lap6 : S := .set 10 (.call 46 [.comp [4] (.rng [.call 33 [.var 1, .int 12]]) (.nm 4) none (.bin .add (.int 1) (.call 33 [.var 1, .int 3]))])
def lap7 : S := .if_ (.andor false [.cmp .NotEq (.callk 25 [] ["one", "other"] [.var 5, .bi .list [.var 10]]) (.call 46 [.bin .add (.var 5) (.var 10)]), .cmp .NotEq (.call 25 [.var 5, .var 8]) (.tup [])]) [.ret (.bl false)] []
def lap8 : S := .set 11 (.callk 31 [] ["move"] [.var 6])
def lap9 : S := .set 12 (.tup [.int 1, .ix (.var 11) (.int 0), .int 0, .int 1])
def lap10 : S := .for_ (.nm 9) (.e (.sl (.var 11) (some (.int 1)) none)) [.set 12 (.call 42 [.call 42 [.var 12, .tup [.int 0, .neg (.int 1), .int 1, .int 0]], .tup [.int 1, .var 9, .int 0, .int 1]])]
def lap11 : S := .if_ (.andor false [.cmp .NotEq (.var 12) (.var 6), .cmp .NotEq (.ix (.var 11) (.int 0)) (.ite (.cmp .Gt (.ix (.var 6) (.int 2)) (.int 0)) (.bin .sub (.int 0) (.bin .fdiv (.bin .sub (.ix (.var 6) (.int 2)) (.bin .mul (.int 2) (.ix (.var 6) (.int 0)))) (.bin .mul (.int 2) (.ix (.var 6) (.int 2))))) (.ix (.var 6) (.int 1)))]) [.ret (.bl false)] []
def lap12 : S := .set 13 (.call 45 [.var 10])
def lap13 : S := .set 14 (.call 42 [.call 42 [.call 43 [.var 13], .var 6], .var 13])
def lap14 : S := .par [15, 16] [.call 49 [.var 5], .call 49 [.call 47 [.var 14]]]
def lap15 : S := .set 17 (.call 48 [.var 1, .int 9])
def lap16 : S := .set 7 (.lst [.callk 29 [] ["word"] [.var 5], .call 29 [.call 22 [.var 14]], .callk 30 [] ["one", "other"] [.var 6, .var 14], .call 30 [.var 6, .var 17]])
def lap17 : S := .if_ (.andor false [.not_ (.call 36 [.var 7, .lst [.var 15, .var 15, .bl true, .cmp .Eq (.var 15) (.call 49 [.call 47 [.var 17]])]]), .cmp .NotEq (.var 15) (.var 16)]) [.ret (.bl false)] []
def lapB : List S := [lap0, lap1, lap2, lap3, lap4, lap5, lap6, lap7, lap8, lap9, lap10, lap11, lap12, lap13, lap14, lap15, lap16, lap17]
def end2 : S := .set 18 (.call 33 [.var 1, .int 8])
def end3 : S := .set 19 (.callk 27 [] ["length"] [.var 18])
def end4 : S := .if_ (.andor false [.cmp .NotEq (.lset (.comp [9] (.e (.var 19)) (.nm 9) none (.call 45 [.var 9]))) (.callk 28 [] ["length"] [.var 18]), .cmp .NotEq (.var 19) (.sset (.var 19))]) [.ret (.bl false)] []
def end5 : S := .if_ (.cmp .NotEq (.comp [9] (.e (.var 19)) (.nm 9) (some (.andor false [.cmp .NotEq (.call 46 [.var 9]) (.var 9), .cmp .NotEq (.bi .len [.var 9]) (.var 18)])) (.var 9)) (.lst [])) [.ret (.bl false)] []
def end6 : S := .if_ (.andor false [.not_ (.call 40 [.fnv 27, .tup [.var 18], .var 19]), .cmp .NotEq (.bi .len [.var 19]) (.bin .sub (.bin .add (.bin .shl (.int 1) (.bin .fdiv (.var 18) (.int 2))) (.bin .shl (.int 1) (.bin .fdiv (.bin .add (.var 18) (.int 1)) (.int 2)))) (.bi .int1 [.cmp .Eq (.var 18) (.int 0)]))]) [.ret (.bl false)] []
def end7 : S := .set 20 (.lst [.tup [], .tup [.int 1], .tup [.int 1, .int 2, .int 1], .tup [.int 1, .int 1], .tup [.int 2, .int 3], .tup [.int 0], .tup [.int 4], .tup [.bl true], .lst [.int 1], .non, .str "12"])
def end8 : S := .set 7 (.bin .add (.comp [9] (.e (.var 20)) (.nm 9) none (.call 21 [.var 9])) (.lst [.call 50 [.fnv 27, .tup [.int 13]], .call 50 [.fnv 27, .tup [.neg (.int 1)]], .call 50 [.fnv 28, .tup [.int 2001]], .call 50 [.fnv 26, .tup [.tup [.int 1, .int 1]]], .call 50 [.fnv 23, .tup [.tup [.int 4]]], .call 50 [.fnv 22, .tup [.tup [.int 1, .int 20001, .int 0, .int 1]]], .call 50 [.fnv 29, .tup [.tup [.int 2, .int 2]]]]))
def end9 : S := .ret (.andor true [.call 36 [.var 7, .bin .add (.bin .add (.bin .add (.bin .add (.lst [.bl true, .bl true, .bl true]) (.bin .mul (.lst [.bl false]) (.int 8))) (.lst [.lst [.str "many", .bl true]])) (.bin .mul (.lst [.lst [.str "unfit", .bl true]]) (.int 4))) (.lst [.lst [.str "many", .bl true], .lst [.str "unfit", .bl true]])], .cmp .Eq (.call 31 [.tup [.int 1, .int 20001, .int 0, .int 1]]) (.tup [.int 20001])])
theorem f51_body : f51.body = [end0, .for_ (.nm 2) (.rng [.int 6]) lapB, end2, end3, end4, end5, end6, end7, end8, end9] := rfl
abbrev cf := callF T 199
theorem kw23 (r : RV) : kwSort f23.ps ["row"] [] [r] = [r] := rfl
theorem fn23 : T.fns[23]? = some f23 := rfl
theorem kw24 (r : RV) : kwSort f24.ps ["row"] [] [r] = [r] := rfl
theorem fn24 : T.fns[24]? = some f24 := rfl
theorem kw22 (r : RV) : kwSort f22.ps ["move"] [] [r] = [r] := rfl
theorem fn22 : T.fns[22]? = some f22 := rfl
theorem kw21 (r : RV) : kwSort f21.ps ["thing"] [] [r] = [r] := rfl
theorem fn21 : T.fns[21]? = some f21 := rfl
theorem kw26 (r : RV) : kwSort f26.ps ["word"] [] [r] = [r] := rfl
theorem fn26 : T.fns[26]? = some f26 := rfl
theorem kw31 (r : RV) : kwSort f31.ps ["move"] [] [r] = [r] := rfl
theorem fn31 : T.fns[31]? = some f31 := rfl
theorem kw29 (r : RV) : kwSort f29.ps ["word"] [] [r] = [r] := rfl
theorem fn29 : T.fns[29]? = some f29 := rfl
theorem kw27 (r : RV) : kwSort f27.ps ["length"] [] [r] = [r] := rfl
theorem fn27 : T.fns[27]? = some f27 := rfl
theorem kw28 (r : RV) : kwSort f28.ps ["length"] [] [r] = [r] := rfl
theorem fn28 : T.fns[28]? = some f28 := rfl
theorem kw25 (r s : RV) : kwSort f25.ps ["one", "other"] [] [r, s] = [r, s] := rfl
theorem fn25 : T.fns[25]? = some f25 := rfl
theorem kw30 (r s : RV) : kwSort f30.ps ["one", "other"] [] [r, s] = [r, s] := rfl
theorem fn30 : T.fns[30]? = some f30 := rfl
theorem va {e : EV} {i : Nat} {d : D} (h : e[i]? = some (.val d)) : evE T cf false (.var i) e = .ok (.v d) e := by simp [h]
theorem list_wd (w : List Int) : biF .list [wd w] = some (.t (wl_ w)) := rfl
theorem list_md (m : M) : biF .list [md m] = some (.t (ml m)) := rfl
theorem tup_wl (w : List Int) : biF .tuple [wl_ w] = some (.v (wd w)) := rfl
theorem ev_bi1 {e e1 : EV} {b : Bi} {a : E} {d : D} {r : RV} (ha : evE T cf false a e = .ok (.v d) e1 ∨ evE T cf false a e = .ok (.t d) e1) (hb : biF b [d] = some r) : evE T cf false (.bi b [a]) e = .ok r e1 := by
  rw [x_bi, x_a1]
  rcases ha with h | h <;> rw [h] <;> simp [hb]
/-- calls with one argument -/
theorem ev_c1 {e e1 : EV} {a : E} {g : Nat} {d : D} {r : RV} {as : List SV} (ha : evE T cf false a e = .ok (.v d) e1 ∨ evE T cf false a e = .ok (.t d) e1) (hc : cf g [.val d] = .ok r as) : evE T cf false (.call g [a]) e = .ok r e1 := by
  rcases ha with h | h
  · exact ev_call (rs := [.v d]) (by rw [x_a1, h]; simp) rfl rfl hc
  · exact ev_call (rs := [.t d]) (by rw [x_a1, h]; simp) rfl rfl hc
theorem ev_k1 {e e1 : EV} {a : E} {g : Nat} {p : Str} {F : FnD} {d : D} {r : RV} {as : List SV} (hF : T.fns[g]? = some F) (hk : ∀ r : RV, kwSort F.ps [p] [] [r] = [r]) (ha : evE T cf false a e = .ok (.v d) e1 ∨ evE T cf false a e = .ok (.t d) e1) (hc : cf g [.val d] = .ok r as) : evE T cf false (.callk g [] [p] [a]) e = .ok r e1 := by
  rw [x_callk, x_a0]
  simp only [bd_ok]
  rcases ha with h | h
  · rw [x_a1, h]
    simp only [bd_ok, x_a0, hF, opt, hk, x_do, hands_v, hands_nil, List.nodup_nil, if_true, argsOf_cons, argsOf_nil, argOf_v, Option.bind, Option.map, hc]
    rw [pbn _ _ _ rfl]; rfl
  · rw [x_a1, h]
    simp only [bd_ok, x_a0, hF, opt, hk, x_do, hands_t, hands_nil, List.nodup_nil, if_true, argsOf_cons, argsOf_nil, argOf_t, Option.bind, Option.map, hc]
    rw [pbn _ _ _ rfl]; rfl
theorem ev_c2 {e e1 e2 : EV} {a b : E} {g : Nat} {d f : D} {r : RV} {as : List SV} (ha : evE T cf false a e = .ok (.v d) e1) (hb : evE T cf false b e1 = .ok (.v f) e2) (hc : cf g [.val d, .val f] = .ok r as) : evE T cf false (.call g [a, b]) e = .ok r e2 :=
  ev_call (rs := [.v d, .v f]) (by rw [x_a1, ha]; simp only [bd_ok]; rw [x_a1, hb]; simp) rfl rfl hc
theorem ev_k2 {e e1 e2 : EV} {a b : E} {g : Nat} {p q : Str} {F : FnD} {d f : D} {r : RV} {as : List SV} (hF : T.fns[g]? = some F) (hk : ∀ r s : RV, kwSort F.ps [p, q] [] [r, s] = [r, s]) (ha : evE T cf false a e = .ok (.v d) e1) (hb : evE T cf false b e1 = .ok (.v f) e2 ∨ evE T cf false b e1 = .ok (.t f) e2) (hc : cf g [.val d, .val f] = .ok r as) : evE T cf false (.callk g [] [p, q] [a, b]) e = .ok r e2 := by
  rw [x_callk, x_a0]
  simp only [bd_ok]
  rw [x_a1, ha]
  simp only [bd_ok]
  rcases hb with h | h
  · rw [x_a1, h]
    simp only [bd_ok, x_a0, hF, opt, hk, x_do, hands_v, hands_nil, List.nodup_nil, if_true, argsOf_cons, argsOf_nil, argOf_v, Option.bind, Option.map, hc]
    rw [pbn _ _ _ rfl]; rfl
  · rw [x_a1, h]
    simp only [bd_ok, x_a0, hF, opt, hk, x_do, hands_v, hands_t, hands_nil, List.nodup_nil, if_true, argsOf_cons, argsOf_nil, argOf_v, argOf_t, Option.bind, Option.map, hc]
    rw [pbn _ _ _ rfl]; rfl
theorem ne_wd {e e1 e2 : EV} {a b : E} {w : List Int} (ha : evE T cf false a e = .ok (.v (wd w)) e1) (hb : evE T cf false b e1 = .ok (.v (wd w)) e2) : evE T cf true (.cmp .NotEq a b) e = .ok (.v (.bl false)) e2 := by
  rw [x_cmp, ha]
  simp only [bd_ok]
  rw [hb]
  simp [cmpop, eqD_wd, tst, truth, opt]
theorem ne_md {e e1 : EV} {a b : E} {m : M} (ha : evE T cf false a e = .ok (.v (md m)) e1) (hb : evE T cf false b e1 = .ok (.v (md m)) e1) : evE T cf true (.cmp .NotEq a b) e = .ok (.v (.bl false)) e1 := by
  rw [x_cmp, ha]
  simp only [bd_ok]
  rw [hb]
  simp [cmpop, eqD_md, tst, truth, opt]
theorem ne_int {e e1 : EV} {a b : E} {m : Int} (ha : evE T cf false a e = .ok (.v (.int m)) e1) (hb : evE T cf false b e1 = .ok (.v (.int m)) e1) : evE T cf true (.cmp .NotEq a b) e = .ok (.v (.bl false)) e1 := by
  rw [x_cmp, ha]
  simp only [bd_ok]
  rw [hb]
  simp [cmpop, eqD_int, tst, truth, opt]
/-! draws -/
theorem lpd (y : Int) : ∀ (ds : List D) (x z : Int) (acc : List Int) (E : EV), E[1]? = some (.own (tinD x y z)) → E[4]? = some .un → 0 ≤ z → z + ds.length ≤ 1000 → acc.length + ds.length ≤ 1000 → okL acc →
    ∃ w x' z', okL w ∧ w.length = acc.length + ds.length ∧ 0 ≤ z' ∧ z' ≤ z + ds.length ∧
      compL (fun d e => opt (asg (.nm 4) d e) fun e1 => (evC T cf none e1).bd fun k e2 => if k then (evE T cf false (.bin .add (.int 1) (.call 33 [.var 1, .int 3])) e2).bd fun r e3 => opt (frz e3 r) fun (x, e4) => .ok (some x) e4 else .ok none e2) [4] ds E (acc.map D.int) = .ok (w.map D.int) (E.set 1 (.own (tinD x' y z')))
  | [], x, z, acc, E, h1, _, hz, _, _, ha => ⟨acc, x, z, ha, by simp, hz, by simp, by rw [set_same h1]; rfl⟩
  | d :: ds, x, z, acc, E, h1, h4, hz, hz', hl, ha => by
    simp only [List.length_cons] at hz' hl
    obtain ⟨r, x1, z1, r0, r3, z0, z1', e⟩ := sp33 198 x y z 3 (by decide) (by decide) hz (by omega)
    simp at e
    have g4 : (E.set 1 (.own (tinD x1 y z1)))[4]? = some .un := by rw [get_ne _ _ _ _ (by decide)]; exact h4
    have g1 : (E.set 1 (.own (tinD x1 y z1)))[1]? = some (.own (tinD x1 y z1)) := get_set _ (lt_of_get h1)
    obtain ⟨w, x', z', ha', hl', hz0, hz1, h⟩ := lpd y ds x1 z1 (acc ++ [1 + r]) (E.set 1 (.own (tinD x1 y z1))) g1 g4 z0 (by omega) (by simp; omega) (okL_app.mpr ⟨ha, okL_cons.mpr ⟨by omega, okL_nil⟩⟩)
    refine ⟨w, x', z', ha', by simp at hl' ⊢; omega, hz0, by simp; omega, ?_⟩
    rw [compL]
    have hd1 : (E.set 4 (.val d))[1]? = some (.own (tinD x y z)) := by rw [get_ne _ _ _ _ (by decide)]; exact h1
    have hv : evE T cf false (.bin .add (.int 1) (.call 33 [.var 1, .int 3])) (E.set 4 (.val d)) = .ok (.v (.int (1 + r))) ((E.set 4 (.val d)).set 1 (.own (tinD x1 y z1))) := by
      generalize E.set 4 (.val d) = E1 at *
      simp [hd1, e]
    have : (opt (asg (.nm 4) d E) fun e1 => (evC T cf none e1).bd fun k e2 => if k then (evE T cf false (.bin .add (.int 1) (.call 33 [.var 1, .int 3])) e2).bd fun r e3 => opt (frz e3 r) fun (x, e4) => .ok (some x) e4 else .ok none e2) = .ok (some (.int (1 + r))) ((E.set 4 (.val d)).set 1 (.own (tinD x1 y z1))) := by
      simp only [asg, setOk_fre h4 Fre.un, if_true, opt, x_c0, bd_ok, hv]
      rfl
    rw [this]
    dsimp only
    rw [if_pos (by simp [sizeL]; omega)]
    have hw : wipeE ((E.set 4 (.val d)).set 1 (.own (tinD x1 y z1))) [4] = E.set 1 (.own (tinD x1 y z1)) := by
      show ((E.set 4 (.val d)).set 1 (.own (tinD x1 y z1))).set 4 .un = _
      rw [List.set_comm _ _ (by decide), List.set_set, set_same h4]
    rw [hw]
    rw [List.map_append] at h
    rw [List.set_set] at h
    exact h
theorem ev_draw {N : Nat} {kv : List (Nat × SV)} {e : EV} {x y z : Int} (q : Q N kv e) (hN : 5 ≤ N) (b : Int) (h1 : e[1]? = some (.own (tinD x y z))) (hb : 0 < b) (hb' : b ≤ 100) (hz0 : 0 ≤ z) (hz : z ≤ 800) :
    ∃ w x' z', okL w ∧ (w.length : Int) < b ∧ 0 ≤ z' ∧ z' ≤ z + b ∧ evE T cf false (.comp [4] (.rng [.call 33 [.var 1, .int b]]) (.nm 4) none (.bin .add (.int 1) (.call 33 [.var 1, .int 3]))) e = .ok (.t (wl_ w)) (e.set 1 (.own (tinD x' y z'))) := by
  obtain ⟨s, h4, f4⟩ := q.fre (i := 4) (by decide) (by omega)
  obtain ⟨r, x1, z1, r0, r3, z0, z1', e1⟩ := sp33 198 x y z b hb (by omega) hz0 (by omega)
  simp at e1
  have hr : rngD [.int r] = some ((List.range r.toNat).map fun (k : Nat) => .int (0 + (k : Int))) := rngD_one r (by omega) (by omega)
  have hlen : ((List.range r.toNat).map fun (k : Nat) => D.int (0 + (k : Int))).length = r.toNat := by simp
  generalize ((List.range r.toNat).map fun (k : Nat) => D.int (0 + (k : Int))) = ds at *
  have a1 : ((e.set 1 (.own (tinD x1 y z1))).set 4 .un)[1]? = some (.own (tinD x1 y z1)) := by rw [get_ne _ _ _ _ (by decide)]; exact get_set _ (lt_of_get h1)
  have a4 : ((e.set 1 (.own (tinD x1 y z1))).set 4 .un)[4]? = some .un := get_set _ (by simpa using lt_of_get h4)
  have a5 : (e.set 1 (.own (tinD x1 y z1)))[4]? = some s := by rw [get_ne _ _ _ _ (by decide)]; exact h4
  obtain ⟨w, x', z', hw, hl, k0, k1, hc⟩ := lpd y ds x1 z1 [] _ a1 a4 z0 (by omega) (by simp; omega) okL_nil
  refine ⟨w, x', z', hw, by simp at hl; omega, k0, by omega, ?_⟩
  have hi : evI T cf (.rng [.call 33 [.var 1, .int b]]) e = .ok ds (e.set 1 (.own (tinD x1 y z1))) := by
    simp [h1, e1, hr]
  rw [x_comp, hi]
  simp only [tst, Bool.false_eq_true, if_false, bd_ok, wipeE_cons, wipeE_nil]
  simp only [List.map_nil] at hc
  rw [hc]
  simp only [bd_ok, unwipe_cons, unwipe_nil, a5]
  have : (((e.set 1 (.own (tinD x1 y z1))).set 4 .un).set 1 (.own (tinD x' y z'))).set 4 s = e.set 1 (.own (tinD x' y z')) := by
    rw [List.set_comm _ _ (show (1 : Nat) ≠ 4 by decide), List.set_set, List.set_comm _ _ (show (4 : Nat) ≠ 1 by decide), List.set_set, List.set_comm _ _ (show (1 : Nat) ≠ 4 by decide), set_same h4]
  rw [this]
  rfl
end PL.K01
end

section
set_option exponentiation.threshold 5000
namespace PL.K01
open PL PL.K00 PL.RY PL.WD PySem PySem.Spec L2

theorem dp_fl (k : Nat) {d : D} (h : flat0 d = true) : dp k d := by cases k <;> first | exact h | exact .inl h
theorem dp_lst {k : Nat} {ds : List D} (hl : ds.length ≤ 1000) (h : ∀ x ∈ ds, dp k x) : dp (k+1) (.lst ds) := .inr ⟨_, .inr rfl, hl, h⟩
theorem dp_tup {k : Nat} {ds : List D} (hl : ds.length ≤ 1000) (h : ∀ x ∈ ds, dp k x) : dp (k+1) (.tup ds) := .inr ⟨_, .inl rfl, hl, h⟩
theorem dp_wd (k : Nat) {w : List Int} (h : w.length ≤ 1000) : dp (k+1) (wd w) := dp_tup (by simpa using h) (by
  intro y hy
  obtain ⟨i, _, rfl⟩ := List.mem_map.mp hy
  exact dp_fl k rfl)
theorem dp_md (k : Nat) (m : M) : dp (k+1) (md m) := dp_tup (Nat.le_of_ble_eq_true rfl) (by
  intro y hy
  simp only [List.mem_cons, List.not_mem_nil, or_false] at hy
  rcases hy with rfl | rfl | rfl | rfl <;> exact dp_fl k rfl)
def rvd : RV → D → Prop := fun r d => r = .v d ∨ r = .t d
theorem ev36h {e e1 : EV} {b : E} {rb : RV} {ds : List D} {i : Nat} (k : Nat) (hk : k ≤ 5) (hi : e[i]? = some (.own (.lst ds))) (hb : evE T cf false b e = .ok rb e1) (vb : rvd rb (.lst ds)) (h1 : e1[i]? = some (.own (.lst ds))) (hd : dp k (.lst ds)) :
    evE T cf true (.call 36 [.var i, b]) e = .ok (.v (.bl true)) (e1.set i (.val (.lst ds))) := by
  have h := sp36 k (198 - k) (.lst ds) (.bor (.lst ds)) (.val (.lst ds)) hd (.inr rfl) (.inl rfl)
  rw [show 198 - k + k + 1 = 199 from by omega] at h
  have h : cf 36 [.bor (.lst ds), .val (.lst ds)] = _ := h
  rw [x_call, x_a1, x_var, hi]
  simp only [tst, Bool.false_eq_true, if_false, bd_ok]
  rw [x_a1, hb]
  simp only [bd_ok, x_a0, x_do]
  rcases vb with rfl | rfl <;> simp [h1, h, aft, flat0, tst, truth, opt]
section
variable {e : EV} {x y z : Int} {kv : List (Nat × SV)} {w u v : List Int}
theorem la0 (q : Q 21 [(1, .own (tinD x y z))] e) (hz0 : 0 ≤ z) (hz : z ≤ 700) :
    ∃ w x' z', okL w ∧ w.length ≤ 14 ∧ 0 ≤ z' ∧ z' ≤ z + 15 ∧ ∃ e', exS T cf lap0 e = .ok .next e' ∧ Q 21 [(3, .val (wd w)), (1, .own (tinD x' y z'))] e' := by
  obtain ⟨w, x1, z1, hw, hl, k0, k1, hc⟩ := ev_draw q (by decide) 15 q.g0 (by decide) (by decide) hz0 (by omega)
  have q1 := q.set (i := 1) (t := .own (tinD x1 y z1)) (by decide) (by decide) (Fre.own _)
  have q2 := q1.set (i := 3) (t := .val (wd w)) (by decide) (by decide) (Fre.val _)
  exact ⟨w, x1, z1, hw, by omega, k0, k1, _, st_v (ev_bi1 (.inr hc) (tup_wl w)) (q1.ok (by decide) (by decide)), q2.sub (by simp)⟩
theorem la1 (q : Q 21 kv e) (h3 : e[3]? = some (.val (wd w))) (hw : okL w) (hl : w.length ≤ 14) :
    ∃ e', exS T cf lap1 e = .ok .next e' ∧ Q 21 ((5, .val (wd (shrt w))) :: kv.filter fun p => p.1 != 5) e' :=
  ⟨_, st_v (ev_c1 (.inl (va h3)) (sp46 198 w hw (by omega) _ (.inl rfl))) (q.ok (by decide) (by decide)), q.set (by decide) (by decide) (Fre.val _)⟩
theorem la2 (q : Q 21 kv e) (h3 : e[3]? = some (.val (wd w))) (hw : okL w) (hl : w.length ≤ 14) :
    ∃ e', exS T cf lap2 e = .ok .next e' ∧ Q 21 ((6, .val (md (W (shrt w)))) :: kv.filter fun p => p.1 != 6) e' := by
  have := sp45w 196 w hw (by omega) _ (.inl rfl)
  rw [← (shrt_W hw).1] at this
  exact ⟨_, st_v (ev_c1 (.inl (va h3)) this) (q.ok (by decide) (by decide)), q.set (by decide) (by decide) (Fre.val _)⟩
def got3 (w : List Int) : List D := [md (W (shrt w)), wd (shrt w), wd (shrt w), .bl true, .bl false, .bl (decide (w = shrt w)), wd (back (shrt w))]
theorem alt_iff (hw : okL w) : altB w = decide (w = shrt w) := by
  by_cases h : w = shrt w
  · rw [decide_eq_true h]
    have := (shrt_red hw).2
    rwa [← h] at this
  · rw [decide_eq_false h]
    cases ha : altB w with
    | false => rfl
    | true => exact absurd (shrt_self ha).symm h
theorem la3 (q : Q 21 kv e) (h3 : e[3]? = some (.val (wd w))) (h5 : e[5]? = some (.val (wd (shrt w)))) (h6 : e[6]? = some (.val (md (W (shrt w))))) (hw : okL w) (hl : w.length ≤ 14) :
    ∃ e', exS T cf lap3 e = .ok .next e' ∧ Q 21 ((7, .own (.lst (got3 w))) :: kv.filter fun p => p.1 != 7) e' := by
  refine ⟨_, st_t (e1 := e) (d := .lst (got3 w)) ?_ (q.ok (by decide) (by decide)), q.set (by decide) (by decide) (Fre.own _)⟩
  have hr := shrt_red hw
  have hs := shrt_len w
  have hsh := W_sh hr (by omega)
  have s23 := sp23 194 w hw (by omega) _ (.inr rfl)
  rw [← (shrt_W hw).1] at s23
  have c1 : evE T cf false (.callk 23 [] ["row"] [.bi .list [.var 3]]) e = .ok (.v (md (W (shrt w)))) e := ev_k1 fn23 kw23 (.inr (ev_bi1 (.inl (va h3)) (list_wd w))) s23
  have c2 : evE T cf false (.callk 24 [] ["row"] [.var 3]) e = .ok (.v (wd (shrt w))) e := ev_k1 fn24 kw24 (.inl (va h3)) (sp24 194 w hw (by omega) _ (.inl rfl))
  have s22 := sp22 194 (W (shrt w)) hsh _ (.inr rfl)
  rw [wordC_W hr] at s22
  have c3 : evE T cf false (.callk 22 [] ["move"] [.bi .list [.var 6]]) e = .ok (.v (wd (shrt w))) e := ev_k1 fn22 kw22 (.inr (ev_bi1 (.inl (va h6)) (list_md _))) s22
  have s21 := sp21 194 (shrt w) hr.1 (by omega)
  rw [hr.2] at s21
  have c4 : evE T cf false (.callk 21 [] ["thing"] [.var 5]) e = .ok (.v (.bl true)) e := ev_k1 fn21 kw21 (.inl (va h5)) s21
  have c5 : evE T cf false (.call 21 [.bi .list [.var 5]]) e = .ok (.v (.bl false)) e := ev_c1 (.inr (ev_bi1 (.inl (va h5)) (list_wd _))) (sp21l 194 (shrt w))
  have s21w := sp21 194 w hw (by omega)
  rw [alt_iff hw] at s21w
  have c6 : evE T cf false (.call 21 [.var 3]) e = .ok (.v (.bl (decide (w = shrt w)))) e := ev_c1 (.inl (va h3)) s21w
  have c7 : evE T cf false (.callk 26 [] ["word"] [.var 5]) e = .ok (.v (wd (back (shrt w)))) e := ev_k1 fn26 kw26 (.inl (va h5)) (sp26 193 (shrt w) hr (by omega))
  rw [x_lst, x_a1, c1]
  simp only [bd_ok]
  rw [x_a1, c2]
  simp only [bd_ok]
  rw [x_a1, c3]
  simp only [bd_ok]
  rw [x_a1, c4]
  simp only [bd_ok]
  rw [x_a1, c5]
  simp only [bd_ok]
  rw [x_a1, c6]
  simp only [bd_ok]
  rw [x_a1, c7]
  simp only [bd_ok, x_a0, x_frzs1, x_frzs0, x_frz_v, Option.bind, Option.map, opt, tst, Bool.false_eq_true, if_false]
  rfl
theorem la4 (q : Q 21 kv e) (h5 : e[5]? = some (.val (wd u))) (hl : u.length ≤ 14) :
    ∃ e', exS T cf lap4 e = .ok .next e' ∧ Q 21 ((8, .val (wd (back u))) :: kv.filter fun p => p.1 != 8) e' := by
  obtain ⟨s, h9, f9⟩ := q.fre (i := 9) (by decide) (by decide)
  have hi : evI T cf (.e (.rev (.var 5))) e = .ok (u.reverse.map D.int) e := by
    have : revD (wd u) = some (.v (.tup (u.reverse.map D.int))) := by
      show some (RV.v (.tup (u.map D.int).reverse)) = _
      rw [List.map_reverse]
    simp [h5, this, frz]
  have hc := ev_comp (T := T) (cf := cf) (e := e) (e1 := e) (i := 9) (it := .e (.rev (.var 5))) (cond := none) (elt := .ite (.cmp .Eq (.var 9) (.int 1)) (.var 9) (.bin .sub (.int 5) (.var 9))) (ds := u.reverse.map D.int) (fun _ => true) (fun d => match d with | .int k => .int (bk k) | _ => .non) hi h9 (by simp; omega) (by
    intro d hd
    obtain ⟨k, _, rfl⟩ := List.mem_map.mp hd
    have g : (e.set 9 (.val (.int k)))[9]? = some (.val (.int k)) := get_set _ (lt_of_get h9)
    refine ⟨x_c0 .., fun _ => .inl ?_⟩
    generalize e.set 9 (.val (.int k)) = E at g ⊢
    by_cases h : k = 1
    · subst h; simp [g, bk, toB, eqD_int, tst, truth, opt]
    · simp [g, h, bk, toB, eqD_int, tst, truth, opt])
  have hm : ((u.reverse.map D.int).filter fun _ => true).map (fun d => match d with | .int k => D.int (bk k) | _ => .non) = (back u).map D.int := by
    rw [List.filter_eq_self.mpr (fun _ _ => rfl), List.map_map]; unfold back; rw [List.map_map]; rfl
  rw [hm] at hc
  exact ⟨_, st_v (ev_bi1 (.inr hc) (tup_wl (back u))) (q.ok (by decide) (by decide)), q.set (by decide) (by decide) (Fre.val _)⟩
theorem la5 (q : Q 21 kv e) (h3 : e[3]? = some (.val (wd w))) (h5 : e[5]? = some (.val (wd (shrt w)))) (h6 : e[6]? = some (.val (md (W (shrt w))))) (h7 : e[7]? = some (.own (.lst (got3 w)))) (h8 : e[8]? = some (.val (wd (back (shrt w))))) (hw : okL w) (hl : w.length ≤ 14) :
    ∃ e', exS T cf lap5 e = .ok .next e' ∧ Q 21 ((7, .val (.lst (got3 w))) :: kv.filter fun p => p.1 != 7) e' := by
  have hr := shrt_red hw
  have hs := shrt_len w
  have hbl : (back (shrt w)).length ≤ 1000 := by simp [back]; omega
  have hdp : dp 2 (.lst (got3 w)) := dp_lst (Nat.le_of_ble_eq_true rfl) (by
    intro y hy
    simp only [got3, List.mem_cons, List.not_mem_nil, or_false] at hy
    rcases hy with rfl | rfl | rfl | rfl | rfl | rfl | rfl
    · exact dp_md 0 _
    · exact dp_wd 0 (by omega)
    · exact dp_wd 0 (by omega)
    · exact dp_fl 1 rfl
    · exact dp_fl 1 rfl
    · exact dp_fl 1 rfl
    · exact dp_wd 0 hbl)
  have hb : evE T cf false (.lst [.var 6, .var 5, .var 5, .bl true, .bl false, .cmp .Eq (.var 3) (.var 5), .var 8]) e = .ok (.t (.lst (got3 w))) e := by
    simp [h3, h5, h6, h8, eqD_wd, frzs, frz_v, sizeL, got3]
  have q1 := q.set (i := 7) (t := .val (.lst (got3 w))) (by decide) (by decide) (Fre.val _)
  refine ⟨_, st_or ?_, q1⟩
  rw [or1 (ntrue (b := true) (ev36h 2 (by decide) h7 hb (.inr rfl) h7 hdp)), x_v1]
  have g6 : (e.set 7 (.val (.lst (got3 w))))[6]? = some (.val (md (W (shrt w)))) := by rw [get_ne _ _ _ _ (by decide)]; exact h6
  have g5 : (e.set 7 (.val (.lst (got3 w))))[5]? = some (.val (wd (shrt w))) := by rw [get_ne _ _ _ _ (by decide)]; exact h5
  exact ne_wd (ev_c1 (.inl (va g6)) (sp47 195 (shrt w) hr (by omega))) (va g5)
theorem la6 (q : Q 21 kv e) (h1 : e[1]? = some (.own (tinD x y z))) (hz0 : 0 ≤ z) (hz : z ≤ 700) :
    ∃ v x' z', red v ∧ v.length ≤ 11 ∧ 0 ≤ z' ∧ z' ≤ z + 12 ∧ ∃ e', exS T cf lap6 e = .ok .next e' ∧ Q 21 ((10, .val (wd v)) :: (1, .own (tinD x' y z')) :: kv.filter fun p => p.1 != 1 && p.1 != 10) e' := by
  obtain ⟨w, x1, z1, hw, hl, k0, k1, hc⟩ := ev_draw q (by decide) 12 h1 (by decide) (by decide) hz0 (by omega)
  have q1 := q.set (i := 1) (t := .own (tinD x1 y z1)) (by decide) (by decide) (Fre.own _)
  have q2 := q1.set (i := 10) (t := .val (wd (shrt w))) (by decide) (by decide) (Fre.val _)
  have hs := shrt_len w
  refine ⟨shrt w, x1, z1, shrt_red hw, by omega, k0, k1, _, st_v (ev_c1 (.inr hc) (sp46 198 w hw (by omega) _ (.inr rfl))) (q1.ok (by decide) (by decide)), q2.sub ?_⟩
  intro p hp
  simp only [List.mem_cons, List.mem_filter] at hp ⊢
  rcases hp with rfl | rfl | ⟨hp, h⟩
  · simp
  · simp
  · simp at h
    simp [hp, h]
theorem la7 (h5 : e[5]? = some (.val (wd u))) (h8 : e[8]? = some (.val (wd (back u)))) (h10 : e[10]? = some (.val (wd v))) (hu : red u) (hv : red v) (hlu : u.length ≤ 14) (hlv : v.length ≤ 11) : exS T cf lap7 e = .ok .next e := by
  refine st_or ?_
  have hb : binop .add (wd u) (wd v) = some (.v (wd (u ++ v))) := by
    simp [wd, binop, sizeL]; omega
  have s25 := sp25 193 u v hu hv (by omega) (by omega) _ (.inr rfl)
  have c1 : evE T cf false (.callk 25 [] ["one", "other"] [.var 5, .bi .list [.var 10]]) e = .ok (.v (wd (shrt (u ++ v)))) e := ev_k2 fn25 kw25 (va h5) (.inr (ev_bi1 (.inl (va h10)) (list_wd v))) s25
  have c2 : evE T cf false (.bin .add (.var 5) (.var 10)) e = .ok (.v (wd (u ++ v))) e := by
    simp [h5, h10, hb]
  have c3 := ev_c1 (g := 46) (.inl c2) (sp46 198 (u ++ v) (okL_app.mpr ⟨hu.1, hv.1⟩) (by simp; omega) _ (.inl rfl))
  rw [or1 (ne_wd c1 c3), x_v1]
  have hbk := back_red hu
  have s25b := sp25 193 u (back u) hu hbk (by omega) (by simp [back]; omega) _ (.inl rfl)
  rw [shrt_is (okL_app.mpr ⟨hu.1, hbk.1⟩) red_nil (W_back _ u rfl hu.1)] at s25b
  exact ne_wd (ev_c2 (va h5) (va h8) s25b) (by simp [frzs, sizeL, wd])
theorem la8 (q : Q 21 kv e) (h6 : e[6]? = some (.val (md (W u)))) (hu : red u) (hl : u.length ≤ 14) :
    ∃ e', exS T cf lap8 e = .ok .next e' ∧ Q 21 ((11, .val (wd (quoC (W u)))) :: kv.filter fun p => p.1 != 11) e' :=
  ⟨_, st_v (ev_k1 fn31 kw31 (.inl (va h6)) (sp31 194 (W u) (W_sh hu (by omega)))) (q.ok (by decide) (by decide)), q.set (by decide) (by decide) (Fre.val _)⟩
end
end PL.K01
end

section
set_option exponentiation.threshold 5000
namespace PL.K01
open PL PL.K00 PL.RY PL.WD PySem PySem.Spec L2

/-! steps multiplied -/
def stpM (m : M) (q : Int) : M := P (P m Tn) (St q)
theorem det_rowM : ∀ l : List Int, det (rowM l) = 1
  | [] => rfl
  | [a] => det_St a
  | a :: b :: l => det_P (det_P (det_St a) rfl) (det_rowM (b :: l))
theorem fold_rowM : ∀ (r : List Int) (p : Int) (m : M), det m = 1 → (p :: r).foldl stpM m = P (P m Tn) (rowM (p :: r))
  | [], p, m, _ => rfl
  | p' :: r, p, m, h => by
    have d1 : det (P m Tn) = 1 := det_P h rfl
    rw [List.foldl_cons, fold_rowM r p' (stpM m p) (det_P d1 (det_St p))]
    show P (P (P (P m Tn) (St p)) Tn) (rowM (p' :: r)) = P (P m Tn) (P (P (St p) Tn) (rowM (p' :: r)))
    rw [← P_assoc d1 (det_P (det_St p) rfl) (det_rowM _), ← P_assoc d1 (det_St p) rfl]
theorem fold_quo {q : Int} {r : List Int} : r.foldl stpM (St q) = rowM (q :: r) := by
  cases r with
  | nil => rfl
  | cons p r => rw [fold_rowM r p (St q) (det_St q)]; rfl
theorem quo_head {m : M} (g : good m) : ∃ r, quoC m = (if 0 < m.2.2.1 then near m.1 m.2.2.1 else m.2.1) :: r := by
  obtain ⟨a, b, c, d⟩ := m
  rcases g.2 with h | ⟨h, h2⟩
  · have h : 0 < c := h
    refine ⟨quoC (c, d, near a c * c - a, near a c * d - b), ?_⟩
    rw [quoC_s (show c ≠ 0 by omega)]
    show _ = (if 0 < c then near a c else b) :: _
    rw [if_pos h]
  · have h : c = 0 := h
    have h2 : d = 1 := h2
    subst h h2
    exact ⟨[], by rw [quoC_z]; rfl⟩
theorem bd_St {q : Int} (h : q.natAbs ≤ 800) : BdM 10 (St q) := by
  unfold BdM Bd WD.St
  refine ⟨show (1 : Int).natAbs < 2 ^ 10 by decide, ?_, show (0 : Int).natAbs < 2 ^ 10 by decide, show (1 : Int).natAbs < 2 ^ 10 by decide⟩
  show q.natAbs < 2 ^ 10
  omega
theorem bd_T : BdM 1 Tn := by unfold BdM Bd; decide
theorem md_St (q : Int) : md (St q) = .tup [.int 1, .int q, .int 0, .int 1] := rfl
theorem md_T : md Tn = .tup [.int 0, .int (-1), .int 1, .int 0] := rfl
def b10 : List S := [.set 12 (.call 42 [.call 42 [.var 12, .tup [.int 0, .neg (.int 1), .int 1, .int 0]], .tup [.int 1, .var 9, .int 0, .int 1]])]
section
variable {e : EV} {x y z : Int} {kv rest : List (Nat × SV)} {w u v p : List Int}
theorem Q.over {N : Nat} {rest : List (Nat × SV)} {e : EV} {i : Nat} {t : SV} (q : Q N rest e) (h1 : 1 ≤ i) (h2 : i < N) (f : Fre t) (ho : ∀ p ∈ rest, p.1 ≠ i) : Q N ((i, t) :: rest) (e.set i t) := by
  have := Q.set q h1 h2 f
  rwa [List.filter_eq_self.mpr (fun p hp => by simp [ho p hp])] at this
def out912 (rest : List (Nat × SV)) : Prop := ∀ p ∈ rest, p.1 ≠ 9 ∧ p.1 ≠ 12
theorem la9 (q : Q 21 kv e) (h11 : e[11]? = some (.val (wd (quoC (W u))))) :
    ∃ e', exS T cf lap9 e = .ok .next e' ∧ Q 21 ((12, .val (md (St ((quoC (W u)).headD 0)))) :: kv.filter fun p => p.1 != 12) e' := by
  obtain ⟨r, hr⟩ := quo_head (W_good u)
  generalize quoC (W u) = L at *
  subst hr
  generalize (if 0 < (W u).2.2.1 then near (W u).1 (W u).2.2.1 else (W u).2.1) = q0 at *
  refine ⟨_, st_v (e1 := e) (d := md (St q0)) ?_ (q.ok (by decide) (by decide)), q.set (by decide) (by decide) (Fre.val _)⟩
  have hi : item (wd (q0 :: r)) (.int 0) = some (.int q0) := by simp [wd]
  generalize wd (q0 :: r) = dw at *
  simp [h11, hi, frzs, frz_v, sizeL, md_St]
theorem st10 {m : M} {k : Int} {j : Nat} (h12 : e[12]? = some (.val (md m))) (h9 : e[9]? = some (.val (.int k))) (ho : setOk e 12 = true) (hb : BdM j m) (hj : j ≤ 100000) (hk : k.natAbs ≤ 800) : exB T cf b10 e = .ok .next (e.set 12 (.val (md (stpM m k)))) := by
  have e1 := sp42 197 m Tn hb bd_T (by omega)
  have e2 := sp42 197 (P m Tn) (St k) (hb.P bd_T) (bd_St hk) (by omega)
  have c1 : evE T cf false (.call 42 [.var 12, .tup [.int 0, .neg (.int 1), .int 1, .int 0]]) e = .ok (.v (md (P m Tn))) e := ev_c2 (va h12) (by simp [frzs, frz_v, sizeL, intD, md_T]) e1
  have c2 : evE T cf false (.call 42 [.call 42 [.var 12, .tup [.int 0, .neg (.int 1), .int 1, .int 0]], .tup [.int 1, .var 9, .int 0, .int 1]]) e = .ok (.v (md (stpM m k))) e := ev_c2 c1 (by simp [h9, frzs, frz_v, sizeL, md_St]) e2
  rw [b10, x_b1, st_v c2 ho]
  simp
theorem lp10 (ho : out912 rest) : ∀ (qs : List Int) (m : M) (j : Nat) (e : EV), Q 21 rest e → e[12]? = some (.val (md m)) → BdM j m → j + 13 * qs.length ≤ 100000 → (∀ k ∈ qs, k.natAbs ≤ 800) →
    ∃ e', forL (fun d e => opt (asg (.nm 9) d e) fun e1 => exB T cf b10 e1) (qs.map D.int) e = .ok .next e' ∧ Q 21 rest e' ∧ e'[12]? = some (.val (md (qs.foldl stpM m)))
  | [], m, j, e, q, h12, _, _, _ => ⟨e, by simp, q, h12⟩
  | k :: qs, m, j, e, q, h12, hb, hj, hk => by
    simp only [List.length_cons] at hj
    have q1 := Q.over q (i := 9) (t := .val (.int k)) (by decide) (by decide) (Fre.val _) (fun p hp => (ho p hp).1)
    have g12 : (e.set 9 (.val (.int k)))[12]? = some (.val (md m)) := by rw [get_ne _ _ _ _ (by decide)]; exact h12
    have hx := st10 (k := k) g12 q1.g0 (q1.ok (by decide) (by decide)) hb (by omega) (hk k (by simp))
    have q2 := Q.over q1.tl (i := 12) (t := .val (md (stpM m k))) (by decide) (by decide) (Fre.val _) (fun p hp => (ho p hp).2)
    have hb2 : BdM (j + 13) (stpM m k) := ((hb.P bd_T).P (bd_St (hk k (by simp)))).mono (by omega)
    obtain ⟨e', i1, i2, i3⟩ := lp10 ho qs (stpM m k) (j + 13) _ q2.tl q2.g0 hb2 (by omega) (fun x hx => hk x (by simp [hx]))
    refine ⟨e', ?_, i2, i3⟩
    rw [List.map_cons, forL_cons, x_asg, q.ok (i := 9) (by decide) (by decide)]
    simp only [if_true, opt, hx, bd_ok]
    exact i1
theorem la10 (ho : out912 rest) (q : Q 21 rest e) (h11 : e[11]? = some (.val (wd (quoC (W u))))) (h12 : e[12]? = some (.val (md (St ((quoC (W u)).headD 0))))) (hu : red u) (hl : u.length ≤ 14) :
    ∃ e', exS T cf lap10 e = .ok .next e' ∧ Q 21 rest e' ∧ e'[12]? = some (.val (md (W u))) := by
  have hC := (W_sh hu (by omega)).C
  have hC2 := C_quo (W u)
  have hms := mem_sumA (quoC (W u))
  have hM := quoC_M (W_good u)
  obtain ⟨r, hr⟩ := quo_head (W_good u)
  rw [hr] at h11 h12 hC2 hms hM
  generalize (if 0 < (W u).2.2.1 then near (W u).1 (W u).2.2.1 else (W u).2.1) = q0 at *
  simp only [List.headD_cons] at h12
  have hq0 := hms q0 (by simp)
  simp only [List.length_cons] at hC2
  obtain ⟨e', i1, i2, i3⟩ := lp10 ho r (St q0) 10 e q h12 (bd_St (by omega)) (by omega) (fun k hk => by have := hms k (by simp [hk]); omega)
  rw [fold_quo, hM] at i3
  refine ⟨e', ?_, i2, i3⟩
  have hi : evI T cf (.e (.sl (.var 11) (some (.int 1)) none)) e = .ok (r.map D.int) e := by
    have : sliceD (wd (q0 :: r)) (some 1) none = some (.v (.tup (r.map D.int))) := by
      show some (RV.v (.tup (cutD _ _ _))) = _
      rw [cut_from1]; rfl
    generalize wd (q0 :: r) = dw at *
    simp [h11, this, intD, frz]
  rw [lap10, x_for, hi]
  simp only [bd_ok]
  exact i1
theorem la11 (h6 : e[6]? = some (.val (md (W u)))) (h11 : e[11]? = some (.val (wd (quoC (W u))))) (h12 : e[12]? = some (.val (md (W u)))) (hu : red u) (hl : u.length ≤ 14) : exS T cf lap11 e = .ok .next e := by
  refine st_or ?_
  rw [or1 (ne_md (va h12) (va h6)), x_v1]
  have hsh := W_sh hu (by omega)
  obtain ⟨r, hr⟩ := quo_head (W_good u)
  rw [hr] at h11
  have hi : ∀ q0 : Int, item (wd (q0 :: r)) (.int 0) = some (.int q0) := by intro q0; simp [wd]
  have a1 : evE T cf false (.ix (.var 11) (.int 0)) e = .ok (.v (.int (if 0 < (W u).2.2.1 then near (W u).1 (W u).2.2.1 else (W u).2.1))) e := by
    have := hi (if 0 < (W u).2.2.1 then near (W u).1 (W u).2.2.1 else (W u).2.1)
    generalize wd ((if 0 < (W u).2.2.1 then near (W u).1 (W u).2.2.1 else (W u).2.1) :: r) = dw at *
    simp [h11, this]
  refine ne_int a1 ?_
  have m2 : ∀ i : Int, mulOk 2 i = true := fun i => mulOk_l (by decide)
  have hcb : (W u).2.2.1.natAbs < 2 ^ 60 := hsh.bd.2.2.1
  generalize W u = m at *
  have i2 : item (md m) (.int 2) = some (.int m.2.2.1) := rfl
  have i0 : item (md m) (.int 0) = some (.int m.1) := rfl
  have i1 : item (md m) (.int 1) = some (.int m.2.1) := rfl
  by_cases hc : 0 < m.2.2.1
  · have hd : divOk (2 * m.2.2.1) = true := by
      apply dvB (by omega)
      exact Nat.lt_of_lt_of_le (show (2 * m.2.2.1).natAbs < 2 ^ 61 by omega) (Nat.pow_le_pow_right (by decide) (by decide))
    have hn : near m.1 m.2.2.1 = 0 - (m.2.2.1 - 2 * m.1) / (2 * m.2.2.1) := by unfold near; rw [if_neg (by omega)]
    rw [if_pos hc, hn]
    generalize md m = dm at *
    simp [h6, i2, i0, i1, hc, m2, hd, toB, tst, truth, opt]
  · rw [if_neg hc]
    generalize md m = dm at *
    simp [h6, i2, i0, i1, hc, toB, tst, truth, opt]
theorem la12 (q : Q 21 kv e) (h10 : e[10]? = some (.val (wd v))) (hv : red v) (hl : v.length ≤ 11) :
    ∃ e', exS T cf lap12 e = .ok .next e' ∧ Q 21 ((13, .val (md (W v))) :: kv.filter fun p => p.1 != 13) e' :=
  ⟨_, st_v (ev_c1 (.inl (va h10)) (sp45w 196 v hv.1 (by omega) _ (.inl rfl))) (q.ok (by decide) (by decide)), q.set (by decide) (by decide) (Fre.val _)⟩
def tn (u v : List Int) : List Int := shrt (back v ++ u ++ v)
theorem tn_ok (hu : red u) (hv : red v) : red (tn u v) ∧ W (tn u v) = P (P (W (back v)) (W u)) (W v) ∧ ring (tn u v) = ring u := by
  have ok : okL (back v ++ u ++ v) := okL_app.mpr ⟨okL_app.mpr ⟨back_okL hv.1, hu.1⟩, hv.1⟩
  exact ⟨shrt_red ok, by unfold tn; rw [(shrt_W ok).1, W_app, W_app], ring_back v hu hv.1⟩
theorem tn_len (hlu : u.length ≤ 14) (hlv : v.length ≤ 11) : (tn u v).length ≤ 36 := by
  have := shrt_len (back v ++ u ++ v)
  have hb : (back v).length = v.length := by simp [back]
  simp only [List.length_append] at this
  unfold tn
  omega
theorem la13 (q : Q 21 kv e) (h6 : e[6]? = some (.val (md (W u)))) (h13 : e[13]? = some (.val (md (W v)))) (hu : red u) (hv : red v) (hlu : u.length ≤ 14) (hlv : v.length ≤ 11) :
    ∃ e', exS T cf lap13 e = .ok .next e' ∧ Q 21 ((14, .val (md (W (tn u v)))) :: kv.filter fun p => p.1 != 14) e' := by
  have e43 := sp43 197 (W v)
  rw [← W_adj hv.1] at e43
  have b1 := (W_Le _ (back v) rfl (back_okL hv.1)).bd
  have b2 := (W_Le _ u rfl hu.1).bd
  have b3 := (W_Le _ v rfl hv.1).bd
  have hbl : (back v).length = v.length := by simp [back]
  have e1 := sp42 197 (W (back v)) (W u) b1 b2 (by omega)
  have e2 := sp42 197 (P (W (back v)) (W u)) (W v) (b1.P b2) b3 (by omega)
  rw [← (tn_ok hu hv).2.1] at e2
  exact ⟨_, st_v (ev_c2 (ev_c2 (ev_c1 (.inl (va h13)) e43) (va h6) e1) (va h13) e2) (q.ok (by decide) (by decide)), q.set (by decide) (by decide) (Fre.val _)⟩
theorem la14 (q : Q 21 kv e) (h5 : e[5]? = some (.val (wd u))) (h14 : e[14]? = some (.val (md (W (tn u v))))) (hu : red u) (hv : red v) (hlu : u.length ≤ 14) (hlv : v.length ≤ 11) :
    ∃ e', exS T cf lap14 e = .ok .next e' ∧ Q 21 ((16, .val (wd (ring u))) :: (15, .val (wd (ring u))) :: kv.filter fun p => p.1 != 15 && p.1 != 16) e' := by
  obtain ⟨t1, t2, t3⟩ := tn_ok hu hv
  have tl := tn_len hlu hlv
  have c1 : evE T cf false (.call 49 [.var 5]) e = .ok (.v (wd (ring u))) e := ev_c1 (.inl (va h5)) (sp49 197 u hu (by omega))
  have s49 := sp49 197 (tn u v) t1 (by omega)
  rw [t3] at s49
  have c2 : evE T cf false (.call 49 [.call 47 [.var 14]]) e = .ok (.v (wd (ring u))) e := ev_c1 (.inl (ev_c1 (.inl (va h14)) (sp47 195 (tn u v) t1 (by omega)))) s49
  have q1 := q.set (i := 15) (t := .val (wd (ring u))) (by decide) (by decide) (Fre.val _)
  have q2 := q1.set (i := 16) (t := .val (wd (ring u))) (by decide) (by decide) (Fre.val _)
  refine ⟨_, ?_, q2.sub ?_⟩
  · rw [lap14, x_par, x_a1, c1]
    simp only [bd_ok]
    rw [x_a1, c2]
    simp only [bd_ok, x_a0, x_fzs1, x_fzs0, x_fz_v, Option.bind, Option.map, opt, x_setRs1, x_setRs0, x_setR_v, q.ok (i := 15) (by decide) (by decide), q1.ok (i := 16) (by decide) (by decide), if_true]
  · intro p hp
    simp only [List.mem_cons, List.mem_filter] at hp ⊢
    rcases hp with rfl | rfl | ⟨hp, h⟩
    · simp
    · simp
    · simp at h
      simp [hp, h]
theorem lets : ∀ ds : List D, (∀ d ∈ ds, ∃ r : Int, d = .int (1 + r) ∧ 0 ≤ r ∧ r < 3) → ∃ w : List Int, ds = w.map D.int ∧ okL w
  | [], _ => ⟨[], rfl, okL_nil⟩
  | d :: ds, h => by
    obtain ⟨r, rfl, r0, r3⟩ := h d (by simp)
    obtain ⟨w, rfl, hw⟩ := lets ds (fun x hx => h x (by simp [hx]))
    exact ⟨(1 + r) :: w, rfl, okL_cons.mpr ⟨by omega, hw⟩⟩
theorem sp48w (n : Nat) (x y z : Int) (hz0 : 0 ≤ z) (hz : z ≤ 900) :
    ∃ p x' z', red p ∧ p.length ≤ 8 ∧ 0 ≤ z' ∧ z' ≤ z + 9 ∧ callF T (n+4) 48 [.bor (tinD x y z), .val (.int 9)] = .ok (.v (md (W p))) [.bor (tinD x' y z'), .val (.int 9)] := by
  rw [x_callF T (n+3) 48 _ (F := f48) rfl rfl]
  obtain ⟨r, x1, z1, r0, r3, z0, z1', e⟩ := sp33 (n + 2) x y z 9 (by decide) (by decide) hz0 (by omega)
  have hr : rngD [.int r] = some ((List.range r.toNat).map fun (k : Nat) => .int (0 + (k : Int))) := rngD_one r (by omega) (by omega)
  generalize hds : ((List.range r.toNat).map fun (k : Nat) => D.int (0 + (k : Int))) = ds at hr
  have hlen : ds.length ≤ 8 := by rw [← hds]; simp; omega
  obtain ⟨acc, x', z', ha, hl, hz0', hz1, h⟩ := lp48 (n + 2) y (.val (.int 9)) ds x1 z1 [] z0 (by omega) (by simp; omega) (by simp)
  obtain ⟨w, rfl, hw⟩ := lets acc ha
  simp at hl
  have hs := shrt_len w
  have e2 := sp45w n w hw (by omega) _ (.inr rfl)
  rw [← (shrt_W hw).1] at e2
  refine ⟨shrt w, x', z', shrt_red hw, by omega, hz0', by omega, ?_⟩
  show fin [.bor (tinD x y z), .val (.int 9)] (exB T (callF T (n+3)) [.ret (.call 45 [.comp [2] (.rng [.call 33 [.var 0, .var 1]]) (.nm 2) none elt48])] [.bor (tinD x y z), .val (.int 9), .un]) = _
  unfold wl_ at e2
  generalize w.map D.int = L at *
  simp [e, hr, wipeE]
  simp at h
  rw [h]
  simp [unwipe, e2, retR, outs]
theorem la15 (q : Q 21 kv e) (h1 : e[1]? = some (.own (tinD x y z))) (hz0 : 0 ≤ z) (hz : z ≤ 800) :
    ∃ p x' z', red p ∧ p.length ≤ 8 ∧ 0 ≤ z' ∧ z' ≤ z + 9 ∧ ∃ e', exS T cf lap15 e = .ok .next e' ∧ Q 21 ((17, .val (md (W p))) :: (1, .own (tinD x' y z')) :: kv.filter fun p => p.1 != 1 && p.1 != 17) e' := by
  obtain ⟨p, x1, z1, hp, hl, k0, k1, hc⟩ := sp48w 195 x y z hz0 (by omega)
  simp at hc
  have q1 := q.set (i := 1) (t := .own (tinD x1 y z1)) (by decide) (by decide) (Fre.own _)
  have q2 := q1.set (i := 17) (t := .val (md (W p))) (by decide) (by decide) (Fre.val _)
  refine ⟨p, x1, z1, hp, hl, k0, k1, _, st_v (e1 := e.set 1 (.own (tinD x1 y z1))) (d := md (W p)) (by simp [h1, hc]) (q1.ok (by decide) (by decide)), q2.sub ?_⟩
  intro p hp
  simp only [List.mem_cons, List.mem_filter] at hp ⊢
  rcases hp with rfl | rfl | ⟨hp, h⟩
  · simp
  · simp
  · simp at h
    simp [hp, h]
def got16 (u p : List Int) : List D := [wd (ring u), wd (ring u), .bl true, .bl (decide (ring u = ring p))]
theorem la16 (q : Q 21 kv e) (h5 : e[5]? = some (.val (wd u))) (h6 : e[6]? = some (.val (md (W u)))) (h14 : e[14]? = some (.val (md (W (tn u v))))) (h17 : e[17]? = some (.val (md (W p)))) (hu : red u) (hv : red v) (hp : red p) (hlu : u.length ≤ 14) (hlv : v.length ≤ 11) (hlp : p.length ≤ 8) :
    ∃ e', exS T cf lap16 e = .ok .next e' ∧ Q 21 ((7, .own (.lst (got16 u p))) :: kv.filter fun p => p.1 != 7) e' := by
  refine ⟨_, st_t (e1 := e) (d := .lst (got16 u p)) ?_ (q.ok (by decide) (by decide)), q.set (by decide) (by decide) (Fre.own _)⟩
  obtain ⟨t1, t2, t3⟩ := tn_ok hu hv
  have tl := tn_len hlu hlv
  have c1 : evE T cf false (.callk 29 [] ["word"] [.var 5]) e = .ok (.v (wd (ring u))) e := ev_k1 fn29 kw29 (.inl (va h5)) (sp29 193 u hu (by omega))
  have s22 := sp22 194 (W (tn u v)) (W_sh t1 (by omega)) _ (.inl rfl)
  rw [wordC_W t1] at s22
  have s29 := sp29 193 (tn u v) t1 (by omega)
  rw [t3] at s29
  have c2 : evE T cf false (.call 29 [.call 22 [.var 14]]) e = .ok (.v (wd (ring u))) e := ev_c1 (.inl (ev_c1 (.inl (va h14)) s22)) s29
  have s30 := sp30 194 u (tn u v) hu t1 (by omega) (by omega)
  rw [t3, decide_eq_true rfl] at s30
  have c3 : evE T cf false (.callk 30 [] ["one", "other"] [.var 6, .var 14]) e = .ok (.v (.bl true)) e := ev_k2 fn30 kw30 (va h6) (.inl (va h14)) s30
  have c4 : evE T cf false (.call 30 [.var 6, .var 17]) e = .ok (.v (.bl (decide (ring u = ring p)))) e := ev_c2 (va h6) (va h17) (sp30 194 u p hu hp (by omega) (by omega))
  rw [x_lst, x_a1, c1]
  simp only [bd_ok]
  rw [x_a1, c2]
  simp only [bd_ok]
  rw [x_a1, c3]
  simp only [bd_ok]
  rw [x_a1, c4]
  simp only [bd_ok, x_a0, x_frzs1, x_frzs0, x_frz_v, Option.bind, Option.map, opt, tst, Bool.false_eq_true, if_false]
  rfl
theorem ring_len (hu : red u) (hl : u.length ≤ 100) : (ring u).length ≤ 100 := by
  unfold ring canon
  have h1 := cyc_ok u.length u hu
  have h2 := (tmin_ok (rots_ne (cyc u.length u))).1
  obtain ⟨a, b, e1, e2⟩ := mem_rots.mp h2
  rw [e2]
  rw [e1] at h1
  simp only [List.length_append] at h1 ⊢
  omega
theorem la17 (q : Q 21 kv e) (h7 : e[7]? = some (.own (.lst (got16 u p)))) (h15 : e[15]? = some (.val (wd (ring u)))) (h16 : e[16]? = some (.val (wd (ring u)))) (h17 : e[17]? = some (.val (md (W p)))) (hu : red u) (hp : red p) (hlu : u.length ≤ 14) (hlp : p.length ≤ 8) :
    ∃ e', exS T cf lap17 e = .ok .next e' ∧ Q 21 ((7, .val (.lst (got16 u p))) :: kv.filter fun p => p.1 != 7) e' := by
  have hrl := ring_len hu (by omega)
  have hdp : dp 2 (.lst (got16 u p)) := dp_lst (Nat.le_of_ble_eq_true rfl) (by
    intro y hy
    simp only [got16, List.mem_cons, List.not_mem_nil, or_false] at hy
    rcases hy with rfl | rfl | rfl | rfl
    · exact dp_wd 0 (by omega)
    · exact dp_wd 0 (by omega)
    · exact dp_fl 1 rfl
    · exact dp_fl 1 rfl)
  have c1 : evE T cf false (.call 49 [.call 47 [.var 17]]) e = .ok (.v (wd (ring p))) e := ev_c1 (.inl (ev_c1 (.inl (va h17)) (sp47 195 p hp (by omega)))) (sp49 197 p hp (by omega))
  have c2 : evE T cf false (.cmp .Eq (.var 15) (.call 49 [.call 47 [.var 17]])) e = .ok (.v (.bl (decide (ring u = ring p)))) e := by
    rw [x_cmp, va h15]
    simp only [bd_ok]
    rw [c1]
    simp [cmpop, eqD_wd]
  have hb : evE T cf false (.lst [.var 15, .var 15, .bl true, .cmp .Eq (.var 15) (.call 49 [.call 47 [.var 17]])]) e = .ok (.t (.lst (got16 u p))) e := by
    rw [x_lst, x_a1, va h15]
    simp only [bd_ok]
    rw [x_a1, va h15]
    simp only [bd_ok]
    rw [x_a1, x_bl]
    simp only [tst_false, bd_ok]
    rw [x_a1, c2]
    simp only [bd_ok, x_a0, x_frzs1, x_frzs0, x_frz_v, Option.bind, Option.map, opt, tst, Bool.false_eq_true, if_false]
    rfl
  have q1 := q.set (i := 7) (t := .val (.lst (got16 u p))) (by decide) (by decide) (Fre.val _)
  refine ⟨_, st_or ?_, q1⟩
  rw [or1 (ntrue (b := true) (ev36h 2 (by decide) h7 hb (.inr rfl) h7 hdp)), x_v1]
  have g15 : (e.set 7 (.val (.lst (got16 u p))))[15]? = some (.val (wd (ring u))) := by rw [get_ne _ _ _ _ (by decide)]; exact h15
  have g16 : (e.set 7 (.val (.lst (got16 u p))))[16]? = some (.val (wd (ring u))) := by rw [get_ne _ _ _ _ (by decide)]; exact h16
  exact ne_wd (va g15) (va g16)
end
end PL.K01
end

section
set_option exponentiation.threshold 5000
namespace PL.K01
open PL PL.K00 PL.RY PL.WD PySem PySem.Spec L2

def isBl (b : Bool) (c : CO) : Bool := match c with | .ok (.v (.bl x)) _ => x == b | _ => false
theorem isBl_out {b : Bool} {c : CO} (h : isBl b c = true) : ∃ as, c = .ok (.v (.bl b)) as := by
  unfold isBl at h
  split at h
  · exact ⟨_, by rw [eq_of_beq h]⟩
  · cases h
def isTo (x : Str) (c : CO) : Bool := match c with | .ok (.t (.lst [.str y, .bl true])) _ => decide (y = x) | _ => false
theorem isTo_out {x : Str} {c : CO} (h : isTo x c = true) : ∃ as, c = .ok (.t (.lst [.str x, .bl true])) as := by
  unfold isTo at h
  split at h
  · exact ⟨_, by rw [of_decide_eq_true h]⟩
  · cases h
def isIn (i : Int) (c : CO) : Bool := match c with | .ok (.v (.int x)) _ => decide (x = i) | _ => false
theorem isIn_out {i : Int} {c : CO} (h : isIn i c = true) : ∃ as, c = .ok (.v (.int i)) as := by
  unfold isIn at h
  split at h
  · exact ⟨_, by rw [of_decide_eq_true h]⟩
  · cases h
theorem intsD_inv : ∀ (ds : List D) (l : List Int), intsD ds = some l → ds = l.map D.int
  | [], l, h => by cases h; rfl
  | d :: ds, l, h => by
    cases d with
    | int i =>
      have h : (intsD ds).map (fun l => i :: l) = some l := h
      cases hx : intsD ds with
      | none => rw [hx] at h; cases h
      | some l' =>
        rw [hx] at h
        cases h
        rw [intsD_inv ds l' hx]; rfl
    | _ => exact absurd h (by simp [intsD])
theorem intsT_inv : ∀ (ds : List D) (l : List (List Int)), intsT ds = some l → ds = l.map wd
  | [], l, h => by cases h; rfl
  | d :: ds, l, h => by
    cases d with
    | tup xs =>
      have h : (intsD xs).bind (fun l => (intsT ds).map fun r => l :: r) = some l := h
      cases hx : intsD xs with
      | none => rw [hx] at h; cases h
      | some l' =>
        rw [hx] at h
        have h : (intsT ds).map (fun r => l' :: r) = some l := h
        cases hy : intsT ds with
        | none => rw [hy] at h; cases h
        | some r =>
          rw [hy] at h
          cases h
          rw [intsT_inv ds r hy, intsD_inv xs l' hx]; rfl
    | _ => exact absurd h (by simp [intsT])
def isRows (l : List (List Int)) (c : CO) : Bool := match c with
  | .ok (.t (.lst ds)) _ => match intsT ds with
    | some l' => decide (l' = l)
    | none => false
  | _ => false
theorem isRows_out {l : List (List Int)} {c : CO} (h : isRows l c = true) : ∃ as, c = .ok (.t (.lst (l.map wd))) as := by
  unfold isRows at h
  split at h
  · split at h
    · next hx => exact ⟨_, by rw [intsT_inv _ _ hx, of_decide_eq_true h]⟩
    · cases h
  · cases h
def isRow (l : List Int) (c : CO) : Bool := match c with
  | .ok (.v (.tup ds)) _ => match intsD ds with
    | some l' => decide (l' = l)
    | none => false
  | _ => false
theorem isRow_out {l : List Int} {c : CO} (h : isRow l c = true) : ∃ as, c = .ok (.v (wd l)) as := by
  unfold isRow at h
  split at h
  · split at h
    · next hx => exact ⟨_, by rw [intsD_inv _ _ hx, of_decide_eq_true h]; rfl⟩
    · cases h
  · cases h
/-! all short rows of a length -/
def AW : Nat → List (List Int)
  | 0 => [[]]
  | k + 1 => (AW k).flatMap fun w => ([1, 2, 3] : List Int).filterMap fun o => if w.isEmpty || ((w.getLastD 0 == 1) != (o == 1)) then some (w ++ [o]) else none
def row4 (m : M) : List Int := [m.1, m.2.1, m.2.2.1, m.2.2.2]
def okB (w : List Int) : Bool := w.all fun l => decide (l = 1) || decide (l = 2) || decide (l = 3)
theorem okB_ok {w : List Int} (h : okB w = true) : okL w := fun l hl => by
  have := List.all_eq_true.mp h l hl
  simp only [Bool.or_eq_true, decide_eq_true_eq] at this
  rcases this with (h | h) | h
  · exact .inl h
  · exact .inr (.inl h)
  · exact .inr (.inr h)
def fact1 (k : Nat) : Bool := isRows (AW k) (cf 27 [.val (.int k)])
def fact2 (k : Nat) : Bool := isIn (AW k).length (cf 28 [.val (.int k)])
def fact3 (k : Nat) : Bool := decide (lsetN ((AW k).map fun w => row4 (W w)) = some ((AW k).length : Int)) && decide (ssort (AW k) = some (AW k)) && (AW k).all (fun w => altB w && okB w && decide (w.length = k)) && decide ((AW k).length ≤ 100)
def fact4 (k : Nat) : Bool := isBl true (cf 40 [.val (.fn 27), .val (.tup [.int k]), .val (.lst ((AW k).map wd))])
def fact5 (k : Nat) : Bool := decide (eqD (.lst ((AW k).map wd)) (.lst ((AW k).map wd)) = some true)
theorem all1 : ∀ k < 8, fact1 k = true := by decide +kernel
theorem all2 : ∀ k < 8, fact2 k = true := by decide +kernel
theorem all3 : ∀ k < 8, fact3 k = true := by decide +kernel
theorem all4 : ∀ k < 8, fact4 k = true := by decide +kernel
theorem all5 : ∀ k < 8, fact5 k = true := by decide +kernel
end PL.K01
end

section
set_option exponentiation.threshold 5000
namespace PL.K01
open PL PL.K00 PL.RY PL.WD PySem PySem.Spec L2

def AD (k : Nat) : List D := (AW k).map wd
structure FK (k : Nat) : Prop where
  a : ∃ as, cf 27 [.val (.int k)] = .ok (.t (.lst (AD k))) as
  b : ∃ as, cf 28 [.val (.int k)] = .ok (.v (.int (AW k).length)) as
  c : lsetN ((AW k).map fun w => row4 (W w)) = some ((AW k).length : Int)
  d : ssort (AW k) = some (AW k)
  e : ∀ w ∈ AW k, red w ∧ w.length = k
  l : (AW k).length ≤ 100
  f : ∃ as, cf 40 [.val (.fn 27), .val (.tup [.int k]), .val (.lst (AD k))] = .ok (.v (.bl true)) as
  g : eqD (.lst (AD k)) (.lst (AD k)) = some true
theorem fk {k : Nat} (h : k < 8) : FK k where
  a := isRows_out (all1 k h)
  b := isIn_out (all2 k h)
  c := by
    have := all3 k h
    simp only [fact3, Bool.and_eq_true, decide_eq_true_eq] at this
    exact this.1.1.1
  d := by
    have := all3 k h
    simp only [fact3, Bool.and_eq_true, decide_eq_true_eq] at this
    exact this.1.1.2
  e := fun w hw => by
    have := all3 k h
    simp only [fact3, Bool.and_eq_true, decide_eq_true_eq] at this
    have := List.all_eq_true.mp this.1.2 w hw
    simp only [Bool.and_eq_true, decide_eq_true_eq] at this
    exact ⟨⟨okB_ok this.1.2, this.1.1⟩, this.2⟩
  l := by
    have := all3 k h
    simp only [fact3, Bool.and_eq_true, decide_eq_true_eq] at this
    exact this.2
  f := isBl_out (all4 k h)
  g := of_decide_eq_true (all5 k h)
section
variable {e : EV} {x y z : Int} {k : Nat} {kv : List (Nat × SV)}
theorem en2 (q : Q 21 kv e) (h1 : e[1]? = some (.own (tinD x y z))) (hz0 : 0 ≤ z) (hz : z ≤ 800) : ∃ k : Nat, k < 8 ∧ ∃ e', exS T cf end2 e = .ok .next e' ∧ Q 21 [(18, .val (.int k))] e' := by
  obtain ⟨r, x1, z1, r0, r3, z0, z1', e1⟩ := sp33 198 x y z 8 (by decide) (by decide) hz0 (by omega)
  simp at e1
  obtain ⟨k, rfl⟩ : ∃ k : Nat, r = k := ⟨r.toNat, by omega⟩
  have q1 := q.set (i := 1) (t := .own (tinD x1 y z1)) (by decide) (by decide) (Fre.own _)
  have q2 := q1.set (i := 18) (t := .val (.int k)) (by decide) (by decide) (Fre.val _)
  exact ⟨k, by omega, _, st_v (e1 := e.set 1 (.own (tinD x1 y z1))) (d := .int k) (by simp [h1, e1]) (q1.ok (by decide) (by decide)), q2.sub (by simp)⟩
theorem en3 (q : Q 21 kv e) (h18 : e[18]? = some (.val (.int k))) (F : FK k) : ∃ e', exS T cf end3 e = .ok .next e' ∧ Q 21 ((19, .own (.lst (AD k))) :: kv.filter fun p => p.1 != 19) e' := by
  obtain ⟨as, h⟩ := F.a
  exact ⟨_, st_t (ev_k1 fn27 kw27 (.inl (va h18)) h) (q.ok (by decide) (by decide)), q.set (by decide) (by decide) (Fre.own _)⟩
theorem evI_own {i : Nat} {ds : List D} (h : e[i]? = some (.own (.lst ds))) : evI T cf (.e (.var i)) e = .ok ds (e.set i (.val (.lst ds))) := by
  simp [h, frz]
theorem evI_val {i : Nat} {ds : List D} (h : e[i]? = some (.val (.lst ds))) : evI T cf (.e (.var i)) e = .ok ds e := by
  simp [h, frz]
theorem md_row (m : M) : md m = wd (row4 m) := rfl
theorem en4 (q : Q 21 kv e) (h18 : e[18]? = some (.val (.int k))) (h19 : e[19]? = some (.own (.lst (AD k)))) (F : FK k) (hk : k < 8) : ∃ e', exS T cf end4 e = .ok .next e' ∧ Q 21 ((19, .val (.lst (AD k))) :: kv.filter fun p => p.1 != 19) e' := by
  have q1 := q.set (i := 19) (t := .val (.lst (AD k))) (by decide) (by decide) (Fre.val _)
  obtain ⟨s9, h9, _⟩ := q1.fre (i := 9) (by decide) (by decide)
  have g18 : (e.set 19 (.val (.lst (AD k))))[18]? = some (.val (.int k)) := by rw [get_ne _ _ _ _ (by decide)]; exact h18
  have g19 := q1.g0
  have hc := ev_comp (T := T) (cf := cf) (e := e) (e1 := e.set 19 (.val (.lst (AD k)))) (i := 9) (it := .e (.var 19)) (cond := none) (elt := .call 45 [.var 9]) (ds := AD k) (fun _ => true) (fun d => match cf 45 [.val d] with | .ok (.v x) _ => x | _ => .non) (evI_own h19) h9 (by have := F.l; simp [AD]; omega) (by
    intro d hd
    obtain ⟨w, hw, rfl⟩ := List.mem_map.mp hd
    obtain ⟨hr, hl⟩ := F.e w hw
    have e45 := sp45w 196 w hr.1 (by omega) _ (.inl rfl)
    have e45 : cf 45 [.val (wd w)] = _ := e45
    refine ⟨x_c0 .., fun _ => .inl ?_⟩
    have g9 : ((e.set 19 (.val (.lst (AD k)))).set 9 (.val (wd w)))[9]? = some (.val (wd w)) := get_set _ (lt_of_get h9)
    rw [ev_c1 (.inl (va g9)) e45, e45])
  have hm : ((AD k).filter fun _ => true).map (fun d => match cf 45 [.val d] with | .ok (.v x) _ => x | _ => .non) = ((AW k).map fun w => row4 (W w)).map wd := by
    rw [List.filter_eq_self.mpr (fun _ _ => rfl), AD, List.map_map, List.map_map]
    apply List.map_congr_left
    intro w hw
    obtain ⟨hr, hl⟩ := F.e w hw
    have e45 := sp45w 196 w hr.1 (by omega) _ (.inl rfl)
    have e45 : cf 45 [.val (wd w)] = _ := e45
    show (match cf 45 [.val (wd w)] with | .ok (.v x) _ => x | _ => .non) = wd (row4 (W w))
    rw [e45]; rfl
  rw [hm] at hc
  refine ⟨_, st_or ?_, q1⟩
  obtain ⟨as, h28⟩ := F.b
  have c1 : evE T cf false (.lset (.comp [9] (.e (.var 19)) (.nm 9) none (.call 45 [.var 9]))) e = .ok (.v (.int (AW k).length)) (e.set 19 (.val (.lst (AD k)))) := by
    rw [x_lset, hc]
    have hr : rowsD (.lst (((AW k).map fun w => row4 (W w)).map wd)) = some ((AW k).map fun w => row4 (W w)) := intsT_wd _
    simp only [tst_false, bd_ok, x_cont_t, Option.bind, hr, opt, F.c]
  have c2 : evE T cf false (.callk 28 [] ["length"] [.var 18]) (e.set 19 (.val (.lst (AD k)))) = .ok (.v (.int (AW k).length)) (e.set 19 (.val (.lst (AD k)))) := ev_k1 fn28 kw28 (.inl (va g18)) h28
  rw [or1 (ne_int c1 c2), x_v1]
  have c3 : evE T cf false (.sset (.var 19)) (e.set 19 (.val (.lst (AD k)))) = .ok (.t (.lst (AD k))) (e.set 19 (.val (.lst (AD k)))) := by
    rw [x_sset, va g19]
    have hr : rowsD (.lst (AD k)) = some (AW k) := intsT_wd _
    simp only [tst_false, bd_ok, x_cont_v, Option.bind, hr, opt, F.d]
    rfl
  rw [x_cmp, va g19]
  simp only [bd_ok]
  rw [c3]
  have hg := F.g
  generalize AD k = L at *
  simp [cmpop, hg, tst, truth, opt]
end
end PL.K01
end

section
set_option exponentiation.threshold 5000
namespace PL.K01
open PL PL.K00 PL.RY PL.WD PySem PySem.Spec L2

section
variable {e : EV} {x y z : Int} {k : Nat} {kv : List (Nat × SV)}
theorem ll_ne {e e1 : EV} {a b : E} (ha : evE T cf false a e = .ok (.t (.lst [])) e1) (hb : evE T cf false b e1 = .ok (.t (.lst [])) e1) : evE T cf true (.cmp .NotEq a b) e = .ok (.v (.bl false)) e1 := by
  have h : eqD (.lst []) (.lst []) = some true := by decide +kernel
  rw [x_cmp, ha]
  simp only [bd_ok]
  rw [hb]
  simp [cmpop, h, tst, truth, opt]
theorem en5 (q : Q 21 kv e) (h18 : e[18]? = some (.val (.int k))) (h19 : e[19]? = some (.val (.lst (AD k)))) (F : FK k) (hk : k < 8) : exS T cf end5 e = .ok .next e := by
  obtain ⟨s9, h9, _⟩ := q.fre (i := 9) (by decide) (by decide)
  have hc := ev_comp (T := T) (cf := cf) (e := e) (e1 := e) (i := 9) (it := .e (.var 19)) (cond := some (.andor false [.cmp .NotEq (.call 46 [.var 9]) (.var 9), .cmp .NotEq (.bi .len [.var 9]) (.var 18)])) (elt := .var 9) (ds := AD k) (fun _ => false) (fun d => d) (evI_val h19) h9 (by have := F.l; simp [AD]; omega) (by
    intro d hd
    obtain ⟨w, hw, rfl⟩ := List.mem_map.mp hd
    obtain ⟨hr, hl⟩ := F.e w hw
    have e46 := sp46 198 w hr.1 (by omega) _ (.inl rfl)
    rw [shrt_self hr.2] at e46
    have g9 : (e.set 9 (.val (wd w)))[9]? = some (.val (wd w)) := get_set _ (lt_of_get h9)
    have g18 : (e.set 9 (.val (wd w)))[18]? = some (.val (.int k)) := by rw [get_ne _ _ _ _ (by decide)]; exact h18
    refine ⟨?_, fun z => by cases z⟩
    rw [x_c1, x_andor, or1 (ne_wd (ev_c1 (.inl (va g9)) e46) (va g9)), x_v1, ne_int (m := k) (ev_bi1 (.inl (va g9)) (by rw [len_wd, hl])) (va g18)]
    rfl)
  rw [List.filter_eq_nil_iff.mpr (by simp)] at hc
  exact st_if (ll_ne hc (by simp [frzs, sizeL]))
theorem pows : ∀ k : Nat, k < 8 → powOk 1 ((k : Int) / 2) = true ∧ powOk 1 (((k : Int) + 1) / 2) = true ∧ ((AW k).length : Int) = 1 * 2 ^ ((k : Int) / 2).toNat + 1 * 2 ^ (((k : Int) + 1) / 2).toNat - (if decide ((k : Int) = 0) = true then 1 else 0) := by decide +kernel
theorem bin_shl (i j : Int) : binop .shl (.int i) (.int j) = if powOk i j then some (.v (.int (i * 2 ^ j.toNat))) else none := rfl
theorem bi_ib (b : Bool) : biF .int1 [.bl b] = some (.v (.int (if b then 1 else 0))) := rfl
theorem fl27 : (27 < T.fns.length) = True := by decide
theorem fl28 : (28 < T.fns.length) = True := by decide
theorem fl26 : (26 < T.fns.length) = True := by decide
theorem fl23 : (23 < T.fns.length) = True := by decide
theorem fl22 : (22 < T.fns.length) = True := by decide
theorem fl29 : (29 < T.fns.length) = True := by decide
theorem ev_num (h18 : e[18]? = some (.val (.int k))) (hk : k < 8) : evE T cf false (.bin .sub (.bin .add (.bin .shl (.int 1) (.bin .fdiv (.var 18) (.int 2))) (.bin .shl (.int 1) (.bin .fdiv (.bin .add (.var 18) (.int 1)) (.int 2)))) (.bi .int1 [.cmp .Eq (.var 18) (.int 0)])) e = .ok (.v (.int (AW k).length)) e := by
  obtain ⟨p1, p2, p3⟩ := pows k hk
  rw [p3]
  generalize (k : Int) = i at *
  have a1 : evE T cf false (.bin .shl (.int 1) (.bin .fdiv (.var 18) (.int 2))) e = .ok (.v (.int (1 * 2 ^ (i / 2).toNat))) e := by
    simp [h18, dv2, bin_shl, p1]
  have a2 : evE T cf false (.bin .shl (.int 1) (.bin .fdiv (.bin .add (.var 18) (.int 1)) (.int 2))) e = .ok (.v (.int (1 * 2 ^ ((i + 1) / 2).toNat))) e := by
    simp [h18, dv2, bin_shl, p2]
  have a3 : evE T cf false (.bi .int1 [.cmp .Eq (.var 18) (.int 0)]) e = .ok (.v (.int (if decide (i = 0) = true then 1 else 0))) e := by
    simp [h18, eqD_int, bi_ib]
  generalize 1 * 2 ^ (i / 2).toNat = u1 at *
  generalize 1 * 2 ^ ((i + 1) / 2).toNat = u2 at *
  generalize (if decide (i = 0) = true then (1 : Int) else 0) = u3 at *
  rw [x_bin, x_bin, a1]
  simp only [bd_ok]
  rw [a2]
  simp only [bd_ok, x_cont_v, opt, bin_add, tst_false]
  rw [a3]
  simp
theorem en6 (h18 : e[18]? = some (.val (.int k))) (h19 : e[19]? = some (.val (.lst (AD k)))) (F : FK k) (hk : k < 8) : exS T cf end6 e = .ok .next e := by
  obtain ⟨as, h⟩ := F.f
  have hlen : ((AD k).length : Int) = (AW k).length := by simp [AD]
  refine st_or ?_
  have c1 : evE T cf true (.call 40 [.fnv 27, .tup [.var 18], .var 19]) e = .ok (.v (.bl true)) e := by
    have ha : evA T cf [.fnv 27, .tup [.var 18], .var 19] e = .ok [.v (.fn 27), .v (.tup [.int k]), .v (.lst (AD k))] e := by
      generalize AD k = L at *
      simp [fl27, h18, h19, frzs, frz_v, sizeL]
    rw [ev_call ha rfl rfl h]
    simp [tst, truth, opt]
  rw [or1 (ntrue (b := true) c1), x_v1]
  have hb : biF .len [.lst (AD k)] = some (.v (.int (AW k).length)) := by rw [bi_len_l, hlen]
  exact ne_int (ev_bi1 (.inl (va h19)) hb) (ev_num h18 hk)
def things : List D := [.tup [], .tup [.int 1], .tup [.int 1, .int 2, .int 1], .tup [.int 1, .int 1], .tup [.int 2, .int 3], .tup [.int 0], .tup [.int 4], .tup [.bl true], .lst [.int 1], .non, .str "12"]
def bls : List Bool := [true, true, true] ++ List.replicate 8 false
theorem tabs : (things.zip bls).all (fun p => isBl p.2 (cf 21 [.val p.1])) = true := by decide +kernel
def outD (d : D) : D := match cf 21 [.val d] with | .ok (.v x) _ => x | _ => .non
theorem outs_ok : ∀ (ds : List D) (bs : List Bool), ds.length = bs.length → (ds.zip bs).all (fun p => isBl p.2 (cf 21 [.val p.1])) = true → ds.map outD = bs.map D.bl ∧ ∀ d ∈ ds, ∃ as, cf 21 [.val d] = .ok (.v (outD d)) as
  | [], [], _, _ => by simp
  | d :: ds, b :: bs, hl, h => by
    simp only [List.zip_cons_cons, List.all_cons, Bool.and_eq_true] at h
    simp only [List.length_cons] at hl
    obtain ⟨as, h1⟩ := isBl_out h.1
    have e : outD d = .bl b := by unfold outD; rw [h1]
    obtain ⟨i1, i2⟩ := outs_ok ds bs (by omega) h.2
    refine ⟨by rw [List.map_cons, List.map_cons, i1, e], fun x hx => ?_⟩
    rcases List.mem_cons.mp hx with rfl | hx
    · exact ⟨as, by rw [e, h1]⟩
    · exact i2 x hx
  | [], _ :: _, hl, _ => by simp at hl
  | _ :: _, [], hl, _ => by simp at hl
theorem ch0 : ∃ as, cf 50 [.val (.fn 27), .val (.tup [.int 13])] = .ok (.t (.lst [.str "many", .bl true])) as := isTo_out (by decide +kernel)
theorem ch1 : ∃ as, cf 50 [.val (.fn 27), .val (.tup [.int (-1)])] = .ok (.t (.lst [.str "unfit", .bl true])) as := isTo_out (by decide +kernel)
theorem ch2 : ∃ as, cf 50 [.val (.fn 28), .val (.tup [.int 2001])] = .ok (.t (.lst [.str "unfit", .bl true])) as := isTo_out (by decide +kernel)
theorem ch3 : ∃ as, cf 50 [.val (.fn 26), .val (.tup [.tup [.int 1, .int 1]])] = .ok (.t (.lst [.str "unfit", .bl true])) as := isTo_out (by decide +kernel)
theorem ch4 : ∃ as, cf 50 [.val (.fn 23), .val (.tup [.tup [.int 4]])] = .ok (.t (.lst [.str "unfit", .bl true])) as := isTo_out (by decide +kernel)
theorem ch5 : ∃ as, cf 50 [.val (.fn 22), .val (.tup [.tup [.int 1, .int 20001, .int 0, .int 1]])] = .ok (.t (.lst [.str "many", .bl true])) as := isTo_out (by decide +kernel)
theorem ch6 : ∃ as, cf 50 [.val (.fn 29), .val (.tup [.tup [.int 2, .int 2]])] = .ok (.t (.lst [.str "unfit", .bl true])) as := isTo_out (by decide +kernel)
theorem cst : ∃ as, cf 31 [.val (.tup [.int 1, .int 20001, .int 0, .int 1])] = .ok (.v (wd [20001])) as := isRow_out (by decide +kernel)
def ress : List D := bls.map D.bl ++ [.lst [.str "many", .bl true], .lst [.str "unfit", .bl true], .lst [.str "unfit", .bl true], .lst [.str "unfit", .bl true], .lst [.str "unfit", .bl true], .lst [.str "many", .bl true], .lst [.str "unfit", .bl true]]
theorem en7 (q : Q 21 kv e) : ∃ e', exS T cf end7 e = .ok .next e' ∧ Q 21 [(20, .own (.lst things))] e' := by
  refine ⟨_, st_t (e1 := e) (d := .lst things) ?_ (q.ok (by decide) (by decide)), (q.set (by decide) (by decide) (Fre.own _)).sub (by simp)⟩
  simp [frzs, frz_v, sizeL, things]
theorem en8 (q : Q 21 kv e) (h20 : e[20]? = some (.own (.lst things))) : ∃ e', exS T cf end8 e = .ok .next e' ∧ Q 21 [(7, .own (.lst ress))] e' := by
  have q1 := q.set (i := 20) (t := .val (.lst things)) (by decide) (by decide) (Fre.val _)
  have q2 := q1.set (i := 7) (t := .own (.lst ress)) (by decide) (by decide) (Fre.own _)
  obtain ⟨s9, h9, _⟩ := q1.fre (i := 9) (by decide) (by decide)
  obtain ⟨o1, o2⟩ := outs_ok things bls rfl tabs
  have hc := ev_comp (T := T) (cf := cf) (e := e) (e1 := e.set 20 (.val (.lst things))) (i := 9) (it := .e (.var 20)) (cond := none) (elt := .call 21 [.var 9]) (ds := things) (fun _ => true) outD (evI_own h20) h9 (by decide) (by
    intro d hd
    obtain ⟨as, h⟩ := o2 d hd
    refine ⟨x_c0 .., fun _ => .inl ?_⟩
    have g9 : ((e.set 20 (.val (.lst things))).set 9 (.val d))[9]? = some (.val d) := get_set _ (lt_of_get h9)
    exact ev_c1 (.inl (va g9)) h)
  rw [List.filter_eq_self.mpr (fun _ _ => rfl), o1] at hc
  refine ⟨_, st_t (e1 := e.set 20 (.val (.lst things))) (d := .lst ress) ?_ (q1.ok (by decide) (by decide)), q2.sub (by simp)⟩
  rw [x_bin, hc]
  generalize e.set 20 (.val (.lst things)) = e1
  have c0 : evE T cf false (.call 50 [.fnv 27, .tup [.int 13]]) e1 = .ok (.t (.lst [.str "many", .bl true])) e1 := by
    obtain ⟨as, h⟩ := ch0
    exact ev_call (rs := [.v (.fn 27), .v (.tup [.int 13])]) (by simp [fl27, frzs, frz_v, sizeL]) rfl rfl h
  have c1 : evE T cf false (.call 50 [.fnv 27, .tup [.neg (.int 1)]]) e1 = .ok (.t (.lst [.str "unfit", .bl true])) e1 := by
    obtain ⟨as, h⟩ := ch1
    exact ev_call (rs := [.v (.fn 27), .v (.tup [.int (-1)])]) (by simp [fl27, frzs, frz_v, sizeL, intD]) rfl rfl h
  have c2 : evE T cf false (.call 50 [.fnv 28, .tup [.int 2001]]) e1 = .ok (.t (.lst [.str "unfit", .bl true])) e1 := by
    obtain ⟨as, h⟩ := ch2
    exact ev_call (rs := [.v (.fn 28), .v (.tup [.int 2001])]) (by simp [fl28, frzs, frz_v, sizeL]) rfl rfl h
  have c3 : evE T cf false (.call 50 [.fnv 26, .tup [.tup [.int 1, .int 1]]]) e1 = .ok (.t (.lst [.str "unfit", .bl true])) e1 := by
    obtain ⟨as, h⟩ := ch3
    exact ev_call (rs := [.v (.fn 26), .v (.tup [.tup [.int 1, .int 1]])]) (by simp [fl26, frzs, frz_v, sizeL]) rfl rfl h
  have c4 : evE T cf false (.call 50 [.fnv 23, .tup [.tup [.int 4]]]) e1 = .ok (.t (.lst [.str "unfit", .bl true])) e1 := by
    obtain ⟨as, h⟩ := ch4
    exact ev_call (rs := [.v (.fn 23), .v (.tup [.tup [.int 4]])]) (by simp [fl23, frzs, frz_v, sizeL]) rfl rfl h
  have c5 : evE T cf false (.call 50 [.fnv 22, .tup [.tup [.int 1, .int 20001, .int 0, .int 1]]]) e1 = .ok (.t (.lst [.str "many", .bl true])) e1 := by
    obtain ⟨as, h⟩ := ch5
    exact ev_call (rs := [.v (.fn 22), .v (.tup [.tup [.int 1, .int 20001, .int 0, .int 1]])]) (by simp [fl22, frzs, frz_v, sizeL]) rfl rfl h
  have c6 : evE T cf false (.call 50 [.fnv 29, .tup [.tup [.int 2, .int 2]]]) e1 = .ok (.t (.lst [.str "unfit", .bl true])) e1 := by
    obtain ⟨as, h⟩ := ch6
    exact ev_call (rs := [.v (.fn 29), .v (.tup [.tup [.int 2, .int 2]])]) (by simp [fl29, frzs, frz_v, sizeL]) rfl rfl h
  simp only [bd_ok, x_lst, x_a1, x_a0, c0, c1, c2, c3, c4, c5, c6, tst, Bool.false_eq_true, if_false, x_frzs1, x_frzs0, x_frz_t, x_frz_v, Option.bind, Option.map, opt, x_cont_t, bin_cat]
  simp [sizeL, ress, bls]
theorem oku : PyData.strOk "unfit" = true := by decide +kernel
theorem okm : PyData.strOk "many" = true := by decide +kernel
theorem dp_un (k : Nat) {s : Str} (h : PyData.strOk s = true) : dp (k+1) (.lst [.str s, .bl true]) := dp_lst (Nat.le_of_ble_eq_true rfl) (by
  intro y hy
  simp only [List.mem_cons, List.not_mem_nil, or_false] at hy
  rcases hy with rfl | rfl
  · exact dp_fl k h
  · exact dp_fl k rfl)
theorem dp_ress : dp 2 (.lst ress) := dp_lst (by decide) (by
  intro y hy
  rcases List.mem_append.mp hy with h | h
  · obtain ⟨b, _, rfl⟩ := List.mem_map.mp h
    exact dp_fl 1 rfl
  · simp only [List.mem_cons, List.not_mem_nil, or_false] at h
    rcases h with rfl | rfl | rfl | rfl | rfl | rfl | rfl
    · exact dp_un 0 okm
    · exact dp_un 0 oku
    · exact dp_un 0 oku
    · exact dp_un 0 oku
    · exact dp_un 0 oku
    · exact dp_un 0 okm
    · exact dp_un 0 oku)
def due9 : E := .bin .add (.bin .add (.bin .add (.bin .add (.lst [.bl true, .bl true, .bl true]) (.bin .mul (.lst [.bl false]) (.int 8))) (.lst [.lst [.str "many", .bl true]])) (.bin .mul (.lst [.lst [.str "unfit", .bl true]]) (.int 4))) (.lst [.lst [.str "many", .bl true], .lst [.str "unfit", .bl true]])
theorem ev_due : evE T cf false due9 e = .ok (.t (.lst ress)) e := by
  simp [due9, frzs, frz_v, sizeL, ress, bls, binop, List.replicate]
theorem en9 (q : Q 21 [(7, .own (.lst ress))] e) : ∃ e', exS T cf end9 e = .ok (.ret (.v (.bl true))) e' := by
  have h' := sp36 2 196 (.lst ress) (.bor (.lst ress)) (.val (.lst ress)) dp_ress (.inr rfl) (.inl rfl)
  have h' : cf 36 [.bor (.lst ress), .val (.lst ress)] = _ := h'
  have hx : evE T cf false (.call 36 [.var 7, due9]) e = .ok (.v (.bl true)) (e.set 7 (.val (.lst ress))) := by
    have g7 := q.g0
    rw [x_call, x_a1, x_var, g7]
    simp only [tst, Bool.false_eq_true, if_false, bd_ok]
    rw [x_a1, ev_due]
    generalize ress = L at *
    simp [g7, h', aft, flat0]
  obtain ⟨as, h⟩ := cst
  have h2 : ∀ e : EV, evE T cf false (.cmp .Eq (.call 31 [.tup [.int 1, .int 20001, .int 0, .int 1]]) (.tup [.int 20001])) e = .ok (.v (.bl true)) e := by
    intro e
    have c1 : evE T cf false (.call 31 [.tup [.int 1, .int 20001, .int 0, .int 1]]) e = .ok (.v (wd [20001])) e := ev_c1 (.inl (by simp [frzs, frz_v, sizeL])) h
    have c2 : evE T cf false (.tup [.int 20001]) e = .ok (.v (wd [20001])) e := by simp [frzs, frz_v, sizeL, wd]
    rw [x_cmp, c1]
    simp only [bd_ok]
    rw [c2]
    simp [cmpop, eqD_wd]
  refine ⟨e.set 7 (.val (.lst ress)), ?_⟩
  show exS T cf (.ret (.andor true [.call 36 [.var 7, due9], .cmp .Eq (.call 31 [.tup [.int 1, .int 20001, .int 0, .int 1]]) (.tup [.int 20001])])) e = _
  rw [x_ret, x_andor, andF1 hx, x_v1, h2]
  simp [retR]
end
end PL.K01
end

section
set_option exponentiation.threshold 5000
namespace PL.K01
open PL PL.K00 PL.RY PL.WD PySem PySem.Spec L2

theorem bs {s : S} {ss : List S} {e e' : EV} (h : exS T cf s e = .ok .next e') : exB T cf (s :: ss) e = exB T cf ss e' := by
  rw [x_b1, h]; simp only [bd_ok]
theorem lap_ok {e : EV} {x y z : Int} (q : Q 21 [(1, .own (tinD x y z))] e) (hz0 : 0 ≤ z) (hz : z ≤ 600) :
    ∃ x' z' e', 0 ≤ z' ∧ z' ≤ z + 36 ∧ exB T cf lapB e = .ok .next e' ∧ Q 21 [(1, .own (tinD x' y z'))] e' := by
  obtain ⟨w, x1, z1, hw, hl, z10, z11, e1, h1, q1⟩ := la0 q hz0 (by omega)
  obtain ⟨e2, h2, q2⟩ := la1 q1 q1.g0 hw hl
  have q2 := q2.sub (kv' := [(5, .val (wd (shrt w))), (3, .val (wd w)), (1, .own (tinD x1 y z1))]) (by simp)
  obtain ⟨e3, h3, q3⟩ := la2 q2 (q2.get (by simp)) hw hl
  have q3 := q3.sub (kv' := [(6, .val (md (W (shrt w)))), (5, .val (wd (shrt w))), (3, .val (wd w)), (1, .own (tinD x1 y z1))]) (by simp)
  obtain ⟨e4, h4, q4⟩ := la3 q3 (q3.get (by simp)) (q3.get (by simp)) (q3.get (by simp)) hw hl
  have q4 := q4.sub (kv' := [(7, .own (.lst (got3 w))), (6, .val (md (W (shrt w)))), (5, .val (wd (shrt w))), (3, .val (wd w)), (1, .own (tinD x1 y z1))]) (by simp)
  have hu := shrt_red hw
  have hlu : (shrt w).length ≤ 14 := by have := shrt_len w; omega
  obtain ⟨e5, h5, q5⟩ := la4 (u := shrt w) q4 (q4.get (by simp)) hlu
  have q5 := q5.sub (kv' := [(8, .val (wd (back (shrt w)))), (7, .own (.lst (got3 w))), (6, .val (md (W (shrt w)))), (5, .val (wd (shrt w))), (3, .val (wd w)), (1, .own (tinD x1 y z1))]) (by simp)
  obtain ⟨e6, h6, q6⟩ := la5 q5 (q5.get (by simp)) (q5.get (by simp)) (q5.get (by simp)) (q5.get (by simp)) (q5.get (by simp)) hw hl
  have q6 := q6.sub (kv' := [(8, .val (wd (back (shrt w)))), (6, .val (md (W (shrt w)))), (5, .val (wd (shrt w))), (1, .own (tinD x1 y z1))]) (by simp)
  generalize shrt w = u at *
  obtain ⟨v, x2, z2, hv, hlv, z20, z21, e7, h7, q7⟩ := la6 (x := x1) (y := y) (z := z1) q6 (q6.get (by simp)) z10 (by omega)
  have q7 := q7.sub (kv' := [(10, .val (wd v)), (1, .own (tinD x2 y z2)), (8, .val (wd (back u))), (6, .val (md (W u))), (5, .val (wd u))]) (by simp)
  have h8 := la7 (u := u) (v := v) (q7.get (by simp)) (q7.get (by simp)) (q7.get (by simp)) hu hv hlu hlv
  obtain ⟨e9, h9, q9⟩ := la8 (u := u) q7 (q7.get (by simp)) hu hlu
  have q9 := q9.sub (kv' := [(11, .val (wd (quoC (W u)))), (10, .val (wd v)), (1, .own (tinD x2 y z2)), (6, .val (md (W u))), (5, .val (wd u))]) (by simp)
  obtain ⟨e10, h10, q10⟩ := la9 (u := u) q9 (q9.get (by simp))
  have q10' := q10.sub (kv' := [(11, .val (wd (quoC (W u)))), (10, .val (wd v)), (1, .own (tinD x2 y z2)), (6, .val (md (W u))), (5, .val (wd u))]) (by simp)
  obtain ⟨e11, h11, q11, g12⟩ := la10 (u := u) (by intro p hp; simp at hp; rcases hp with rfl | rfl | rfl | rfl | rfl <;> simp) q10' (q10'.get (by simp)) q10.g0 hu hlu
  have h12 := la11 (u := u) (q11.get (by simp)) (q11.get (by simp)) g12 hu hlu
  have q11 := q11.sub (kv' := [(10, .val (wd v)), (1, .own (tinD x2 y z2)), (6, .val (md (W u))), (5, .val (wd u))]) (by simp)
  obtain ⟨e13, h13, q13⟩ := la12 (v := v) q11 (q11.get (by simp)) hv hlv
  have q13 := q13.sub (kv' := [(13, .val (md (W v))), (1, .own (tinD x2 y z2)), (6, .val (md (W u))), (5, .val (wd u))]) (by simp)
  obtain ⟨e14, h14, q14⟩ := la13 (u := u) (v := v) q13 (q13.get (by simp)) (q13.get (by simp)) hu hv hlu hlv
  have q14 := q14.sub (kv' := [(14, .val (md (W (tn u v)))), (1, .own (tinD x2 y z2)), (6, .val (md (W u))), (5, .val (wd u))]) (by simp)
  obtain ⟨e15, h15, q15⟩ := la14 (u := u) (v := v) q14 (q14.get (by simp)) (q14.get (by simp)) hu hv hlu hlv
  have q15 := q15.sub (kv' := [(16, .val (wd (ring u))), (15, .val (wd (ring u))), (14, .val (md (W (tn u v)))), (1, .own (tinD x2 y z2)), (6, .val (md (W u))), (5, .val (wd u))]) (by simp)
  obtain ⟨p, x3, z3, hp, hlp, z30, z31, e16, h16, q16⟩ := la15 (x := x2) (y := y) (z := z2) q15 (q15.get (by simp)) z20 (by omega)
  have q16 := q16.sub (kv' := [(17, .val (md (W p))), (1, .own (tinD x3 y z3)), (16, .val (wd (ring u))), (15, .val (wd (ring u))), (14, .val (md (W (tn u v)))), (6, .val (md (W u))), (5, .val (wd u))]) (by simp)
  obtain ⟨e17, h17, q17⟩ := la16 (u := u) (v := v) (p := p) q16 (q16.get (by simp)) (q16.get (by simp)) (q16.get (by simp)) (q16.get (by simp)) hu hv hp hlu hlv hlp
  have q17 := q17.sub (kv' := [(7, .own (.lst (got16 u p))), (17, .val (md (W p))), (1, .own (tinD x3 y z3)), (16, .val (wd (ring u))), (15, .val (wd (ring u)))]) (by simp)
  obtain ⟨e18, h18, q18⟩ := la17 (u := u) (p := p) q17 (q17.get (by simp)) (q17.get (by simp)) (q17.get (by simp)) (q17.get (by simp)) hu hp hlu hlp
  refine ⟨x3, z3, e18, z30, by omega, ?_, q18.sub (by simp)⟩
  unfold lapB
  rw [bs h1, bs h2, bs h3, bs h4, bs h5, bs h6, bs h7, bs h8, bs h9, bs h10, bs h11, bs h12, bs h13, bs h14, bs h15, bs h16, bs h17, bs h18, x_b0]
theorem laps {y : Int} : ∀ (ds : List D) (x z : Int) (e : EV), Q 21 [(1, .own (tinD x y z))] e → 0 ≤ z → z + 36 * ds.length ≤ 600 →
    ∃ x' z' e', 0 ≤ z' ∧ z' ≤ 600 ∧ forL (fun d e => opt (asg (.nm 2) d e) fun e1 => exB T cf lapB e1) ds e = .ok .next e' ∧ Q 21 [(1, .own (tinD x' y z'))] e'
  | [], x, z, e, q, h0, h1 => ⟨x, z, e, h0, by simp at h1; omega, rfl, q⟩
  | d :: ds, x, z, e, q, h0, h1 => by
    simp only [List.length_cons] at h1
    have q1 := q.set (i := 2) (t := .val d) (by decide) (by decide) (Fre.val _)
    obtain ⟨x2, z2, e2, a, b, he, q2⟩ := lap_ok (x := x) (y := y) (z := z) (q1.sub (by simp)) h0 (by omega)
    obtain ⟨x3, z3, e3, c1, c2, h3, q3⟩ := laps ds x2 z2 e2 q2 a (by omega)
    refine ⟨x3, z3, e3, c1, c2, ?_, q3⟩
    rw [forL_cons, x_asg, q.ok (i := 2) (by decide) (by decide)]
    simp only [if_true, opt, he, bd_ok]
    exact h3
theorem en0 (ns : List Int) (hn : ns.length ≤ 63) : ∃ x y e, exS T cf end0 ([.val (.scr ns)] ++ List.replicate 20 .un) = .ok .next e ∧ Q 21 [(1, .own (tinD x y 0))] e := by
  obtain ⟨c, e1⟩ := sp34 198 ns hn
  obtain ⟨x, y, e2⟩ := sp32 198 c
  have e1 : cf 34 _ = _ := e1
  have e2 : cf 32 _ = _ := e2
  have hq : Q 21 [] ([.val (.scr ns)] ++ List.replicate 20 .un) := by
    refine ⟨by simp, fun i h1 h2 => ⟨.un, ?_, Fre.un⟩, by simp⟩
    obtain ⟨j, rfl⟩ : ∃ j, i = j + 1 := ⟨i - 1, by omega⟩
    show (SV.val (.scr ns) :: List.replicate 20 SV.un)[j+1]? = some .un
    rw [List.getElem?_cons_succ, List.getElem?_replicate, if_pos (by omega)]
  refine ⟨x, y, _, st_t (e1 := [.val (.scr ns)] ++ List.replicate 20 .un) (d := tinD x y 0) ?_ (hq.ok (by decide) (by decide)), (hq.set (by decide) (by decide) (Fre.own _)).sub (by simp)⟩
  have h0 : ([SV.val (.scr ns)] ++ List.replicate 20 SV.un)[0]? = some (.val (.scr ns)) := rfl
  generalize [SV.val (.scr ns)] ++ List.replicate 20 SV.un = e at *
  simp [h0, e1, e2]
theorem law_ok : ∀ ns : List Int, ns.length ≤ 63 → ∃ as', callF T 200 51 [.val (.scr ns)] = .ok (.v (.bl true)) as' := by
  intro ns hn
  obtain ⟨x, y, e0, h0, q0⟩ := en0 ns hn
  obtain ⟨ds, hds⟩ : ∃ ds : List D, ds = (List.range 6).map fun (k : Nat) => D.int (0 + (k : Int)) := ⟨_, rfl⟩
  have hl : ds.length = 6 := by rw [hds, List.length_map, List.length_range]
  have hr : rngD [.int 6] = some ds := by rw [hds]; rfl
  obtain ⟨x1, z1, e1, a1, a2, h1, q1⟩ := laps ds x 0 e0 q0 (Int.le_refl 0) (by omega)
  obtain ⟨k, hk, e2, h2, q2⟩ := en2 (x := x1) (y := y) (z := z1) q1 q1.g0 a1 (by omega)
  have F := fk hk
  obtain ⟨e3, h3, q3⟩ := en3 q2 q2.g0 F
  have q3 := q3.sub (kv' := [(19, .own (.lst (AD k))), (18, .val (.int k))]) (by simp)
  obtain ⟨e4, h4, q4⟩ := en4 q3 (q3.get (by simp)) q3.g0 F hk
  have q4 := q4.sub (kv' := [(19, .val (.lst (AD k))), (18, .val (.int k))]) (by simp)
  have h5 := en5 q4 (q4.get (by simp)) q4.g0 F hk
  have h6 := en6 (q4.get (by simp)) q4.g0 F hk
  obtain ⟨e7, h7, q7⟩ := en7 q4
  obtain ⟨e8, h8, q8⟩ := en8 q7 q7.g0
  obtain ⟨e9, h9⟩ := en9 q8
  have hc := x_callF T 199 51 [.val (.scr ns)] (F := f51) rfl rfl
  have hn : ([.val (.scr ns)] ++ List.replicate (f51.N.length - [SV.val (.scr ns)].length) .un : EV) = [.val (.scr ns)] ++ List.replicate 20 .un := rfl
  rw [hn, f51_body, bs h0] at hc
  have hf : exS T cf (.for_ (.nm 2) (.rng [.int 6]) lapB) e0 = .ok .next e1 := by
    rw [x_for, x_ir]
    simp only [x_a1, x_a0, x_int, tst, Bool.false_eq_true, if_false, bd_ok, x_conts1, x_conts0, x_cont_v, Option.bind, Option.map, opt, hr]
    exact h1
  rw [bs hf, bs h2, bs h3, bs h4, bs h5, bs h6, bs h7, bs h8, x_b1, h9] at hc
  exact ⟨_, hc⟩
end PL.K01
end

section
open PySem PySem.W PyProof.Rows
set_option maxHeartbeats 0 in
theorem PySem.Challenge.cw_tablelots_k01_main_each_move_is_one_word_holds : PySem.Challenge.rw_tablelots_k01_main_each_move_is_one_word.Holds := by
  w_on; o_law; k_head; (case hw => w_witness2)
  k_fill
  refine L2.walk_of (l := PySem.Challenge.rw_tablelots_k01_main_each_move_is_one_word) (n := 63) (k := 200) (x := "script") (CX := fun w => L2.CX PySem.Challenge.pw_tablelots_k01_main_each_move_is_one_word w) (sp := fun w => PL.spLaw _) rfl (by decide) rfl ⟨rfl, by decide, by decide⟩ (fun w h Y => PySem.W.kIn_of Y) ?F (fun _ _ a ns hl _ hS => ⟨a, ns, rfl, hl, hS, fun _ => rfl⟩) (fun _ _ _ _ _ z => PL.cx_no z)
  case F =>
    intro w mg fa h KX G hmg
    refine' PL.K01.all_mk KX G hmg ?a0 ?l0 ?c0 ?k0 ?a1 ?l1 ?c1 ?k1 ?a2 ?l2 ?c2 ?k2 ?a3 ?l3 ?c3 ?k3 ?a4 ?l4 ?c4 ?k4 ?a5 ?l5 ?c5 ?k5 ?a6 ?l6 ?c6 ?k6 ?a7 ?l7 ?c7 ?k7 ?a8 ?l8 ?c8 ?k8 ?a9 ?l9 ?c9 ?k9 ?a10 ?l10 ?c10 ?k10 ?a11 ?l11 ?c11 ?k11 ?a12 ?l12 ?c12 ?k12 ?a13 ?l13 ?c13 ?k13 ?a14 ?l14 ?c14 ?k14 ?a15 ?l15 ?c15 ?k15 ?a16 ?l16 ?c16 ?k16 ?a17 ?l17 ?c17 ?k17 ?a18 ?l18 ?c18 ?k18 ?a19 ?l19 ?c19 ?k19 ?a20 ?l20 ?c20 ?k20 ?a21 ?l21 ?c21 ?k21 ?a22 ?l22 ?c22 ?k22 ?a23 ?l23 ?c23 ?k23 ?a24 ?l24 ?c24 ?k24 ?a25 ?l25 ?c25 ?k25 ?a26 ?l26 ?c26 ?k26 ?a27 ?l27 ?c27 ?k27 ?a28 ?l28 ?c28 ?k28 ?a29 ?l29 ?c29 ?k29 ?a30 ?l30 ?c30 ?k30 ?a31 ?l31 ?c31 ?k31 ?a32 ?l32 ?c32 ?k32 ?a33 ?l33 ?c33 ?k33 ?a34 ?l34 ?c34 ?k34 ?a35 ?l35 ?c35 ?k35 ?a36 ?l36 ?c36 ?k36 ?a37 ?l37 ?c37 ?k37 ?a38 ?l38 ?c38 ?k38 ?a39 ?l39 ?c39 ?k39 ?a40 ?l40 ?c40 ?k40 ?a41 ?l41 ?c41 ?k41 ?a42 ?l42 ?c42 ?k42 ?a43 ?l43 ?c43 ?k43 ?a44 ?l44 ?c44 ?k44 ?a45 ?l45 ?c45 ?k45 ?a46 ?l46 ?c46 ?k46 ?a47 ?l47 ?c47 ?k47 ?a48 ?l48 ?c48 ?k48 ?a49 ?l49 ?c49 ?k49 ?a50 ?l50 ?c50 ?k50 ?a51 ?l51 ?c51 ?k51 ?u0 ?t0 ?u1 ?t5 ?u2 ?t10 ?u3 ?t15 ?u4 ?u5 ?du0 ?dl0 ?ca0 ?cx0 ?ck0 ?cb0 ?ct_0 ?ce0 ?cf0 ?ch0 ?ci0 ?cm0 ?cv0 ?ca1 ?cx1 ?ck1 ?cb1 ?ct_1 ?ce1 ?cf1 ?ch1 ?ci1 ?cm1 ?cv1 ?ca2 ?cx2 ?ck2 ?cb2 ?ct_2 ?ce2 ?cf2 ?ch2 ?ci2 ?cm2 ?cv2 ?cs0_0 ?cs0_1 ?cs0_2 ?cs1_0 ?cs1_1 ?cs1_2 ?cs2_0 ?cs2_1 ?cs2_2 ?e5 ?e6 ?z0 ?z1 ?z2 ?z3 ?z4 ?z5 ?z6 ?z7 ?z8 ?z9 ?z10 ?z11 ?z12 ?z13 ?z14 ?z15 ?z16 ?z17 ?z18 ?y0 ?y1 PL.K01.law_ok
    (case a0 => first | k_is | rfl)
    (case l0 => first | k_is | rfl)
    (case c0 => first | k_is | rfl)
    (case k0 => first | k_is | rfl)
    (case a1 => first | k_is | rfl)
    (case l1 => first | k_is | rfl)
    (case c1 => first | k_is | rfl)
    (case k1 => first | k_is | rfl)
    (case a2 => first | k_is | rfl)
    (case l2 => first | k_is | rfl)
    (case c2 => first | k_is | rfl)
    (case k2 => first | k_is | rfl)
    (case a3 => first | k_is | rfl)
    (case l3 => first | k_is | rfl)
    (case c3 => first | k_is | rfl)
    (case k3 => first | k_is | rfl)
    (case a4 => first | k_is | rfl)
    (case l4 => first | k_is | rfl)
    (case c4 => first | k_is | rfl)
    (case k4 => first | k_is | rfl)
    (case a5 => first | k_is | rfl)
    (case l5 => first | k_is | rfl)
    (case c5 => first | k_is | rfl)
    (case k5 => first | k_is | rfl)
    (case a6 => first | k_is | rfl)
    (case l6 => first | k_is | rfl)
    (case c6 => first | k_is | rfl)
    (case k6 => first | k_is | rfl)
    (case a7 => first | k_is | rfl)
    (case l7 => first | k_is | rfl)
    (case c7 => first | k_is | rfl)
    (case k7 => first | k_is | rfl)
    (case a8 => first | k_is | rfl)
    (case l8 => first | k_is | rfl)
    (case c8 => first | k_is | rfl)
    (case k8 => first | k_is | rfl)
    (case a9 => first | k_is | rfl)
    (case l9 => first | k_is | rfl)
    (case c9 => first | k_is | rfl)
    (case k9 => first | k_is | rfl)
    (case a10 => first | k_is | rfl)
    (case l10 => first | k_is | rfl)
    (case c10 => first | k_is | rfl)
    (case k10 => first | k_is | rfl)
    (case a11 => first | k_is | rfl)
    (case l11 => first | k_is | rfl)
    (case c11 => first | k_is | rfl)
    (case k11 => first | k_is | rfl)
    (case a12 => first | k_is | rfl)
    (case l12 => first | k_is | rfl)
    (case c12 => first | k_is | rfl)
    (case k12 => first | k_is | rfl)
    (case a13 => first | k_is | rfl)
    (case l13 => first | k_is | rfl)
    (case c13 => first | k_is | rfl)
    (case k13 => first | k_is | rfl)
    (case a14 => first | k_is | rfl)
    (case l14 => first | k_is | rfl)
    (case c14 => first | k_is | rfl)
    (case k14 => first | k_is | rfl)
    (case a15 => first | k_is | rfl)
    (case l15 => first | k_is | rfl)
    (case c15 => first | k_is | rfl)
    (case k15 => first | k_is | rfl)
    (case a16 => first | k_is | rfl)
    (case l16 => first | k_is | rfl)
    (case c16 => first | k_is | rfl)
    (case k16 => first | k_is | rfl)
    (case a17 => first | k_is | rfl)
    (case l17 => first | k_is | rfl)
    (case c17 => first | k_is | rfl)
    (case k17 => first | k_is | rfl)
    (case a18 => first | k_is | rfl)
    (case l18 => first | k_is | rfl)
    (case c18 => first | k_is | rfl)
    (case k18 => first | k_is | rfl)
    (case a19 => first | k_is | rfl)
    (case l19 => first | k_is | rfl)
    (case c19 => first | k_is | rfl)
    (case k19 => first | k_is | rfl)
    (case a20 => first | k_is | rfl)
    (case l20 => first | k_is | rfl)
    (case c20 => first | k_is | rfl)
    (case k20 => first | k_is | rfl)
    (case a21 => first | k_is | rfl)
    (case l21 => first | k_is | rfl)
    (case c21 => first | k_is | rfl)
    (case k21 => first | k_is | rfl)
    (case a22 => first | k_is | rfl)
    (case l22 => first | k_is | rfl)
    (case c22 => first | k_is | rfl)
    (case k22 => first | k_is | rfl)
    (case a23 => first | k_is | rfl)
    (case l23 => first | k_is | rfl)
    (case c23 => first | k_is | rfl)
    (case k23 => first | k_is | rfl)
    (case a24 => first | k_is | rfl)
    (case l24 => first | k_is | rfl)
    (case c24 => first | k_is | rfl)
    (case k24 => first | k_is | rfl)
    (case a25 => first | k_is | rfl)
    (case l25 => first | k_is | rfl)
    (case c25 => first | k_is | rfl)
    (case k25 => first | k_is | rfl)
    (case a26 => first | k_is | rfl)
    (case l26 => first | k_is | rfl)
    (case c26 => first | k_is | rfl)
    (case k26 => first | k_is | rfl)
    (case a27 => first | k_is | rfl)
    (case l27 => first | k_is | rfl)
    (case c27 => first | k_is | rfl)
    (case k27 => first | k_is | rfl)
    (case a28 => first | k_is | rfl)
    (case l28 => first | k_is | rfl)
    (case c28 => first | k_is | rfl)
    (case k28 => first | k_is | rfl)
    (case a29 => first | k_is | rfl)
    (case l29 => first | k_is | rfl)
    (case c29 => first | k_is | rfl)
    (case k29 => first | k_is | rfl)
    (case a30 => first | k_is | rfl)
    (case l30 => first | k_is | rfl)
    (case c30 => first | k_is | rfl)
    (case k30 => first | k_is | rfl)
    (case a31 => first | k_is | rfl)
    (case l31 => first | k_is | rfl)
    (case c31 => first | k_is | rfl)
    (case k31 => first | k_is | rfl)
    (case a32 => first | k_is | rfl)
    (case l32 => first | k_is | rfl)
    (case c32 => first | k_is | rfl)
    (case k32 => first | k_is | rfl)
    (case a33 => first | k_is | rfl)
    (case l33 => first | k_is | rfl)
    (case c33 => first | k_is | rfl)
    (case k33 => first | k_is | rfl)
    (case a34 => first | k_is | rfl)
    (case l34 => first | k_is | rfl)
    (case c34 => first | k_is | rfl)
    (case k34 => first | k_is | rfl)
    (case a35 => first | k_is | rfl)
    (case l35 => first | k_is | rfl)
    (case c35 => first | k_is | rfl)
    (case k35 => first | k_is | rfl)
    (case a36 => first | k_is | rfl)
    (case l36 => first | k_is | rfl)
    (case c36 => first | k_is | rfl)
    (case k36 => first | k_is | rfl)
    (case a37 => first | k_is | rfl)
    (case l37 => first | k_is | rfl)
    (case c37 => first | k_is | rfl)
    (case k37 => first | k_is | rfl)
    (case a38 => first | k_is | rfl)
    (case l38 => first | k_is | rfl)
    (case c38 => first | k_is | rfl)
    (case k38 => first | k_is | rfl)
    (case a39 => first | k_is | rfl)
    (case l39 => first | k_is | rfl)
    (case c39 => first | k_is | rfl)
    (case k39 => first | k_is | rfl)
    (case a40 => first | k_is | rfl)
    (case l40 => first | k_is | rfl)
    (case c40 => first | k_is | rfl)
    (case k40 => first | k_is | rfl)
    (case a41 => first | k_is | rfl)
    (case l41 => first | k_is | rfl)
    (case c41 => first | k_is | rfl)
    (case k41 => first | k_is | rfl)
    (case a42 => first | k_is | rfl)
    (case l42 => first | k_is | rfl)
    (case c42 => first | k_is | rfl)
    (case k42 => first | k_is | rfl)
    (case a43 => first | k_is | rfl)
    (case l43 => first | k_is | rfl)
    (case c43 => first | k_is | rfl)
    (case k43 => first | k_is | rfl)
    (case a44 => first | k_is | rfl)
    (case l44 => first | k_is | rfl)
    (case c44 => first | k_is | rfl)
    (case k44 => first | k_is | rfl)
    (case a45 => first | k_is | rfl)
    (case l45 => first | k_is | rfl)
    (case c45 => first | k_is | rfl)
    (case k45 => first | k_is | rfl)
    (case a46 => first | k_is | rfl)
    (case l46 => first | k_is | rfl)
    (case c46 => first | k_is | rfl)
    (case k46 => first | k_is | rfl)
    (case a47 => first | k_is | rfl)
    (case l47 => first | k_is | rfl)
    (case c47 => first | k_is | rfl)
    (case k47 => first | k_is | rfl)
    (case a48 => first | k_is | rfl)
    (case l48 => first | k_is | rfl)
    (case c48 => first | k_is | rfl)
    (case k48 => first | k_is | rfl)
    (case a49 => first | k_is | rfl)
    (case l49 => first | k_is | rfl)
    (case c49 => first | k_is | rfl)
    (case k49 => first | k_is | rfl)
    (case a50 => first | k_is | rfl)
    (case l50 => first | k_is | rfl)
    (case c50 => first | k_is | rfl)
    (case k50 => first | k_is | rfl)
    (case a51 => first | k_is | rfl)
    (case l51 => first | k_is | rfl)
    (case c51 => first | k_is | rfl)
    (case k51 => first | k_is | rfl)
    (case u0 => first | k_is | rfl)
    (case t0 => first | k_is | rfl)
    (case u1 => first | k_is | rfl)
    (case t5 => first | k_is | rfl)
    (case u2 => first | k_is | rfl)
    (case t10 => first | k_is | rfl)
    (case u3 => first | k_is | rfl)
    (case t15 => first | k_is | rfl)
    (case u4 => first | k_is | rfl)
    (case u5 => first | k_is | rfl)
    (case du0 => first | k_is | rfl)
    (case dl0 => first | k_is | rfl)
    (case ca0 => first | k_is | rfl)
    (case cx0 => k_exc)
    (case ck0 => first | k_is | rfl)
    (case cb0 => first | k_is | rfl)
    (case ct_0 => first | k_is | rfl)
    (case ce0 => first | k_is | rfl)
    (case cf0 => first | k_is | rfl)
    (case ch0 => first | k_is | rfl)
    (case ci0 => first | k_is | rfl)
    (case cm0 => first | k_is | rfl)
    (case cv0 => first | k_is | rfl)
    (case ca1 => first | k_is | rfl)
    (case cx1 => k_exc)
    (case ck1 => first | k_is | rfl)
    (case cb1 => first | k_is | rfl)
    (case ct_1 => first | k_is | rfl)
    (case ce1 => first | k_is | rfl)
    (case cf1 => first | k_is | rfl)
    (case ch1 => first | k_is | rfl)
    (case ci1 => first | k_is | rfl)
    (case cm1 => first | k_is | rfl)
    (case cv1 => first | k_is | rfl)
    (case ca2 => first | k_is | rfl)
    (case cx2 => k_exc)
    (case ck2 => first | k_is | rfl)
    (case cb2 => first | k_is | rfl)
    (case ct_2 => first | k_is | rfl)
    (case ce2 => first | k_is | rfl)
    (case cf2 => first | k_is | rfl)
    (case ch2 => first | k_is | rfl)
    (case ci2 => first | k_is | rfl)
    (case cm2 => first | k_is | rfl)
    (case cv2 => first | k_is | rfl)
    (case cs0_0 => first | k_is | rfl)
    (case cs0_1 => first | k_is | rfl)
    (case cs0_2 => first | k_is | rfl)
    (case cs1_0 => first | k_is | rfl)
    (case cs1_1 => first | k_is | rfl)
    (case cs1_2 => first | k_is | rfl)
    (case cs2_0 => first | k_is | rfl)
    (case cs2_1 => first | k_is | rfl)
    (case cs2_2 => first | k_is | rfl)
    (case e5 => first | k_is | rfl)
    (case e6 => first | k_is | rfl)
    (case z0 => first | k_is | rfl)
    (case z1 => first | k_is | rfl)
    (case z2 => first | k_is | rfl)
    (case z3 => first | k_is | rfl)
    (case z4 => first | k_is | rfl)
    (case z5 => first | k_is | rfl)
    (case z6 => first | k_is | rfl)
    (case z7 => first | k_is | rfl)
    (case z8 => first | k_is | rfl)
    (case z9 => first | k_is | rfl)
    (case z10 => first | k_is | rfl)
    (case z11 => first | k_is | rfl)
    (case z12 => first | k_is | rfl)
    (case z13 => first | k_is | rfl)
    (case z14 => first | k_is | rfl)
    (case z15 => first | k_is | rfl)
    (case z16 => first | k_is | rfl)
    (case z17 => first | k_is | rfl)
    (case z18 => first | k_is | rfl)
    (case y0 => first | k_is | rfl)
    (case y1 => first | k_is | rfl)
end
