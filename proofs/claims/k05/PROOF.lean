import PyProof.Rows.All
import Wide.All
import OpenK.AllK
import Wide.FinOn
import HandS.ForMost
import HandS.ForExc
import HandS.Wide
import HandS.Defaults
import HandS.ExcInit
import HandS.IsInst
import HandS.ExcIs
import HandS.TryMany
import PySem.Challenge.RW_linkwork_k05_powers
set_option Elab.async false
set_option linter.all false
section
set_option maxRecDepth 100000
/-! Mi0: data without addresses (D), how a heap bears it (Rep), the state of a frame by values (Rl). -/
namespace Mi
open PySem L2

/-- data without addresses -/
inductive D where
  | non | bl (b : Bool) | int (i : Int) | str (x : Str)
  | tup (l : List D) | lst (l : List D)
  | dK (ks : List Key) (l : List D) | dT (ks : List (List Key)) (l : List D)
  | ins (c : Nat) (l : List D)
/-- what is in a slot: nothing that is known, a value that is never changed any more, a container of one's own -/
inductive LV where
  | un | val (d : D) | own (d : D)
abbrev Rho := List LV
/-- an exception: its class's number, its fields -/
structure Ex where
  c : Nat
  l : List D
/-- what an expression yields: a value, a new container, the container of a slot -/
inductive RV where
  | val (d : D) | own (d : D) | bor (i : Nat)
inductive R0 where
  | val (d : D) | own (d : D)
inductive Ou (α : Type) where
  | ok (a : α) (r : Rho) | ex (x : Ex) (r : Rho) | no
inductive So where
  | nx (r : Rho) | rt (a : R0) (r : Rho) | bk (r : Rho) | ct (r : Rho) | ex (x : Ex) (r : Rho) | no

/-- the classes by numbers: where they stand, their fields in the order of __init__ -/
structure En where
  K : PySem.W.Frag
  ct : Nat → Addr
  fl : Nat → List Str

def isDct : HO → Bool
  | .dK _ => true
  | .dT _ => true
  | _ => false
/-- as it stands, or locked by a walk -/
def Lk (H : Hp) (a : Addr) (u : HO) : Prop := H a = some u ∨ (isDct u = true ∧ ∃ o, H a = some (.frz o u))
def Und (F H : Hp) : Prop := ∀ a u, F a = some u → Lk H a u

mutual
def Rep (e : En) (F : Hp) : D → V → Prop
  | .non, v => v = .non
  | .bl b, v => v = .bl b
  | .int i, v => v = .int i
  | .str x, v => v = .str x
  | .tup l, v => ∃ a vs, v = .ref a ∧ SqT e.K F a vs ∧ RepL e F l vs
  | .lst l, v => ∃ a vs, v = .ref a ∧ SqL e.K F a vs ∧ RepL e F l vs
  | .dK ks l, v => ∃ a vs, v = .ref a ∧ F a = some (.dK (ks.zip vs)) ∧ ks.length = vs.length ∧ RepL e F l vs
  | .dT ks l, v => ∃ a vs, v = .ref a ∧ F a = some (.dT (ks.zip vs)) ∧ ks.length = vs.length ∧ RepL e F l vs
  | .ins c l, v => ∃ a dx vs, v = .ref a ∧ F a = some (.ins (e.ct c) dx ((e.fl c).zip vs)) ∧ l.length ≤ (e.fl c).length ∧ RepL e F l vs
def RepL (e : En) (F : Hp) : List D → List V → Prop
  | [], vs => vs = []
  | d :: ds, vs => ∃ v r, vs = v :: r ∧ Rep e F d v ∧ RepL e F ds r
end

section
variable {e : En} {F F' H H' : Hp}
theorem SqT.mono {K : PySem.W.Frag} (s : Same F F') {a : Addr} {xs : List V} (h : SqT K F a xs) : SqT K F' a xs := by
  rcases h with (h | ⟨o, h⟩) | h
  · exact .inl (.inl (s _ _ h))
  · exact .inl (.inr ⟨o, s _ _ h⟩)
  · exact .inr h
mutual
theorem Rep.mono (s : Same F F') : ∀ {d : D} {v : V}, Rep e F d v → Rep e F' d v
  | .non, _, h => h
  | .bl _, _, h => h
  | .int _, _, h => h
  | .str _, _, h => h
  | .tup _, _, ⟨a, vs, h0, h1, h2⟩ => ⟨a, vs, h0, SqT.mono s h1, RepL.mono s h2⟩
  | .lst _, _, ⟨a, vs, h0, h1, h2⟩ => ⟨a, vs, h0, s.seq h1, RepL.mono s h2⟩
  | .dK _ _, _, ⟨a, vs, h0, h1, h2, h3⟩ => ⟨a, vs, h0, s _ _ h1, h2, RepL.mono s h3⟩
  | .dT _ _, _, ⟨a, vs, h0, h1, h2, h3⟩ => ⟨a, vs, h0, s _ _ h1, h2, RepL.mono s h3⟩
  | .ins _ _, _, ⟨a, dx, vs, h0, h1, h2, h3⟩ => ⟨a, dx, vs, h0, s _ _ h1, h2, RepL.mono s h3⟩
theorem RepL.mono (s : Same F F') : ∀ {ds : List D} {vs : List V}, RepL e F ds vs → RepL e F' ds vs
  | [], _, h => h
  | _ :: _, _, ⟨v, r, h0, h1, h2⟩ => ⟨v, r, h0, Rep.mono s h1, RepL.mono s h2⟩
end
theorem RepL.len : ∀ {ds : List D} {vs : List V}, RepL e F ds vs → vs.length = ds.length
  | [], _, h => by cases h; rfl
  | _ :: _, _, ⟨v, r, h0, _, h2⟩ => by subst h0; simp [RepL.len h2]
theorem RepL.get : ∀ {ds : List D} {vs : List V} {i : Nat} {d : D}, RepL e F ds vs → ds[i]? = some d → ∃ v, vs[i]? = some v ∧ Rep e F d v
  | [], _, _, _, _, q => by simp at q
  | _ :: _, _, 0, _, ⟨v, r, h0, h1, _⟩, q => by subst h0; simp at q; subst q; exact ⟨v, rfl, h1⟩
  | _ :: _, _, i + 1, _, ⟨v, r, h0, _, h2⟩, q => by subst h0; simp at q; simpa using RepL.get h2 q
theorem RepL.app : ∀ {ds es : List D} {vs ws : List V}, RepL e F ds vs → RepL e F es ws → RepL e F (ds ++ es) (vs ++ ws)
  | [], _, _, _, h, q => by cases h; exact q
  | _ :: _, _, _, _, ⟨v, r, h0, h1, h2⟩, q => by subst h0; exact ⟨v, r ++ _, rfl, h1, RepL.app h2 q⟩
theorem RepL.one {d : D} {v : V} (h : Rep e F d v) : RepL e F [d] [v] := ⟨v, [], rfl, h, rfl⟩
theorem RepL.set : ∀ {ds : List D} {vs : List V} {i : Nat} {d : D} {v : V}, RepL e F ds vs → Rep e F d v → RepL e F (ds.set i d) (vs.set i v)
  | [], _, _, _, _, h, _ => by cases h; exact rfl
  | _ :: _, _, 0, _, v', ⟨v, r, h0, _, h2⟩, q => by subst h0; exact ⟨v', r, rfl, q, h2⟩
  | _ :: _, _, i + 1, _, _, ⟨v, r, h0, h1, h2⟩, q => by subst h0; exact ⟨v, _, rfl, h1, RepL.set h2 q⟩
theorem RepL.drop : ∀ {ds : List D} {vs : List V} (n : Nat), RepL e F ds vs → RepL e F (ds.drop n) (vs.drop n)
  | _, _, 0, h => h
  | [], _, n + 1, h => by cases h; exact rfl
  | _ :: _, _, n + 1, ⟨v, r, h0, _, h2⟩ => by subst h0; exact RepL.drop n h2
theorem RepL.take : ∀ {ds : List D} {vs : List V} (n : Nat), RepL e F ds vs → RepL e F (ds.take n) (vs.take n)
  | _, _, 0, h => rfl
  | [], _, n + 1, h => by cases h; exact rfl
  | _ :: _, _, n + 1, ⟨v, r, h0, h1, h2⟩ => by subst h0; exact ⟨v, _, rfl, h1, RepL.take n h2⟩

/-! ### a container's content -/
/-- the heap's content u bears the data -/
def OR (e : En) (F : Hp) : HO → D → Prop
  | .lst vs, .lst l => RepL e F l vs
  | .tup vs, .tup l => RepL e F l vs
  | .dK kvs, .dK ks l => ∃ vs, kvs = ks.zip vs ∧ ks.length = vs.length ∧ RepL e F l vs
  | .dT kvs, .dT ks l => ∃ vs, kvs = ks.zip vs ∧ ks.length = vs.length ∧ RepL e F l vs
  | .ins C _ fs, .ins c l => ∃ vs, C = e.ct c ∧ fs = (e.fl c).zip vs ∧ l.length ≤ (e.fl c).length ∧ RepL e F l vs
  | _, _ => False
theorem OR.mono (s : Same F F') {u : HO} {d : D} (h : OR e F u d) : OR e F' u d := by
  cases u <;> cases d <;> first
    | exact h.elim
    | exact RepL.mono s h
    | (obtain ⟨vs, h1, h2, h3⟩ := h; exact ⟨vs, h1, h2, RepL.mono s h3⟩)
    | (obtain ⟨vs, h1, h2, h3, h4⟩ := h; exact ⟨vs, h1, h2, h3, RepL.mono s h4⟩)
/-- held by the heap, it is the data -/
theorem OR.rep {a : Addr} {u : HO} {d : D} (h : OR e F u d) (q : F a = some u) : Rep e F d (.ref a) := by
  cases u <;> cases d <;> first
    | exact h.elim
    | exact ⟨a, _, rfl, .inl (.inl q), h⟩
    | (obtain ⟨vs, h1, h2, h3⟩ := h; subst h1; exact ⟨a, vs, rfl, q, h2, h3⟩)
    | (obtain ⟨vs, h1, h2, h3, h4⟩ := h; subst h1; subst h2; exact ⟨a, _, vs, rfl, q, h3, h4⟩)

/-! ### a frame's state -/
/-- what goes with a frame: what others keep, what others may change later, the slots that stay -/
structure Fm where
  G : Hp
  B : Addr → Prop
  pn : List (Nat × V)
def Fre (fm : Fm) (F : Hp) (p : Addr) : Prop := F p = none ∧ fm.G p = none ∧ ¬ fm.B p
structure Rl (e : En) (r : Rho) (σ : St) (H F : Hp) (fm : Fm) : Prop where
  fh : Und F H
  gh : Same fm.G H
  bf : ∀ a, fm.B a → F a = none
  bh : ∀ a, fm.B a → H a ≠ none
  ln : σ.length = r.length
  va : ∀ (i : Nat) (d : D), r[i]? = some (.val d) → ∃ v, σ[i]? = some (some v) ∧ Rep e F d v
  ow : ∀ (i : Nat) (d : D), r[i]? = some (.own d) → ∃ p u, σ[i]? = some (some (.ref p)) ∧ H p = some u ∧ OR e F u d ∧ Fre fm F p
  ap : ∀ (i j : Nat) (d d' : D) (p : Addr), r[i]? = some (.own d) → r[j]? = some (.own d') → σ[i]? = some (some (.ref p)) → σ[j]? = some (some (.ref p)) → i = j
  pn : ∀ q ∈ fm.pn, σ[q.1]? = some (some q.2)
/-- a new container that no slot has -/
def Tmp (e : En) (r : Rho) (σ : St) (H F : Hp) (fm : Fm) (p : Addr) (d : D) : Prop :=
  (∃ u, H p = some u ∧ OR e F u d) ∧ Fre fm F p ∧ ∀ (i : Nat) (d' : D), r[i]? = some (.own d') → σ[i]? ≠ some (some (.ref p))
def RvR (e : En) (rv : RV) (v : V) (r : Rho) (σ : St) (H F : Hp) (fm : Fm) : Prop :=
  match rv with
  | .val d => Rep e F d v
  | .own d => ∃ p, v = .ref p ∧ Tmp e r σ H F fm p d
  | .bor i => σ[i]? = some (some v)
end

section
variable {e : En} {F F' H H' : Hp} {r : Rho} {σ : St} {fm : Fm}
theorem Und.lay {p : Addr} {o : HO} (h : Und F H) (n : F p = none) : Und F (upd H p o) := fun a u q => by
  have ne : a ≠ p := ne_of_none q n
  unfold Lk
  rw [upd_ne ne]
  exact h a u q
theorem same_upd {p : Addr} {o : HO} (n : F p = none) : Same F (upd F p o) := fun a u q => by
  rw [upd_ne (ne_of_none q n)]
  exact q
theorem Rl.free (R : Rl e r σ H F fm) {p : Addr} (n : H p = none) : Fre fm F p := by
  refine ⟨?_, ?_, fun b => R.bh p b n⟩
  · cases q : F p with
    | none => rfl
    | some u =>
      rcases R.fh p u q with h | ⟨_, o, h⟩
      · rw [n] at h; cases h
      · rw [n] at h; cases h
  · cases q : fm.G p with
    | none => rfl
    | some u => have := R.gh p u q; rw [n] at this; cases this
/-- a new object is laid, or a container that is nobody's is changed -/
theorem Rl.lay (R : Rl e r σ H F fm) {p : Addr} {o : HO} (n : Fre fm F p) (no : ∀ (i : Nat) (d' : D), r[i]? = some (.own d') → σ[i]? ≠ some (some (.ref p))) : Rl e r σ (upd H p o) F fm where
  fh := R.fh.lay n.1
  gh := fun a u q => by rw [upd_ne (ne_of_none q n.2.1)]; exact R.gh a u q
  bf := R.bf
  bh := fun a b => by
    by_cases ha : a = p
    · subst ha; rw [upd_same]; simp
    · rw [upd_ne ha]; exact R.bh a b
  ln := R.ln
  va := R.va
  ow := fun i d h => by
    obtain ⟨q, u, h1, h2, h3, h4⟩ := R.ow i d h
    refine ⟨q, u, h1, ?_, h3, h4⟩
    have ne : q ≠ p := fun z => no i d h (by rw [← z]; exact h1)
    rw [upd_ne ne]; exact h2
  ap := R.ap
  pn := R.pn
theorem Rl.new (R : Rl e r σ H F fm) {p : Addr} {o : HO} (n : H p = none) : Rl e r σ (upd H p o) F fm := by
  refine R.lay (R.free n) fun i d h z => ?_
  obtain ⟨q, u, h1, h2, _⟩ := R.ow i d h
  rw [h1] at z
  cases z
  rw [n] at h2; cases h2
theorem Rl.notmp (R : Rl e r σ H F fm) {p : Addr} (n : H p = none) : ∀ (i : Nat) (d' : D), r[i]? = some (.own d') → σ[i]? ≠ some (some (.ref p)) := fun i d h z => by
  obtain ⟨q, u, h1, h2, _⟩ := R.ow i d h
  rw [h1] at z
  cases z
  rw [n] at h2; cases h2
/-- a new object, as a container that no slot has -/
theorem Rl.tmp (R : Rl e r σ H F fm) {p : Addr} {o : HO} {d : D} (n : H p = none) (h : OR e F o d) : Tmp e r σ (L2.upd H p o) F fm p d :=
  ⟨⟨o, upd_same, h⟩, R.free n, R.notmp n⟩
/-- a container that nobody has is frozen -/
theorem Rl.frzT (R : Rl e r σ H F fm) {p : Addr} {d : D} (T : Tmp e r σ H F fm p d) : ∃ F', Rl e r σ H F' fm ∧ Same F F' ∧ Rep e F' d (.ref p) := by
  obtain ⟨⟨u, h1, h2⟩, n, no⟩ := T
  have s : Same F (L2.upd F p u) := same_upd n.1
  refine ⟨L2.upd F p u, ?_, s, (h2.mono s).rep upd_same⟩
  exact {
    fh := fun a w q => by
      by_cases ha : a = p
      · subst ha; rw [upd_same] at q; cases q; exact .inl h1
      · rw [upd_ne ha] at q; exact R.fh a w q
    gh := R.gh
    bf := fun a b => by
      have ne : a ≠ p := fun z => n.2.2 (z ▸ b)
      rw [upd_ne ne]; exact R.bf a b
    bh := R.bh
    ln := R.ln
    va := fun i d h => by obtain ⟨v, h3, h4⟩ := R.va i d h; exact ⟨v, h3, h4.mono s⟩
    ow := fun i d h => by
      obtain ⟨q, w, h3, h4, h5, h6⟩ := R.ow i d h
      have ne : q ≠ p := fun z => no i d h (by rw [← z]; exact h3)
      exact ⟨q, w, h3, h4, h5.mono s, by rw [Fre, upd_ne ne]; exact h6⟩
    ap := R.ap
    pn := R.pn }
theorem set_get_ne {α : Type} {l : List α} {i j : Nat} {a : α} (h : j ≠ i) : (l.set i a)[j]? = l[j]? := List.getElem?_set_ne (Ne.symm h)
theorem set_get {α : Type} {l : List α} {i : Nat} {a b : α} (h : l[i]? = some b) : (l.set i a)[i]? = some a := by
  have := (List.getElem?_eq_some_iff.mp h).1
  rw [List.getElem?_set_self this]
/-- a slot's container is frozen -/
theorem Rl.frzS (R : Rl e r σ H F fm) {i : Nat} {d : D} (h : r[i]? = some (.own d)) : ∃ F' v, Rl e (r.set i (.val d)) σ H F' fm ∧ Same F F' ∧ σ[i]? = some (some v) ∧ Rep e F' d v := by
  obtain ⟨p, u, hp, h1, h2, n⟩ := R.ow i d h
  have s : Same F (L2.upd F p u) := same_upd n.1
  have rp : Rep e (L2.upd F p u) d (.ref p) := (h2.mono s).rep upd_same
  refine ⟨L2.upd F p u, .ref p, ?_, s, hp, rp⟩
  exact {
    fh := fun a w q => by
      by_cases ha : a = p
      · subst ha; rw [upd_same] at q; cases q; exact .inl h1
      · rw [upd_ne ha] at q; exact R.fh a w q
    gh := R.gh
    bf := fun a b => by
      have ne : a ≠ p := fun z => n.2.2 (z ▸ b)
      rw [upd_ne ne]; exact R.bf a b
    bh := R.bh
    ln := by rw [List.length_set]; exact R.ln
    va := fun j d' h' => by
      by_cases hj : j = i
      · subst hj; rw [set_get h] at h'; cases h'; exact ⟨.ref p, hp, rp⟩
      · rw [set_get_ne hj] at h'; obtain ⟨v, h3, h4⟩ := R.va j d' h'; exact ⟨v, h3, h4.mono s⟩
    ow := fun j d' h' => by
      by_cases hj : j = i
      · subst hj; rw [set_get h] at h'; cases h'
      · rw [set_get_ne hj] at h'
        obtain ⟨q, w, h3, h4, h5, h6⟩ := R.ow j d' h'
        have ne : q ≠ p := fun z => hj (R.ap j i d' d p h' h (by rw [← z]; exact h3) hp)
        exact ⟨q, w, h3, h4, h5.mono s, by rw [Fre, upd_ne ne]; exact h6⟩
    ap := fun j k d1 d2 q h3 h4 h5 h6 => by
      by_cases hj : j = i
      · subst hj; rw [set_get h] at h3; cases h3
      · by_cases hk : k = i
        · subst hk; rw [set_get h] at h4; cases h4
        · rw [set_get_ne hj] at h3; rw [set_get_ne hk] at h4; exact R.ap j k d1 d2 q h3 h4 h5 h6
    pn := R.pn }
/-- a slot's container is changed -/
theorem Rl.mut (R : Rl e r σ H F fm) {i : Nat} {d d' : D} {p : Addr} {u : HO} (h : r[i]? = some (.own d)) (hp : σ[i]? = some (some (.ref p))) (q : OR e F u d') : Rl e (r.set i (.own d')) σ (L2.upd H p u) F fm := by
  obtain ⟨p', u0, hp', h1, h2, n⟩ := R.ow i d h
  rw [hp] at hp'; cases hp'
  exact {
    fh := R.fh.lay n.1
    gh := fun a u q => by rw [upd_ne (ne_of_none q n.2.1)]; exact R.gh a u q
    bf := R.bf
    bh := fun a b => by
      by_cases ha : a = p
      · subst ha; rw [upd_same]; simp
      · rw [upd_ne ha]; exact R.bh a b
    ln := by rw [List.length_set]; exact R.ln
    va := fun j d1 h' => by
      by_cases hj : j = i
      · subst hj; rw [set_get h] at h'; cases h'
      · rw [set_get_ne hj] at h'; exact R.va j d1 h'
    ow := fun j d1 h' => by
      by_cases hj : j = i
      · subst hj; rw [set_get h] at h'; cases h'; exact ⟨p, u, hp, upd_same, q, n⟩
      · rw [set_get_ne hj] at h'
        obtain ⟨q', w, h3, h4, h5, h6⟩ := R.ow j d1 h'
        have ne : q' ≠ p := fun z => hj (R.ap j i d1 d p h' h (by rw [← z]; exact h3) hp)
        exact ⟨q', w, h3, by rw [upd_ne ne]; exact h4, h5, h6⟩
    ap := fun j k d1 d2 q h3 h4 h5 h6 => by
      by_cases hj : j = i
      · by_cases hk : k = i
        · rw [hj, hk]
        · subst hj; rw [set_get_ne hk] at h4; exact R.ap j k d d2 q h h4 h5 h6
      · by_cases hk : k = i
        · subst hk; rw [set_get_ne hj] at h3; exact R.ap j k d1 d q h3 h h5 h6
        · rw [set_get_ne hj] at h3; rw [set_get_ne hk] at h4; exact R.ap j k d1 d2 q h3 h4 h5 h6
    pn := R.pn }
/-- a slot gets a value -/
theorem Rl.setV (R : Rl e r σ H F fm) {i : Nat} {d : D} {v : V} (q : Rep e F d v) (hp : ∀ q ∈ fm.pn, q.1 ≠ i) : Rl e (r.set i (.val d)) (σ.set i (some v)) H F fm where
  fh := R.fh
  gh := R.gh
  bf := R.bf
  bh := R.bh
  ln := by rw [List.length_set, List.length_set]; exact R.ln
  va := fun j d1 h' => by
    by_cases hj : j = i
    · subst hj
      have hl : j < r.length := by have := (List.getElem?_eq_some_iff.mp h').1; rwa [List.length_set] at this
      rw [List.getElem?_set_self hl] at h'
      cases h'
      exact ⟨v, List.getElem?_set_self (by rw [R.ln]; exact hl), q⟩
    · rw [set_get_ne hj] at h' ⊢; exact R.va j d1 h'
  ow := fun j d1 h' => by
    by_cases hj : j = i
    · subst hj
      have hl : j < r.length := by have := (List.getElem?_eq_some_iff.mp h').1; rwa [List.length_set] at this
      rw [List.getElem?_set_self hl] at h'
      cases h'
    · rw [set_get_ne hj] at h' ⊢; exact R.ow j d1 h'
  ap := fun j k d1 d2 q h3 h4 h5 h6 => by
    by_cases hj : j = i
    · subst hj
      have hl : j < r.length := by have := (List.getElem?_eq_some_iff.mp h3).1; rwa [List.length_set] at this
      rw [List.getElem?_set_self hl] at h3
      cases h3
    · by_cases hk : k = i
      · subst hk
        have hl : k < r.length := by have := (List.getElem?_eq_some_iff.mp h4).1; rwa [List.length_set] at this
        rw [List.getElem?_set_self hl] at h4
        cases h4
      · rw [set_get_ne hj] at h3 h5; rw [set_get_ne hk] at h4 h6; exact R.ap j k d1 d2 q h3 h4 h5 h6
  pn := fun q hq => by rw [set_get_ne (hp q hq)]; exact R.pn q hq
/-- a slot gets a new container -/
theorem Rl.setO (R : Rl e r σ H F fm) {i : Nat} {d : D} {p : Addr} (T : Tmp e r σ H F fm p d) (hp : ∀ q ∈ fm.pn, q.1 ≠ i) : Rl e (r.set i (.own d)) (σ.set i (some (.ref p))) H F fm := by
  obtain ⟨⟨u, h1, h2⟩, n, no⟩ := T
  exact {
    fh := R.fh
    gh := R.gh
    bf := R.bf
    bh := R.bh
    ln := by rw [List.length_set, List.length_set]; exact R.ln
    va := fun j d1 h' => by
      by_cases hj : j = i
      · subst hj
        have hl : j < r.length := by have := (List.getElem?_eq_some_iff.mp h').1; rwa [List.length_set] at this
        rw [List.getElem?_set_self hl] at h'
        cases h'
      · rw [set_get_ne hj] at h' ⊢; exact R.va j d1 h'
    ow := fun j d1 h' => by
      by_cases hj : j = i
      · subst hj
        have hl : j < r.length := by have := (List.getElem?_eq_some_iff.mp h').1; rwa [List.length_set] at this
        rw [List.getElem?_set_self hl] at h'
        cases h'
        exact ⟨p, u, List.getElem?_set_self (by rw [R.ln]; exact hl), h1, h2, n⟩
      · rw [set_get_ne hj] at h' ⊢; exact R.ow j d1 h'
    ap := fun j k d1 d2 q h3 h4 h5 h6 => by
      have len : ∀ {j d1}, (r.set i (.own d))[j]? = some (.own d1) → j < r.length := fun {j d1} h => by
        have := (List.getElem?_eq_some_iff.mp h).1; rwa [List.length_set] at this
      by_cases hj : j = i
      · by_cases hk : k = i
        · rw [hj, hk]
        · subst hj
          rw [set_get_ne hk] at h4 h6
          rw [List.getElem?_set_self (by rw [R.ln]; exact len h3)] at h5
          cases h5
          exact absurd h6 (no k d2 h4)
      · by_cases hk : k = i
        · subst hk
          rw [set_get_ne hj] at h3 h5
          rw [List.getElem?_set_self (by rw [R.ln]; exact len h4)] at h6
          cases h6
          exact absurd h5 (no j d1 h3)
        · rw [set_get_ne hj] at h3 h5; rw [set_get_ne hk] at h4 h6; exact R.ap j k d1 d2 q h3 h4 h5 h6
    pn := fun q hq => by rw [set_get_ne (hp q hq)]; exact R.pn q hq }
/-- a slot is forgotten -/
theorem Rl.drop (R : Rl e r σ H F fm) (i : Nat) : Rl e (r.set i .un) σ H F fm where
  fh := R.fh
  gh := R.gh
  bf := R.bf
  bh := R.bh
  ln := by rw [List.length_set]; exact R.ln
  va := fun j d1 h' => by
    by_cases hj : j = i
    · subst hj
      have hl : j < r.length := by have := (List.getElem?_eq_some_iff.mp h').1; rwa [List.length_set] at this
      rw [List.getElem?_set_self hl] at h'
      cases h'
    · rw [set_get_ne hj] at h'; exact R.va j d1 h'
  ow := fun j d1 h' => by
    by_cases hj : j = i
    · subst hj
      have hl : j < r.length := by have := (List.getElem?_eq_some_iff.mp h').1; rwa [List.length_set] at this
      rw [List.getElem?_set_self hl] at h'
      cases h'
    · rw [set_get_ne hj] at h'; exact R.ow j d1 h'
  ap := fun j k d1 d2 q h3 h4 h5 h6 => by
    have no : ∀ {j d1}, j = i → (r.set i .un)[j]? = some (.own d1) → False := fun {j d1} z h => by
      subst z
      have hl : j < r.length := by have := (List.getElem?_eq_some_iff.mp h).1; rwa [List.length_set] at this
      rw [List.getElem?_set_self hl] at h
      cases h
    by_cases hj : j = i
    · exact (no hj h3).elim
    · by_cases hk : k = i
      · exact (no hk h4).elim
      · rw [set_get_ne hj] at h3; rw [set_get_ne hk] at h4; exact R.ap j k d1 d2 q h3 h4 h5 h6
  pn := R.pn
/-- a slot's container leaves the slot -/
theorem Rl.out (R : Rl e r σ H F fm) {i : Nat} {d : D} (h : r[i]? = some (.own d)) : ∃ p, σ[i]? = some (some (.ref p)) ∧ Rl e (r.set i .un) σ H F fm ∧ Tmp e (r.set i .un) σ H F fm p d := by
  obtain ⟨p, u, hp, h1, h2, n⟩ := R.ow i d h
  refine ⟨p, hp, R.drop i, ⟨u, h1, h2⟩, n, fun j d' hj z => ?_⟩
  by_cases hji : j = i
  · subst hji; rw [set_get h] at hj; cases hj
  · rw [set_get_ne hji] at hj
    exact hji (R.ap j i d' d p hj h z hp)

/-! ### a value that is read -/
/-- the value bears the data, its own object in the heap H -/
def Vw (e : En) (H F : Hp) : D → V → Prop
  | .tup l, v => ∃ a vs, v = .ref a ∧ SqT e.K H a vs ∧ RepL e F l vs
  | .lst l, v => ∃ a vs, v = .ref a ∧ SqL e.K H a vs ∧ RepL e F l vs
  | .dK ks l, v => ∃ a vs, v = .ref a ∧ Lk H a (.dK (ks.zip vs)) ∧ ks.length = vs.length ∧ RepL e F l vs
  | .dT ks l, v => ∃ a vs, v = .ref a ∧ Lk H a (.dT (ks.zip vs)) ∧ ks.length = vs.length ∧ RepL e F l vs
  | .ins c l, v => ∃ a dx vs, v = .ref a ∧ H a = some (.ins (e.ct c) dx ((e.fl c).zip vs)) ∧ l.length ≤ (e.fl c).length ∧ RepL e F l vs
  | .non, v => v = .non
  | .bl b, v => v = .bl b
  | .int i, v => v = .int i
  | .str x, v => v = .str x
theorem Und.sqT (h : Und F H) {a : Addr} {vs : List V} (q : SqT e.K F a vs) : SqT e.K H a vs := by
  rcases q with (q | ⟨o, q⟩) | q
  · rcases h _ _ q with z | ⟨z, _⟩
    · exact .inl (.inl z)
    · cases z
  · rcases h _ _ q with z | ⟨z, _⟩
    · exact .inl (.inr ⟨o, z⟩)
    · cases z
  · exact .inr q
theorem Und.sqL (h : Und F H) {a : Addr} {vs : List V} (q : SqL e.K F a vs) : SqL e.K H a vs := by
  rcases q with (q | ⟨o, q⟩) | q
  · rcases h _ _ q with z | ⟨z, _⟩
    · exact .inl (.inl z)
    · cases z
  · rcases h _ _ q with z | ⟨z, _⟩
    · exact .inl (.inr ⟨o, z⟩)
    · cases z
  · exact .inr q
theorem Rep.vw (h : Und F H) : ∀ {d : D} {v : V}, Rep e F d v → Vw e H F d v
  | .non, _, q => q
  | .bl _, _, q => q
  | .int _, _, q => q
  | .str _, _, q => q
  | .tup _, _, ⟨a, vs, h0, h1, h2⟩ => ⟨a, vs, h0, h.sqT h1, h2⟩
  | .lst _, _, ⟨a, vs, h0, h1, h2⟩ => ⟨a, vs, h0, h.sqL h1, h2⟩
  | .dK _ _, _, ⟨a, vs, h0, h1, h2, h3⟩ => ⟨a, vs, h0, h _ _ h1, h2, h3⟩
  | .dT _ _, _, ⟨a, vs, h0, h1, h2, h3⟩ => ⟨a, vs, h0, h _ _ h1, h2, h3⟩
  | .ins _ _, _, ⟨a, dx, vs, h0, h1, h2, h3⟩ => ⟨a, dx, vs, h0, (by rcases h _ _ h1 with z | ⟨z, _⟩; exact z; cases z), h2, h3⟩
theorem OR.vw {a : Addr} {u : HO} {d : D} (h : OR e F u d) (q : H a = some u) : Vw e H F d (.ref a) := by
  cases u <;> cases d <;> first
    | exact h.elim
    | exact ⟨a, _, rfl, .inl (.inl q), h⟩
    | (obtain ⟨vs, h1, h2, h3⟩ := h; subst h1; exact ⟨a, vs, rfl, .inl q, h2, h3⟩)
    | (obtain ⟨vs, h1, h2, h3, h4⟩ := h; subst h1; subst h2; exact ⟨a, _, vs, rfl, q, h3, h4⟩)
end
end Mi

end
section
set_option maxRecDepth 100000
/-! Mi1: what an expression does to the data, by a function of the data (a mirror). -/
namespace Mi
open PySem L2

/-- what an exception must meet, and what is known of the frame -/
structure Wi where
  w : WX
  c : Fm → Prop
abbrev ME := Rho → Ou RV
abbrev MT := Rho → Ou Bool
abbrev MS := Rho → So

def Ou.bd {α β : Type} : Ou α → (α → Rho → Ou β) → Ou β
  | .ok a r, f => f a r
  | .ex x r, _ => .ex x r
  | .no, _ => .no
@[simp] theorem bd_ok {α β : Type} (a : α) (r : Rho) (f : α → Rho → Ou β) : (Ou.ok a r).bd f = f a r := rfl
@[simp] theorem bd_ex {α β : Type} (x : Ex) (r : Rho) (f : α → Rho → Ou β) : (Ou.ex x r).bd f = .ex x r := rfl
@[simp] theorem bd_no {α β : Type} (f : α → Rho → Ou β) : (Ou.no : Ou α).bd f = .no := rfl

/-- an exception as it lies -/
def ExR (e : En) (x : Ex) (cls : Value) (d : Option Addr) (H F : Hp) : Prop :=
  cls = .ref (e.ct x.c) ∧ ((x.l = [] ∧ d = none) ∨ ∃ a vs, x.l ≠ [] ∧ d = some a ∧ H a = some (.xd ((e.fl x.c).zip vs)) ∧ RepL e F x.l vs ∧ x.l.length = (e.fl x.c).length)
/-- what is wanted behind it -/
def Po {α : Type} (e : En) (W : Wi) (fm : Fm) (F : Hp) (σ : St) (K : α → Rho → Hp → Hp → Prop) (o : Ou α) : Prop :=
  match o with
  | .ok a r => ∀ H' F', Rl e r σ H' F' fm → Same F F' → K a r H' F'
  | .ex x r => ∀ cls d H' F', Rl e r σ H' F' fm → Same F F' → ExR e x cls d H' F' → W.w cls d σ H'
  | .no => False
section
variable {α β : Type} {e : En} {X : Cx} {W : Wi} {fm : Fm} {F F1 : Hp} {σ : St}
theorem Po.mono {K K' : α → Rho → Hp → Hp → Prop} {o : Ou α} (h : Po e W fm F σ K o) (k : ∀ a r H' F', Rl e r σ H' F' fm → Same F F' → K a r H' F' → K' a r H' F') : Po e W fm F σ K' o := by
  cases o with
  | ok a r => exact fun H' F' R s => k a r H' F' R s (h H' F' R s)
  | ex x r => exact h
  | no => exact h
theorem Po.le {K : α → Rho → Hp → Hp → Prop} {o : Ou α} (s : Same F F1) (h : Po e W fm F σ K o) : Po e W fm F1 σ K o := by
  cases o with
  | ok a r => exact fun H' F' R s' => h H' F' R (s.trans s')
  | ex x r => exact fun cls d H' F' R s' => h cls d H' F' R (s.trans s')
  | no => exact h
theorem Po.bd {K : β → Rho → Hp → Hp → Prop} {o : Ou α} {f : α → Rho → Ou β} (h : Po e W fm F σ K (o.bd f)) : Po e W fm F σ (fun a r _ F' => Po e W fm F' σ K (f a r)) o := by
  cases o with
  | ok a r => exact fun H' F' R s => Po.le s h
  | ex x r => exact h
  | no => exact h
end

/-! ### judgements -/
abbrev KE' (e : En) (fm : Fm) (σ : St) (Q : VK) : RV → Rho → Hp → Hp → Prop := fun rv r' H' F' => ∀ v, RvR e rv v r' σ H' F' fm → Q v H'
abbrev KD (e : En) (Q : VK) : D → Rho → Hp → Hp → Prop := fun d _ H' F' => ∀ v, Rep e F' d v → Q v H'
abbrev KA (e : En) (Q : List V → Hp → Prop) : List D → Rho → Hp → Hp → Prop := fun ds _ H' F' => ∀ vs, RepL e F' ds vs → Q vs H'
abbrev KT (Q : Bool → Hp → Prop) : Bool → Rho → Hp → Hp → Prop := fun b _ H' _ => Q b H'
def TeE (e : En) (W : Wi) (t : TE) (m : ME) : Prop := ∀ r σ H F fm Q, W.c fm → Rl e r σ H F fm → Po e W fm F σ (KE' e fm σ Q) (m r) → t σ H Q
def TeD (e : En) (W : Wi) (t : TE) (m : Rho → Ou D) : Prop := ∀ r σ H F fm Q, W.c fm → Rl e r σ H F fm → Po e W fm F σ (KD e Q) (m r) → t σ H Q
def TeA (e : En) (W : Wi) (t : TA) (m : Rho → Ou (List D)) : Prop := ∀ r σ H F fm Q, W.c fm → Rl e r σ H F fm → Po e W fm F σ (KA e Q) (m r) → t σ H Q
def TeT (e : En) (W : Wi) (t : TT) (m : MT) : Prop := ∀ r σ H F fm Q, W.c fm → Rl e r σ H F fm → Po e W fm F σ (KT Q) (m r) → t σ H Q
structure SE (e : En) (X : Cx) (W : Wi) (a : Expr) (m : ME) : Prop where
  ex : ∃ t, PE X a t ∧ TeE e W t m
structure SD (e : En) (X : Cx) (W : Wi) (a : Expr) (m : Rho → Ou D) : Prop where
  ex : ∃ t, PE X a t ∧ TeD e W t m
structure SA (e : En) (X : Cx) (W : Wi) (es : List Expr) (m : Rho → Ou (List D)) : Prop where
  ex : ∃ t, PA X es t ∧ TeA e W t m
  len : ∀ r ds r', m r = .ok ds r' → ds.length = es.length
structure ST (e : En) (X : Cx) (W : Wi) (a : Expr) (m : MT) : Prop where
  ex : ∃ t, PT X a t ∧ TeT e W t m

/-! ### frozen, settled, looked at -/
def stR : RV → RV
  | .own d => .val d
  | x => x
def stl (m : ME) : ME := fun r => (m r).bd fun rv r' => .ok (stR rv) r'
def look : RV → Rho → Option D
  | .val d, _ => some d
  | .own _, _ => none
  | .bor i, r => match r[i]? with
    | some (.own d) => some d
    | some (.val d) => some d
    | _ => none
def frz : RV → Rho → Ou D
  | .val d, r => .ok d r
  | .own d, r => .ok d r
  | .bor i, r => match r[i]? with
    | some (.own d) => .ok d (r.set i (.val d))
    | some (.val d) => .ok d r
    | _ => .no
theorem frz_bor (i : Nat) (r : Rho) : frz (.bor i) r = match r[i]? with
    | some (.own d) => .ok d (r.set i (.val d))
    | some (.val d) => .ok d r
    | _ => .no := rfl
theorem look_bor (i : Nat) (r : Rho) : look (.bor i) r = match r[i]? with
    | some (.own d) => some d
    | some (.val d) => some d
    | _ => none := rfl
def fz (m : ME) : Rho → Ou D := fun r => (m r).bd frz
def ofD (m : Rho → Ou D) : ME := fun r => (m r).bd fun d r' => .ok (.val d) r'

section
variable {e : En} {X : Cx} {W : Wi} {a b c : Expr} {m n : ME} {pos : Pos}
theorem TeE.stl {t : TE} (h : TeE e W t m) : TeE e W t (stl m) := fun r σ H F fm Q hC R q => h r σ H F fm Q hC R (by
  refine (Po.bd q).mono fun rv r' H' F' R' s k v hv => ?_
  cases rv with
  | val d => exact k H' F' R' (Same.refl _) v hv
  | bor i => exact k H' F' R' (Same.refl _) v hv
  | own d =>
    obtain ⟨p, rfl, T⟩ := hv
    obtain ⟨F2, R2, s2, rp⟩ := R'.frzT T
    exact k H' F2 R2 s2 _ rp)
theorem SE.stl (h : SE e X W a m) : SE e X W a (stl m) := by
  obtain ⟨t, h1, h2⟩ := h.ex
  exact ⟨t, h1, TeE.stl h2⟩
theorem frz_ok {rv : RV} {r : Rho} {σ : St} {H F : Hp} {fm : Fm} {v : V} {K : D → Rho → Hp → Hp → Prop} (R : Rl e r σ H F fm) (hv : RvR e rv v r σ H F fm) (q : Po e W fm F σ K (frz rv r)) :
    ∃ d r' F', Rl e r' σ H F' fm ∧ Same F F' ∧ Rep e F' d v ∧ K d r' H F' := by
  cases rv with
  | val d => exact ⟨d, r, F, R, Same.refl _, hv, q H F R (Same.refl _)⟩
  | own d =>
    obtain ⟨p, rfl, T⟩ := hv
    obtain ⟨F2, R2, s2, rp⟩ := R.frzT T
    exact ⟨d, r, F2, R2, s2, rp, q H F2 R2 s2⟩
  | bor i =>
    rw [frz_bor] at q
    cases z : r[i]? with
    | none => rw [z] at q; exact q.elim
    | some lv =>
      rw [z] at q
      cases lv with
      | un => exact q.elim
      | val d =>
        obtain ⟨v', h1, h2⟩ := R.va i d z
        have hv' : σ[i]? = some (some v) := hv
        rw [hv'] at h1; cases h1
        exact ⟨d, r, F, R, Same.refl _, h2, q H F R (Same.refl _)⟩
      | own d =>
        obtain ⟨F2, v', R2, s2, h1, h2⟩ := R.frzS z
        have hv' : σ[i]? = some (some v) := hv
        rw [hv'] at h1; cases h1
        exact ⟨d, _, F2, R2, s2, h2, q H F2 R2 s2⟩
theorem TeE.fz {t : TE} (h : TeE e W t m) : TeD e W t (fz m) := fun r σ H F fm Q hC R q => h r σ H F fm Q hC R (by
  refine (Po.bd q).mono fun rv r' H' F' R' s k v hv => ?_
  obtain ⟨d, r2, F2, _, _, h2, k2⟩ := frz_ok R' hv k
  exact k2 v h2)
theorem SE.fz (h : SE e X W a m) : SD e X W a (fz m) := by
  obtain ⟨t, h1, h2⟩ := h.ex
  exact ⟨t, h1, TeE.fz h2⟩
theorem look_vw {rv : RV} {r : Rho} {σ : St} {H F : Hp} {fm : Fm} {v : V} {d : D} (R : Rl e r σ H F fm) (hv : RvR e rv v r σ H F fm) (q : look rv r = some d) : Vw e H F d v := by
  cases rv with
  | val d' => cases q; exact Rep.vw R.fh hv
  | own d' => cases q
  | bor i =>
    rw [look_bor] at q
    have hv' : σ[i]? = some (some v) := hv
    cases z : r[i]? with
    | none => rw [z] at q; cases q
    | some lv =>
      rw [z] at q
      cases lv with
      | un => cases q
      | val d' =>
        cases q
        obtain ⟨v', h1, h2⟩ := R.va i d z
        rw [hv'] at h1; cases h1
        exact h2.vw R.fh
      | own d' =>
        cases q
        obtain ⟨p, u, h1, h2, h3, _⟩ := R.ow i d z
        rw [hv'] at h1; cases h1
        exact h3.vw h2
/-- what was yielded and settled stays so while more is evaluated -/
theorem stay {rv : RV} {r r' : Rho} {σ : St} {H H' F F' : Hp} {fm : Fm} {v : V} (hs : ∀ d, rv ≠ .own d) (s : Same F F') (hv : RvR e rv v r σ H F fm) : RvR e rv v r' σ H' F' fm := by
  cases rv with
  | val d => exact Rep.mono s hv
  | own d => exact (hs d rfl).elim
  | bor i => exact hv
theorem stl_own {m : ME} {r r' : Rho} {rv : RV} (h : stl m r = .ok rv r') : ∀ d, rv ≠ .own d := by
  unfold Mi.stl at h
  cases z : m r with
  | ok x r1 =>
    rw [z] at h
    cases x <;> (cases h; intro d q; cases q)
  | ex x r1 => rw [z] at h; cases h
  | no => rw [z] at h; cases h
end

/-! ### names, constants -/
def eVar (i : Nat) : ME := fun r => match r[i]? with
  | some (.val d) => .ok (.val d) r
  | some (.own _) => .ok (.bor i) r
  | _ => .no
def eC (d : D) : ME := fun r => .ok (.val d) r
section
variable {e : En} {X : Cx} {W : Wi} {a b c : Expr} {m n : ME} {pos : Pos}
theorem tVar_te {i : Nat} : TeE e W (tVar i) (eVar i) := fun r σ H F fm Q hC R q => by
  unfold eVar at q
  cases z : r[i]? with
  | none => rw [z] at q; exact q.elim
  | some lv =>
    rw [z] at q
    cases lv with
    | un => exact q.elim
    | val d =>
      obtain ⟨v, h1, h2⟩ := R.va i d z
      exact ⟨v, h1, q H F R (Same.refl _) v h2⟩
    | own d =>
      obtain ⟨p, u, h1, h2, h3, _⟩ := R.ow i d z
      exact ⟨.ref p, h1, q H F R (Same.refl _) _ h1⟩
theorem se_var {i : Nat} {x : Str} (hN : X.N[i]? = some x) (hv : Vis X.env.scope x) (hd : (x == ("__debug__" : Str)) = false) (hcd : (x == ("__classdict__" : Str)) = false) : SE e X W (.Name x pos) (eVar i) :=
  ⟨_, pe_var hN hv hd hcd, tVar_te⟩
theorem tC_te {d : D} {v : V} (h : ∀ F, Rep e F d v) : TeE e W (tC v) (eC d) := fun r σ H F fm Q hC R q => q H F R (Same.refl _) v (h F)
theorem se_int {i : Int} {j pos} : SE e X W (.Constant (.int i) j pos) (eC (.int i)) := ⟨_, pe_int, tC_te fun _ => rfl⟩
theorem se_bl {b : Bool} {j pos} : SE e X W (.Constant (.bool b) j pos) (eC (.bl b)) := ⟨_, pe_bl, tC_te fun _ => rfl⟩
theorem se_non {j pos} : SE e X W (.Constant .none j pos) (eC .non) := ⟨_, pe_non, tC_te fun _ => rfl⟩
theorem se_str {x : Str} {j pos} : SE e X W (.Constant (.str x) j pos) (eC (.str x)) := ⟨_, pe_str, tC_te fun _ => rfl⟩
theorem se_glob {x : Str} {v : V} {u : Value} {d : D} (hg : Gl X x) (hm : X.mg x = some u) (r : RelV v u) (h : ∀ F, Rep e F d v) (hd : (x == ("__debug__" : Str)) = false := by decide) : SE e X W (.Name x pos) (eC d) :=
  ⟨_, pe_glob hg hm r hd, tC_te h⟩

/-! ### two operands -/
/-- the result of an operation on data: a value (of the operands' parts), or something new -/
def PQ (e : En) (H F : Hp) (o : Option R0) (Q : VK) : Prop :=
  match o with
  | some (.val d) => ∀ v, Rep e F d v → Q v H
  | some (.own d) => ∀ p u, H p = none → OR e F u d → Q (.ref p) (upd H p u)
  | none => False
def res : Option R0 → Rho → Ou RV
  | some (.val d), r => .ok (.val d) r
  | some (.own (.tup l)), r => .ok (.val (.tup l)) r
  | some (.own d), r => .ok (.own d) r
  | none, _ => .no
theorem res_ok {o : Option R0} {r : Rho} {σ : St} {H F : Hp} {fm : Fm} {Q : VK} (R : Rl e r σ H F fm) (q : Po e W fm F σ (KE' e fm σ Q) (res o r)) : PQ e H F o Q := by
  cases o with
  | none => exact q.elim
  | some x =>
    cases x with
    | val d => exact fun v hv => q H F R (Same.refl _) v hv
    | own d =>
      intro p u hp ho
      cases d with
      | tup l =>
        obtain ⟨F2, R2, s2, rp⟩ := (R.new hp).frzT (R.tmp hp ho)
        exact q _ F2 R2 s2 _ rp
      | _ => exact q _ F (R.new hp) (Same.refl _) _ ⟨p, rfl, R.tmp hp ho⟩
def eOp (f : D → D → Option R0) (m n : ME) : ME := fun r => (stl m r).bd fun x r1 => (stl n r1).bd fun y r2 => match look x r2, look y r2 with
  | some d1, some d2 => res (f d1 d2) r2
  | _, _ => .no
def P2 (e : En) (f : D → D → Option R0) (r : R2) : Prop := ∀ d1 d2 v1 v2 H F Q, Vw e H F d1 v1 → Vw e H F d2 v2 → PQ e H F (f d1 d2) Q → r v1 v2 H Q
theorem tOp_te {ta tb : TE} {r : R2} {f : D → D → Option R0} (hp : P2 e f r) (ha : TeE e W ta m) (hb : TeE e W tb n) : TeE e W (tOp r ta tb) (eOp f m n) := fun ρ σ H F fm Q hC R q => by
  refine TeE.stl ha ρ σ H F fm _ hC R ?_
  have q1 := Po.bd q
  cases z1 : stl m ρ with
  | no => rw [z1] at q1; exact q1
  | ex x r1 => rw [z1] at q1; exact q1
  | ok x r1 =>
    rw [z1] at q1
    intro H1 F1 R1 s1 v1 hv1
    have q2 := Po.bd (q1 H1 F1 R1 s1)
    refine TeE.stl hb r1 σ H1 F1 fm _ hC R1 ?_
    refine q2.mono fun y r2 H2 F2 R2 s2 q3 v2 hv2 => ?_
    have hv1' : RvR e x v1 r2 σ H2 F2 fm := stay (stl_own z1) s2 hv1
    cases l1 : look x r2 with
    | none => rw [l1] at q3; exact q3.elim
    | some d1 =>
      cases l2 : look y r2 with
      | none => rw [l1, l2] at q3; exact q3.elim
      | some d2 =>
        rw [l1, l2] at q3
        exact hp d1 d2 v1 v2 H2 F2 Q (look_vw R2 hv1' l1) (look_vw R2 hv2 l2) (res_ok R2 q3)
theorem se_op {op : Operator} {r : R2} {f : D → D → Option R0} (ho : OpR X (binaryOp op) r) (hp : P2 e f r) (ha : SE e X W a m) (hb : SE e X W b n) : SE e X W (.BinOp a op b pos) (eOp f m n) := by
  obtain ⟨ta, ha1, ha2⟩ := ha.ex
  obtain ⟨tb, hb1, hb2⟩ := hb.ex
  exact ⟨_, pe_op ho ha1 hb1, tOp_te hp ha2 hb2⟩
theorem se_cmp {op : CmpOp} {r : R2} {f : D → D → Option R0} (ho : OpR X (compareOp op) r) (hp : P2 e f r) (hm : behindInMarks op b = false) (ha : SE e X W a m) (hb : SE e X W b n) : SE e X W (.Compare a [op] [b] pos) (eOp f m n) := by
  obtain ⟨ta, ha1, ha2⟩ := ha.ex
  obtain ⟨tb, hb1, hb2⟩ := hb.ex
  exact ⟨_, pe_cmpR ho ha1 hb1 hm, tOp_te hp ha2 hb2⟩
/-- a truth's own test -/
def tV (m : ME) : MT := fun r => (m r).bd fun rv r' => match rv with
  | .val (.bl b) => .ok b r'
  | _ => .no
theorem tTest_te {t : TE} (h : TeE e W t m) : TeT e W (tTest t) (tV m) := fun r σ H F fm Q hC R q => h r σ H F fm _ hC R (by
  refine (Po.bd q).mono fun rv r' H' F' R' s k v hv => ?_
  cases rv with
  | val d =>
    cases d with
    | bl b => cases hv; exact ⟨b, rfl, k H' F' R' (Same.refl _)⟩
    | _ => exact k.elim
  | _ => exact k.elim)
theorem st_cmp {op : CmpOp} {r : R2} {f : D → D → Option R0} (ho : OpR X (compareOp op) r) (hp : P2 e f r) (hm : behindInMarks op b = false) (ha : SE e X W a m) (hb : SE e X W b n) : ST e X W (.Compare a [op] [b] pos) (tV (eOp f m n)) := by
  obtain ⟨ta, ha1, ha2⟩ := ha.ex
  obtain ⟨tb, hb1, hb2⟩ := hb.ex
  exact ⟨_, pt_cmpR ho ha1 hb1 hm, tTest_te (tOp_te hp ha2 hb2)⟩

/-! ### one operand -/
def P1 (e : En) (f : D → Option R0) (r : V → Hp → VK → Prop) : Prop := ∀ d v H F Q, Vw e H F d v → PQ e H F (f d) Q → r v H Q
def eUn (f : D → Option R0) (m : ME) : ME := fun r => (stl m r).bd fun x r1 => match look x r1 with
  | some d => res (f d) r1
  | none => .no
theorem tUn_te {ta : TE} {r : V → Hp → VK → Prop} {f : D → Option R0} (hp : P1 e f r) (ha : TeE e W ta m) : TeE e W (tUn r ta) (eUn f m) := fun ρ σ H F fm Q hC R q => by
  refine TeE.stl ha ρ σ H F fm _ hC R ?_
  refine (Po.bd q).mono fun x r1 H1 F1 R1 s1 q1 v1 hv1 => ?_
  cases l1 : look x r1 with
  | none => rw [l1] at q1; exact q1.elim
  | some d1 =>
    rw [l1] at q1
    exact hp d1 v1 H1 F1 Q (look_vw R1 hv1 l1) (res_ok R1 q1)
theorem se_un {op : UnaryOp} {r : V → Hp → VK → Prop} {f : D → Option R0} (ho : UnR X (unaryOp op) r) (hp : P1 e f r) (ha : SE e X W a m) : SE e X W (.UnaryOp op a pos) (eUn f m) := by
  obtain ⟨ta, ha1, ha2⟩ := ha.ex
  exact ⟨_, pe_un ho ha1, tUn_te hp ha2⟩
/-- o[i] by a rule of subscription -/
theorem se_ix {r : R2} {f : D → D → Option R0} (ho : IxR X r) (hp : P2 e f r) (hs : PlainIx b) (ha : SE e X W a m) (hb : SE e X W b n) : SE e X W (.Subscript a b pos) (eOp f m n) := by
  obtain ⟨ta, ha1, ha2⟩ := ha.ex
  obtain ⟨tb, hb1, hb2⟩ := hb.ex
  exact ⟨_, pe_ix ho ha1 hb1 hs, tOp_te hp ha2 hb2⟩
/-- a built-in of one argument -/
def tCB1 (r : List V → Hp → VK → Prop) (ta : TE) : TE := tCB r (tCons ta tNil)
def P1L (e : En) (f : D → Option R0) (r : List V → Hp → VK → Prop) : Prop := P1 e f fun v => r [v]
theorem tCB1_te {ta : TE} {r : List V → Hp → VK → Prop} {f : D → Option R0} (hp : P1L e f r) (ha : TeE e W ta m) : TeE e W (tCB r (tCons ta tNil)) (eUn f m) := fun ρ σ H F fm Q hC R q =>
  tUn_te (r := fun v => r [v]) hp ha ρ σ H F fm Q hC R q
theorem se_call1 {x : Str} {id : String} {r : List V → Hp → VK → Prop} {f : D → Option R0} {p : Pos} (hc : CallR X (.builtin id) r) (hp : P1L e f r) (hg : Gl X x) (hm : X.mg x = none) (hv : bootBuiltins x = some (.builtin id)) (ha : SE e X W a m)
    (hn : x ≠ "__name__" := by decide) (hdb : (x == ("__debug__" : Str)) = false := by decide) (hst : starEach [a] X.env = (false, eval a X.env) :: starEach [] X.env := by rfl) (hpl : (backTo pos (starEach [] X.env)).any (·.1) = false := by rfl) : SE e X W (.Call (.Name x p) [a] [] pos) (eUn f m) := by
  obtain ⟨ta, ha1, ha2⟩ := ha.ex
  exact ⟨_, pe_callB hc hg hm hv (pa_cons ha1 pa_nil hst) hn hdb hst hpl, tCB1_te hp ha2⟩
theorem se_callT1 {x : Str} {T : String} {r : List V → Hp → VK → Prop} {f : D → Option R0} {p : Pos} (hc : CallR X (.type T) r) (hp : P1L e f r) (hg : Gl X x) (hm : X.mg x = none) (hv : bootBuiltins x = some (.type T)) (ha : SE e X W a m)
    (hn : x ≠ "__name__" := by decide) (hdb : (x == ("__debug__" : Str)) = false := by decide) (hst : starEach [a] X.env = (false, eval a X.env) :: starEach [] X.env := by rfl) (hpl : (backTo pos (starEach [] X.env)).any (·.1) = false := by rfl) : SE e X W (.Call (.Name x p) [a] [] pos) (eUn f m) := by
  obtain ⟨ta, ha1, ha2⟩ := ha.ex
  exact ⟨_, pe_callTy hc hg hm hv (pa_cons ha1 pa_nil hst) hn hdb hst hpl, tCB1_te hp ha2⟩
end
end Mi

end
section
set_option maxRecDepth 100000
/-! Mi2: statements by mirrors; calls of defs by their mirrors; a def's promise. -/
namespace Mi
open PySem L2

def rvOf : R0 → RV
  | .val d => .val d
  | .own d => .own d
/-- what is wanted behind a statement -/
def PoS (e : En) (W : Wi) (fm : Fm) (F : Hp) (D : Ends) (o : So) : Prop :=
  match o with
  | .nx r => ∀ σ' H' F', Rl e r σ' H' F' fm → Same F F' → D.nx σ' H'
  | .bk r => ∀ σ' H' F', Rl e r σ' H' F' fm → Same F F' → D.bk σ' H'
  | .ct r => ∀ σ' H' F', Rl e r σ' H' F' fm → Same F F' → D.ct σ' H'
  | .rt a r => ∀ v σ' H' F', Rl e r σ' H' F' fm → Same F F' → RvR e (rvOf a) v r σ' H' F' fm → D.rt v H'
  | .ex x r => ∀ cls d σ' H' F', Rl e r σ' H' F' fm → Same F F' → ExR e x cls d H' F' → W.w cls d σ' H'
  | .no => False
theorem PoS.le {e : En} {W : Wi} {fm : Fm} {F F1 : Hp} {D : Ends} {o : So} (s : Same F F1) (h : PoS e W fm F D o) : PoS e W fm F1 D o := by
  cases o with
  | nx r => exact fun σ' H' F' R s' => h σ' H' F' R (s.trans s')
  | bk r => exact fun σ' H' F' R s' => h σ' H' F' R (s.trans s')
  | ct r => exact fun σ' H' F' R s' => h σ' H' F' R (s.trans s')
  | rt a r => exact fun v σ' H' F' R s' => h v σ' H' F' R (s.trans s')
  | ex x r => exact fun cls d σ' H' F' R s' => h cls d σ' H' F' R (s.trans s')
  | no => exact h
def TeS (e : En) (W : Wi) (io : List Nat) (t : TS) (m : MS) : Prop := ∀ r σ H F fm D, W.c fm → (∀ q ∈ fm.pn, q.1 ∈ io) → Rl e r σ H F fm → PoS e W fm F D (m r) → t D σ H
structure SS (e : En) (X : Cx) (W : Wi) (io : List Nat) (st : Stmt) (m : MS) : Prop where
  ex : ∃ t, PS X st t ∧ TeS e W io t m
structure SB (e : En) (X : Cx) (W : Wi) (io : List Nat) (st : List Stmt) (m : MS) : Prop where
  ex : ∃ t, PSs X st t ∧ TeS e W io t m

def So.bd (o : So) (n : MS) : So := match o with
  | .nx r => n r
  | o => o
@[simp] theorem sbd_nx (r : Rho) (n : MS) : (So.nx r).bd n = n r := rfl
@[simp] theorem sbd_rt (a : R0) (r : Rho) (n : MS) : (So.rt a r).bd n = .rt a r := rfl
@[simp] theorem sbd_bk (r : Rho) (n : MS) : (So.bk r).bd n = .bk r := rfl
@[simp] theorem sbd_ct (r : Rho) (n : MS) : (So.ct r).bd n = .ct r := rfl
@[simp] theorem sbd_ex (x : Ex) (r : Rho) (n : MS) : (So.ex x r).bd n = .ex x r := rfl
@[simp] theorem sbd_no (n : MS) : (So.no).bd n = .no := rfl
/-- an expression's outcome, then a statement's -/
def Ou.st {α : Type} (o : Ou α) (f : α → Rho → So) : So := match o with
  | .ok a r => f a r
  | .ex x r => .ex x r
  | .no => .no
@[simp] theorem st_ok {α : Type} (a : α) (r : Rho) (f : α → Rho → So) : (Ou.ok a r).st f = f a r := rfl
@[simp] theorem st_ex {α : Type} (x : Ex) (r : Rho) (f : α → Rho → So) : (Ou.ex x r : Ou α).st f = .ex x r := rfl
@[simp] theorem st_no {α : Type} (f : α → Rho → So) : (Ou.no : Ou α).st f = .no := rfl

def sNil : MS := fun r => .nx r
def sSeq (m n : MS) : MS := fun r => (m r).bd n
def sIf (c : MT) (m n : MS) : MS := fun r => (c r).st fun b r1 => if b = true then m r1 else n r1
def sBk : MS := fun r => .bk r
def sCt : MS := fun r => .ct r
def sDrop (m : ME) : MS := fun r => (m r).st fun _ r1 => .nx r1
def sSet (i : Nat) (m : ME) : MS := fun r => (m r).st fun rv r1 => match rv with
  | .val d => .nx (r1.set i (.val d))
  | .own d => .nx (r1.set i (.own d))
  | .bor j => (frz (.bor j) r1).st fun d r2 => .nx (r2.set i (.val d))
def retR (io : List Nat) (rv : RV) (r : Rho) : So := match rv with
  | .val d => .rt (.val d) r
  | .own d => .rt (.own d) r
  | .bor i => match r[i]? with
    | some (.own d) => if io.contains i = true then .rt (.val d) (r.set i (.val d)) else .rt (.own d) (r.set i .un)
    | some (.val d) => .rt (.val d) r
    | _ => .no
def sRet (io : List Nat) (m : ME) : MS := fun r => (m r).st (retR io)
def sRetN : MS := fun r => .rt (.val .non) r

section
variable {e : En} {X : Cx} {W : Wi} {io : List Nat} {a b c : Expr} {m n : ME} {pos : Pos} {fm : Fm} {F H : Hp} {σ : St} {r : Rho}
/-- an outcome with its exception's arm -/
theorem Po.st {D : Ends} {α : Type} {o : Ou α} {f : α → Rho → So} (h : PoS e W fm F D (o.st f)) : Po e W fm F σ (fun a r H' F' => PoS e W fm F' D (f a r)) o := by
  cases o with
  | ok a r => exact fun H' F' R s => PoS.le s h
  | ex x r => exact fun cls d H' F' R s q => h cls d σ H' F' R s q
  | no => exact h
theorem sb_nil : SB e X W io [] sNil := ⟨_, pss_nil, fun r σ H F fm D hC hp R q => q σ H F R (Same.refl _)⟩
theorem sb_cons {st : Stmt} {rest : List Stmt} {u v : MS} (h1 : SS e X W io st u) (h2 : SB e X W io rest v) : SB e X W io (st :: rest) (sSeq u v) := by
  obtain ⟨t, a1, a2⟩ := h1.ex
  obtain ⟨t', b1, b2⟩ := h2.ex
  refine ⟨_, pss_cons a1 b1, fun r σ H F fm D hC hp R q => a2 r σ H F fm _ hC hp R ?_⟩
  have q' : PoS e W fm F D ((u r).bd v) := q
  cases z : u r with
  | nx r1 => rw [z] at q'; exact fun σ' H' F' R' s => b2 r1 σ' H' F' fm D hC hp R' (PoS.le s q')
  | bk r1 => rw [z] at q'; exact q'
  | ct r1 => rw [z] at q'; exact q'
  | rt a1 r1 => rw [z] at q'; exact q'
  | ex x r1 => rw [z] at q'; exact q'
  | no => rw [z] at q'; exact q'
theorem sb_one {st : Stmt} {u : MS} (h1 : SS e X W io st u) : SB e X W io [st] u := by
  obtain ⟨t, a1, a2⟩ := h1.ex
  exact ⟨_, pss_one a1, a2⟩
theorem ss_if {x y : List Stmt} {tc : MT} {u v : MS} (hc : ST e X W c tc) (h1 : SB e X W io x u) (h2 : SB e X W io y v) : SS e X W io (.If c x y pos) (sIf tc u v) := by
  obtain ⟨t, c1, c2⟩ := hc.ex
  obtain ⟨t1, a1, a2⟩ := h1.ex
  obtain ⟨t2, b1, b2⟩ := h2.ex
  refine ⟨_, ps_if c1 a1 b1, fun r σ H F fm D hC hp R q => c2 r σ H F fm _ hC R ?_⟩
  refine (Po.st (σ := σ) q).mono fun k r1 H1 F1 R1 s1 q1 => ?_
  cases k with
  | true => exact a2 r1 σ H1 F1 fm D hC hp R1 q1
  | false => exact b2 r1 σ H1 F1 fm D hC hp R1 q1
theorem ss_pass : SS e X W io (.Pass pos) sNil := ⟨_, ps_pass, fun r σ H F fm D hC hp R q => q σ H F R (Same.refl _)⟩
theorem ss_break : SS e X W io (.Break pos) sBk := ⟨_, ps_break, fun r σ H F fm D hC hp R q => q σ H F R (Same.refl _)⟩
theorem ss_continue : SS e X W io (.Continue pos) sCt := ⟨_, ps_continue, fun r σ H F fm D hC hp R q => q σ H F R (Same.refl _)⟩
theorem ss_expr (h : SE e X W a m) (hs : swapsWith a none pos.line X.env = pure false := by rfl) : SS e X W io (.Expr a pos) (sDrop m) := by
  obtain ⟨t, a1, a2⟩ := h.ex
  exact ⟨_, ps_expr a1 hs, fun r σ H F fm D hC hp R q => a2 r σ H F fm _ hC R ((Po.st (σ := σ) q).mono fun rv r1 H1 F1 R1 s1 q1 v hv => q1 σ H1 F1 R1 (Same.refl _))⟩
theorem tSet_te {i : Nat} {te : TE} (hi : i ∉ io) (a2 : TeE e W te m) : TeS e W io (tAsg te (gName i)) (sSet i m) := fun r σ H F fm D hC hp R q => by
  have np : ∀ q ∈ fm.pn, q.1 ≠ i := fun q hq z => hi (z ▸ hp q hq)
  refine a2 r σ H F fm _ hC R ((Po.st (σ := σ) q).mono fun rv r1 H1 F1 R1 s1 q1 v hv => ?_)
  cases rv with
  | val d => exact q1 _ H1 F1 (R1.setV hv np) (Same.refl _)
  | own d =>
    obtain ⟨p, rfl, T⟩ := hv
    exact q1 _ H1 F1 (R1.setO T np) (Same.refl _)
  | bor j =>
    obtain ⟨d, r2, F2, R2, s2, h2, k2⟩ := frz_ok (W := W) R1 hv (Po.st (σ := σ) q1)
    exact k2 _ H1 F2 (R2.setV h2 np) (Same.refl _)
theorem ss_set {i : Nat} {x : Str} {pos' : Pos} (hi : i ∉ io) (hN : X.N.Nodup) (hx : X.N[i]? = some x) (hl : Loc X.env.scope x) (h : SE e X W a m) (hs : swapsWith a (some (.Name x pos')) pos.line X.env = pure false := by rfl)
    (hf : X.fn x = true ∨ X.env.scope.names.lookup x = some .local := by first | exact .inl rfl | exact .inr rfl | assumption) : SS e X W io (.Assign [.Name x pos'] a pos) (sSet i m) := by
  obtain ⟨t, a1, a2⟩ := h.ex
  exact ⟨_, ps_set hN hx hl a1 hs hf, tSet_te hi a2⟩
theorem ss_ret (h : SE e X W a m) : SS e X W io (.Return (some a) pos) (sRet io m) := by
  obtain ⟨t, a1, a2⟩ := h.ex
  refine ⟨_, ps_ret a1, fun r σ H F fm D hC hp R q => a2 r σ H F fm _ hC R ((Po.st (σ := σ) q).mono fun rv r1 H1 F1 R1 s1 q1 v hv => ?_)⟩
  cases rv with
  | val d => exact q1 v σ H1 F1 R1 (Same.refl _) hv
  | own d => exact q1 v σ H1 F1 R1 (Same.refl _) hv
  | bor i =>
    have hv' : σ[i]? = some (some v) := hv
    have q2 : PoS e W fm F1 D (match r1[i]? with
      | some (.own d) => if io.contains i = true then .rt (.val d) (r1.set i (.val d)) else .rt (.own d) (r1.set i .un)
      | some (.val d) => .rt (.val d) r1
      | _ => .no) := q1
    cases z : r1[i]? with
    | none => rw [z] at q2; exact q2.elim
    | some lv =>
      rw [z] at q2
      cases lv with
      | un => exact q2.elim
      | val d =>
        obtain ⟨v', h1, h2⟩ := R1.va i d z
        rw [hv'] at h1; cases h1
        exact q2 v σ H1 F1 R1 (Same.refl _) h2
      | own d =>
        have q3 : PoS e W fm F1 D (if io.contains i = true then .rt (.val d) (r1.set i (.val d)) else .rt (.own d) (r1.set i .un)) := q2
        by_cases hi : io.contains i = true
        · rw [if_pos hi] at q3
          obtain ⟨F2, v', R2, s2, h1, h2⟩ := R1.frzS z
          rw [hv'] at h1; cases h1
          exact q3 v σ H1 F2 R2 s2 h2
        · rw [if_neg hi] at q3
          obtain ⟨p, h1, R2, T⟩ := R1.out z
          rw [hv'] at h1; cases h1
          exact q3 _ σ H1 F1 R2 (Same.refl _) ⟨p, rfl, T⟩
theorem ss_retN : SS e X W io (.Return none pos) sRetN := ⟨_, ps_retN, fun r σ H F fm D hC hp R q => q .non σ H F R (Same.refl _) rfl⟩

/-! ### while -/
def whL : Nat → MT → MS → MS
  | 0, _, _, _ => .no
  | k + 1, t, b, r => (t r).st fun c r1 => if c = true then (match b r1 with
      | .nx r2 => whL k t b r2
      | .ct r2 => whL k t b r2
      | .bk r2 => .nx r2
      | o => o) else .nx r1
theorem ss_while {k : Nat} {c : Expr} {body : List Stmt} {tc : MT} {u : MS} (hp : PassesOwn (model X.prog X.w) X.A X.env X.xe) (hc : ST e X W c tc) (hb : SB e X W io body u) : SS e X W io (.While c body [] pos) (whL k tc u) := by
  obtain ⟨t, c1, c2⟩ := hc.ex
  obtain ⟨t1, b1, b2⟩ := hb.ex
  refine ⟨_, ps_while hp c1 b1, fun r σ H F fm D hC hpn R q => ?_⟩
  refine ⟨fun j σ H => ∃ r F', Rl e r σ H F' fm ∧ Same F F' ∧ PoS e W fm F' D (whL j tc u r), ⟨k, r, F, R, Same.refl _, q⟩, ?_⟩
  rintro j σ1 H1 ⟨r1, F1, R1, s1, q1⟩
  cases j with
  | zero => exact q1.elim
  | succ j =>
    refine c2 r1 σ1 H1 F1 fm _ hC R1 ((Po.st (σ := σ1) q1).mono fun kk r2 H2 F2 R2 s2 q2 => ?_)
    cases kk with
    | false => exact q2 σ1 H2 F2 R2 (Same.refl _)
    | true =>
      rw [if_pos rfl] at q2
      refine iteT ⟨fun σ' H' => ∃ r F', Rl e r σ' H' F' fm ∧ Same F F' ∧ PoS e W fm F' D (whL j tc u r), fun σ' H' h => ⟨j, Nat.lt_succ_self j, h⟩, ?_⟩
      refine b2 r2 σ1 H2 F2 fm _ hC hpn R2 ?_
      cases z : u r2 with
      | nx r3 => rw [z] at q2; exact fun σ' H' F' R' s' => ⟨r3, F', R', (s1.trans s2).trans s', PoS.le s' q2⟩
      | ct r3 => rw [z] at q2; exact fun σ' H' F' R' s' => ⟨r3, F', R', (s1.trans s2).trans s', PoS.le s' q2⟩
      | bk r3 => rw [z] at q2; exact q2
      | rt a3 r3 => rw [z] at q2; exact q2
      | ex x r3 => rw [z] at q2; exact q2
      | no => rw [z] at q2; exact q2.elim

/-! ### targets -/
abbrev MG := D → Rho → Option Rho
def TeG (e : En) (io : List Nat) (t : TG) (m : MG) : Prop := ∀ d v r r' σ H F fm Q, (∀ q ∈ fm.pn, q.1 ∈ io) → Rl e r σ H F fm → Rep e F d v → m d r = some r' → (∀ σ' H' F', Rl e r' σ' H' F' fm → Same F F' → Q σ' H') → t v σ H Q
def TeGs (e : En) (io : List Nat) (t : TGs) (m : List D → Rho → Option Rho) : Prop := ∀ ds vs r r' σ H F fm Q, (∀ q ∈ fm.pn, q.1 ∈ io) → Rl e r σ H F fm → RepL e F ds vs → m ds r = some r' → (∀ σ' H' F', Rl e r' σ' H' F' fm → Same F F' → Q σ' H') → t vs σ H Q
structure SG (e : En) (X : Cx) (io : List Nat) (tg : Expr) (m : MG) : Prop where
  ex : ∃ t, PG X tg t ∧ TeG e io t m
structure SGs (e : En) (X : Cx) (io : List Nat) (tg : List Expr) (m : List D → Rho → Option Rho) : Prop where
  ex : ∃ t, PGs X tg t ∧ TeGs e io t m
def gN (i : Nat) : MG := fun d r => some (r.set i (.val d))
def gNilM : List D → Rho → Option Rho := fun ds r => match ds with
  | [] => some r
  | _ => none
def gConsM (g : MG) (gs : List D → Rho → Option Rho) : List D → Rho → Option Rho := fun ds r => match ds with
  | [] => none
  | d :: ds => (g d r).bind (gs ds)
def gTupM (n : Nat) (gs : List D → Rho → Option Rho) : MG := fun d r => match d with
  | .tup l => if l.length = n then gs l r else none
  | _ => none
theorem sg_name {i : Nat} {x : Str} (hi : i ∉ io) (hN : X.N.Nodup) (hx : X.N[i]? = some x) (hl : Loc X.env.scope x) (hf : X.fn x = true ∨ X.env.scope.names.lookup x = some .local := by first | exact .inl rfl | exact .inr rfl | assumption) : SG e X io (.Name x pos) (gN i) :=
  ⟨_, pg_name hN hx hl hf, fun d v r r' σ H F fm Q hp R hv h q => by
    cases h
    exact q _ H F (R.setV hv fun q hq z => hi (z ▸ hp q hq)) (Same.refl _)⟩
theorem sgs_nil : SGs e X io [] gNilM := ⟨_, pgs_nil, fun ds vs r r' σ H F fm Q hp R hv h q => by
  cases ds with
  | nil => cases h; cases hv; exact ⟨rfl, q σ H F R (Same.refl _)⟩
  | cons d ds => cases h⟩
theorem sgs_cons {tg : Expr} {ts : List Expr} {g : MG} {gs : List D → Rho → Option Rho} (h1 : SG e X io tg g) (h2 : SGs e X io ts gs)
    (hs : (assignEach (tg :: ts) X.env).map (·.2) = assign tg X.env :: (assignEach ts X.env).map (·.2) := by rfl) : SGs e X io (tg :: ts) (gConsM g gs) := by
  obtain ⟨t, a1, a2⟩ := h1.ex
  obtain ⟨t', b1, b2⟩ := h2.ex
  refine ⟨_, pgs_cons a1 b1 hs, fun ds vs r r' σ H F fm Q hp R hv h q => ?_⟩
  cases ds with
  | nil => cases h
  | cons d ds =>
    obtain ⟨v, vr, rfl, h3, h4⟩ := hv
    have h' : (g d r).bind (gs ds) = some r' := h
    obtain ⟨r1, g1, g2⟩ := Option.bind_eq_some_iff.mp h'
    exact ⟨v, vr, rfl, a2 d v r r1 σ H F fm _ hp R h3 g1 fun σ' H' F' R' s' => b2 ds vr r1 r' σ' H' F' fm Q hp R' (h4.mono s') g2 fun σ2 H2 F2 R2 s2 => q σ2 H2 F2 R2 (s'.trans s2)⟩
theorem sg_tup {es : List Expr} {k : Nat} {gs : List D → Rho → Option Rho} {n : Nat} (hK : X.K = e.K) (hc : X.calm = true) (h : SGs e X io es gs)
    (hn : (assignEach es X.env).length = n := by rfl) (hst : (assignEach es X.env).findIdx? (·.1) = none := by rfl) : SG e X io (.Tuple es k pos) (gTupM n gs) := by
  obtain ⟨t, a1, a2⟩ := h.ex
  refine ⟨_, pg_tup hc a1 hn hst, fun d v r r' σ H F fm Q hp R hv h q => ?_⟩
  cases d with
  | tup l =>
    have h' : (if l.length = n then gs l r else none) = some r' := h
    obtain ⟨p, vs, rfl, h1, h2⟩ := hv
    by_cases z : l.length = n
    · rw [if_pos z] at h'
      exact ⟨p, vs, rfl, by rw [hK]; exact R.fh.sqT h1, by rw [h2.len]; exact z, a2 l vs r r' σ H F fm Q hp R h2 h' q⟩
    · rw [if_neg z] at h'; cases h'
  | _ => cases h
def sAsg (g : MG) (m : ME) : MS := fun r => (fz m r).st fun d r1 => match g d r1 with
  | some r2 => .nx r2
  | none => .no
theorem ss_asg {tg : Expr} {g : MG} (h : SE e X W a m) (hg : SG e X io tg g) (hs : swapsWithSole [tg] a pos.line X.env = pure false := by rfl) (hw : swappedStores [tg] a X.env = pure none := by rfl)
    (h1 : (assignEach [tg] X.env).map (·.2) = [assign tg X.env] := by rfl) : SS e X W io (.Assign [tg] a pos) (sAsg g m) := by
  obtain ⟨t, a1, a2⟩ := h.ex
  obtain ⟨u, g1, g2⟩ := hg.ex
  refine ⟨_, ps_asg a1 g1 hs hw h1, fun r σ H F fm D hC hp R q => a2 r σ H F fm _ hC R ?_⟩
  have q1 : Po e W fm F σ (fun d r1 _ F1 => PoS e W fm F1 D (match g d r1 with
    | some r2 => .nx r2
    | none => .no)) (fz m r) := Po.st q
  refine (Po.bd q1).mono fun rv r1 H1 F1 R1 s1 q2 v hv => ?_
  obtain ⟨d, r2, F2, R2, s2, h2, k2⟩ := frz_ok R1 hv q2
  cases z : g d r2 with
  | none => rw [z] at k2; exact k2.elim
  | some r3 =>
    rw [z] at k2
    exact g2 d v r2 r3 σ H1 F2 fm _ hp R2 h2 z fun σ' H' F' R' s' => k2 σ' H' F' R' s'

/-! ### for -/
/-- the iterator J gives the items ds, as they stand in F or in later heaps -/
structure ItR (e : En) (J : It) (ds : List D) (F : Hp) : Prop where
  go : ∀ i H, Und F H → i < ds.length → J.go i H
  stop : ∀ i H, Und F H → ds.length ≤ i → J.stop i H
  yld : ∀ i H x H' d, Und F H → J.yld i H x H' → ds[i]? = some d → (H' = H ∧ Rep e F d x) ∨ ∃ p u, H p = none ∧ H' = upd H p u ∧ x = .ref p ∧ OR e F u d
def TeI (e : En) (W : Wi) (t : TI) (m : Rho → Ou (List D)) : Prop := ∀ r σ H F fm (R' : It → Hp → Prop), W.c fm → Rl e r σ H F fm → Po e W fm F σ (fun ds _ H' F' => ∀ J, ItR e J ds F' → R' J H') (m r) → t σ H R'
structure SI (e : En) (X : Cx) (W : Wi) (tg iter : Expr) (m : Rho → Ou (List D)) : Prop where
  ex : ∃ t, PI X tg iter t ∧ TeI e W t m
theorem ItR.mono {J : It} {ds : List D} {F F' : Hp} (s : Same F F') (h : ItR e J ds F) : ItR e J ds F' :=
  have u : ∀ {H}, Und F' H → Und F H := fun {H} x a o q => x a o (s a o q)
  ⟨fun i H x => h.go i H (u x), fun i H x => h.stop i H (u x), fun i H x H' d y z w => by
    rcases h.yld i H x H' d (u y) z w with ⟨a, b⟩ | ⟨p, o, a, b, c, d⟩
    · exact .inl ⟨a, b.mono s⟩
    · exact .inr ⟨p, o, a, b, c, d.mono s⟩⟩
/-- a yielded item, frozen -/
theorem ItR.item {J : It} {ds : List D} {i : Nat} {x : V} {H' : Hp} {d : D} (h : ItR e J ds F) (R : Rl e r σ H F fm) (y : J.yld i H x H') (hd : ds[i]? = some d) : ∃ F', Rl e r σ H' F' fm ∧ Same F F' ∧ Rep e F' d x := by
  rcases h.yld i H x H' d R.fh y hd with ⟨rfl, b⟩ | ⟨p, u, n, rfl, rfl, b⟩
  · exact ⟨F, R, Same.refl _, b⟩
  · exact (R.new n).frzT (R.tmp n b)
def forL (g : MG) (b : MS) : List D → MS
  | [], r => .nx r
  | d :: ds, r => match g d r with
    | none => .no
    | some r1 => match b r1 with
      | .nx r2 => forL g b ds r2
      | .ct r2 => forL g b ds r2
      | .bk r2 => .nx r2
      | o => o
def sFor (g : MG) (mi : Rho → Ou (List D)) (b : MS) : MS := fun r => (mi r).st fun ds r1 => forL g b ds r1
theorem ss_for {tg iter : Expr} {body : List Stmt} {g : MG} {mi : Rho → Ou (List D)} {u : MS} (hp : PassesOwn (model X.prog X.w) X.A X.env X.xe) (hc : X.calm = true) (hi : SI e X W tg iter mi) (hg : SG e X io tg g) (hb : SB e X W io body u)
    (hs : ∀ x, foldedSetIterable iter X.env x = pure x := by intro _; rfl) : SS e X W io (.For tg iter body [] pos) (sFor g mi u) := by
  obtain ⟨ti, i1, i2⟩ := hi.ex
  obtain ⟨tg', g1, g2⟩ := hg.ex
  obtain ⟨t1, b1, b2⟩ := hb.ex
  refine ⟨_, ps_for hp hc i1 g1 b1 hs, fun r σ H F fm D hC hpn R q => i2 r σ H F fm _ hC R ?_⟩
  refine (Po.st (σ := σ) q).mono fun ds r1 H1 F1 R1 s1 q1 J hJ => ?_
  refine ⟨fun i k σ H => k = ds.length - i ∧ ∃ r F', Rl e r σ H F' fm ∧ Same F1 F' ∧ PoS e W fm F' D (forL g u (ds.drop i) r), ⟨ds.length, rfl, r1, F1, R1, Same.refl _, by rw [List.drop_zero]; exact q1⟩, ?_⟩
  rintro i k σ2 H2 ⟨rfl, r2, F2, R2, s2, q2⟩
  have hJ2 := hJ.mono s2
  by_cases hlt : i < ds.length
  · refine .inr ⟨hJ2.go i H2 R2.fh hlt, fun σ H => ∃ r F', Rl e r σ H F' fm ∧ Same F1 F' ∧ PoS e W fm F' D (forL g u (ds.drop (i + 1)) r), fun σ' H' h => ⟨ds.length - (i + 1), by omega, rfl, h⟩, fun x H' y => ?_⟩
    have hd : ds[i]? = some ds[i] := List.getElem?_eq_getElem hlt
    obtain ⟨F3, R3, s3, h3⟩ := hJ2.item R2 y hd
    rw [List.drop_eq_getElem_cons hlt] at q2
    have q3 : PoS e W fm F2 D (match g ds[i] r2 with
      | none => .no
      | some r1 => match u r1 with
        | .nx r2 => forL g u (ds.drop (i + 1)) r2
        | .ct r2 => forL g u (ds.drop (i + 1)) r2
        | .bk r2 => .nx r2
        | o => o) := q2
    cases z : g ds[i] r2 with
    | none => rw [z] at q3; exact q3.elim
    | some r4 =>
      rw [z] at q3
      refine g2 ds[i] x r2 r4 σ2 H' F3 fm _ hpn R3 h3 z fun σ5 H5 F5 R5 s5 => ?_
      have sAll : Same F1 F5 := (s2.trans s3).trans s5
      have q4 : PoS e W fm F5 D (match u r4 with
        | .nx r2 => forL g u (ds.drop (i + 1)) r2
        | .ct r2 => forL g u (ds.drop (i + 1)) r2
        | .bk r2 => .nx r2
        | o => o) := PoS.le (s3.trans s5) q3
      refine b2 r4 σ5 H5 F5 fm _ hC hpn R5 ?_
      cases z2 : u r4 with
      | nx r6 => rw [z2] at q4; exact fun σ' H' F' R' s' => ⟨r6, F', R', sAll.trans s', PoS.le s' q4⟩
      | ct r6 => rw [z2] at q4; exact fun σ' H' F' R' s' => ⟨r6, F', R', sAll.trans s', PoS.le s' q4⟩
      | bk r6 => rw [z2] at q4; exact q4
      | rt a6 r6 => rw [z2] at q4; exact q4
      | ex x6 r6 => rw [z2] at q4; exact q4
      | no => rw [z2] at q4; exact q4.elim
  · refine .inl ⟨hJ2.stop i H2 R2.fh (by omega), ?_⟩
    rw [List.drop_eq_nil_of_le (by omega)] at q2
    exact q2 σ2 H2 F2 R2 (Same.refl _)
end
end Mi

end
section
set_option maxRecDepth 100000
/-! Mi3: a def's promise by its mirror; calls. -/
namespace Mi
open PySem L2
open PyProof.Rows (envOfC)

/-- a def by its mirror: arguments in, the value out, and what has become of the arguments -/
def spOf (e : En) (n : Nat) (f : MS) : Sp := fun vs H Q E => vs.length = n ∧ ∃ (r : Rho) (F G : Hp) (B : Addr → Prop), Rl e r (vs.map some) H F ⟨G, B, []⟩ ∧
  match f r with
  | .rt a r' => ∀ v H' F', Rl e r' (vs.map some) H' F' ⟨G, B, []⟩ → Same F F' → RvR e (rvOf a) v r' (vs.map some) H' F' ⟨G, B, []⟩ → Q v H'
  | .ex x r' => ∀ cls d H' F', Rl e r' (vs.map some) H' F' ⟨G, B, []⟩ → Same F F' → ExR e x cls d H' F' → E cls d H'
  | _ => False
def back (io : List Nat) : Nat → Rho → Rho → Rho
  | i, lv :: r, lv' :: r' => (if io.contains i = true then lv' else lv) :: back io (i + 1) r r'
  | _, _, _ => []
def fin (io : List Nat) (r r' : Rho) (f : Rho → So) : So := if r.length ≤ r'.length then f (back io 0 r r') else .no
def okA (io : List Nat) : Nat → Rho → Bool
  | _, [] => true
  | i, .own _ :: r => io.contains i && okA io (i + 1) r
  | i, _ :: r => okA io (i + 1) r
def mkFn (n k : Nat) (io : List Nat) (body : MS) : MS := fun r => if r.length = n ∧ okA io 0 r = true then match body (r ++ List.replicate k .un) with
  | .nx r' => fin io r r' (.rt (.val .non))
  | .rt a r' => fin io r r' (.rt a)
  | .ex x r' => fin io r r' (.ex x)
  | _ => .no else .no

theorem back_get (io : List Nat) : ∀ (r r' : Rho) (j i : Nat), r.length ≤ r'.length → i < r.length → (back io j r r')[i]? = if io.contains (j + i) = true then r'[i]? else r[i]?
  | [], _, _, _, _, h => by simp at h
  | _ :: _, [], _, _, h, _ => by simp at h
  | a :: r, b :: r', j, 0, h, _ => by
    show ((if io.contains j = true then b else a) :: back io (j + 1) r r')[0]? = _
    show _ = if io.contains j = true then some b else some a
    by_cases z : io.contains j = true
    · rw [if_pos z, if_pos z]; rfl
    · rw [if_neg z, if_neg z]; rfl
  | a :: r, b :: r', j, i + 1, h, q => by
    show ((if io.contains j = true then b else a) :: back io (j + 1) r r')[i + 1]? = _
    rw [List.getElem?_cons_succ, back_get io r r' (j + 1) i (by simpa using h) (by simpa using q), show j + 1 + i = j + (i + 1) by omega]
    simp
theorem back_len (io : List Nat) : ∀ (r r' : Rho) (j : Nat), r.length ≤ r'.length → (back io j r r').length = r.length
  | [], _, _, _ => rfl
  | _ :: _, [], _, h => by simp at h
  | a :: r, b :: r', j, h => by
    show (back io (j + 1) r r').length + 1 = r.length + 1
    rw [back_len io r r' (j + 1) (by simpa using h)]
theorem okA_get (io : List Nat) : ∀ (r : Rho) (j i : Nat) (d : D), okA io j r = true → r[i]? = some (.own d) → io.contains (j + i) = true
  | [], _, _, _, _, h => by simp at h
  | lv :: r, j, 0, d, h, q => by
    have q' : lv = .own d := by simpa using q
    subst q'
    have h' : (io.contains j && okA io (j + 1) r) = true := h
    exact (Bool.and_eq_true_iff.mp h').1
  | lv :: r, j, i + 1, d, h, q => by
    have h' : okA io (j + 1) r = true := by
      cases lv with
      | own d' =>
        have h' : (io.contains j && okA io (j + 1) r) = true := h
        exact (Bool.and_eq_true_iff.mp h').2
      | val d' => exact h
      | un => exact h
    have := okA_get io r (j + 1) i d h' (by simpa using q)
    rwa [show j + 1 + i = j + (i + 1) by omega] at this
section
variable {e : En} {F F' H H' : Hp} {r r' : Rho} {σ σ' : St} {G : Hp} {B : Addr → Prop}
theorem ext_get {r : Rho} {k i : Nat} {lv : LV} (h : (r ++ List.replicate k LV.un)[i]? = some lv) (n : lv ≠ .un) : r[i]? = some lv ∧ i < r.length := by
  by_cases z : i < r.length
  · rw [List.getElem?_append_left z] at h; exact ⟨h, z⟩
  · rw [List.getElem?_append_right (by omega)] at h
    have := List.mem_of_getElem? h
    rw [List.mem_replicate] at this
    exact (n this.2).elim
theorem Rl.ext {fm : Fm} (R : Rl e r σ H F fm) (k : Nat) (pn : List (Nat × V)) (hp : ∀ q ∈ pn, σ[q.1]? = some (some q.2)) : Rl e (r ++ List.replicate k .un) (σ ++ List.replicate k none) H F ⟨fm.G, fm.B, pn⟩ where
  fh := R.fh
  gh := R.gh
  bf := R.bf
  bh := R.bh
  ln := by simp [R.ln]
  va := fun i d h => by
    obtain ⟨h1, h2⟩ := ext_get h (by simp)
    obtain ⟨v, h3, h4⟩ := R.va i d h1
    exact ⟨v, by rw [List.getElem?_append_left (by rw [R.ln]; exact h2)]; exact h3, h4⟩
  ow := fun i d h => by
    obtain ⟨h1, h2⟩ := ext_get h (by simp)
    obtain ⟨p, u, h3, h4⟩ := R.ow i d h1
    exact ⟨p, u, by rw [List.getElem?_append_left (by rw [R.ln]; exact h2)]; exact h3, h4⟩
  ap := fun i j d d' p h1 h2 h3 h4 => by
    obtain ⟨a1, a2⟩ := ext_get h1 (by simp)
    obtain ⟨b1, b2⟩ := ext_get h2 (by simp)
    rw [List.getElem?_append_left (by rw [R.ln]; exact a2)] at h3
    rw [List.getElem?_append_left (by rw [R.ln]; exact b2)] at h4
    exact R.ap i j d d' p a1 b1 h3 h4
  pn := fun q hq => by
    have := hp q hq
    rw [List.getElem?_append_left (List.getElem?_eq_some_iff.mp this).1]
    exact this
/-- the arguments as they are behind the body -/
theorem Rl.back {vs : List V} {io : List Nat} {pn : List (Nat × V)} (R : Rl e r (vs.map some) H F ⟨G, B, []⟩) (R' : Rl e r' σ' H' F' ⟨G, B, pn⟩) (s : Same F F') (ok : okA io 0 r = true) (hl : r.length ≤ r'.length)
    (hp : ∀ i v, i ∈ io → vs[i]? = some v → σ'[i]? = some (some v)) : Rl e (back io 0 r r') (vs.map some) H' F' ⟨G, B, []⟩ ∧ ∀ (i : Nat) (d' : D), (back io 0 r r')[i]? = some (.own d') → r'[i]? = some (.own d') ∧ σ'[i]? = (vs.map some)[i]? := by
  have len : (Mi.back io 0 r r').length = r.length := back_len io r r' 0 hl
  have lt : ∀ {i lv}, (Mi.back io 0 r r')[i]? = some lv → i < r.length := fun {i lv} h => by
    have := (List.getElem?_eq_some_iff.mp h).1; rwa [len] at this
  have vlen : vs.length = r.length := by have := R.ln; simpa using this
  have vget : ∀ {i}, i < r.length → ∃ v, vs[i]? = some v ∧ (vs.map some)[i]? = some (some v) := fun {i} h => by
    have h' : i < vs.length := by omega
    exact ⟨vs[i], List.getElem?_eq_getElem h', by simp [h']⟩
  have own : ∀ (i : Nat) (d' : D), (Mi.back io 0 r r')[i]? = some (.own d') → r'[i]? = some (.own d') ∧ σ'[i]? = (vs.map some)[i]? := fun i d' h => by
    have hi := lt h
    rw [back_get io r r' 0 i hl hi, Nat.zero_add] at h
    obtain ⟨v, h1, h2⟩ := vget hi
    by_cases z : io.contains i = true
    · rw [if_pos z] at h
      exact ⟨h, by rw [h2]; exact hp i v (List.contains_iff_mem.mp z) h1⟩
    · rw [if_neg z] at h
      exact (z (by have := okA_get io r 0 i d' ok h; rwa [Nat.zero_add] at this)).elim
  refine ⟨{
    fh := R'.fh
    gh := R'.gh
    bf := R'.bf
    bh := R'.bh
    ln := by rw [len]; exact R.ln
    va := fun i d h => by
      have hi := lt h
      obtain ⟨v, h1, h2⟩ := vget hi
      rw [back_get io r r' 0 i hl hi, Nat.zero_add] at h
      by_cases z : io.contains i = true
      · rw [if_pos z] at h
        obtain ⟨v', h3, h4⟩ := R'.va i d h
        rw [hp i v (List.contains_iff_mem.mp z) h1] at h3
        cases h3
        exact ⟨v, h2, h4⟩
      · rw [if_neg z] at h
        obtain ⟨v', h3, h4⟩ := R.va i d h
        exact ⟨v', h3, h4.mono s⟩
    ow := fun i d h => by
      obtain ⟨h1, h2⟩ := own i d h
      obtain ⟨p, u, h3, h4⟩ := R'.ow i d h1
      exact ⟨p, u, by rw [← h2]; exact h3, h4⟩
    ap := fun i j d d' p h1 h2 h3 h4 => by
      obtain ⟨a1, a2⟩ := own i d h1
      obtain ⟨b1, b2⟩ := own j d' h2
      exact R'.ap i j d d' p a1 b1 (by rw [a2]; exact h3) (by rw [b2]; exact h4)
    pn := fun q hq => by cases hq }, own⟩
end

section
variable {P : Program} {w : World} {K : PySem.W.Frag} {mg : Str → Option Value} {base : Heap} {e : En}
abbrev WofE (E : XK) : Wi := ⟨fun cls d _ H => E cls d H, fun _ => True⟩
/-- THE RULE for a def -/
theorem fn_okH {qual : Str} {st : Stmt} {f : Addr} {fd : FuncData} {N ps : List Str} {k m : Nat} {io : List Nat} {body : MS}
    (hF : ∀ sp : Sp, (∀ vs H Q E, sp vs H Q E → vs.length = ps.length) → (∀ (cdv : Value) (A : Around) (outer : List Env) (s : Shared) (H : Hp) (vs : List V) (Q : VK) (E : XK), Room k (A.deeper (envOfC qual (defScope st) s.heap.objs.size f cdv)) → sp vs H Q E →
      ∃ t, PSs (cxOf (L2.CX P w) P w K mg base N qual (defScope st) f cdv A outer s H E) (defBody st) t ∧ t { nx := fun _ H' => Q .non H', rt := Q } (L2.start N vs) H) → FnOk P w K mg base (L2.CX P w) (k + 1) f fd ps sp) (hm : N.length = ps.length + m)
    (hb : ∀ (cdv : Value) (A : Around) (outer : List Env) (s : Shared) (H : Hp) (E : XK), Room k (A.deeper (envOfC qual (defScope st) s.heap.objs.size f cdv)) →
      SB e (cxOf (L2.CX P w) P w K mg base N qual (defScope st) f cdv A outer s H E) (WofE E) io (defBody st) body) :
    FnOk P w K mg base (L2.CX P w) (k + 1) f fd ps (spOf e ps.length (mkFn ps.length m io body)) := by
  refine hF _ (fun vs H Q E h => h.1) fun cdv A outer s H vs Q E hr h => ?_
  obtain ⟨hl, r, F0, G, B, R, q⟩ := h
  obtain ⟨t, h1, h2⟩ := (hb cdv A outer s H E hr).ex
  refine ⟨t, h1, ?_⟩
  have vlen : vs.length = r.length := by have := R.ln; simpa using this
  unfold mkFn at q
  by_cases z : r.length = ps.length ∧ okA io 0 r = true
  · rw [if_pos z] at q
    obtain ⟨z1, z2⟩ := z
    have pget : ∀ i v, vs[i]? = some v → (vs.map some)[i]? = some (some v) := fun i v h => by rw [List.getElem?_map, h]; rfl
    have est : L2.start N vs = vs.map some ++ List.replicate m none := by
      unfold L2.start
      rw [show N.length - vs.length = m by omega]
    have R0 := R.ext m ((io.filterMap fun i => (vs[i]?).map fun v => (i, v))) (fun q hq => by
      obtain ⟨i, hi, e1⟩ := List.mem_filterMap.mp hq
      cases z : vs[i]? with
      | none => rw [z] at e1; cases e1
      | some v =>
        rw [z] at e1
        cases e1
        exact pget i v z)
    have pin : ∀ {r' : Rho} {σ' : St} {H' F' : Hp}, Rl e r' σ' H' F' ⟨G, B, io.filterMap fun i => (vs[i]?).map fun v => (i, v)⟩ → ∀ i v, i ∈ io → vs[i]? = some v → σ'[i]? = some (some v) := fun {r' σ' H' F'} R' i v hi hv =>
      R'.pn (i, v) (List.mem_filterMap.mpr ⟨i, hi, by rw [hv]; rfl⟩)
    rw [est]
    refine h2 _ _ _ _ _ _ trivial (fun q hq => ?_) R0 ?_
    · obtain ⟨i, hi, e1⟩ := List.mem_filterMap.mp hq
      cases z : vs[i]? with
      | none => rw [z] at e1; cases e1
      | some v => rw [z] at e1; cases e1; exact hi
    · have go : ∀ {r' : Rho} {σ' : St} {H' F' : Hp} {f : Rho → So} {T : So → Prop}, Rl e r' σ' H' F' ⟨G, B, io.filterMap fun i => (vs[i]?).map fun v => (i, v)⟩ → Same F0 F' → T (fin io r r' f) → (T .no → False) →
          Rl e (Mi.back io 0 r r') (vs.map some) H' F' ⟨G, B, []⟩ ∧ T (f (Mi.back io 0 r r')) ∧ ∀ (i : Nat) (d' : D), (Mi.back io 0 r r')[i]? = some (.own d') → r'[i]? = some (.own d') ∧ σ'[i]? = (vs.map some)[i]? := fun {r' σ' H' F' f T} R' s' q no => by
        unfold fin at q
        by_cases hl2 : r.length ≤ r'.length
        · rw [if_pos hl2] at q
          obtain ⟨R2, o2⟩ := R.back R' s' z2 hl2 (pin R')
          exact ⟨R2, q, o2⟩
        · rw [if_neg hl2] at q
          exact (no q).elim
      cases y : body (r ++ List.replicate m LV.un) with
      | nx r' =>
        rw [y] at q
        intro σ' H' F' R' s'
        obtain ⟨R2, q2, _⟩ := go (T := fun o => match o with
          | .rt a r' => ∀ v H' F', Rl e r' (vs.map some) H' F' ⟨G, B, []⟩ → Same F0 F' → RvR e (rvOf a) v r' (vs.map some) H' F' ⟨G, B, []⟩ → Q v H'
          | .ex x r' => ∀ cls d H' F', Rl e r' (vs.map some) H' F' ⟨G, B, []⟩ → Same F0 F' → ExR e x cls d H' F' → E cls d H'
          | _ => False) R' s' q fun z => z
        exact q2 .non H' F' R2 s' rfl
      | rt a r' =>
        rw [y] at q
        intro v σ' H' F' R' s' hv
        obtain ⟨R2, q2, o2⟩ := go (T := fun o => match o with
          | .rt a r' => ∀ v H' F', Rl e r' (vs.map some) H' F' ⟨G, B, []⟩ → Same F0 F' → RvR e (rvOf a) v r' (vs.map some) H' F' ⟨G, B, []⟩ → Q v H'
          | .ex x r' => ∀ cls d H' F', Rl e r' (vs.map some) H' F' ⟨G, B, []⟩ → Same F0 F' → ExR e x cls d H' F' → E cls d H'
          | _ => False) R' s' q fun z => z
        refine q2 v H' F' R2 s' ?_
        cases a with
        | val d => exact hv
        | own d =>
          obtain ⟨p, rfl, T1, T2, T3⟩ := hv
          refine ⟨p, rfl, T1, T2, fun i d' hi z => ?_⟩
          obtain ⟨a1, a2⟩ := o2 i d' hi
          exact T3 i d' a1 (by rw [a2]; exact z)
      | ex x r' =>
        rw [y] at q
        intro cls d σ' H' F' R' s' hx
        obtain ⟨R2, q2, _⟩ := go (T := fun o => match o with
          | .rt a r' => ∀ v H' F', Rl e r' (vs.map some) H' F' ⟨G, B, []⟩ → Same F0 F' → RvR e (rvOf a) v r' (vs.map some) H' F' ⟨G, B, []⟩ → Q v H'
          | .ex x r' => ∀ cls d H' F', Rl e r' (vs.map some) H' F' ⟨G, B, []⟩ → Same F0 F' → ExR e x cls d H' F' → E cls d H'
          | _ => False) R' s' q fun z => z
        exact q2 cls d H' F' R2 s' hx
      | bk r' => rw [y] at q; exact q.elim
      | ct r' => rw [y] at q; exact q.elim
      | no => rw [y] at q; exact q.elim
  · rw [if_neg z] at q
    exact q.elim
theorem fn_ok {x qual : Str} {st : Stmt} {f : Addr} {fd : FuncData} {N ps : List Str} {k m : Nat} {io : List Nat} {body : MS} (F : Fun K x qual st f fd) (S : FnScope N ps (defScope st)) (hm : N.length = ps.length + m)
    (hb : ∀ (cdv : Value) (A : Around) (outer : List Env) (s : Shared) (H : Hp) (E : XK), Room k (A.deeper (envOfC qual (defScope st) s.heap.objs.size f cdv)) →
      SB e (cxOf (L2.CX P w) P w K mg base N qual (defScope st) f cdv A outer s H E) (WofE E) io (defBody st) body) :
    FnOk P w K mg base (L2.CX P w) (k + 1) f fd ps (spOf e ps.length (mkFn ps.length m io body)) :=
  fn_okH (fun sp len hb => F.okX S len hb) hm hb
/-- for a def with defaults -/
theorem fn_okD {x qual : Str} {st : Stmt} {f : Addr} {fd : FuncData} {N ps : List Str} {k m : Nat} {io : List Nat} {body : MS} {dvs : List V} {kws : List (Str × V)} (F : FunD K x qual (defArgs st) (defBody st) (defScope st) dvs kws f fd) (S : FnScope N ps (defScope st)) (hm : N.length = ps.length + m)
    (hb : ∀ (cdv : Value) (A : Around) (outer : List Env) (s : Shared) (H : Hp) (E : XK), Room k (A.deeper (envOfC qual (defScope st) s.heap.objs.size f cdv)) →
      SB e (cxOf (L2.CX P w) P w K mg base N qual (defScope st) f cdv A outer s H E) (WofE E) io (defBody st) body) :
    FnOk P w K mg base (L2.CX P w) (k + 1) f fd ps (spOf e ps.length (mkFn ps.length m io body)) :=
  fn_okH (fun sp len hb => F.ok S len hb) hm hb
end
/-! ### calls -/
def ArgsR (e : En) (σ : St) (F : Hp) : List RV → List V → Prop
  | [], vs => vs = []
  | rv :: l, vs => ∃ v w, vs = v :: w ∧ (match rv with
    | .val d => Rep e F d v
    | .bor i => σ[i]? = some (some v)
    | .own _ => False) ∧ ArgsR e σ F l w
abbrev KC (e : En) (σ : St) (Q : List V → Hp → Prop) : List RV → Rho → Hp → Hp → Prop := fun l _ H' F' => ∀ vs, ArgsR e σ F' l vs → Q vs H'
def TeC (e : En) (W : Wi) (t : TA) (m : Rho → Ou (List RV)) : Prop := ∀ r σ H F fm Q, W.c fm → Rl e r σ H F fm → Po e W fm F σ (KC e σ Q) (m r) → t σ H Q
structure SC (e : En) (X : Cx) (W : Wi) (es : List Expr) (m : Rho → Ou (List RV)) : Prop where
  ex : ∃ t, PA X es t ∧ TeC e W t m
  len : ∀ r l r', m r = .ok l r' → l.length = es.length
theorem bd_inv' {α β : Type} {o : Ou α} {f : α → Rho → Ou β} {b : β} {r : Rho} (h : o.bd f = .ok b r) : ∃ a r1, o = .ok a r1 ∧ f a r1 = .ok b r := by
  cases o with
  | ok a r1 => exact ⟨a, r1, rfl, h⟩
  | ex x r1 => cases h
  | no => cases h
def cN : Rho → Ou (List RV) := fun r => .ok [] r
def cV (m : ME) (n : Rho → Ou (List RV)) : Rho → Ou (List RV) := fun r => (fz m r).bd fun d r1 => (n r1).bd fun l r2 => .ok (.val d :: l) r2
def cB (m : ME) (n : Rho → Ou (List RV)) : Rho → Ou (List RV) := fun r => (stl m r).bd fun rv r1 => (n r1).bd fun l r2 => .ok (rv :: l) r2
section
variable {e : En} {X : Cx} {W : Wi} {a : Expr} {es : List Expr} {m : ME} {n : Rho → Ou (List RV)} {F F' H : Hp} {σ : St} {r : Rho} {fm : Fm}
theorem ArgsR.mono (s : Same F F') : ∀ {l : List RV} {vs : List V}, ArgsR e σ F l vs → ArgsR e σ F' l vs
  | [], _, h => h
  | rv :: l, _, ⟨v, w, h0, h1, h2⟩ => ⟨v, w, h0, by
      cases rv with
      | val d => exact Rep.mono s h1
      | bor i => exact h1
      | own d => exact h1, ArgsR.mono s h2⟩
theorem ArgsR.len : ∀ {l : List RV} {vs : List V}, ArgsR e σ F l vs → vs.length = l.length
  | [], _, h => by cases h; rfl
  | _ :: _, _, ⟨v, w, h0, _, h2⟩ => by subst h0; simp [ArgsR.len h2]
theorem ArgsR.get : ∀ {l : List RV} {vs : List V} {i : Nat} {rv : RV}, ArgsR e σ F l vs → l[i]? = some rv → ∃ v, vs[i]? = some v ∧ (match rv with
    | .val d => Rep e F d v
    | .bor i => σ[i]? = some (some v)
    | .own _ => False)
  | [], _, _, _, _, q => by simp at q
  | _ :: _, _, 0, _, ⟨v, w, h0, h1, _⟩, q => by subst h0; simp at q; subst q; exact ⟨v, rfl, h1⟩
  | _ :: _, _, i + 1, _, ⟨v, w, h0, _, h2⟩, q => by subst h0; simp at q; simpa using ArgsR.get h2 q
theorem sc_nil : SC e X W [] cN := ⟨⟨_, pa_nil, fun r σ H F fm Q hC R q => q H F R (Same.refl _) [] rfl⟩, fun r l r' h => by cases h; rfl⟩
theorem sc_val (h : SE e X W a m) (hr : SC e X W es n) (hs : starEach (a :: es) X.env = (false, eval a X.env) :: starEach es X.env := by rfl) : SC e X W (a :: es) (cV m n) := by
  obtain ⟨t, a1, a2⟩ := h.fz.ex
  obtain ⟨u, b1, b2⟩ := hr.ex
  refine ⟨⟨_, pa_cons a1 b1 hs, fun r σ H F fm Q hC R q => a2 r σ H F fm _ hC R ?_⟩, fun r l r' q => ?_⟩
  · refine (Po.bd q).mono fun d r1 H1 F1 R1 s1 q1 v hv => b2 r1 σ H1 F1 fm _ hC R1 ?_
    refine (Po.bd q1).mono fun l r2 H2 F2 R2 s2 q2 vs hvs => ?_
    exact q2 H2 F2 R2 (Same.refl _) (v :: vs) ⟨v, vs, rfl, hv.mono s2, hvs⟩
  · obtain ⟨d, r1, _, q1⟩ := bd_inv' q
    obtain ⟨l2, r2, e2, q2⟩ := bd_inv' q1
    cases q2
    rw [List.length_cons, List.length_cons, hr.len _ _ _ e2]
theorem sc_bor (h : SE e X W a m) (hr : SC e X W es n) (hs : starEach (a :: es) X.env = (false, eval a X.env) :: starEach es X.env := by rfl) : SC e X W (a :: es) (cB m n) := by
  obtain ⟨t, a1, a2⟩ := h.stl.ex
  obtain ⟨u, b1, b2⟩ := hr.ex
  refine ⟨⟨_, pa_cons a1 b1 hs, fun r σ H F fm Q hC R q => a2 r σ H F fm _ hC R ?_⟩, fun r l r' q => ?_⟩
  · have q' := Po.bd q
    cases z : stl m r with
    | no => rw [z] at q'; exact q'
    | ex x r1 => rw [z] at q'; exact q'
    | ok rv r1 =>
      rw [z] at q'
      intro H1 F1 R1 s1 v hv
      refine b2 r1 σ H1 F1 fm _ hC R1 ?_
      refine (Po.bd (q' H1 F1 R1 s1)).mono fun l r2 H2 F2 R2 s2 q2 vs hvs => ?_
      refine q2 H2 F2 R2 (Same.refl _) (v :: vs) ⟨v, vs, rfl, ?_, hvs⟩
      cases rv with
      | val d => exact Rep.mono s2 hv
      | bor i => exact hv
      | own d => exact stl_own z d rfl
  · obtain ⟨d, r1, _, q1⟩ := bd_inv' q
    obtain ⟨l2, r2, e2, q2⟩ := bd_inv' q1
    cases q2
    rw [List.length_cons, List.length_cons, hr.len _ _ _ e2]
end
def argL (r : Rho) : RV → LV
  | .val d => .val d
  | .bor i => (r[i]?).getD .un
  | .own _ => .un
def borI : List RV → List Nat
  | [] => []
  | .bor i :: l => i :: borI l
  | .val _ :: l => borI l
  | .own _ :: l => borI l
def wback : List RV → Rho → Rho → Rho
  | .bor i :: l, lv :: w, r => wback l w (r.set i lv)
  | .val _ :: l, _ :: w, r => wback l w r
  | .own _ :: l, _ :: w, r => wback l w r
  | _, _, r => r
def nodupB : List Nat → Bool
  | [] => true
  | a :: l => !(l.contains a) && nodupB l
def eCall (f : MS) (m : Rho → Ou (List RV)) : ME := fun r => (m r).bd fun l r1 => if nodupB (borI l) = true then match f (l.map (argL r1)) with
  | .rt a r2 => .ok (rvOf a) (wback l r2 r1)
  | .ex x r2 => .ex x (wback l r2 r1)
  | _ => .no else .no
theorem nodupB_ok : ∀ {l : List Nat}, nodupB l = true → l.Nodup
  | [], _ => List.nodup_nil
  | a :: l, h => by
    have h' : (!(l.contains a) && nodupB l) = true := h
    obtain ⟨h1, h2⟩ := Bool.and_eq_true_iff.mp h'
    refine List.nodup_cons.mpr ⟨fun m => ?_, nodupB_ok h2⟩
    rw [List.contains_iff_mem.mpr m] at h1
    cases h1
theorem borI_mem : ∀ {l : List RV} {i : Nat}, i ∈ borI l → ∃ j : Nat, l[j]? = some (.bor i)
  | [], i, h => by cases h
  | .bor k :: l, i, h => by
    rcases List.mem_cons.mp h with rfl | h
    · exact ⟨0, rfl⟩
    · obtain ⟨j, q⟩ := borI_mem h
      exact ⟨j + 1, by simpa using q⟩
  | .val _ :: l, i, h => by
    obtain ⟨j, q⟩ := borI_mem (l := l) h
    exact ⟨j + 1, by simpa using q⟩
  | .own _ :: l, i, h => by
    obtain ⟨j, q⟩ := borI_mem (l := l) h
    exact ⟨j + 1, by simpa using q⟩
theorem mem_borI : ∀ {l : List RV} {i j : Nat}, l[j]? = some (.bor i) → i ∈ borI l
  | [], _, _, h => by simp at h
  | .bor k :: l, i, 0, h => by simp at h; subst h; exact List.mem_cons_self
  | .val _ :: l, i, 0, h => by simp at h
  | .own _ :: l, i, 0, h => by simp at h
  | .bor k :: l, i, j + 1, h => List.mem_cons_of_mem _ (mem_borI (l := l) (j := j) (by simpa using h))
  | .val _ :: l, i, j + 1, h => mem_borI (l := l) (j := j) (by simpa using h)
  | .own _ :: l, i, j + 1, h => mem_borI (l := l) (j := j) (by simpa using h)
/-- one slot is given once -/
theorem bor_inj : ∀ {l : List RV} {i j k : Nat}, (borI l).Nodup → l[j]? = some (.bor i) → l[k]? = some (.bor i) → j = k
  | [], _, _, _, _, h, _ => by simp at h
  | rv :: l, i, 0, 0, _, _, _ => rfl
  | rv :: l, i, 0, k + 1, nd, h1, h2 => by
    simp at h1; subst h1
    exact absurd (mem_borI (l := l) (j := k) (by simpa using h2)) (List.nodup_cons.mp nd).1
  | rv :: l, i, j + 1, 0, nd, h1, h2 => by
    simp at h2; subst h2
    exact absurd (mem_borI (l := l) (j := j) (by simpa using h1)) (List.nodup_cons.mp nd).1
  | rv :: l, i, j + 1, k + 1, nd, h1, h2 => by
    have nd' : (borI l).Nodup := by
      cases rv with
      | bor _ => exact (List.nodup_cons.mp nd).2
      | val _ => exact nd
      | own _ => exact nd
    exact congrArg (· + 1) (bor_inj (l := l) (i := i) nd' (by simpa using h1) (by simpa using h2))
theorem wback_len : ∀ (l : List RV) (w r : Rho), (wback l w r).length = r.length
  | [], _, _ => by unfold wback; rfl
  | .bor i :: l, lv :: w, r => by
    exact (wback_len l w (r.set i lv)).trans List.length_set
  | .val _ :: l, _ :: w, r => wback_len l w r
  | .own _ :: l, _ :: w, r => wback_len l w r
  | .bor _ :: _, [], _ => by unfold wback; rfl
  | .val _ :: _, [], _ => by unfold wback; rfl
  | .own _ :: _, [], _ => by unfold wback; rfl
theorem wback_no : ∀ (l : List RV) (w r : Rho) (i : Nat), i ∉ borI l → (wback l w r)[i]? = r[i]?
  | [], _, _, _, _ => by unfold wback; rfl
  | .bor k :: l, lv :: w, r, i, h => by
    show (wback l w (r.set k lv))[i]? = _
    have h1 : i ≠ k := fun z => h (z ▸ List.mem_cons_self)
    rw [wback_no l w _ i (fun z => h (List.mem_cons_of_mem _ z)), set_get_ne h1]
  | .val _ :: l, _ :: w, r, i, h => wback_no l w r i h
  | .own _ :: l, _ :: w, r, i, h => wback_no l w r i h
  | .bor _ :: _, [], _, _, _ => by unfold wback; rfl
  | .val _ :: _, [], _, _, _ => by unfold wback; rfl
  | .own _ :: _, [], _, _, _ => by unfold wback; rfl
theorem wback_at : ∀ (l : List RV) (w r : Rho) (i j : Nat), (borI l).Nodup → l[j]? = some (.bor i) → i < r.length → j < w.length → (wback l w r)[i]? = w[j]?
  | [], _, _, _, _, _, h, _, _ => by simp at h
  | _ :: _, [], _, _, _, _, _, _, h => by simp at h
  | .bor k :: l, lv :: w, r, i, 0, nd, h, hi, _ => by
    simp at h; subst h
    show (wback l w (r.set k lv))[k]? = _
    rw [wback_no l w _ k (List.nodup_cons.mp nd).1, List.getElem?_set_self hi]
    rfl
  | .val _ :: _, _ :: _, _, _, 0, _, h, _, _ => by simp at h
  | .own _ :: _, _ :: _, _, _, 0, _, h, _, _ => by simp at h
  | .bor k :: l, lv :: w, r, i, j + 1, nd, h, hi, hj => by
    show (wback l w (r.set k lv))[i]? = _
    rw [wback_at l w _ i j (List.nodup_cons.mp nd).2 (by simpa using h) (by rw [List.length_set]; exact hi) (by simpa using hj)]
    simp
  | .val _ :: l, _ :: w, r, i, j + 1, nd, h, hi, hj => by
    show (wback l w r)[i]? = _
    rw [wback_at l w r i j nd (by simpa using h) hi (by simpa using hj)]
    simp
  | .own _ :: l, _ :: w, r, i, j + 1, nd, h, hi, hj => by
    show (wback l w r)[i]? = _
    rw [wback_at l w r i j nd (by simpa using h) hi (by simpa using hj)]
    simp
section
variable {e : En} {X : Cx} {W : Wi} {F F' H H' : Hp} {σ : St} {r : Rho} {fm : Fm} {l : List RV} {vs : List V}
open Classical in
/-- what the callee must leave: the frame's own containers that it does not get -/
noncomputable def outG (r : Rho) (σ : St) (H : Hp) (fm : Fm) (l : List RV) : Hp := fun a => if (∃ (i : Nat) (d : D), r[i]? = some (.own d) ∧ σ[i]? = some (some (.ref a)) ∧ i ∉ borI l) then H a else fm.G a
def outB (r : Rho) (σ : St) (fm : Fm) (l : List RV) : Addr → Prop := fun a => fm.B a ∨ ∃ (i : Nat) (d : D), r[i]? = some (.own d) ∧ σ[i]? = some (some (.ref a)) ∧ i ∉ borI l
theorem outG_own {i : Nat} {d : D} {a : Addr} (h1 : r[i]? = some (.own d)) (h2 : σ[i]? = some (some (.ref a))) (h3 : i ∉ borI l) : outG r σ H fm l a = H a := if_pos ⟨i, d, h1, h2, h3⟩
theorem outG_no {a : Addr} (h : ¬ ∃ (i : Nat) (d : D), r[i]? = some (.own d) ∧ σ[i]? = some (some (.ref a)) ∧ i ∉ borI l) : outG r σ H fm l a = fm.G a := if_neg h
theorem argL_own {r : Rho} {j : Nat} {d : D} (h : (l.map (argL r))[j]? = some (.own d)) : ∃ i : Nat, l[j]? = some (.bor i) ∧ r[i]? = some (.own d) := by
  rw [List.getElem?_map] at h
  cases z : l[j]? with
  | none => rw [z] at h; cases h
  | some rv =>
    rw [z] at h
    cases rv with
    | val d' => cases h
    | own d' => cases h
    | bor i =>
      have h' : (r[i]?).getD .un = .own d := Option.some.inj h
      cases y : r[i]? with
      | none => rw [y] at h'; cases h'
      | some lv =>
        rw [y] at h'
        exact ⟨i, rfl, by rw [y]; exact congrArg some h'⟩
theorem argL_val {r : Rho} {j : Nat} {d : D} (h : (l.map (argL r))[j]? = some (.val d)) : l[j]? = some (.val d) ∨ ∃ i : Nat, l[j]? = some (.bor i) ∧ r[i]? = some (.val d) := by
  rw [List.getElem?_map] at h
  cases z : l[j]? with
  | none => rw [z] at h; cases h
  | some rv =>
    rw [z] at h
    cases rv with
    | val d' => cases h; exact .inl rfl
    | own d' => cases h
    | bor i =>
      have h' : (r[i]?).getD .un = .val d := Option.some.inj h
      cases y : r[i]? with
      | none => rw [y] at h'; cases h'
      | some lv =>
        rw [y] at h'
        exact .inr ⟨i, rfl, by rw [y]; exact congrArg some h'⟩
theorem vsome {vs : List V} {j : Nat} {v : V} (h : vs[j]? = some v) : (vs.map some)[j]? = some (some v) := by rw [List.getElem?_map, h]; rfl
theorem call_in (R : Rl e r σ H F fm) (A : ArgsR e σ F l vs) (nd : (borI l).Nodup) : Rl e (l.map (argL r)) (vs.map some) H F ⟨outG r σ H fm l, outB r σ fm l, []⟩ where
  fh := R.fh
  gh := fun a u q => by
    by_cases z : ∃ (i : Nat) (d : D), r[i]? = some (.own d) ∧ σ[i]? = some (some (.ref a)) ∧ i ∉ borI l
    · obtain ⟨i, d, h1, h2, h3⟩ := z
      have q' : outG r σ H fm l a = some u := q
      rwa [outG_own h1 h2 h3] at q'
    · have q' : outG r σ H fm l a = some u := q
      rw [outG_no z] at q'
      exact R.gh a u q'
  bf := fun a b => by
    rcases b with b | ⟨i, d, h1, h2, _⟩
    · exact R.bf a b
    · obtain ⟨p, u, h3, _, _, n⟩ := R.ow i d h1
      rw [h2] at h3; cases h3
      exact n.1
  bh := fun a b => by
    rcases b with b | ⟨i, d, h1, h2, _⟩
    · exact R.bh a b
    · obtain ⟨p, u, h3, h4, _⟩ := R.ow i d h1
      rw [h2] at h3; cases h3
      rw [h4]; simp
  ln := by rw [List.length_map, List.length_map]; exact A.len
  va := fun j d h => by
    rcases argL_val h with h | ⟨i, h, h'⟩
    · obtain ⟨v, h1, h2⟩ := A.get h
      exact ⟨v, vsome h1, h2⟩
    · obtain ⟨v, h1, h2⟩ := A.get h
      obtain ⟨v', h3, h4⟩ := R.va i d h'
      have h2' : σ[i]? = some (some v) := h2
      rw [h2'] at h3; cases h3
      exact ⟨v, vsome h1, h4⟩
  ow := fun j d h => by
    obtain ⟨i, h1, h2⟩ := argL_own h
    obtain ⟨v, h3, h4⟩ := A.get h1
    obtain ⟨p, u, h5, h6, h7, n⟩ := R.ow i d h2
    have h4' : σ[i]? = some (some v) := h4
    rw [h4'] at h5; cases h5
    have no : ¬ ∃ (i : Nat) (d : D), r[i]? = some (.own d) ∧ σ[i]? = some (some (.ref p)) ∧ i ∉ borI l := by
      rintro ⟨i', d', a1, a2, a3⟩
      have := R.ap i i' d d' p h2 a1 h4' a2
      subst this
      exact a3 (mem_borI h1)
    refine ⟨p, u, vsome h3, h6, h7, n.1, ?_, ?_⟩
    · show outG r σ H fm l p = none
      rw [outG_no no]; exact n.2.1
    · rintro (b | b)
      · exact n.2.2 b
      · exact no b
  ap := fun j k d d' p h1 h2 h3 h4 => by
    obtain ⟨i, a1, a2⟩ := argL_own h1
    obtain ⟨i', b1, b2⟩ := argL_own h2
    obtain ⟨v, a3, a4⟩ := A.get a1
    obtain ⟨v', b3, b4⟩ := A.get b1
    have a4' : σ[i]? = some (some v) := a4
    have b4' : σ[i']? = some (some v') := b4
    rw [vsome a3] at h3; cases h3
    rw [vsome b3] at h4; cases h4
    have := R.ap i i' d d' p a2 b2 a4' b4'
    subst this
    exact bor_inj nd a1 b1
  pn := fun q hq => by cases hq
theorem call_out {w : Rho} (R : Rl e r σ H F fm) (A : ArgsR e σ F l vs) (nd : (borI l).Nodup) (R' : Rl e w (vs.map some) H' F' ⟨outG r σ H fm l, outB r σ fm l, []⟩) (s : Same F F') : Rl e (wback l w r) σ H' F' fm := by
  have wl : w.length = l.length := by have := R'.ln; rw [List.length_map, A.len] at this; exact this.symm
  have slot : ∀ {i : Nat} {lv : LV}, (wback l w r)[i]? = some lv → (i ∉ borI l ∧ r[i]? = some lv) ∨ ∃ (j : Nat) (v : V), l[j]? = some (.bor i) ∧ w[j]? = some lv ∧ vs[j]? = some v ∧ σ[i]? = some (some v) := fun {i lv} h => by
    by_cases z : i ∈ borI l
    · obtain ⟨j, hj⟩ := borI_mem z
      have hi : i < r.length := by have := (List.getElem?_eq_some_iff.mp h).1; rwa [wback_len] at this
      have hjl : j < w.length := by rw [wl]; exact (List.getElem?_eq_some_iff.mp hj).1
      rw [wback_at l w r i j nd hj hi hjl] at h
      obtain ⟨v, h1, h2⟩ := A.get hj
      exact .inr ⟨j, v, hj, h, h1, h2⟩
    · rw [wback_no l w r i z] at h
      exact .inl ⟨z, h⟩
  -- an own container that was not given stands as before
  have kept : ∀ {i : Nat} {d : D}, i ∉ borI l → r[i]? = some (.own d) → ∃ (p : Addr) (u : HO), σ[i]? = some (some (.ref p)) ∧ H' p = some u ∧ OR e F' u d ∧ Fre fm F' p := fun {i d} z h => by
    obtain ⟨p, u, h1, h2, h3, n⟩ := R.ow i d h
    refine ⟨p, u, h1, R'.gh p u ?_, h3.mono s, R'.bf p (.inr ⟨i, d, h, h1, z⟩), n.2⟩
    show outG r σ H fm l p = some u
    rw [outG_own h h1 z]; exact h2
  have notB : ∀ {j : Nat} {d : D} {p : Addr}, w[j]? = some (.own d) → (vs.map some)[j]? = some (some (.ref p)) → Fre fm F' p ∧ ∃ u, H' p = some u ∧ OR e F' u d := fun {j d p} h1 h2 => by
    obtain ⟨p', u, h3, h4, h5, n⟩ := R'.ow j d h1
    rw [h2] at h3; cases h3
    refine ⟨⟨n.1, ?_, fun b => n.2.2 (.inl b)⟩, u, h4, h5⟩
    have no : ¬ ∃ (i : Nat) (d : D), r[i]? = some (.own d) ∧ σ[i]? = some (some (.ref p)) ∧ i ∉ borI l := fun b => n.2.2 (.inr b)
    have g : outG r σ H fm l p = none := n.2.1
    rwa [outG_no no] at g
  exact {
    fh := R'.fh
    gh := fun a u q => by
      by_cases z : ∃ (i : Nat) (d : D), r[i]? = some (.own d) ∧ σ[i]? = some (some (.ref a)) ∧ i ∉ borI l
      · obtain ⟨i, d, h1, h2, h3⟩ := z
        obtain ⟨p, u', h4, h5, _, n⟩ := R.ow i d h1
        rw [h2] at h4; cases h4
        rw [n.2.1] at q; cases q
      · exact R'.gh a u (by show outG r σ H fm l a = some u; rw [outG_no z]; exact q)
    bf := fun a b => R'.bf a (.inl b)
    bh := fun a b => R'.bh a (.inl b)
    ln := by rw [wback_len]; exact R.ln
    va := fun i d h => by
      rcases slot h with ⟨_, h⟩ | ⟨j, v, h1, h2, h3, h4⟩
      · obtain ⟨v, h1, h2⟩ := R.va i d h
        exact ⟨v, h1, h2.mono s⟩
      · obtain ⟨v', h5, h6⟩ := R'.va j d h2
        rw [vsome h3] at h5; cases h5
        exact ⟨v, h4, h6⟩
    ow := fun i d h => by
      rcases slot h with ⟨z, h⟩ | ⟨j, v, h1, h2, h3, h4⟩
      · exact kept z h
      · obtain ⟨p, u, h5, _⟩ := R'.ow j d h2
        rw [vsome h3] at h5; cases h5
        obtain ⟨n, u', a1, a2⟩ := notB h2 (vsome h3)
        exact ⟨p, u', h4, a1, a2, n⟩
    ap := fun i k d d' p h1 h2 h3 h4 => by
      rcases slot h1 with ⟨z, h⟩ | ⟨j, v, a1, a2, a3, a4⟩
      · rcases slot h2 with ⟨z', h'⟩ | ⟨j', v', b1, b2, b3, b4⟩
        · exact R.ap i k d d' p h h' h3 h4
        · rw [h4] at b4; cases b4
          obtain ⟨p', u, h5, _, _, n⟩ := R'.ow j' d' b2
          rw [vsome b3] at h5; cases h5
          exact (n.2.2 (.inr ⟨i, d, h, h3, z⟩)).elim
      · rw [h3] at a4; cases a4
        rcases slot h2 with ⟨z', h'⟩ | ⟨j', v', b1, b2, b3, b4⟩
        · obtain ⟨p', u, h5, _, _, n⟩ := R'.ow j d a2
          rw [vsome a3] at h5; cases h5
          exact (n.2.2 (.inr ⟨k, d', h', h4, z'⟩)).elim
        · rw [h4] at b4; cases b4
          have := R'.ap j j' d d' p a2 b2 (vsome a3) (vsome b3)
          subst this
          rw [a1] at b1
          cases b1
          rfl
    pn := R.pn }
theorem call_tmp {w : Rho} {p : Addr} {d : D} (R : Rl e r σ H F fm) (A : ArgsR e σ F l vs) (nd : (borI l).Nodup) (R' : Rl e w (vs.map some) H' F' ⟨outG r σ H fm l, outB r σ fm l, []⟩) (T : Tmp e w (vs.map some) H' F' ⟨outG r σ H fm l, outB r σ fm l, []⟩ p d) :
    Tmp e (wback l w r) σ H' F' fm p d := by
  obtain ⟨⟨u, h1, h2⟩, n, no⟩ := T
  have nx : ¬ ∃ (i : Nat) (d : D), r[i]? = some (.own d) ∧ σ[i]? = some (some (.ref p)) ∧ i ∉ borI l := fun b => n.2.2 (.inr b)
  have g : outG r σ H fm l p = none := n.2.1
  rw [outG_no nx] at g
  refine ⟨⟨u, h1, h2⟩, ⟨n.1, g, fun b => n.2.2 (.inl b)⟩, fun i d' h z => ?_⟩
  have wl : w.length = l.length := by have := R'.ln; rw [List.length_map, A.len] at this; exact this.symm
  by_cases y : i ∈ borI l
  · obtain ⟨j, hj⟩ := borI_mem y
    have hi : i < r.length := by have := (List.getElem?_eq_some_iff.mp h).1; rwa [wback_len] at this
    have hjl : j < w.length := by rw [wl]; exact (List.getElem?_eq_some_iff.mp hj).1
    rw [wback_at l w r i j nd hj hi hjl] at h
    obtain ⟨v, a1, a2⟩ := A.get hj
    have a2' : σ[i]? = some (some v) := a2
    rw [z] at a2'; cases a2'
    exact no j d' h (vsome a1)
  · rw [wback_no l w r i y] at h
    exact nx ⟨i, d', h, z, y⟩
def callO (l : List RV) (r : Rho) : So → Ou RV
  | .rt a r2 => .ok (rvOf a) (wback l r2 r)
  | .ex x r2 => .ex x (wback l r2 r)
  | _ => .no
theorem call_sp {n : Nat} {f : MS} {Q : VK} (R : Rl e r σ H F fm) (A : ArgsR e σ F l vs) (nd : (borI l).Nodup) (hn : vs.length = n) (q : Po e W fm F σ (KE' e fm σ Q) (callO l r (f (l.map (argL r))))) :
    spOf e n f vs H Q (fun cls d H' => W.w cls d σ H') := by
  refine ⟨hn, l.map (argL r), F, outG r σ H fm l, outB r σ fm l, call_in R A nd, ?_⟩
  cases z : f (l.map (argL r)) with
  | rt a w =>
    rw [z] at q
    intro v H' F' R' s hv
    refine q H' F' (call_out R A nd R' s) s v ?_
    cases a with
    | val d => exact hv
    | own d =>
      obtain ⟨p, rfl, T⟩ := hv
      exact ⟨p, rfl, call_tmp R A nd R' T⟩
  | ex x w =>
    rw [z] at q
    intro cls d H' F' R' s hx
    exact q cls d H' F' (call_out R A nd R' s) s hx
  | nx w => rw [z] at q; exact q
  | bk w => rw [z] at q; exact q
  | ct w => rw [z] at q; exact q
  | no => rw [z] at q; exact q
end
theorem eCall_eq (f : MS) (m : Rho → Ou (List RV)) (r : Rho) : eCall f m r = (m r).bd fun l r1 => if nodupB (borI l) = true then callO l r1 (f (l.map (argL r1))) else .no := by
  unfold eCall callO
  rfl
section
variable {e : En} {X : Cx} {W : Wi} {x : Str} {p pos : Pos} {a : Expr} {es : List Expr} {m : Rho → Ou (List RV)} {k n : Nat} {f : Addr} {fd : FuncData} {ps : List Str} {g : MS}
theorem tCall_te {t : TA} (h : TeC e W t m) (ha : ∀ r l r', m r = .ok l r' → l.length = n) : TeE e W (tCallS (spOf e n g) (WE W.w) t) (eCall g m) := fun r σ H F fm Q hC R q => by
  refine h r σ H F fm _ hC R ?_
  rw [eCall_eq] at q
  have q' := Po.bd q
  cases z : m r with
  | no => rw [z] at q'; exact q'
  | ex x r1 => rw [z] at q'; exact q'
  | ok l r1 =>
    rw [z] at q'
    intro H1 F1 R1 s1 vs A
    have q1 := q' H1 F1 R1 s1
    dsimp only at q1
    by_cases nd : nodupB (borI l) = true
    · rw [if_pos nd] at q1
      exact call_sp R1 A (nodupB_ok nd) (by rw [A.len]; exact ha r l r1 z) q1
    · rw [if_neg nd] at q1; exact q1.elim
end
end Mi

end
section
set_option maxRecDepth 100000
/-! Mi4: the operations on data: ints, comparisons, sequences, truth; tests; displays; what is walked. -/
namespace Mi
open PySem L2

abbrev vI (i : Int) : Option R0 := some (.val (.int i))
abbrev vB (b : Bool) : Option R0 := some (.val (.bl b))
/-! ### ints -/
def addD : D → D → Option R0
  | .int a, .int b => vI (a + b)
  | .str a, .str b => if a.length + b.length ≤ 1000000 then some (.val (.str (a ++ b))) else none
  | .lst a, .lst b => if a.length + b.length ≤ 1000000 then some (.own (.lst (a ++ b))) else none
  | .tup a, .tup b => if a.length + b.length ≤ 1000000 ∧ a ≠ [] ∧ b ≠ [] then some (.own (.tup (a ++ b))) else none
  | _, _ => none
def subD : D → D → Option R0
  | .int a, .int b => vI (a - b)
  | _, _ => none
def mulD : D → D → Option R0
  | .int a, .int b => if a.natAbs.log2 + b.natAbs.log2 < 1000000 then vI (a * b) else none
  | _, _ => none
def fdivD : D → D → Option R0
  | .int a, .int b => if b ≠ 0 ∧ b.natAbs.log2 < 9000 then vI (a.fdiv b) else none
  | _, _ => none
def modD : D → D → Option R0
  | .int a, .int b => if b ≠ 0 then vI (a.fmod b) else none
  | _, _ => none
def powD : D → D → Option R0
  | .int a, .int b => if 0 ≤ b ∧ b ≤ 1000000 ∧ a.natAbs < 2 ^ 64 then vI (a ^ b.toNat) else none
  | _, _ => none
def negD : D → Option R0
  | .int a => vI (-a)
  | _ => none
def absD : D → Option R0
  | .int a => vI (if a < 0 then -a else a)
  | _ => none
def intD : D → Option R0
  | .int a => vI a
  | .bl b => vI (if b then 1 else 0)
  | _ => none
def ltD : D → D → Option R0
  | .int a, .int b => vB (decide (a < b))
  | .str a, .str b => vB (decide (a.cps.toList < b.cps.toList))
  | _, _ => none
def leD : D → D → Option R0
  | .int a, .int b => vB (decide (a ≤ b))
  | _, _ => none
def gtD : D → D → Option R0
  | .int a, .int b => vB (decide (b < a))
  | _, _ => none
def geD : D → D → Option R0
  | .int a, .int b => vB (decide (b ≤ a))
  | _, _ => none
/-- == of scalars -/
def eqS : D → D → Option Bool
  | .non, .non => some true
  | .bl a, .bl b => some (decide (a = b))
  | .int a, .int b => some (decide (a = b))
  | .str a, .str b => some (decide (a = b))
  | .non, .bl _ => some false
  | .non, .int _ => some false
  | .non, .str _ => some false
  | .bl _, .non => some false
  | .int _, .non => some false
  | .str _, .non => some false
  | .int _, .str _ => some false
  | .str _, .int _ => some false
  | .bl _, .str _ => some false
  | .str _, .bl _ => some false
  | _, _ => none
def eqD (a b : D) : Option R0 := (eqS a b).map fun k => .val (.bl k)
def neD (a b : D) : Option R0 := (eqS a b).map fun k => .val (.bl (!k))
def isN (a b : D) : Option R0 := match b with
  | .non => vB (match a with
    | .non => true
    | _ => false)
  | _ => none
def isNN (a b : D) : Option R0 := match b with
  | .non => vB (match a with
    | .non => false
    | _ => true)
  | _ => none
section
variable {e : En} {X : Cx}
theorem p2_i {f : D → D → Option R0} {r : R2} (h : ∀ d1 d2, f d1 d2 ≠ none → ∃ a b, d1 = .int a ∧ d2 = .int b) (g : ∀ a b H F Q, PQ e H F (f (.int a) (.int b)) Q → r (.int a) (.int b) H Q) : P2 e f r := fun d1 d2 v1 v2 H F Q h1 h2 q => by
  have n : f d1 d2 ≠ none := fun z => by rw [z] at q; exact q
  obtain ⟨a, b, rfl, rfl⟩ := h d1 d2 n
  cases h1; cases h2
  exact g a b H F Q q
theorem p2_sub : P2 e subD (rI0 fun i j => .int (i - j)) := p2_i (fun d1 d2 n => by cases d1 <;> cases d2 <;> first | exact ⟨_, _, rfl, rfl⟩ | exact (n rfl).elim) fun a b H F Q q => ⟨a, b, rfl, rfl, q _ rfl⟩
theorem p2_lt : P2 e ltD (fun x y H Q => rI0 (fun i j => .bl (decide (i < j))) x y H Q ∨ ∃ i j, x = .str i ∧ y = .str j ∧ Q (.bl (decide (i.cps.toList < j.cps.toList))) H) := fun d1 d2 v1 v2 H F Q h1 h2 q => by
  cases d1 <;> cases d2 <;> first
    | exact q.elim
    | (cases h1; cases h2; exact .inl ⟨_, _, rfl, rfl, q _ rfl⟩)
    | (cases h1; cases h2; exact .inr ⟨_, _, rfl, rfl, q _ rfl⟩)
theorem op_ltU : OpR X (compareOp .Lt) (fun x y H Q => rI0 (fun i j => .bl (decide (i < j))) x y H Q ∨ ∃ i j, x = .str i ∧ y = .str j ∧ Q (.bl (decide (i.cps.toList < j.cps.toList))) H) := op_lt.or op_lt_str
theorem p2_le : P2 e leD (rI0 fun i j => .bl (decide (i ≤ j))) := p2_i (fun d1 d2 n => by cases d1 <;> cases d2 <;> first | exact ⟨_, _, rfl, rfl⟩ | exact (n rfl).elim) fun a b H F Q q => ⟨a, b, rfl, rfl, q _ rfl⟩
theorem p2_gt : P2 e gtD (rI0 fun i j => .bl (decide (j < i))) := p2_i (fun d1 d2 n => by cases d1 <;> cases d2 <;> first | exact ⟨_, _, rfl, rfl⟩ | exact (n rfl).elim) fun a b H F Q q => ⟨a, b, rfl, rfl, q _ rfl⟩
theorem p2_ge : P2 e geD (rI0 fun i j => .bl (decide (j ≤ i))) := p2_i (fun d1 d2 n => by cases d1 <;> cases d2 <;> first | exact ⟨_, _, rfl, rfl⟩ | exact (n rfl).elim) fun a b H F Q q => ⟨a, b, rfl, rfl, q _ rfl⟩
theorem big_le {n : Nat} (h : n ≤ 1000000) : n ≤ sizeLine := Nat.le_trans h (by decide)
/-- list + list, both read -/
def rCatL (K : PySem.W.Frag) : R2 := fun x y H Q => ∃ l b xs zs, x = .ref l ∧ y = .ref b ∧ SqL K H l xs ∧ SqL K H b zs ∧ xs.length + zs.length ≤ sizeLine ∧ ∀ p, H p = none → Q (.ref p) (upd H p (.lst (xs ++ zs)))
theorem op_catL : OpR X (binaryOp .Add) (rCatL X.K) := by
  intro pins s σ H x y v u Q I rx ry h
  obtain ⟨l, b, xs, zs, rfl, rfl, hH, hB, hz, q⟩ := h
  cases rx
  cases ry
  obtain ⟨its, r, ⟨⟨c1, d1, t1, s1⟩, n, e, hc, hd, hs⟩, _⟩ := I.list hH
  obtain ⟨its2, r2, ⟨⟨c2, d2, t2, s2⟩, n2, e2, hc2, hd2, hs2⟩, _⟩ := I.list hB
  simp only at hc hd hs hc2 hd2 hs2
  subst hc hd hs hc2 hd2 hs2
  have l1 := r.length
  have l2 := r2.length
  have ea : its.toArray ++ its2.toArray = (its ++ its2).toArray := by simp
  refine PySem.concat_meets ⟨_, e, rfl⟩ ⟨_, e2, rfl⟩ PySem.noFill_list_add PySem.seq_list_add PySem.F.slot_list_add PySem.F.entry_list_add (PySem.F.args_list_add_2 _ _)
    (PyProof.Rows.list_addW l b its.toArray its2.toArray n n2 none none s1 s2 (by simp; try omega)) ⟨e, e2, ?_⟩
  rw [ea]
  exact ⟨.ref _, _, I.lnew (t' := s.toks) (r.append r2) (by rw [List.length_append]; omega), rfl, q _ I.fresh⟩
abbrev rAddU (K : PySem.W.Frag) : R2 := fun x y H Q => ((rI0 (fun i j => .int (i + j)) x y H Q ∨ ∃ i j, x = .str i ∧ y = .str j ∧ i.length + j.length ≤ sizeLine ∧ Q (.str (i ++ j)) H) ∨ rCatL K x y H Q) ∨ rCatT K x y H Q
theorem op_addU : OpR X (binaryOp .Add) (rAddU X.K) := ((op_add.or op_add_str).or op_catL).or op_catT
theorem p2_add : P2 e addD (rAddU e.K) := fun d1 d2 v1 v2 H F Q h1 h2 q => by
  cases d1 <;> cases d2 <;> first
    | exact q.elim
    | (cases h1; cases h2; exact .inl (.inl (.inl ⟨_, _, rfl, rfl, q _ rfl⟩)))
    | skip
  · rename_i a b
    cases h1; cases h2
    by_cases z : a.length + b.length ≤ 1000000
    · have q' : PQ e H F (if a.length + b.length ≤ 1000000 then some (.val (.str (a ++ b))) else none) Q := q
      rw [if_pos z] at q'
      exact .inl (.inl (.inr ⟨a, b, rfl, rfl, big_le z, q' _ rfl⟩))
    · have q' : PQ e H F (if a.length + b.length ≤ 1000000 then some (.val (.str (a ++ b))) else none) Q := q
      rw [if_neg z] at q'
      exact q'.elim
  · rename_i a b
    obtain ⟨p1, xs, rfl, s1, r1⟩ := h1
    obtain ⟨p2, ys, rfl, s2, r2⟩ := h2
    have q' : PQ e H F (if a.length + b.length ≤ 1000000 ∧ a ≠ [] ∧ b ≠ [] then some (.own (.tup (a ++ b))) else none) Q := q
    by_cases z : a.length + b.length ≤ 1000000 ∧ a ≠ [] ∧ b ≠ []
    · rw [if_pos z] at q'
      have l1 := r1.len
      have l2 := r2.len
      have n1 : xs ≠ [] := fun h => z.2.1 (by subst h; exact List.eq_nil_of_length_eq_zero l1.symm)
      have n2 : ys ≠ [] := fun h => z.2.2 (by subst h; exact List.eq_nil_of_length_eq_zero l2.symm)
      exact .inr ⟨p1, p2, xs, ys, rfl, rfl, s1, s2, n1, by rw [l1, l2]; exact big_le z.1, fun h => (n2 h).elim, fun _ p hp => q' p (.tup (xs ++ ys)) hp (RepL.app r1 r2)⟩
    · rw [if_neg z] at q'
      exact q'.elim
  · rename_i a b
    obtain ⟨p1, xs, rfl, s1, r1⟩ := h1
    obtain ⟨p2, ys, rfl, s2, r2⟩ := h2
    have q' : PQ e H F (if a.length + b.length ≤ 1000000 then some (.own (.lst (a ++ b))) else none) Q := q
    by_cases z : a.length + b.length ≤ 1000000
    · rw [if_pos z] at q'
      exact .inl (.inr ⟨p1, p2, xs, ys, rfl, rfl, s1, s2, by rw [r1.len, r2.len]; exact big_le z, fun p hp => q' p (.lst (xs ++ ys)) hp (RepL.app r1 r2)⟩)
    · rw [if_neg z] at q'
      exact q'.elim
theorem p2_mul : P2 e mulD (rI CMulW fun i j => .int (i * j)) := p2_i (fun d1 d2 n => by cases d1 <;> cases d2 <;> first | exact ⟨_, _, rfl, rfl⟩ | exact (n rfl).elim) fun a b H F Q q => by
  have q' : PQ e H F (if a.natAbs.log2 + b.natAbs.log2 < 1000000 then vI (a * b) else none) Q := q
  by_cases z : a.natAbs.log2 + b.natAbs.log2 < 1000000
  · rw [if_pos z] at q'; exact ⟨a, b, rfl, rfl, z, q' _ rfl⟩
  · rw [if_neg z] at q'; exact q'.elim
def CDivA (i j : Int) : Prop := j ≠ 0 ∧ j.natAbs.log2 < 9000
theorem op_fdivA : OpR X (binaryOp .FloorDiv) (rI CDivA fun i j => .int (i.fdiv j)) := opI fun _ _ _ _ _ _ _ hc q => PyProof.Rows.floordiv_int hc.1 q (.inl (PyProof.noPylong_of_log2 hc.2))
theorem p2_fdiv : P2 e fdivD (rI CDivA fun i j => .int (i.fdiv j)) := p2_i (fun d1 d2 n => by cases d1 <;> cases d2 <;> first | exact ⟨_, _, rfl, rfl⟩ | exact (n rfl).elim) fun a b H F Q q => by
  have q' : PQ e H F (if b ≠ 0 ∧ b.natAbs.log2 < 9000 then vI (a.fdiv b) else none) Q := q
  by_cases z : b ≠ 0 ∧ b.natAbs.log2 < 9000
  · rw [if_pos z] at q'; exact ⟨a, b, rfl, rfl, z, q' _ rfl⟩
  · rw [if_neg z] at q'; exact q'.elim
theorem p2_mod : P2 e modD (rI (fun _ j => j ≠ 0) fun i j => .int (i.fmod j)) := p2_i (fun d1 d2 n => by cases d1 <;> cases d2 <;> first | exact ⟨_, _, rfl, rfl⟩ | exact (n rfl).elim) fun a b H F Q q => by
  have q' : PQ e H F (if b ≠ 0 then vI (a.fmod b) else none) Q := q
  by_cases z : b ≠ 0
  · rw [if_pos z] at q'; exact ⟨a, b, rfl, rfl, z, q' _ rfl⟩
  · rw [if_neg z] at q'; exact q'.elim
theorem p2_pow : P2 e powD (rI CPow fun i j => .int (i ^ j.toNat)) := p2_i (fun d1 d2 n => by cases d1 <;> cases d2 <;> first | exact ⟨_, _, rfl, rfl⟩ | exact (n rfl).elim) fun a b H F Q q => by
  have q' : PQ e H F (if 0 ≤ b ∧ b ≤ 1000000 ∧ a.natAbs < 2 ^ 64 then vI (a ^ b.toNat) else none) Q := q
  by_cases z : 0 ≤ b ∧ b ≤ 1000000 ∧ a.natAbs < 2 ^ 64
  · rw [if_pos z] at q'; exact ⟨a, b, rfl, rfl, z, q' _ rfl⟩
  · rw [if_neg z] at q'; exact q'.elim
theorem p1_neg : P1 e negD (rU fun i => .int (-i)) := fun d v H F Q h q => by
  cases d <;> first | exact q.elim | (cases h; exact ⟨_, rfl, q _ rfl⟩)
theorem p1_abs : P1L e absD (fun xs H Q => ∃ i, xs = [.int i] ∧ Q (.int (if i < 0 then -i else i)) H) := fun d v H F Q h q => by
  cases d <;> first | exact q.elim | (cases h; exact ⟨_, rfl, q _ rfl⟩)
theorem p1_int : P1L e intD (fun xs H Q => (∃ i, xs = [.int i] ∧ Q (.int i) H) ∨ ∃ k, xs = [.bl k] ∧ Q (.int (if k then 1 else 0)) H) := fun d v H F Q h q => by
  cases d <;> first | exact q.elim | (cases h; exact .inl ⟨_, rfl, q _ rfl⟩) | (cases h; exact .inr ⟨_, rfl, q _ rfl⟩)
theorem p2_eq : P2 e eqD rEq := fun d1 d2 v1 v2 H F Q h1 h2 q => by
  cases d1 <;> cases d2 <;> first
    | exact q.elim
    | (cases h1; cases h2; refine ⟨rfl, ?_⟩; have q' := q _ rfl; simp at q' ⊢; exact q')
theorem p2_ne : P2 e neD rNe := fun d1 d2 v1 v2 H F Q h1 h2 q => by
  cases d1 <;> cases d2 <;> first
    | exact q.elim
    | (cases h1; cases h2; refine ⟨rfl, ?_⟩; have q' := q _ rfl; simp at q' ⊢; exact q')
theorem p2_isN : P2 e isN (fun x y H Q => y = .non ∧ Q (.bl (decide (x = .non))) H) := fun d1 d2 v1 v2 H F Q h1 h2 q => by
  cases d2 <;> first | exact q.elim | skip
  cases h2
  have ref : ∀ {a : Addr}, Q (.bl false) H → Q (.bl (decide (V.ref a = .non))) H := fun {a} z => by simpa using z
  cases d1 <;> first
    | (cases h1; have q' := q _ rfl; exact ⟨rfl, by simpa using q'⟩)
    | (obtain ⟨a, vs, rfl, _⟩ := h1; exact ⟨rfl, ref (q _ rfl)⟩)
    | (obtain ⟨a, dx, vs, rfl, _⟩ := h1; exact ⟨rfl, ref (q _ rfl)⟩)
theorem p2_isNN : P2 e isNN (fun x y H Q => y = .non ∧ Q (.bl (!decide (x = .non))) H) := fun d1 d2 v1 v2 H F Q h1 h2 q => by
  cases d2 <;> first | exact q.elim | skip
  cases h2
  have ref : ∀ {a : Addr}, Q (.bl true) H → Q (.bl (!decide (V.ref a = .non))) H := fun {a} z => by simpa using z
  cases d1 <;> first
    | (cases h1; have q' := q _ rfl; exact ⟨rfl, by simpa using q'⟩)
    | (obtain ⟨a, vs, rfl, _⟩ := h1; exact ⟨rfl, ref (q _ rfl)⟩)
    | (obtain ⟨a, dx, vs, rfl, _⟩ := h1; exact ⟨rfl, ref (q _ rfl)⟩)
end

/-! ### sequences -/
def lenD : D → Option R0
  | .lst l => vI l.length
  | .tup l => vI l.length
  | .str x => if x.length ≤ 1000000 then vI x.length else none
  | _ => none
def ixD : D → D → Option R0
  | .lst l, .int i => (atI l i).map .val
  | .tup l, .int i => (atI l i).map .val
  | .str x, .int i => if x.length ≤ 1000000 then (atI x.cps.toList i).map fun c => .val (.str ⟨#[c]⟩) else none
  | _, _ => none
def listD : D → Option R0
  | .lst l => some (.own (.lst l))
  | .tup l => some (.own (.lst l))
  | _ => none
section
variable {e : En} {X : Cx}
theorem atI_rep {F : Hp} {l : List D} {vs : List V} {i : Int} {d : D} (h : RepL e F l vs) (q : atI l i = some d) : ∃ v, atI vs i = some v ∧ Rep e F d v := by
  unfold atI at q ⊢
  rw [h.len]
  cases z : ixN l.length i with
  | none => rw [z] at q; cases q
  | some j =>
    rw [z] at q
    obtain ⟨v, h1, h2⟩ := h.get (i := j) q
    exact ⟨v, h1, h2⟩
def rLen (K : PySem.W.Frag) : List V → Hp → VK → Prop := fun xs H Q => (∃ p ys, xs = [.ref p] ∧ (SqL K H p ys ∨ SqT K H p ys) ∧ Q (.int ys.length) H) ∨ ∃ z, xs = [.str z] ∧ z.length ≤ sizeLine ∧ Q (.int z.length) H
theorem call_lenU : CallR X (.builtin "len") (rLen X.K) := call_len_seq.or call_len_str
theorem p1_len : P1L e lenD (rLen e.K) := fun d v H F Q h q => by
  cases d <;> first | exact q.elim | skip
  · cases h
    rename_i x
    have q' : PQ e H F (if x.length ≤ 1000000 then vI x.length else none) Q := q
    by_cases z : x.length ≤ 1000000
    · rw [if_pos z] at q'; exact .inr ⟨x, rfl, big_le z, q' _ rfl⟩
    · rw [if_neg z] at q'; exact q'.elim
  · obtain ⟨a, vs, rfl, h1, h2⟩ := h
    exact .inl ⟨a, vs, rfl, .inr h1, by rw [h2.len]; exact q _ rfl⟩
  · obtain ⟨a, vs, rfl, h1, h2⟩ := h
    exact .inl ⟨a, vs, rfl, .inl h1, by rw [h2.len]; exact q _ rfl⟩
theorem p2_ix : P2 e ixD (rIx e.K) := fun d1 d2 v1 v2 H F Q h1 h2 q => by
  cases d1 <;> cases d2 <;> first | exact q.elim | skip
  · cases h1; cases h2
    rename_i x i
    have q' : PQ e H F (if x.length ≤ 1000000 then (atI x.cps.toList i).map fun c => .val (.str ⟨#[c]⟩) else none) Q := q
    by_cases z : x.length ≤ 1000000
    · rw [if_pos z] at q'
      cases y : atI x.cps.toList i with
      | none => rw [y] at q'; exact q'.elim
      | some c => rw [y] at q'; exact .inr (.inr ⟨x, i, c, rfl, rfl, big_le z, y, q' _ rfl⟩)
    · rw [if_neg z] at q'; exact q'.elim
  · obtain ⟨a, vs, rfl, h3, h4⟩ := h1
    cases h2
    rename_i l i
    have q' : PQ e H F ((atI l i).map .val) Q := q
    cases y : atI l i with
    | none => rw [y] at q'; exact q'.elim
    | some d =>
      rw [y] at q'
      obtain ⟨v, h5, h6⟩ := atI_rep h4 y
      exact .inr (.inl ⟨a, vs, i, v, rfl, rfl, h3, h5, q' v h6⟩)
  · obtain ⟨a, vs, rfl, h3, h4⟩ := h1
    cases h2
    rename_i l i
    have q' : PQ e H F ((atI l i).map .val) Q := q
    cases y : atI l i with
    | none => rw [y] at q'; exact q'.elim
    | some d =>
      rw [y] at q'
      obtain ⟨v, h5, h6⟩ := atI_rep h4 y
      exact .inl ⟨a, vs, i, v, rfl, rfl, h3, h5, q' v h6⟩
theorem p1_list : P1L e listD (fun xs H Q => ∃ p ys, xs = [.ref p] ∧ (SqL e.K H p ys ∨ SqT e.K H p ys) ∧ ∀ l, H l = none → Q (.ref l) (upd H l (.lst ys))) := fun d v H F Q h q => by
  cases d <;> first | exact q.elim | skip
  · obtain ⟨a, vs, rfl, h1, h2⟩ := h
    exact ⟨a, vs, rfl, .inr h1, fun l hl => q l _ hl h2⟩
  · obtain ⟨a, vs, rfl, h1, h2⟩ := h
    exact ⟨a, vs, rfl, .inl h1, fun l hl => q l _ hl h2⟩
end

/-! ### tests -/
def tAndM (m n : MT) : MT := fun r => (m r).bd fun b r1 => if b = true then n r1 else .ok false r1
def tOrM (m n : MT) : MT := fun r => (m r).bd fun b r1 => if b = true then .ok true r1 else n r1
def tNotM (m : MT) : MT := fun r => (m r).bd fun b r1 => .ok (!b) r1
/-- truth of any value -/
def truD : D → Option Bool
  | .non => some false
  | .bl b => some b
  | .int i => some (i != 0)
  | .str x => if x.length ≤ 1000000 then some ((x.length : Int) != 0) else none
  | .lst l => some !l.isEmpty
  | .tup l => some !l.isEmpty
  | _ => none
def tTru (m : ME) : MT := fun r => (stl m r).bd fun rv r1 => match look rv r1 with
  | some d => match truD d with
    | some b => .ok b r1
    | none => .no
  | none => .no
/-- and, or of truths as values -/
def eAnd (m n : ME) : ME := fun r => (m r).bd fun rv r1 => match rv with
  | .val (.bl b) => if b = true then n r1 else .ok (.val (.bl false)) r1
  | _ => .no
def eOr (m n : ME) : ME := fun r => (m r).bd fun rv r1 => match rv with
  | .val (.bl b) => if b = true then .ok (.val (.bl true)) r1 else n r1
  | _ => .no
def eNot (m : ME) : ME := fun r => (m r).bd fun rv r1 => match rv with
  | .val (.bl b) => .ok (.val (.bl !b)) r1
  | _ => .no
def eIf (c : MT) (m n : ME) : ME := fun r => (c r).bd fun b r1 => if b = true then m r1 else n r1
structure SW (e : En) (X : Cx) (W : Wi) (a : Expr) (m : MT) : Prop where
  ex : ∃ t, PW X a t ∧ TeT e W t m
section
variable {e : En} {X : Cx} {W : Wi} {a b c : Expr} {rest : List Expr} {m n : ME} {u v : MT} {pos : Pos}
theorem SW.st (h : SW e X W a u) : ST e X W a u := by
  obtain ⟨t, h1, h2⟩ := h.ex
  exact ⟨t, h1.pt, h2⟩
theorem sw_and1 (h : ST e X W a u) : SW e X W (.BoolOp .And [a] pos) u := by
  obtain ⟨t, h1, h2⟩ := h.ex
  exact ⟨t, pw_and1 h1, h2⟩
theorem sw_or1 (h : ST e X W a u) : SW e X W (.BoolOp .Or [a] pos) u := by
  obtain ⟨t, h1, h2⟩ := h.ex
  exact ⟨t, pw_or1 h1, h2⟩
theorem sw_and (h : ST e X W a u) (k : SW e X W (.BoolOp .And (b :: rest) pos) v) : SW e X W (.BoolOp .And (a :: b :: rest) pos) (tAndM u v) := by
  obtain ⟨t, h1, h2⟩ := h.ex
  obtain ⟨t', k1, k2⟩ := k.ex
  refine ⟨_, pw_and h1 k1, fun r σ H F fm Q hC R q => h2 r σ H F fm _ hC R ?_⟩
  refine (Po.bd q).mono fun b r1 H1 F1 R1 s1 q1 => ?_
  cases b with
  | true => exact k2 r1 σ H1 F1 fm Q hC R1 q1
  | false => exact q1 H1 F1 R1 (Same.refl _)
theorem sw_or (h : ST e X W a u) (k : SW e X W (.BoolOp .Or (b :: rest) pos) v) : SW e X W (.BoolOp .Or (a :: b :: rest) pos) (tOrM u v) := by
  obtain ⟨t, h1, h2⟩ := h.ex
  obtain ⟨t', k1, k2⟩ := k.ex
  refine ⟨_, pw_or h1 k1, fun r σ H F fm Q hC R q => h2 r σ H F fm _ hC R ?_⟩
  refine (Po.bd q).mono fun b r1 H1 F1 R1 s1 q1 => ?_
  cases b with
  | true => exact q1 H1 F1 R1 (Same.refl _)
  | false => exact k2 r1 σ H1 F1 fm Q hC R1 q1
theorem st_not (h : ST e X W a u) : ST e X W (.UnaryOp .Not a pos) (tNotM u) := by
  obtain ⟨t, h1, h2⟩ := h.ex
  exact ⟨_, pt_not h1, fun r σ H F fm Q hC R q => h2 r σ H F fm _ hC R ((Po.bd q).mono fun b r1 H1 F1 R1 s1 q1 => q1 H1 F1 R1 (Same.refl _))⟩
theorem emp_eq {l : List D} {vs : List V} (h : vs.length = l.length) : (!l.isEmpty) = !vs.isEmpty := by
  cases l <;> cases vs <;> first | rfl | simp at h
theorem truD_ok {H F : Hp} {d : D} {v : V} {k : Bool} (h : Vw e H F d v) (q : truD d = some k) : TruV e.K v H k := by
  cases d <;> first | (cases q; done) | skip
  · cases h; cases q; rfl
  · cases h; cases q; rfl
  · cases h; cases q; rfl
  · cases h
    rename_i x
    have q' : (if x.length ≤ 1000000 then some ((x.length : Int) != 0) else none) = some k := q
    by_cases z : x.length ≤ 1000000
    · rw [if_pos z] at q'; cases q'; exact ⟨big_le z, rfl⟩
    · rw [if_neg z] at q'; cases q'
  · obtain ⟨a, vs, rfl, h1, h2⟩ := h
    cases q
    refine .inr (.inl ⟨vs, h1, ?_⟩)
    exact emp_eq h2.len
  · obtain ⟨a, vs, rfl, h1, h2⟩ := h
    cases q
    refine .inl ⟨vs, h1, ?_⟩
    exact emp_eq h2.len
theorem st_tru (hK : X.K = e.K) (h : SE e X W a m) (he : ∀ whole, isTrue a X.env whole = (do let v ← whole; standAt a.pos; holding [v] (truthy v)) := by intro _; rfl) : ST e X W a (tTru m) := by
  obtain ⟨t, h1, h2⟩ := h.stl.ex
  refine ⟨_, pt_truth h1 he, fun r σ H F fm Q hC R q => h2 r σ H F fm _ hC R ?_⟩
  refine (Po.bd q).mono fun rv r1 H1 F1 R1 s1 q1 v hv => ?_
  cases z : look rv r1 with
  | none => rw [z] at q1; exact q1.elim
  | some d =>
    rw [z] at q1
    have q2 : Po e W fm F1 σ (KT Q) (match truD d with
      | some b => .ok b r1
      | none => .no) := q1
    cases y : truD d with
    | none => rw [y] at q2; exact q2.elim
    | some k =>
      rw [y] at q2
      exact ⟨k, by rw [hK]; exact truD_ok (look_vw R1 hv z) y, q2 H1 F1 R1 (Same.refl _)⟩
/-- a value that is a truth, as a test -/
theorem st_val (h : SE e X W a m) (he : ∀ whole, isTrue a X.env whole = (do let v ← whole; standAt a.pos; holding [v] (truthy v)) := by intro _; rfl) : ST e X W a (tV m) := by
  obtain ⟨t, h1, h2⟩ := h.ex
  exact ⟨_, pt_val h1 he, tTest_te h2⟩
theorem se_one {op} (h : SE e X W a m) : SE e X W (.BoolOp op [a] pos) m := by
  obtain ⟨t, h1, h2⟩ := h.ex
  exact ⟨t, pe_one h1, h2⟩
theorem se_and (h : SE e X W a m) (k : SE e X W (.BoolOp .And (b :: rest) pos) n) : SE e X W (.BoolOp .And (a :: b :: rest) pos) (eAnd m n) := by
  obtain ⟨t, h1, h2⟩ := h.ex
  obtain ⟨t', k1, k2⟩ := k.ex
  refine ⟨_, pe_and h1 k1, fun r σ H F fm Q hC R q => h2 r σ H F fm _ hC R ?_⟩
  refine (Po.bd q).mono fun rv r1 H1 F1 R1 s1 q1 v hv => ?_
  cases rv with
  | val d =>
    cases d with
    | bl b =>
      cases hv
      cases b with
      | true => exact ⟨true, rfl, iteT (k2 r1 σ H1 F1 fm Q hC R1 q1)⟩
      | false => exact ⟨false, rfl, iteF (q1 H1 F1 R1 (Same.refl _) _ rfl)⟩
    | _ => exact q1.elim
  | _ => exact q1.elim
theorem se_or (h : SE e X W a m) (k : SE e X W (.BoolOp .Or (b :: rest) pos) n) : SE e X W (.BoolOp .Or (a :: b :: rest) pos) (eOr m n) := by
  obtain ⟨t, h1, h2⟩ := h.ex
  obtain ⟨t', k1, k2⟩ := k.ex
  refine ⟨_, pe_or h1 k1, fun r σ H F fm Q hC R q => h2 r σ H F fm _ hC R ?_⟩
  refine (Po.bd q).mono fun rv r1 H1 F1 R1 s1 q1 v hv => ?_
  cases rv with
  | val d =>
    cases d with
    | bl b =>
      cases hv
      cases b with
      | true => exact ⟨true, rfl, iteT (q1 H1 F1 R1 (Same.refl _) _ rfl)⟩
      | false => exact ⟨false, rfl, iteF (k2 r1 σ H1 F1 fm Q hC R1 q1)⟩
    | _ => exact q1.elim
  | _ => exact q1.elim
theorem se_not (h : SE e X W a m) : SE e X W (.UnaryOp .Not a pos) (eNot m) := by
  obtain ⟨t, h1, h2⟩ := h.ex
  refine ⟨_, pe_not h1, fun r σ H F fm Q hC R q => h2 r σ H F fm _ hC R ?_⟩
  refine (Po.bd q).mono fun rv r1 H1 F1 R1 s1 q1 v hv => ?_
  cases rv with
  | val d =>
    cases d with
    | bl b => cases hv; exact ⟨b, rfl, q1 H1 F1 R1 (Same.refl _) _ rfl⟩
    | _ => exact q1.elim
  | _ => exact q1.elim
theorem se_ifE (hc : ST e X W c u) (h : SE e X W a m) (k : SE e X W b n) : SE e X W (.IfExp c a b pos) (eIf u m n) := by
  obtain ⟨t, c1, c2⟩ := hc.ex
  obtain ⟨t1, h1, h2⟩ := h.ex
  obtain ⟨t2, k1, k2⟩ := k.ex
  refine ⟨_, pe_ifExp c1 h1 k1, fun r σ H F fm Q hC R q => c2 r σ H F fm _ hC R ?_⟩
  refine (Po.bd q).mono fun b r1 H1 F1 R1 s1 q1 => ?_
  cases b with
  | true => exact h2 r1 σ H1 F1 fm Q hC R1 q1
  | false => exact k2 r1 σ H1 F1 fm Q hC R1 q1

/-! ### displays -/
def aN : Rho → Ou (List D) := fun r => .ok [] r
def aC (m : ME) (n : Rho → Ou (List D)) : Rho → Ou (List D) := fun r => (fz m r).bd fun d r1 => (n r1).bd fun l r2 => .ok (d :: l) r2
def eTup (n : Rho → Ou (List D)) : ME := fun r => (n r).bd fun l r1 => .ok (.val (.tup l)) r1
def eLst (n : Rho → Ou (List D)) : ME := fun r => (n r).bd fun l r1 => .ok (.own (.lst l)) r1
theorem bd_inv {α β : Type} {o : Ou α} {f : α → Rho → Ou β} {b : β} {r : Rho} (h : o.bd f = .ok b r) : ∃ a r1, o = .ok a r1 ∧ f a r1 = .ok b r := by
  cases o with
  | ok a r1 => exact ⟨a, r1, rfl, h⟩
  | ex x r1 => cases h
  | no => cases h
variable {es : List Expr} {w : Rho → Ou (List D)}
theorem sa_nil : SA e X W [] aN := ⟨⟨_, pa_nil, fun r σ H F fm Q hC R q => q H F R (Same.refl _) [] rfl⟩, fun r ds r' h => by cases h; rfl⟩
theorem sa_cons (h : SE e X W a m) (k : SA e X W es w) (hs : starEach (a :: es) X.env = (false, eval a X.env) :: starEach es X.env := by rfl) : SA e X W (a :: es) (aC m w) := by
  obtain ⟨t, h1, h2⟩ := h.fz.ex
  obtain ⟨t', k1, k2⟩ := k.ex
  refine ⟨⟨_, pa_cons h1 k1 hs, fun r σ H F fm Q hC R q => h2 r σ H F fm _ hC R ?_⟩, fun r ds r' q => ?_⟩
  · refine (Po.bd q).mono fun d r1 H1 F1 R1 s1 q1 v hv => k2 r1 σ H1 F1 fm _ hC R1 ?_
    refine (Po.bd q1).mono fun l r2 H2 F2 R2 s2 q2 vs hvs => ?_
    exact q2 H2 F2 R2 (Same.refl _) (v :: vs) ⟨v, vs, rfl, hv.mono s2, hvs⟩
  · obtain ⟨d, r1, _, q1⟩ := bd_inv q
    obtain ⟨l, r2, e2, q2⟩ := bd_inv q1
    cases q2
    rw [List.length_cons, List.length_cons, k.len _ _ _ e2]
theorem se_tup {x1} (h : SA e X W es w) (hz : es.length ≤ 100) : SE e X W (.Tuple es x1 pos) (eTup w) := by
  obtain ⟨t, h1, h2⟩ := h.ex
  refine ⟨_, pe_tup h1, fun r σ H F fm Q hC R q => h2 r σ H F fm _ hC R ?_⟩
  have q' := Po.bd q
  cases z : w r with
  | no => rw [z] at q'; exact q'
  | ex x r1 => rw [z] at q'; exact q'
  | ok l r1 =>
    rw [z] at q'
    intro H1 F1 R1 s1 vs hvs
    refine ⟨by rw [hvs.len, h.len r l r1 z]; exact big_le (by omega), fun p hp => ?_⟩
    obtain ⟨F2, R2, s2, rp⟩ := (R1.new hp).frzT (R1.tmp (o := .tup vs) (d := .tup l) hp hvs)
    exact q' H1 F1 R1 s1 _ F2 R2 s2 _ rp
theorem se_lst (h : SA e X W es w) (hz : es.length ≤ 100) : SE e X W (.List es pos) (eLst w) := by
  obtain ⟨t, h1, h2⟩ := h.ex
  refine ⟨_, pe_lst h1, fun r σ H F fm Q hC R q => h2 r σ H F fm _ hC R ?_⟩
  have q' := Po.bd q
  cases z : w r with
  | no => rw [z] at q'; exact q'
  | ex x r1 => rw [z] at q'; exact q'
  | ok l r1 =>
    rw [z] at q'
    intro H1 F1 R1 s1 vs hvs
    refine ⟨by rw [hvs.len, h.len r l r1 z]; exact big_le (by omega), fun p hp => ?_⟩
    exact q' H1 F1 R1 s1 _ F1 (R1.new hp) (Same.refl _) _ ⟨p, rfl, R1.tmp (o := .lst vs) (d := .lst l) hp hvs⟩
end

/-! ### what is walked -/
def iLst (m : ME) : Rho → Ou (List D) := fun r => (fz m r).bd fun d r1 => match d with
  | .lst l => .ok l r1
  | _ => .no
def iTupM (m : ME) : Rho → Ou (List D) := fun r => (fz m r).bd fun d r1 => match d with
  | .tup l => .ok l r1
  | _ => .no
def rgL (lo : Int) (n : Nat) : List D := (List.range n).map fun (k : Nat) => .int (lo + k)
def iRg1 (m : ME) : Rho → Ou (List D) := fun r => (fz m r).bd fun d r1 => match d with
  | .int n => if n.natAbs < 2 ^ 62 then .ok (rgL 0 n.toNat) r1 else .no
  | _ => .no
def iRg2 (m n : ME) : Rho → Ou (List D) := fun r => (fz m r).bd fun d r1 => (fz n r1).bd fun d2 r2 => match d, d2 with
  | .int i, .int j => if i.natAbs < 2 ^ 62 ∧ j.natAbs < 2 ^ 62 then .ok (rgL i (j - i).toNat) r2 else .no
  | _, _ => .no
section
variable {e : En} {X : Cx} {W : Wi} {a b tg : Expr} {m n : ME} {pos p : Pos} {F : Hp}
theorem itr_list {q : Addr} {vs : List V} {l : List D} (h : SqL e.K F q vs) (r : RepL e F l vs) : ItR e (Itl e.K q) l F where
  go := fun i H u hi => ⟨vs, vs[i]'(by rw [r.len]; exact hi), u.sqL h, by simp [r.len, hi]⟩
  stop := fun i H u hi => ⟨vs, u.sqL h, by rw [r.len]; exact hi⟩
  yld := fun i H x H' d u y hd => by
    obtain ⟨rfl, y⟩ := y
    obtain ⟨v, h1, h2⟩ := r.get hd
    have := y vs (u.sqL h)
    rw [h1] at this; cases this
    exact .inl ⟨rfl, h2⟩
theorem itr_tup {q : Addr} {vs : List V} {l : List D} (h : SqT e.K F q vs) (r : RepL e F l vs) : ItR e (Itt e.K q) l F where
  go := fun i H u hi => ⟨vs, vs[i]'(by rw [r.len]; exact hi), u.sqT h, by simp [r.len, hi]⟩
  stop := fun i H u hi => ⟨vs, u.sqT h, by rw [r.len]; exact hi⟩
  yld := fun i H x H' d u y hd => by
    obtain ⟨rfl, y⟩ := y
    obtain ⟨v, h1, h2⟩ := r.get hd
    have := y vs (u.sqT h)
    rw [h1] at this; cases this
    exact .inl ⟨rfl, h2⟩
theorem itr_range {lo : Int} {n : Nat} : ItR e (Itr lo n) (rgL lo n) F where
  go := fun i H u hi => by
    show i < n
    simpa [rgL] using hi
  stop := fun i H u hi => by
    show n ≤ i
    simpa [rgL] using hi
  yld := fun i H x H' d u y hd => by
    obtain ⟨rfl, rfl⟩ := y
    refine .inl ⟨rfl, ?_⟩
    unfold rgL at hd
    rw [List.getElem?_map] at hd
    cases z : (List.range n)[i]? with
    | none => rw [z] at hd; cases hd
    | some k =>
      rw [z] at hd
      cases hd
      have h1 := (List.getElem?_eq_some_iff.mp z)
      obtain ⟨h2, h3⟩ := h1
      rw [List.getElem_range] at h3
      subst h3
      rfl
theorem si_list (hK : X.K = e.K) (h : SE e X W a m) : SI e X W tg a (iLst m) := by
  obtain ⟨t, h1, h2⟩ := h.fz.ex
  refine ⟨_, pi_list h1, fun r σ H F fm R' hC R q => h2 r σ H F fm _ hC R ?_⟩
  refine (Po.bd q).mono fun d r1 H1 F1 R1 s1 q1 v hv => ?_
  cases d with
  | lst l =>
    obtain ⟨p, vs, rfl, h3, h4⟩ := hv
    refine ⟨p, rfl, ⟨vs, by rw [hK]; exact R1.fh.sqL h3⟩, ?_⟩
    rw [hK]
    exact q1 H1 F1 R1 (Same.refl _) _ (itr_list h3 h4)
  | _ => exact q1.elim
theorem si_tup (hK : X.K = e.K) (h : SE e X W a m) : SI e X W tg a (iTupM m) := by
  obtain ⟨t, h1, h2⟩ := h.fz.ex
  refine ⟨_, pi_tup h1, fun r σ H F fm R' hC R q => h2 r σ H F fm _ hC R ?_⟩
  refine (Po.bd q).mono fun d r1 H1 F1 R1 s1 q1 v hv => ?_
  cases d with
  | tup l =>
    obtain ⟨p, vs, rfl, h3, h4⟩ := hv
    refine ⟨p, rfl, ⟨vs, by rw [hK]; exact R1.fh.sqT h3⟩, ?_⟩
    rw [hK]
    exact q1 H1 F1 R1 (Same.refl _) _ (itr_tup h3 h4)
  | _ => exact q1.elim
theorem si_range1 (hg : Gl X "range") (hm : X.mg "range" = none) (h : SE e X W a m) (hs : starEach [a] X.env = [(false, eval a X.env)] := by rfl) : SI e X W tg (.Call (.Name "range" p) [a] [] pos) (iRg1 m) := by
  obtain ⟨t, h1, h2⟩ := h.fz.ex
  refine ⟨_, pi_range1 hg hm (pa_cons h1 pa_nil hs) hs, fun r σ H F fm R' hC R q => h2 r σ H F fm _ hC R ?_⟩
  refine (Po.bd q).mono fun d r1 H1 F1 R1 s1 q1 v hv => ?_
  cases d with
  | int n =>
    cases hv
    have q2 : Po e W fm F1 σ _ (if n.natAbs < 2 ^ 62 then .ok (rgL 0 n.toNat) r1 else .no) := q1
    by_cases z : n.natAbs < 2 ^ 62
    · rw [if_pos z] at q2
      exact ⟨n, rfl, by omega, by omega, q2 H1 F1 R1 (Same.refl _) _ itr_range⟩
    · rw [if_neg z] at q2; exact q2.elim
  | _ => exact q1.elim
end
end Mi

end
section
set_option maxRecDepth 100000
/-! Mi5: stores, attributes, objects made, operators of one's own, isinstance, raise, try. -/
namespace Mi
open PySem L2
open PyProof.Rows (envOfC)

/-! ### xs[i] = v, the list a slot's own -/
def ownB (r : Rho) (i : Nat) : Bool := match r[i]? with
  | some (.own _) => true
  | _ => false
def setI (i : Nat) (k d : D) (r2 : Rho) : So := match r2[i]? with
  | some (.own (.lst l)) => match k with
    | .int z => match ixN l.length z with
      | some j => .nx (r2.set i (.own (.lst (l.set j d))))
      | none => .no
    | _ => .no
  | _ => .no
def sStL (i : Nat) (mi mv : ME) : MS := fun r => (fz mv r).st fun d r1 => if ownB r1 i = true then (fz mi r1).st fun k r2 => setI i k d r2 else .no
/-- a, b = x, y at two names -/
def sPar (i j : Nat) (w : Rho → Ou (List D)) : MS := fun r => (w r).st fun l r1 => match l with
  | [x, y] => .nx ((r1.set i (.val x)).set j (.val y))
  | _ => .no
section
variable {e : En} {X : Cx} {W : Wi} {io : List Nat} {a b c o ix : Expr} {m n : ME} {pos pos' : Pos} {F H : Hp} {σ : St} {r : Rho} {fm : Fm}
theorem own_at (R : Rl e r σ H F fm) {i : Nat} {l : List D} (h : r[i]? = some (.own (.lst l))) : ∃ p vs, σ[i]? = some (some (.ref p)) ∧ H p = some (.lst vs) ∧ RepL e F l vs := by
  obtain ⟨p, u, h1, h2, h3, _⟩ := R.ow i _ h
  cases u <;> first | exact h3.elim | exact ⟨p, _, h1, h2, h3⟩
theorem ownB_at (R : Rl e r σ H F fm) {i : Nat} (h : ownB r i = true) : ∃ p d, r[i]? = some (.own d) ∧ σ[i]? = some (some (.ref p)) := by
  unfold ownB at h
  cases z : r[i]? with
  | none => rw [z] at h; cases h
  | some lv =>
    rw [z] at h
    cases lv with
    | own d => obtain ⟨p, u, h1, _⟩ := R.ow i d z; exact ⟨p, d, rfl, h1⟩
    | _ => cases h
theorem setI_ok {Dn : Ends} {i : Nat} {p : Addr} {k d : D} {v vk : V} (R : Rl e r σ H F fm) (hs : σ[i]? = some (some (.ref p))) (hv : Rep e F d v) (hk : Rep e F k vk) (q : PoS e W fm F Dn (setI i k d r)) : rSetL (.ref p) vk v H (fun H' => Dn.nx σ H') := by
  unfold setI at q
  cases z : r[i]? with
  | none => rw [z] at q; exact q.elim
  | some lv =>
    rw [z] at q
    cases lv with
    | own d' =>
      cases d' with
      | lst l =>
        cases k with
        | int z' =>
          have q' : PoS e W fm F Dn (match ixN l.length z' with
            | some j => .nx (r.set i (.own (.lst (l.set j d))))
            | none => .no) := q
          obtain ⟨p', vs, h1, h2, h3⟩ := own_at R z
          rw [hs] at h1; cases h1
          cases hk
          cases y : ixN l.length z' with
          | none => rw [y] at q'; exact q'.elim
          | some j =>
            rw [y] at q'
            refine ⟨p, vs, z', j, rfl, rfl, h2, by rw [h3.len]; exact y, ?_⟩
            exact q' σ _ F (R.mut z hs (show OR e F (.lst (vs.set j v)) (.lst (l.set j d)) from h3.set hv)) (Same.refl _)
        | _ => exact q.elim
      | _ => exact q.elim
    | _ => exact q.elim
theorem ss_stL {i : Nat} {x : Str} {px : Pos} (hx : X.N[i]? = some x) (hv : Vis X.env.scope x) (hd : (x == ("__debug__" : Str)) = false) (hcd : (x == ("__classdict__" : Str)) = false) (h : SE e X W a m) (hi : SE e X W ix n)
    (hs : swapsWithSole [.Subscript (.Name x px) ix pos'] a pos.line X.env = pure false := by rfl) (hw : swappedStores [.Subscript (.Name x px) ix pos'] a X.env = pure none := by rfl)
    (h1 : (assignEach [.Subscript (.Name x px) ix pos'] X.env).map (·.2) = [assign (.Subscript (.Name x px) ix pos') X.env] := by rfl)
    (ha : ∀ v, assign (.Subscript (.Name x px) ix pos') X.env v = (do
      let ov ← holding [v] (eval (.Name x px) X.env)
      let iv ← holding [v, ov] (eval ix X.env)
      standAt pos'
      holding [v, ov, iv] (setItem ov iv v)
      release [v, ov, iv] []) := by intro _; rfl) : SS e X W io (.Assign [.Subscript (.Name x px) ix pos'] a pos) (sStL i n m) := by
  obtain ⟨t, a1, a2⟩ := h.fz.ex
  obtain ⟨ti, i1, i2⟩ := hi.fz.ex
  refine ⟨_, ps_asg a1 (pg_sub (pe_var hx hv hd hcd) i1 set_list ha) hs hw h1, fun r σ H F fm D hC hp R q => a2 r σ H F fm _ hC R ?_⟩
  refine (Po.st (σ := σ) q).mono fun d r1 H1 F1 R1 s1 q1 v hv => ?_
  by_cases z : ownB r1 i = true
  · rw [if_pos z] at q1
    obtain ⟨p, d', h3, h4⟩ := ownB_at R1 z
    refine ⟨.ref p, h4, i2 r1 σ H1 F1 fm _ hC R1 ?_⟩
    exact (Po.st (σ := σ) q1).mono fun k r2 H2 F2 R2 s2 q2 vk hvk => setI_ok R2 h4 (hv.mono s2) hvk q2
  · rw [if_neg z] at q1
    exact q1.elim
theorem ss_par {i j : Nat} {x y : Str} {w : Rho → Ou (List D)} {px py pt : Pos} {kt k2 pt2} (hi : i ∉ io) (hj : j ∉ io) (hc : X.calm = true) (hN : X.N.Nodup) (hx : X.N[i]? = some x) (hy : X.N[j]? = some y) (hij : i ≠ j)
    (lx : X.env.scope.names.lookup x = some .local) (ly : X.env.scope.names.lookup y = some .local) (h : SA e X W [a, b] w)
    (hw : swappedStores [.Tuple [.Name x px, .Name y py] kt pt] (.Tuple [a, b] k2 pt2) X.env = pure (some [x, y]))
    (hs : swapsWithSole [.Tuple [.Name x px, .Name y py] kt pt] (.Tuple [a, b] k2 pt2) pos.line X.env = pure false := by rfl) :
    SS e X W io (.Assign [.Tuple [.Name x px, .Name y py] kt pt] (.Tuple [a, b] k2 pt2) pos) (sPar i j w) := by
  obtain ⟨t, a1, a2⟩ := h.ex
  refine ⟨_, ps_par hc hN hx hy hij lx ly a1 hw hs, fun r σ H F fm D hC hp R q => a2 r σ H F fm _ hC R ?_⟩
  refine (Po.st (σ := σ) q).mono fun l r1 H1 F1 R1 s1 q1 vs hvs => ?_
  cases l with
  | nil => exact q1.elim
  | cons d1 l =>
    cases l with
    | nil => exact q1.elim
    | cons d2 l =>
      cases l with
      | nil =>
        obtain ⟨v1, w1, rfl, h1, v2, w2, rfl, h2, rfl⟩ := hvs
        exact ⟨v1, v2, rfl, q1 _ H1 F1 ((R1.setV h1 fun q hq z => hi (by rw [← z]; exact hp q hq)).setV h2 fun q hq z => hj (by rw [← z]; exact hp q hq)) (Same.refl _)⟩
      | cons _ _ => exact q1.elim
end

/-! ### attributes -/
theorem lookup_zip : ∀ {ns : List Str} {vs : List V} {j : Nat} {f : Str} {v : V}, ns.Nodup → ns[j]? = some f → vs[j]? = some v → (ns.zip vs).lookup f = some v
  | [], _, _, _, _, _, h, _ => by simp at h
  | _ :: _, [], _, _, _, _, _, h => by simp at h
  | g :: ns, w :: vs, 0, f, v, nd, h1, h2 => by
    simp at h1 h2; subst h1; subst h2
    show List.lookup g ((g, w) :: ns.zip vs) = some w
    rw [List.lookup_cons_self]
  | g :: ns, w :: vs, j + 1, f, v, nd, h1, h2 => by
    have h1' : ns[j]? = some f := by simpa using h1
    have ne : (f == g) = false := by
      refine beq_eq_false_iff_ne.mpr fun z => (List.nodup_cons.mp nd).1 (z ▸ List.mem_of_getElem? h1')
    show List.lookup f ((g, w) :: ns.zip vs) = some v
    rw [List.lookup_cons, ne]
    exact lookup_zip (List.nodup_cons.mp nd).2 h1' (by simpa using h2)
theorem lookup_zip_no : ∀ {ns : List Str} {vs : List V} {f : Str}, f ∉ ns → (ns.zip vs).lookup f = none
  | [], _, _, _ => rfl
  | _ :: _, [], _, _ => rfl
  | g :: ns, w :: vs, f, h => by
    have ne : (f == g) = false := beq_eq_false_iff_ne.mpr fun z => h (z ▸ List.mem_cons_self)
    show List.lookup f ((g, w) :: ns.zip vs) = none
    rw [List.lookup_cons, ne]
    exact lookup_zip_no fun z => h (List.mem_cons_of_mem _ z)
theorem putF_new : ∀ {ns : List Str} {vs : List V} {f : Str} {v : V}, ns.Nodup → vs.length ≤ ns.length → ns[vs.length]? = some f → putF f v (ns.zip vs) = ns.zip (vs ++ [v])
  | [], _, _, _, _, _, h => by simp at h
  | g :: ns, [], f, v, _, _, h => by
    simp at h; subst h
    show [(g, v)] = (g, v) :: ns.zip []
    rw [List.zip_nil_right]
  | g :: ns, w :: vs, f, v, nd, hl, h => by
    have h' : ns[vs.length]? = some f := by simpa using h
    have ne : ¬ g = f := fun z => (List.nodup_cons.mp nd).1 (z ▸ List.mem_of_getElem? h')
    show (if g = f then (g, v) :: ns.zip vs else (g, w) :: putF f v (ns.zip vs)) = (g, w) :: ns.zip (vs ++ [v])
    rw [if_neg ne, putF_new (List.nodup_cons.mp nd).2 (by simpa using hl) h']
/-- what is asked of a class with instances -/
structure ClO (K : PySem.W.Frag) (e : En) (c : Nat) : Prop where
  cl : Cls K (e.ct c)
  nd : (e.fl c).Nodup
  na : ∀ f ∈ e.fl c, NoAttr K (e.ct c) f
  lim : (e.fl c).length ≤ 900
/-- o.f, f the field j of the class c -/
def fldD (c j : Nat) : D → Option R0
  | .ins c' l => if c' = c then (l[j]?).map .val else none
  | _ => none
def eFld (c j : Nat) (m : ME) : ME := eUn (fldD c j) m
/-- o.f = v, o a slot's own object; f its field j -/
def setF (i c j : Nat) (d : D) (r2 : Rho) : So := match r2[i]? with
  | some (.own (.ins c' l)) => if c' = c ∧ j = l.length then .nx (r2.set i (.own (.ins c (l ++ [d])))) else .no
  | _ => .no
def sFldM (i c j : Nat) (mv : ME) : MS := fun r => (fz mv r).st fun d r1 => setF i c j d r1
section
variable {e : En} {X : Cx} {W : Wi} {io : List Nat} {a b o : Expr} {m n : ME} {pos pos' : Pos} {F H : Hp} {σ : St} {r : Rho} {fm : Fm}
theorem se_fld {c j : Nat} {f : Str} (C : ClO X.K e c) (hf : (e.fl c)[j]? = some f) (h : SE e X W a m) (hb : attributeBase a f X.env (eval a X.env) = eval a X.env := by rfl) : SE e X W (.Attribute a f pos) (eFld c j m) := by
  obtain ⟨t, h1, h2⟩ := h.ex
  refine ⟨_, pe_fld h1 hb, ?_⟩
  refine tUn_te (r := fun x H Q => ∃ a C dx fs v, x = .ref a ∧ H a = some (.ins C dx fs) ∧ Cls X.K C ∧ NoAttr X.K C f ∧ fs.lookup f = some v ∧ Q v H) (fun d v H F Q hv q => ?_) h2
  cases d with
  | ins c' l =>
    obtain ⟨p, dx, vs, rfl, h3, h4, h5⟩ := hv
    have q' : PQ e H F (if c' = c then (l[j]?).map .val else none) Q := q
    by_cases z : c' = c
    · rw [if_pos z] at q'
      subst z
      cases y : l[j]? with
      | none => rw [y] at q'; exact q'.elim
      | some d =>
        rw [y] at q'
        obtain ⟨v, h6, h7⟩ := h5.get y
        exact ⟨p, e.ct c', dx, _, v, rfl, h3, C.cl, C.na f (List.mem_of_getElem? hf), lookup_zip C.nd hf h6, q' v h7⟩
    · rw [if_neg z] at q'; exact q'.elim
  | _ => exact q.elim
theorem ss_fld {i c j : Nat} {x f : Str} {px : Pos} (C : ClO X.K e c) (hf : (e.fl c)[j]? = some f) (hx : X.N[i]? = some x) (hv : Vis X.env.scope x) (hd : (x == ("__debug__" : Str)) = false) (hcd : (x == ("__classdict__" : Str)) = false) (h : SE e X W a m)
    (hs : swapsWith a (some (.Attribute (.Name x px) f pos')) pos.line X.env = pure false := by rfl) : SS e X W io (.Assign [.Attribute (.Name x px) f pos'] a pos) (sFldM i c j m) := by
  obtain ⟨t, h1, h2⟩ := h.fz.ex
  refine ⟨_, ps_fld (pe_var hx hv hd hcd) h1 hs, fun r σ H F fm D hC hp R q => h2 r σ H F fm _ hC R ?_⟩
  refine (Po.st (σ := σ) q).mono fun d r1 H1 F1 R1 s1 q1 v hv => ?_
  unfold setF at q1
  cases z : r1[i]? with
  | none => rw [z] at q1; exact q1.elim
  | some lv =>
    rw [z] at q1
    cases lv with
    | own d' =>
      cases d' with
      | ins c' l =>
        have q' : PoS e W fm F1 D (if c' = c ∧ j = l.length then .nx (r1.set i (.own (.ins c (l ++ [d])))) else .no) := q1
        by_cases y : c' = c ∧ j = l.length
        · rw [if_pos y] at q'
          obtain ⟨rfl, rfl⟩ := y
          obtain ⟨p, u, h3, h4, h5, _⟩ := R1.ow i _ z
          cases u <;> first | exact h5.elim | skip
          rename_i C0 dx fs
          obtain ⟨vs, rfl, rfl, h6, h7⟩ := h5
          have hlt : l.length < (e.fl c').length := (List.getElem?_eq_some_iff.mp hf).1
          refine ⟨.ref p, h3, p, e.ct c', dx, _, rfl, h4, C.cl, C.na f (List.mem_of_getElem? hf), ?_, ?_⟩
          · have := C.lim
            rw [List.length_zip]
            omega
          · rw [putF_new C.nd (by rw [h7.len]; exact h6) (by rw [h7.len]; exact hf)]
            exact q' σ _ F1 (R1.mut z h3 (show OR e F1 (.ins (e.ct c') dx ((e.fl c').zip (vs ++ [v]))) (.ins c' (l ++ [d])) from ⟨_, rfl, rfl, by rw [List.length_append, List.length_singleton]; exact hlt, h7.app (RepL.one hv)⟩)) (Same.refl _)
        · rw [if_neg y] at q'; exact q'.elim
      | _ => exact q1.elim
    | _ => exact q1.elim
end
end Mi

end
section
set_option maxRecDepth 100000
/-! Mi6: calls of defs, objects made, methods, operators of one's own, isinstance, raise, try. -/
namespace Mi
open PySem L2
open PyProof.Rows (envOfC)

section
variable {e : En} {X : Cx} {W : Wi} {x : Str} {p pos : Pos} {a b o : Expr} {es : List Expr} {m : Rho → Ou (List RV)} {k n : Nat} {f : Addr} {fd : FuncData} {ps : List Str} {g : MS} {mo ma mb : ME}
/-- f(..) of a def -/
theorem se_call (F : FnOk X.prog X.w X.K X.mg X.base (L2.CX X.prog X.w) k f fd ps (spOf e n g)) (hr : Room k X.A) (hg : Gl X x) (hm : X.mg x = some (.ref f)) (hk : PySem.W.keepIn X.K (.ref f) = true) (hb : Binds X.K fd ps []) (tk : Takes X W.w) (hc : SC e X W (a :: es) m) (hn : es.length + 1 = n)
    (hdb : (x == ("__debug__" : Str)) = false := by decide) (he : starEach (a :: es) X.env = (false, eval a X.env) :: starEach es X.env := by rfl) (hpl : (backTo pos (starEach es X.env)).any (·.1) = false := by rfl) : SE e X W (.Call (.Name x p) (a :: es) [] pos) (eCall g m) := by
  obtain ⟨t, h1, h2⟩ := hc.ex
  exact ⟨_, pe_callS F hr hg hm hk hb (fun σ => passAt tk σ) h1 hdb he hpl, tCall_te h2 fun r l r' q => (hc.len r l r' q).trans hn⟩

/-! ### an object is made -/
theorem run_makeS {pins : List (Addr × Obj)} {σ : St} {H : Hp} {s : Shared} {Q : VK} {us : List Value} {vs : List V} {CX : CXT} {C : Addr} {sp : Sp} {dvs : List V} {ds : List Value} {E : XK} (M : Mk X.K C f) (F : FnOk X.prog X.w X.K X.mg X.base CX k f fd ps sp) (hr : Room (k + 1) X.A) (hb : Binds X.K fd ps ds) (hd : Vals dvs ds)
    (hx : PassesAt CX X σ E) (I : Inv X pins σ H s) (r : Vals vs us)
    (h : ∀ x dx, H x = none → H dx = none → dx ≠ x → sp (.ref x :: (vs ++ dvs)) (upd (upd H dx (.own x)) x (.ins C dx [])) (fun v H2 => v = .non ∧ Q (.ref x) H2) E) :
    wpAny (model X.prog X.w) X.A (call (.ref C) us) (EP X pins σ Q) X.xe s := by
  have hq := h (s.heap.objs.size + 1) s.heap.objs.size (I.hok.fresh (Nat.le_succ _)) (I.hok.fresh (Nat.le_refl _)) (Nat.ne_of_lt (Nat.lt_succ_self _))
  have I2 := Inv.made (C := C) I
  have r2 : Vals (V.ref (s.heap.objs.size + 1) :: (vs ++ dvs)) (Value.ref (s.heap.objs.size + 1) :: (us ++ ds)) := .cons rfl (r.append hd)
  have hl : (Value.ref (s.heap.objs.size + 1) :: us ++ ds).length = ps.length := by
    have e := r2.length
    rw [F.len _ _ _ _ hq] at e
    exact e.symm
  refine wpAny_call (make_map (f := f) I.kIn M.makes M.init (beq_iff_eq.mp M.fn) (codeAny_mono (F.run _ X.stack _ _ ⟨Value.ref (s.heap.objs.size + 1) :: us, []⟩ (Value.ref (s.heap.objs.size + 1) :: (us ++ ds)) _ _ E (hr.make C us [])
    (I2.env0.make C us []) (hb _ (Value.ref (s.heap.objs.size + 1) :: us) I2.kIn hl) r2 hq) fun r s' hq' => ?_))
  cases r with
  | error e => exact hx pins _ _ e s' I2 hq'
  | ok fl =>
    cases fl with
    | ret u =>
      obtain ⟨v, H', I3, rv, ev, q3⟩ := I2.after hq'
      subst ev
      exact ⟨rv, ⟨V.ref (s.heap.objs.size + 1), H', I3, rfl, q3⟩⟩
    | next => exact False.elim hq'
    | brk => exact False.elim hq'
    | cont => exact False.elim hq'
def tMakeS (C : Addr) (sp : Sp) (dvs : List V) (E : St → XK) (t : TA) : TE := fun σ H Q => t σ H fun vs H1 => ∀ x dx, H1 x = none → H1 dx = none → dx ≠ x →
  sp (.ref x :: (vs ++ dvs)) (upd (upd H1 dx (.own x)) x (.ins C dx [])) (fun v H2 => v = .non ∧ Q (.ref x) H2) (E σ)
theorem pe_makeS {CX : CXT} {C : Addr} {sp : Sp} {dvs : List V} {ds : List Value} {E : St → XK} {t : TA} (M : Mk X.K C f) (F : FnOk X.prog X.w X.K X.mg X.base CX k f fd ps sp) (hr : Room (k + 1) X.A) (hg : Gl X x) (hm : X.mg x = some (.ref C)) (hb : Binds X.K fd ps ds) (hd : Vals dvs ds) (hx : ∀ σ, PassesAt CX X σ (E σ))
    (ha : PA X (a :: es) t) (hdb : (x == ("__debug__" : Str)) = false := by decide) (he : starEach (a :: es) X.env = (false, eval a X.env) :: starEach es X.env := by rfl) (hpl : (backTo pos (starEach es X.env)).any (·.1) = false := by rfl) :
    PE X (.Call (.Name x p) (a :: es) [] pos) (tMakeS C sp dvs E t) := by
  refine ⟨fun pins s σ H Q I h => ?_⟩
  refine wpAny_Call_Name_kw (ld_glob I hg hm ?_ hdb)
  refine PySem.W.callWith_K (h₀ := X.base) I.ok.mod.kin M.kp (thn (ha.run pos pins s σ H _ I h) fun us s1 ⟨vs, H1, I1, r, q⟩ => ⟨I1.kIn, ?_⟩) he hpl
  exact run_makeS M F hr hb hd (hx σ) I1 r q
end
def makeO (l : List RV) (r : Rho) : So → Ou RV
  | .rt (.val .non) (.own d :: w) => .ok (.own d) (wback l w r)
  | .ex x (_ :: w) => .ex x (wback l w r)
  | _ => .no
def eMake (c : Nat) (g : MS) (dds : List D) (m : Rho → Ou (List RV)) : ME := fun r => (m r).bd fun l r1 => if nodupB (borI l) = true then makeO (l ++ dds.map RV.val) r1 (g (.own (.ins c []) :: (l ++ dds.map RV.val).map (argL r1))) else .no
section
variable {e : En} {W : Wi} {r : Rho} {σ : St} {H H' F F' : Hp} {fm : Fm} {l : List RV} {vs : List V} {d : D} {p : Addr}
theorem snoc_get {r : Rho} {lv : LV} {i : Nat} : (r ++ [lv])[i]? = if i < r.length then r[i]? else if i = r.length then some lv else none := by
  by_cases h : i < r.length
  · rw [if_pos h, List.getElem?_append_left h]
  · rw [if_neg h]
    by_cases h2 : i = r.length
    · rw [if_pos h2, h2, List.getElem?_append_right (Nat.le_refl _), Nat.sub_self]; rfl
    · rw [if_neg h2]; exact List.getElem?_eq_none (by rw [List.length_append, List.length_singleton]; omega)
theorem Rl.snoc (R : Rl e r σ H F fm) (T : Tmp e r σ H F fm p d) : Rl e (r ++ [.own d]) (σ ++ [some (.ref p)]) H F fm := by
  have hs : ∀ {i : Nat} {v : Option V}, σ[i]? = some v → (σ ++ [some (.ref p)])[i]? = some v := fun {i v} h => by
    rw [List.getElem?_append_left (List.getElem?_eq_some_iff.mp h).1]; exact h
  have hl : (σ ++ [some (V.ref p)])[r.length]? = some (some (.ref p)) := by
    rw [← R.ln, List.getElem?_append_right (Nat.le_refl _), Nat.sub_self]; rfl
  have cs : ∀ {i : Nat} {lv : LV}, (r ++ [LV.own d])[i]? = some lv → (i < r.length ∧ r[i]? = some lv) ∨ (i = r.length ∧ lv = .own d) := fun {i lv} h => by
    rw [snoc_get] at h
    by_cases h1 : i < r.length
    · rw [if_pos h1] at h; exact .inl ⟨h1, h⟩
    · rw [if_neg h1] at h
      by_cases h2 : i = r.length
      · rw [if_pos h2] at h; exact .inr ⟨h2, (Option.some.inj h).symm⟩
      · rw [if_neg h2] at h; cases h
  obtain ⟨⟨u, t1, t2⟩, n, no⟩ := T
  exact {
    fh := R.fh
    gh := R.gh
    bf := R.bf
    bh := R.bh
    ln := by simp [R.ln]
    va := fun i d' h => by
      rcases cs h with ⟨_, h⟩ | ⟨_, k⟩
      · obtain ⟨v, a1, a2⟩ := R.va i d' h; exact ⟨v, hs a1, a2⟩
      · cases k
    ow := fun i d' h => by
      rcases cs h with ⟨_, h⟩ | ⟨rfl, k⟩
      · obtain ⟨q, w, a1, a2⟩ := R.ow i d' h; exact ⟨q, w, hs a1, a2⟩
      · cases k; exact ⟨p, u, hl, t1, t2, n⟩
    ap := fun i j d1 d2 q h1 h2 h3 h4 => by
      rcases cs h1 with ⟨i1, h1⟩ | ⟨rfl, h1⟩
      · obtain ⟨q1, w1, a1, _⟩ := R.ow i d1 h1
        rw [hs a1] at h3; cases h3
        rcases cs h2 with ⟨j1, h2⟩ | ⟨rfl, h2⟩
        · obtain ⟨q2, w2, b1, _⟩ := R.ow j d2 h2
          rw [hs b1] at h4; cases h4
          exact R.ap i j d1 d2 q h1 h2 a1 b1
        · rw [hl] at h4; cases h4
          exact (no i d1 h1 a1).elim
      · rw [hl] at h3; cases h3
        rcases cs h2 with ⟨j1, h2⟩ | ⟨rfl, h2⟩
        · obtain ⟨q2, w2, b1, _⟩ := R.ow j d2 h2
          rw [hs b1] at h4; cases h4
          exact (no j d2 h2 b1).elim
        · rfl
    pn := fun q hq => hs (R.pn q hq) }
theorem Rl.cut {lv : LV} {x : Option V} (R : Rl e (r ++ [lv]) (σ ++ [x]) H F fm) (hp : ∀ q ∈ fm.pn, q.1 < σ.length) : Rl e r σ H F fm := by
  have ln : σ.length = r.length := by have := R.ln; simpa using this
  have hr : ∀ {i : Nat} {lv' : LV}, r[i]? = some lv' → i < r.length ∧ (r ++ [lv])[i]? = some lv' := fun {i lv'} h => by
    have h1 := (List.getElem?_eq_some_iff.mp h).1
    exact ⟨h1, by rw [List.getElem?_append_left h1]; exact h⟩
  have hs : ∀ {i : Nat} {v : Option V}, i < r.length → (σ ++ [x])[i]? = some v → σ[i]? = some v := fun {i v} h q => by
    rwa [List.getElem?_append_left (by rw [ln]; exact h)] at q
  exact {
    fh := R.fh
    gh := R.gh
    bf := R.bf
    bh := R.bh
    ln := ln
    va := fun i d' h => by
      obtain ⟨h1, h2⟩ := hr h
      obtain ⟨v, a1, a2⟩ := R.va i d' h2; exact ⟨v, hs h1 a1, a2⟩
    ow := fun i d' h => by
      obtain ⟨h1, h2⟩ := hr h
      obtain ⟨q, w, a1, a2⟩ := R.ow i d' h2; exact ⟨q, w, hs h1 a1, a2⟩
    ap := fun i j d1 d2 q h1 h2 h3 h4 => by
      obtain ⟨a1, a2⟩ := hr h1
      obtain ⟨b1, b2⟩ := hr h2
      exact R.ap i j d1 d2 q a2 b2 (by rw [List.getElem?_append_left (by rw [ln]; exact a1)]; exact h3) (by rw [List.getElem?_append_left (by rw [ln]; exact b1)]; exact h4)
    pn := fun q hq => by
      have := R.pn q hq
      rwa [List.getElem?_append_left (hp q hq)] at this }
theorem Rl.unsnoc (R : Rl e (r ++ [.own d]) (σ ++ [some (.ref p)]) H F fm) (hp : ∀ q ∈ fm.pn, q.1 < σ.length) : Rl e r σ H F fm ∧ Tmp e r σ H F fm p d := by
  have ln : σ.length = r.length := by have := R.ln; simpa using this
  have hl : (σ ++ [some (V.ref p)])[r.length]? = some (some (.ref p)) := by
    rw [← ln, List.getElem?_append_right (Nat.le_refl _), Nat.sub_self]; rfl
  have rl : (r ++ [LV.own d])[r.length]? = some (.own d) := by rw [List.getElem?_append_right (Nat.le_refl _), Nat.sub_self]; rfl
  refine ⟨R.cut hp, ?_⟩
  obtain ⟨q, u, a1, a2, a3, a4⟩ := R.ow r.length d rl
  rw [hl] at a1; cases a1
  refine ⟨⟨u, a2, a3⟩, a4, fun i d' h z => ?_⟩
  have b1 := (List.getElem?_eq_some_iff.mp h).1
  have b2 : (r ++ [LV.own d])[i]? = some (.own d') := by rw [List.getElem?_append_left b1]; exact h
  have := R.ap i r.length d' d p b2 rl (by rw [List.getElem?_append_left (by rw [ln]; exact b1)]; exact z) hl
  omega
theorem wback_app : ∀ (l : List RV) (w r s : Rho), (∀ i ∈ borI l, i < r.length) → wback l w (r ++ s) = wback l w r ++ s
  | [], _, _, _, _ => by unfold wback; rfl
  | .bor i :: l, lv :: w, r, s, h => by
    show wback l w ((r ++ s).set i lv) = wback l w (r.set i lv) ++ s
    have hi : i < r.length := h i List.mem_cons_self
    rw [List.set_append_left _ _ hi]
    exact wback_app l w (r.set i lv) s fun j hj => by rw [List.length_set]; exact h j (List.mem_cons_of_mem _ hj)
  | .val _ :: l, _ :: w, r, s, h => wback_app l w r s h
  | .own _ :: l, _ :: w, r, s, h => wback_app l w r s h
  | .bor _ :: _, [], _, _, _ => by unfold wback; rfl
  | .val _ :: _, [], _, _, _ => by unfold wback; rfl
  | .own _ :: _, [], _, _, _ => by unfold wback; rfl
theorem wback_snoc {w : Rho} {lv lv' : LV} (h : ∀ i ∈ borI l, i < r.length) : wback (.bor r.length :: l) (lv' :: w) (r ++ [lv]) = wback l w r ++ [lv'] := by
  show wback l w ((r ++ [lv]).set r.length lv') = _
  rw [List.set_append_right _ _ (Nat.le_refl _), Nat.sub_self]
  exact wback_app l w r [lv'] h
theorem borI_lt (R : Rl e r σ H F fm) (A : ArgsR e σ F l vs) : ∀ i ∈ borI l, i < r.length := fun i hi => by
  obtain ⟨j, hj⟩ := borI_mem hi
  obtain ⟨v, _, h2⟩ := A.get hj
  have h2' : σ[i]? = some (some v) := h2
  rw [← R.ln]
  exact (List.getElem?_eq_some_iff.mp h2').1
theorem argL_snoc {lv : LV} (h : ∀ i ∈ borI l, i < r.length) : l.map (argL (r ++ [lv])) = l.map (argL r) := by
  refine List.map_congr_left fun rv hrv => ?_
  cases rv with
  | val d => rfl
  | own d => rfl
  | bor i =>
    obtain ⟨j, hj⟩ := List.getElem?_of_mem hrv
    have hi := h i (mem_borI hj)
    show ((r ++ [lv])[i]?).getD .un = (r[i]?).getD .un
    rw [List.getElem?_append_left hi]
theorem ArgsR.snoc {q : Option V} (A : ArgsR e σ F l vs) : ArgsR e (σ ++ [q]) F l vs := by
  revert vs
  induction l with
  | nil => intro vs A; exact A
  | cons rv l ih =>
    intro vs A
    obtain ⟨v, w, h0, h1, h2⟩ := A
    refine ⟨v, w, h0, ?_, ih h2⟩
    cases rv with
    | val d => exact h1
    | own d => exact h1
    | bor i =>
      have h1' : σ[i]? = some (some v) := h1
      show (σ ++ [q])[i]? = some (some v)
      rw [List.getElem?_append_left (List.getElem?_eq_some_iff.mp h1').1]
      exact h1'
theorem ArgsR.vals : ∀ {l : List RV} {vs : List V} {dds : List D} {dvs : List V}, ArgsR e σ F l vs → RepL e F dds dvs → ArgsR e σ F (l ++ dds.map RV.val) (vs ++ dvs)
  | [], _, dds, dvs, h, q => by
    cases h
    revert dvs
    induction dds with
    | nil => intro dvs q; cases q; exact rfl
    | cons d ds ih =>
      intro dvs q
      obtain ⟨v, r, h0, h1, h2⟩ := q
      exact ⟨v, r, h0, h1, ih r h2⟩
  | rv :: l, _, dds, dvs, ⟨v, w, h0, h1, h2⟩, q => by
    subst h0
    exact ⟨v, w ++ dvs, rfl, h1, ArgsR.vals h2 q⟩
theorem borI_vals (dds : List D) : ∀ l : List RV, borI (l ++ dds.map RV.val) = borI l
  | [] => by
    induction dds with
    | nil => rfl
    | cons d ds ih => exact ih
  | .bor i :: l => by
    show i :: borI (l ++ dds.map RV.val) = i :: borI l
    rw [borI_vals dds l]
  | .val _ :: l => borI_vals dds l
  | .own _ :: l => borI_vals dds l
theorem make_sp {n c : Nat} {g : MS} {Q : VK} {x dx : Addr} (R : Rl e r σ H F fm) (A : ArgsR e σ F l vs) (nd : (borI l).Nodup) (hn : vs.length + 1 = n) (hx : H x = none) (hd : H dx = none) (ne : dx ≠ x)
    (q : Po e W fm F σ (KE' e fm σ Q) (makeO l r (g (.own (.ins c []) :: l.map (argL r))))) :
    spOf e n g (.ref x :: vs) (upd (upd H dx (.own x)) x (.ins (e.ct c) dx [])) (fun v H2 => v = .non ∧ Q (.ref x) H2) (fun cls d H' => W.w cls d σ H') := by
  have R1 : Rl e r σ (upd H dx (.own x)) F fm := R.new hd
  have hx1 : (upd H dx (.own x)) x = none := by rw [upd_ne (Ne.symm ne)]; exact hx
  have o1 : OR e F (.ins (e.ct c) dx []) (.ins c []) := ⟨[], rfl, by rw [List.zip_nil_right], Nat.zero_le _, rfl⟩
  have R2 : Rl e r σ (upd (upd H dx (.own x)) x (.ins (e.ct c) dx [])) F fm := R1.new hx1
  have R3 := R2.snoc (R1.tmp (o := .ins (e.ct c) dx []) hx1 o1)
  have bl := borI_lt R A
  have hp : ∀ q ∈ fm.pn, q.1 < σ.length := fun q hq => (List.getElem?_eq_some_iff.mp (R.pn q hq)).1
  have A3 : ArgsR e (σ ++ [some (V.ref x)]) F (.bor r.length :: l) (.ref x :: vs) := ⟨.ref x, vs, rfl, by
    show (σ ++ [some (V.ref x)])[r.length]? = some (some (.ref x))
    rw [← R.ln, List.getElem?_append_right (Nat.le_refl _), Nat.sub_self]; rfl, A.snoc⟩
  have nd3 : (borI (.bor r.length :: l)).Nodup := List.nodup_cons.mpr ⟨fun h => Nat.lt_irrefl _ (bl _ h), nd⟩
  refine call_sp (W := ⟨fun cls d _ H' => W.w cls d σ H', W.c⟩) (f := g) R3 A3 nd3 (by rw [List.length_cons]; exact hn) ?_
  have e1 : (RV.bor r.length :: l).map (argL (r ++ [LV.own (.ins c [])])) = .own (.ins c []) :: l.map (argL r) := by
    rw [List.map_cons, argL_snoc bl]
    congr 1
    show ((r ++ [LV.own (.ins c [])])[r.length]?).getD .un = _
    rw [List.getElem?_append_right (Nat.le_refl _), Nat.sub_self]; rfl
  rw [e1]
  cases z : g (.own (.ins c []) :: l.map (argL r)) with
  | rt a w =>
    rw [z] at q
    cases w with
    | nil => cases a <;> first | exact q.elim | (rename_i d; cases d <;> exact q.elim)
    | cons lv w =>
      cases a with
      | own d => exact q.elim
      | val d =>
        cases d <;> first | exact q.elim | skip
        cases lv with
        | un => exact q.elim
        | val d => exact q.elim
        | own d =>
          have q' : Po e W fm F σ (KE' e fm σ Q) (.ok (.own d) (wback l w r)) := q
          intro H' F' R' s v hv
          rw [wback_snoc bl] at R'
          obtain ⟨R4, T⟩ := R'.unsnoc hp
          exact ⟨hv, q' H' F' R4 s (.ref x) ⟨x, rfl, T⟩⟩
  | ex y w =>
    rw [z] at q
    cases w with
    | nil => exact q.elim
    | cons lv w =>
      have q' : Po e W fm F σ (KE' e fm σ Q) (.ex y (wback l w r)) := q
      intro cls d H' F' R' s hx'
      rw [wback_snoc bl] at R'
      exact q' cls d H' F' (R'.cut hp) s hx'
  | nx w => rw [z] at q; exact q
  | bk w => rw [z] at q; exact q
  | ct w => rw [z] at q; exact q
  | no => rw [z] at q; exact q
end
end Mi

end
section
set_option maxRecDepth 100000
/-! Mi7: objects made (the rule), operators of one's own, isinstance, raise, try. -/
namespace Mi
open PySem L2
open PyProof.Rows (envOfC)

section
variable {e : En} {X : Cx} {W : Wi} {x : Str} {p pos : Pos} {a b o : Expr} {es : List Expr} {m : Rho → Ou (List RV)} {k n : Nat} {f : Addr} {fd : FuncData} {ps : List Str} {g : MS} {ma mb : ME}
theorem se_make {c : Nat} {dvs : List V} {ds : List Value} {dds : List D} (M : Mk X.K (e.ct c) f) (F : FnOk X.prog X.w X.K X.mg X.base (L2.CX X.prog X.w) k f fd ps (spOf e n g)) (hr : Room (k + 1) X.A) (hg : Gl X x) (hm : X.mg x = some (.ref (e.ct c))) (hb : Binds X.K fd ps ds) (hd : Vals dvs ds) (hdd : ∀ F, RepL e F dds dvs)
    (tk : Takes X W.w) (hc : SC e X W (a :: es) m) (hn : es.length + 1 + dds.length + 1 = n)
    (hdb : (x == ("__debug__" : Str)) = false := by decide) (he : starEach (a :: es) X.env = (false, eval a X.env) :: starEach es X.env := by rfl) (hpl : (backTo pos (starEach es X.env)).any (·.1) = false := by rfl) : SE e X W (.Call (.Name x p) (a :: es) [] pos) (eMake c g dds m) := by
  obtain ⟨t, h1, h2⟩ := hc.ex
  refine ⟨_, pe_makeS M F hr hg hm hb hd (fun σ => passAt tk σ) h1 hdb he hpl, fun r σ H F' fm Q hC R q => h2 r σ H F' fm _ hC R ?_⟩
  have q' := Po.bd q
  cases z : m r with
  | no => rw [z] at q'; exact q'
  | ex y r1 => rw [z] at q'; exact q'
  | ok l r1 =>
    rw [z] at q'
    intro H1 F1 R1 s1 vs A y dy hy hdy ne
    have q1 := q' H1 F1 R1 s1
    dsimp only at q1
    by_cases nd : nodupB (borI l) = true
    · rw [if_pos nd] at q1
      have A' := A.vals (hdd F1)
      have hl : (vs ++ dvs).length + 1 = n := by
        rw [A'.len, List.length_append, List.length_map, hc.len r l r1 z, List.length_cons]
        omega
      exact make_sp R1 A' (by rw [borI_vals]; exact nodupB_ok nd) hl hy hdy ne q1
    · rw [if_neg nd] at q1; exact q1.elim

/-! ### operators of one's own -/
/-- what is asked of a class whose objects stand in an operation -/
structure OpO (K : PySem.W.Frag) (C : Addr) (nm : Str) (f : Addr) : Prop where
  sf : PySem.W.selfFirst K C = true
  at_ : PySem.W.findIn K (.ref C) nm = some (some (.ref f))
  fn : PySem.W.isFn K (.ref f) = true
def isIns (c : Nat) : D → Bool
  | .ins c' _ => c' == c
  | _ => false
def eBin (c : Nat) (g : MS) (ma mb : ME) : ME := fun r => (fz ma r).bd fun d1 r1 => (fz mb r1).bd fun d2 r2 => if isIns c d1 && isIns c d2 then callO [.val d1, .val d2] r2 (g [.val d1, .val d2]) else .no
def tBinS (C : Addr) (sp : Sp) (E : St → XK) (ta tb : TE) : TE := fun σ H Q => ta σ H fun x H1 => tb σ H1 fun y H2 => (∃ a b dx fs dy gs, x = .ref a ∧ y = .ref b ∧ H2 a = some (.ins C dx fs) ∧ H2 b = some (.ins C dy gs)) ∧ sp [x, y] H2 Q (E σ)
theorem isIns_vw {H F : Hp} {c : Nat} {d : D} {v : V} (h : isIns c d = true) (q : Vw e H F d v) : ∃ a dx fs, v = .ref a ∧ H a = some (.ins (e.ct c) dx fs) := by
  cases d with
  | ins c' l =>
    obtain ⟨a, dx, vs, rfl, h1, _⟩ := q
    have : c' = c := by simpa [isIns] using h
    subst this
    exact ⟨a, dx, _, rfl, h1⟩
  | _ => cases h
theorem cback_ep {pins : List (Addr × Obj)} {σ : St} {Q : VK} {v : Value} {s : Shared} (h : EP X pins σ Q v s) : PySem.W.CmpBack (EP X pins σ Q) v s := by
  obtain ⟨w, H', I, r, q⟩ := h
  cases v <;> first | exact ⟨w, H', I, r, q⟩ | (cases w <;> first | (obtain ⟨_, z⟩ := r; cases z; done) | (cases r; done))
theorem two_obj {pins : List (Addr × Obj)} {σ : St} {H : Hp} {s : Shared} {C q dx : Addr} {fs : List (Str × V)} (I : Inv X pins σ H s) (h : H q = some (.ins C dx fs)) : ∃ ox od, PySem.W.InstAt s.heap q ox C od := by
  obtain ⟨mA, O, _⟩ := ins_get I.hok h
  obtain ⟨od, J, _⟩ := O.look
  exact ⟨_, _, J⟩
theorem bin_te {C : Addr} {ta tb : TE} {c : Nat} (hC' : C = e.ct c) (h1 : TeE e W ta ma) (h2 : TeE e W tb mb) : TeE e W (tBinS C (spOf e 2 g) (WE W.w) ta tb) (eBin c g ma mb) := fun r σ H F fm Q hC R q => by
  refine TeE.fz h1 r σ H F fm _ hC R ?_
  refine (Po.bd q).mono fun d1 r1 H1 F1 R1 s1 q1 v1 hv1 => TeE.fz h2 r1 σ H1 F1 fm _ hC R1 ?_
  refine (Po.bd q1).mono fun d2 r2 H2 F2 R2 s2 q2 v2 hv2 => ?_
  by_cases z : (isIns c d1 && isIns c d2) = true
  · rw [if_pos z] at q2
    obtain ⟨z1, z2⟩ := Bool.and_eq_true_iff.mp z
    have w1 := (hv1.mono s2).vw R2.fh
    obtain ⟨p1, dx, fs, rfl, i1⟩ := isIns_vw z1 w1
    obtain ⟨p2, dy, gs, rfl, i2⟩ := isIns_vw z2 (hv2.vw R2.fh)
    subst hC'
    refine ⟨⟨p1, p2, dx, fs, dy, gs, rfl, rfl, i1, i2⟩, ?_⟩
    exact call_sp (l := [.val d1, .val d2]) R2 ⟨_, _, rfl, hv1.mono s2, _, _, rfl, hv2, rfl⟩ List.nodup_nil rfl q2
  · rw [if_neg z] at q2; exact q2.elim
theorem se_bin {op : Operator} {c : Nat} (O : OpO X.K (e.ct c) (PySem.dunder op.info.2) f) (F : FnOk X.prog X.w X.K X.mg X.base (L2.CX X.prog X.w) k f fd ps (spOf e 2 g)) (hr : Room k X.A) (hb : Binds X.K fd ps []) (tk : Takes X W.w) (h1 : SE e X W a ma) (h2 : SE e X W b mb) :
    SE e X W (.BinOp a op b pos) (eBin c g ma mb) := by
  obtain ⟨ta, a1, a2⟩ := h1.ex
  obtain ⟨tb, b1, b2⟩ := h2.ex
  refine ⟨tBinS (e.ct c) (spOf e 2 g) (WE W.w) ta tb, ⟨fun pins s σ H Q I h => ?_⟩, bin_te rfl a2 b2⟩
  refine wpAny_BinOp (bin a1 b1 I h fun v u s2 x y H2 I2 rx ry q => ?_)
  obtain ⟨⟨p1, p2, dx, fs, dy, gs, rfl, rfl, i1, i2⟩, q⟩ := q
  cases rx
  cases ry
  obtain ⟨ox, od, J⟩ := two_obj I2 i1
  obtain ⟨oy, od', J'⟩ := two_obj I2 i2
  obtain ⟨m, F0⟩ := I2.fr
  refine PySem.W.binop_K F0 I2.mod.kin J J'.type O.sf O.at_ O.fn ?_
  exact thn (run_fnS (vs := [.ref p1, .ref p2]) F hr hb (passAt tk σ) I2 (.cons rfl (.cons rfl .nil)) q) fun v s3 h3 => cback_ep h3
/-- ==, != of two objects of one class that says them itself -/
theorem rich_te {op : CmpOp} {c : Nat} {sy : String} {nm rn : Str} (hop : cmpInfo op = (sy, nm, rn)) (hri : ∀ v u, compareOp op v u = richCompare op v u) (O : OpO X.K (e.ct c) nm f) (F : FnOk X.prog X.w X.K X.mg X.base (L2.CX X.prog X.w) k f fd ps (spOf e 2 g)) (hr : Room k X.A) (hb : Binds X.K fd ps []) (tk : Takes X W.w)
    {pins : List (Addr × Obj)} {s : Shared} {σ : St} {H : Hp} {x y : V} {v u : Value} {Q : VK} (I2 : Inv X pins σ H s) (rx : RelV x v) (ry : RelV y u) (i : ∃ a b dx fs dy gs, x = .ref a ∧ y = .ref b ∧ H a = some (.ins (e.ct c) dx fs) ∧ H b = some (.ins (e.ct c) dy gs)) (q : spOf e 2 g [x, y] H Q (WE W.w σ)) :
    wpAny (model X.prog X.w) X.A (compareOp op v u) (EP X pins σ Q) X.xe s := by
  obtain ⟨p1, p2, dx, fs, dy, gs, rfl, rfl, i1, i2⟩ := i
  cases rx
  cases ry
  obtain ⟨ox, od, J⟩ := two_obj I2 i1
  obtain ⟨oy, od', J'⟩ := two_obj I2 i2
  obtain ⟨m, F0⟩ := I2.fr
  rw [hri]
  have hu : X.A.units < cLine := hr.units0
  refine PySem.W.cmp_K (tb := .ref (e.ct c)) hu F0 I2.mod.kin J J'.type (by unfold PySem.W.notFirst; rw [beq_self_eq_true]; rfl) (by rw [hop]; exact O.at_) O.fn ?_
  exact thn (run_fnS (vs := [.ref p1, .ref p2]) F hr hb (passAt tk σ) I2 (.cons rfl (.cons rfl .nil)) q) fun v s3 h3 => cback_ep h3
theorem se_cmpO {op : CmpOp} {c : Nat} {sy : String} {nm rn : Str} (hop : cmpInfo op = (sy, nm, rn)) (hri : ∀ v u, compareOp op v u = richCompare op v u) (O : OpO X.K (e.ct c) nm f) (F : FnOk X.prog X.w X.K X.mg X.base (L2.CX X.prog X.w) k f fd ps (spOf e 2 g)) (hr : Room k X.A) (hb : Binds X.K fd ps []) (tk : Takes X W.w) (h1 : SE e X W a ma) (h2 : SE e X W b mb)
    (hm : behindInMarks op b = false) : SE e X W (.Compare a [op] [b] pos) (eBin c g ma mb) := by
  obtain ⟨ta, a1, a2⟩ := h1.ex
  obtain ⟨tb, b1, b2⟩ := h2.ex
  refine ⟨tBinS (e.ct c) (spOf e 2 g) (WE W.w) ta tb, ⟨fun pins s σ H Q I h => ?_⟩, bin_te rfl a2 b2⟩
  exact wpAny_Compare1 (bin a1 b1 I h fun v u s2 x y H2 I2 rx ry q => rich_te hop hri O F hr hb tk I2 rx ry q.1 q.2) hm
theorem st_cmpO {op : CmpOp} {c : Nat} {sy : String} {nm rn : Str} (hop : cmpInfo op = (sy, nm, rn)) (hri : ∀ v u, compareOp op v u = richCompare op v u) (O : OpO X.K (e.ct c) nm f) (F : FnOk X.prog X.w X.K X.mg X.base (L2.CX X.prog X.w) k f fd ps (spOf e 2 g)) (hr : Room k X.A) (hb : Binds X.K fd ps []) (tk : Takes X W.w) (h1 : SE e X W a ma) (h2 : SE e X W b mb)
    (hm : behindInMarks op b = false) : ST e X W (.Compare a [op] [b] pos) (tV (eBin c g ma mb)) := by
  obtain ⟨ta, a1, a2⟩ := h1.ex
  obtain ⟨tb, b1, b2⟩ := h2.ex
  have C : PC X op a b (tBinS (e.ct c) (spOf e 2 g) (WE W.w) ta tb) := ⟨fun pins s σ H Q I h => bin a1 b1 I h fun v u s2 x y H2 I2 rx ry q => rich_te hop hri O F hr hb tk I2 rx ry q.1 q.2⟩
  exact ⟨_, pt_cmp C hm, tTest_te (bin_te rfl a2 b2)⟩
def eNegO (c : Nat) (g : MS) (ma : ME) : ME := fun r => (fz ma r).bd fun d1 r1 => if isIns c d1 = true then callO [.val d1] r1 (g [.val d1]) else .no
theorem se_negO {c : Nat} (O : OpO X.K (e.ct c) "__neg__" f) (F : FnOk X.prog X.w X.K X.mg X.base (L2.CX X.prog X.w) k f fd ps (spOf e 1 g)) (hr : Room k X.A) (hb : Binds X.K fd ps []) (tk : Takes X W.w) (h1 : SE e X W a ma) : SE e X W (.UnaryOp .USub a pos) (eNegO c g ma) := by
  obtain ⟨ta, a1, a2⟩ := h1.fz.ex
  refine ⟨fun σ H Q => ta σ H fun x H1 => (∃ a dx fs, x = .ref a ∧ H1 a = some (.ins (e.ct c) dx fs)) ∧ spOf e 1 g [x] H1 Q (WE W.w σ), ⟨fun pins s σ H Q I h => ?_⟩, fun r σ H F fm Q hC R q => a2 r σ H F fm _ hC R ?_⟩
  · refine PyProof.Rows.UnaryOp_ (thn (a1.run pins s σ H _ I h) fun v s1 ⟨x, H1, I1, r1, ⟨p1, dx, fs, ex, i1⟩, q1⟩ => ?_)
    subst ex
    cases r1
    obtain ⟨ox, od, J⟩ := two_obj I1 i1
    obtain ⟨m, F0⟩ := I1.fr
    exact PySem.W.ksp_neg F0 I1.mod.kin J O.at_ O.fn (run_fnS (vs := [.ref p1]) F hr hb (passAt tk σ) I1 (.cons rfl .nil) q1)
  · refine (Po.bd q).mono fun d1 r1 H1 F1 R1 s1 q1 v1 hv1 => ?_
    by_cases z : isIns c d1 = true
    · rw [if_pos z] at q1
      obtain ⟨p1, dx, fs, rfl, i1⟩ := isIns_vw z (hv1.vw R1.fh)
      exact ⟨⟨p1, dx, fs, rfl, i1⟩, call_sp (l := [.val d1]) R1 ⟨_, _, rfl, hv1, rfl⟩ List.nodup_nil rfl q1⟩
    · rw [if_neg z] at q1; exact q1.elim

/-! ### isinstance -/
/-- what is asked of a class whose objects are asked -/
structure IsO (K : PySem.W.Frag) (C : Addr) : Prop where
  cl : Cls K C
  ha : PySem.W.findIn K (.ref C) "__class__" = some (some (.builtin "object.__class__"))
  hn : PySem.W.specialIn K (.builtin "object.__class__") "__get__" = some (some (.builtin "getset_descriptor.__get__"))
  htk : PySem.W.takesIn K (.builtin "object.__class__") = some true
  hm : PySem.W.mroIn K C (.type "object") = some true
/-- the type of a value: a built-in one, or a class's number -/
inductive Ty where
  | non | bl | int | str | tup | lst | dct | own (c : Nat)
def tyD : D → Ty
  | .non => .non
  | .bl _ => .bl
  | .int _ => .int
  | .str _ => .str
  | .tup _ => .tup
  | .lst _ => .lst
  | .dK _ _ => .dct
  | .dT _ _ => .dct
  | .ins c _ => .own c
/-- isinstance(x, T): the answer by the type's table -/
def isiD (tb : Ty → Option Bool) (d : D) : Option R0 := match d with
  | .dT _ _ => none
  | d => (tb (tyD d)).map fun b => .val (.bl b)
def tyV' (e : En) : Ty → Value
  | .non => .type "NoneType"
  | .bl => .type "bool"
  | .int => .type "int"
  | .str => .type "str"
  | .tup => .type "tuple"
  | .lst => .type "list"
  | .dct => .type "dict"
  | .own c => .ref (e.ct c)
theorem tyX_of {H F : Hp} {d : D} {v : V} (hT : ∀ ks l, d ≠ .dT ks l) (hI : ∀ c l, d = .ins c l → IsO e.K (e.ct c)) (h : Vw e H F d v) : TyX e.K H v (tyV' e (tyD d)) := by
  cases d with
  | non => cases h; exact .base .non
  | bl b => cases h; exact .base (.bl b)
  | int i => cases h; exact .base (.int i)
  | str x => cases h; exact .base (.str x)
  | tup l =>
    obtain ⟨a, vs, rfl, h1, _⟩ := h
    rcases h1 with (h1 | ⟨o, h1⟩) | ⟨o, its, n, h1, h2, _⟩
    · exact .base (.tup h1)
    · exact .fTuple h1
    · exact .kTuple h1 h2
  | lst l =>
    obtain ⟨a, vs, rfl, h1, _⟩ := h
    rcases h1 with (h1 | ⟨o, h1⟩) | ⟨o, its, n, h1, h2, _⟩
    · exact .base (.lst h1)
    · exact .base (.frz h1)
    · exact .kList h1 h2
  | dK ks l =>
    obtain ⟨a, vs, rfl, h1, _⟩ := h
    rcases h1 with h1 | ⟨_, o, h1⟩
    · exact .base (.dK h1)
    · exact .fDict h1
  | dT ks l => exact (hT ks l rfl).elim
  | ins c l =>
    obtain ⟨a, dx, vs, rfl, h1, _⟩ := h
    have I := hI c l rfl
    exact .base (.ins h1 I.cl I.ha I.hn I.htk I.hm)
theorem se_isi {tb : Ty → Option Bool} {cE : Expr} {cv : V} {cu : Value} (hK : X.K = e.K) (hcls : ClsV cv cu) (htb : ∀ t b, tb t = some b → PySem.W.kitOne e.K (tyV' e t) cu = some b) (hI : ∀ c b, tb (.own c) = some b → IsO e.K (e.ct c)) (h : SE e X W a ma)
    (hC : PE X cE (tC cv)) (hm : X.mg "isinstance" = none) (hg : Gl X "isinstance")
    (hst : starEach [a, cE] X.env = (false, eval a X.env) :: starEach [cE] X.env := by rfl) (hst2 : starEach [cE] X.env = (false, eval cE X.env) :: starEach [] X.env := by rfl) (hpl : (backTo pos (starEach [cE] X.env)).any (·.1) = false := by rfl) :
    SE e X W (.Call (.Name "isinstance" p) [a, cE] [] pos) (eUn (isiD tb) ma) := by
  obtain ⟨ta, a1, a2⟩ := h.ex
  refine ⟨_, pe_callB call_isi hg hm (by decide +kernel) (pa_cons a1 (pa_cons hC pa_nil hst2) hst) (by decide) (by decide) hst hpl, ?_⟩
  refine tUn_te (r := fun x H Q => rIsi X.K [x, cv] H Q) (fun d v H F Q hv q => ?_) a2
  have hq : ∀ {ks l}, d ≠ .dT ks l := fun {ks l} z => by subst z; exact q
  have q' : PQ e H F ((tb (tyD d)).map fun b => .val (.bl b)) Q := by
    cases d <;> first | exact q | exact q.elim
  cases z : tb (tyD d) with
  | none => rw [z] at q'; exact q'.elim
  | some b =>
    rw [z] at q'
    refine ⟨v, cv, _, cu, b, rfl, hcls, by rw [hK]; exact tyX_of (fun ks l => hq) (fun c l hd => hI c b (by rw [← z, hd]; rfl)) hv, by rw [hK]; exact htb _ _ z, q' _ rfl⟩

/-! ### raise -/
def sRaise (x : Ex) : MS := fun r => .ex x r
theorem ss_raise {c : Nat} {ex : Expr} {io : List Nat} (hc : X.calm = true) (tk : Takes X W.w) (h : PMk X ex (fun _ H Q => Q (.ref (e.ct c)) none H)) : SS e X W io (.Raise (some ex) none pos) (sRaise ⟨c, []⟩) :=
  ⟨_, ps_raise hc tk h, fun r σ H F fm D hC hp R q => q _ none σ H F R (Same.refl _) ⟨rfl, .inl ⟨rfl, rfl⟩⟩⟩

/-! ### try -/
/-- the canonical reading of a block by its mirror -/
def canS (e : En) (W : Wi) (io : List Nat) (m : MS) : TS := fun D σ H => ∃ r F fm, W.c fm ∧ (∀ q ∈ fm.pn, q.1 ∈ io) ∧ Rl e r σ H F fm ∧ PoS e W fm F D (m r)
theorem SB.can {st : List Stmt} {io : List Nat} {m : MS} (h : SB e X W io st m) : PSs X st (canS e W io m) := by
  obtain ⟨t, h1, h2⟩ := h.ex
  exact ⟨fun pins s σ H D I ⟨r, F, fm, hC, hp, R, q⟩ => h1.run pins s σ H D I (h2 r σ H F fm D hC hp R q)⟩
/-- an exception that a clause takes: by its class's number -/
def sTry (tb : Nat → Option Bool) (body : MS) (suite : Ex → MS) : MS := fun r => match body r with
  | .ex x r1 => match tb x.c with
    | some true => suite x r1
    | some false => .ex x r1
    | none => .no
  | o => o
theorem Rl.setU {r : Rho} {σ : St} {H F : Hp} {fm : Fm} (R : Rl e r σ H F fm) (i : Nat) (x : Option V) (hp : ∀ q ∈ fm.pn, q.1 ≠ i) : Rl e (r.set i .un) (σ.set i x) H F fm := by
  have R1 := R.drop i
  have no : ∀ {j : Nat} {lv : LV}, (r.set i .un)[j]? = some lv → lv ≠ .un → j ≠ i := fun {j lv} h n z => by
    subst z
    have hl : j < r.length := by have := (List.getElem?_eq_some_iff.mp h).1; rwa [List.length_set] at this
    rw [List.getElem?_set_self hl] at h
    cases h
    exact n rfl
  exact {
    fh := R1.fh
    gh := R1.gh
    bf := R1.bf
    bh := R1.bh
    ln := by rw [List.length_set]; exact R1.ln
    va := fun j d h => by
      have n := no h (by simp)
      rw [set_get_ne n]; exact R1.va j d h
    ow := fun j d h => by
      have n := no h (by simp)
      rw [set_get_ne n]; exact R1.ow j d h
    ap := fun j k d d' p h1 h2 h3 h4 => by
      rw [set_get_ne (no h1 (by simp))] at h3
      rw [set_get_ne (no h2 (by simp))] at h4
      exact R1.ap j k d d' p h1 h2 h3 h4
    pn := fun q hq => by rw [set_get_ne (hp q hq)]; exact R1.pn q hq }
/-- within a suite: nothing leaves; slot i holds the exception at a -/
def wSu (i : Nat) (a : Addr) : Wi := ⟨fun _ _ _ _ => False, fun fm => (i, V.ref a) ∈ fm.pn⟩
abbrev wSo : Wi := ⟨fun _ _ _ _ => False, fun _ => True⟩
/-- behind a suite: slot i is forgotten, nothing was raised -/
def aft (i : Nat) : So → So
  | .nx r => .nx (r.set i .un)
  | .bk r => .bk (r.set i .un)
  | .ct r => .ct (r.set i .un)
  | .rt a r => .rt a r
  | _ => .no
def noX : So → So
  | .ex _ _ => .no
  | o => o
def sTryA (i : Nat) (tb : Nat → Option Bool) (body : MS) (suite : Ex → MS) : MS := sTry tb body fun x r => if i < r.length then aft i (suite x (r.set i .un)) else .no
def sTryO (tb : Nat → Option Bool) (body : MS) (suite : Ex → MS) : MS := sTry tb body fun x r => noX (suite x r)
theorem Rl.pinned {r : Rho} {σ : St} {H F G : Hp} {B : Addr → Prop} {pn pn' : List (Nat × V)} (R : Rl e r σ H F ⟨G, B, pn⟩) (h : ∀ q ∈ pn', σ[q.1]? = some (some q.2)) : Rl e r σ H F ⟨G, B, pn'⟩ :=
  ⟨R.fh, R.gh, R.bf, R.bh, R.ln, R.va, R.ow, R.ap, h⟩
theorem Rl.unpinned {r : Rho} {σ : St} {H F G : Hp} {B : Addr → Prop} {pn pn' : List (Nat × V)} (R : Rl e r σ H F ⟨G, B, pn⟩) (h : ∀ q ∈ pn', q ∈ pn) : Rl e r σ H F ⟨G, B, pn'⟩ :=
  ⟨R.fh, R.gh, R.bf, R.bh, R.ln, R.va, R.ow, R.ap, fun q hq => R.pn q (h q hq)⟩
theorem sTry_post {tb : Nat → Option Bool} {body : MS} {suite : Ex → MS} {r : Rho} {F : Hp} {fm : Fm} {Dn : Ends} {w : WX} (q : PoS e W fm F Dn (sTry tb body suite r))
    (h : ∀ y r1, body r = .ex y r1 → ∀ cls d σ' H' F', Rl e r1 σ' H' F' fm → Same F F' → ExR e y cls d H' F' → (tb y.c = some true ∧ PoS e W fm F' Dn (suite y r1)) ∨ (tb y.c = some false ∧ W.w cls d σ' H') → w cls d σ' H') : PoS e ⟨w, W.c⟩ fm F Dn (body r) := by
  unfold sTry at q
  cases z : body r with
  | nx r1 => rw [z] at q; exact q
  | rt a r1 => rw [z] at q; exact q
  | bk r1 => rw [z] at q; exact q
  | ct r1 => rw [z] at q; exact q
  | no => rw [z] at q; exact q
  | ex y r1 =>
    rw [z] at q
    intro cls d σ' H' F' R' s hx
    have q1 : PoS e W fm F Dn (match tb y.c with
      | some true => suite y r1
      | some false => .ex y r1
      | none => .no) := q
    refine h y r1 z cls d σ' H' F' R' s hx ?_
    cases y' : tb y.c with
    | none => rw [y'] at q1; exact q1.elim
    | some b =>
      rw [y'] at q1
      cases b with
      | true => exact .inl ⟨rfl, PoS.le s q1⟩
      | false => exact .inr ⟨rfl, q1 cls d σ' H' F' R' s hx⟩
theorem ss_try_as {i : Nat} {x n : Str} {c : Value} {io : List Nat} {body suite : List Stmt} {b₀ : Stmt} {np pos' : Pos} {tb : Nat → Option Bool} {mb : MS} {ms : Ex → MS} (hi : i ∉ io)
    (hs : X.stack = X.env :: X.outer) (hf : X.env.frame = some X.env.locals) (hN : X.N.Nodup) (hx : X.N[i]? = some n) (hln : X.env.kindOf n = some .local) (hc : Names X x c) (tk : Takes X W.w) (hK : X.K = e.K)
    (htb : ∀ k b, tb k = some b → PySem.W.exmOne e.K (.ref (e.ct k)) c = some b)
    (hb : ∀ (w : WX) (pn : List (Addr × Obj)) (xe : Value → Shared → Prop), Takes (X.tr pn xe) w → PassesOwn (model X.prog X.w) X.A X.env xe → SB e (X.tr pn xe) ⟨w, W.c⟩ io body mb)
    (hsu : ∀ (y : Ex) (a : Addr) (oe : Obj) (d : Option Addr) (pn : List (Addr × Obj)), tb y.c = some true → Zc (.ref (e.ct y.c)) d oe → (∃ vs, oe.data = .fields vs) → (e.fl y.c = [] → d = none) → SB e (X.suite a ((a, oe) :: pn)) (wSu i a) (i :: io) (b₀ :: suite) (ms y)) :
    SS e X W io (.Try body [.ExceptHandler (some (.Name x np)) (some n) (b₀ :: suite) pos'] [] [] pos) (sTryA i tb mb ms) := by
  have hb' : ∀ (w : WX) (pn : List (Addr × Obj)) (xe : Value → Shared → Prop), Takes (X.tr pn xe) w → PassesOwn (model X.prog X.w) X.A X.env xe → PSs (X.tr pn xe) body (canS e ⟨w, W.c⟩ io mb) := fun w pn xe h1 h2 => (hb w pn xe h1 h2).can
  refine ⟨_, ps_try_as (tb := fun w => canS e ⟨w, W.c⟩ io mb) (ts := fun a cls d D σ H => ∃ y, tb y.c = some true ∧ cls = .ref (e.ct y.c) ∧ (e.fl y.c = [] → d = none) ∧ canS e (wSu i a) (i :: io) (ms y) D σ H) hs hf hN hx hln hc tk hb' (fun a oe cls d pn hz hd => ⟨fun pins s σ H D I ⟨y, h0, h1, h2, h3⟩ => ?_⟩), fun r σ H F fm D hC hp R q => ?_⟩
  · subst h1
    exact (hsu y a oe d pn h0 hz hd h2).can.run pins s σ H D I h3
  · refine ⟨r, F, fm, hC, hp, R, sTry_post q fun y r1 hy cls d σ' H' F' R' s hx' hor => ?_⟩
    have hcls : cls = .ref (e.ct y.c) := hx'.1
    have hd : e.fl y.c = [] → d = none := fun z => by
      rcases hx'.2 with ⟨_, h⟩ | ⟨a, vs, h, _, _, _, h2⟩
      · exact h
      · exact (h (List.eq_nil_of_length_eq_zero (by rw [h2, z]; rfl))).elim
    have np : ∀ q ∈ fm.pn, q.1 ≠ i := fun q hq z => hi (by rw [← z]; exact hp q hq)
    rcases hor with ⟨t, q1⟩ | ⟨t, q1⟩
    · by_cases hlt : i < r1.length
      · rw [if_pos hlt] at q1
        refine ⟨true, by rw [hK, hcls]; exact htb _ _ t, fun _ a ha => ⟨y, t, hcls, hd, r1.set i .un, F', ⟨fm.G, fm.B, (i, .ref a) :: fm.pn⟩, List.mem_cons_self, fun q hq => ?_, ?_, ?_⟩, fun z => by cases z⟩
        · rcases List.mem_cons.mp hq with rfl | hq
          · exact List.mem_cons_self
          · exact List.mem_cons_of_mem _ (hp q hq)
        · exact (R'.setU i (some (.ref a)) np).pinned fun q hq => by
            rcases List.mem_cons.mp hq with rfl | hq
            · exact List.getElem?_set_self (by rw [R'.ln]; exact hlt)
            · exact (R'.setU i (some (.ref a)) np).pn q hq
        · cases z : ms y (r1.set i .un) with
          | nx r2 => rw [z] at q1; exact fun σ2 H2 F2 R2 s2 => q1 _ H2 F2 ((R2.unpinned fun q hq => List.mem_cons_of_mem _ hq).setU i none np) s2
          | bk r2 => rw [z] at q1; exact fun σ2 H2 F2 R2 s2 => q1 _ H2 F2 ((R2.unpinned fun q hq => List.mem_cons_of_mem _ hq).setU i none np) s2
          | ct r2 => rw [z] at q1; exact fun σ2 H2 F2 R2 s2 => q1 _ H2 F2 ((R2.unpinned fun q hq => List.mem_cons_of_mem _ hq).setU i none np) s2
          | rt b r2 =>
            rw [z] at q1
            intro v σ2 H2 F2 R2 s2 hv
            refine q1 v σ2 H2 F2 (R2.unpinned fun q hq => List.mem_cons_of_mem _ hq) s2 ?_
            cases b with
            | val d => exact hv
            | own d => exact hv
          | ex y2 r2 => rw [z] at q1; exact q1.elim
          | no => rw [z] at q1; exact q1.elim
      · rw [if_neg hlt] at q1; exact q1.elim
    · exact ⟨false, by rw [hK, hcls]; exact htb _ _ t, fun z => (by cases z), fun _ => q1⟩
theorem ss_try_only {x : Str} {c : Value} {io : List Nat} {body suite : List Stmt} {b₀ : Stmt} {np pos' : Pos} {tb : Nat → Option Bool} {mb : MS} {ms : Ex → MS}
    (hs : X.stack = X.env :: X.outer) (hf : X.env.frame = some X.env.locals) (hc : Names X x c) (tk : Takes X W.w) (hK : X.K = e.K)
    (htb : ∀ k b, tb k = some b → PySem.W.exmOne e.K (.ref (e.ct k)) c = some b)
    (hb : ∀ (w : WX) (pn : List (Addr × Obj)) (xe : Value → Shared → Prop), Takes (X.tr pn xe) w → PassesOwn (model X.prog X.w) X.A X.env xe → SB e (X.tr pn xe) ⟨w, W.c⟩ io body mb)
    (hsu : ∀ (y : Ex) (a : Addr) (oe : Obj) (d : Option Addr) (pn : List (Addr × Obj)), tb y.c = some true → Zc (.ref (e.ct y.c)) d oe → (∃ vs, oe.data = .fields vs) → (e.fl y.c = [] → d = none) → SB e (X.suite a ((a, oe) :: pn)) wSo io (b₀ :: suite) (ms y)) :
    SS e X W io (.Try body [.ExceptHandler (some (.Name x np)) none (b₀ :: suite) pos'] [] [] pos) (sTryO tb mb ms) := by
  have hb' : ∀ (w : WX) (pn : List (Addr × Obj)) (xe : Value → Shared → Prop), Takes (X.tr pn xe) w → PassesOwn (model X.prog X.w) X.A X.env xe → PSs (X.tr pn xe) body (canS e ⟨w, W.c⟩ io mb) := fun w pn xe h1 h2 => (hb w pn xe h1 h2).can
  refine ⟨_, ps_try_only (tb := fun w => canS e ⟨w, W.c⟩ io mb) (ts := fun a cls d D σ H => ∃ y, tb y.c = some true ∧ cls = .ref (e.ct y.c) ∧ (e.fl y.c = [] → d = none) ∧ canS e wSo io (ms y) D σ H) hs hf hc tk hb' (fun a oe cls d pn hz hd => ⟨fun pins s σ H D I ⟨y, h0, h1, h2, h3⟩ => ?_⟩), fun r σ H F fm D hC hp R q => ?_⟩
  · subst h1
    exact (hsu y a oe d pn h0 hz hd h2).can.run pins s σ H D I h3
  · refine ⟨r, F, fm, hC, hp, R, sTry_post q fun y r1 hy cls d σ' H' F' R' s hx' hor => ?_⟩
    have hcls : cls = .ref (e.ct y.c) := hx'.1
    have hd : e.fl y.c = [] → d = none := fun z => by
      rcases hx'.2 with ⟨_, h⟩ | ⟨a, vs, h, _, _, _, h2⟩
      · exact h
      · exact (h (List.eq_nil_of_length_eq_zero (by rw [h2, z]; rfl))).elim
    rcases hor with ⟨t, q1⟩ | ⟨t, q1⟩
    · refine ⟨true, by rw [hK, hcls]; exact htb _ _ t, fun _ a ha => ⟨y, t, hcls, hd, r1, F', fm, trivial, hp, R', ?_⟩, fun z => by cases z⟩
      cases z : ms y r1 with
      | nx r2 => rw [z] at q1; exact q1
      | bk r2 => rw [z] at q1; exact q1
      | ct r2 => rw [z] at q1; exact q1
      | rt b r2 => rw [z] at q1; exact q1
      | ex y2 r2 => rw [z] at q1; exact q1.elim
      | no => rw [z] at q1; exact q1.elim
    · exact ⟨false, by rw [hK, hcls]; exact htb _ _ t, fun z => (by cases z), fun _ => q1⟩
/-- isinstance of the exception that the suite holds (no own dict) -/
def eIsE (i : Nat) (b : Bool) : ME := fun r => .ok (.val (.bl b)) r
theorem se_isE {i : Nat} {a : Addr} {oe : Obj} {pn : List (Addr × Obj)} {C : Addr} {n : Str} {np : Pos} {cE : Expr} {cv : V} {cu : Value} {b : Bool} (hE : ExcC X.K C) (hz : Zc (.ref C) none oe) (hf : ∃ vs, oe.data = .fields vs) (hb : PySem.W.kitOne X.K (.ref C) cu = some b) (hcls : ∀ u, RelV cv u → u = cu)
    (hn : X.N[i]? = some n) (hv : Vis X.env.scope n) (hd : (n == ("__debug__" : Str)) = false) (hcd : (n == ("__classdict__" : Str)) = false) (hCl : PE (X.suite a ((a, oe) :: pn)) cE (tC cv)) (hm : X.mg "isinstance" = none) (hg : Gl X "isinstance")
    (hst : starEach [.Name n np, cE] X.env = (false, eval (.Name n np) X.env) :: starEach [cE] X.env := by rfl) (hst2 : starEach [cE] X.env = (false, eval cE X.env) :: starEach [] X.env := by rfl) (hpl : (backTo pos (starEach [cE] X.env)).any (·.1) = false := by rfl) :
    SE e (X.suite a ((a, oe) :: pn)) (wSu i a) (.Call (.Name "isinstance" p) [.Name n np, cE] [] pos) (eIsE i b) := by
  refine ⟨_, pe_callB (X := X.suite a ((a, oe) :: pn)) (call_isE hE hz hf) hg hm (by decide +kernel) (pa_cons (pe_var (X := X.suite a ((a, oe) :: pn)) hn hv hd hcd) (pa_cons hCl pa_nil hst2) hst) (by decide) (by decide) hst hpl, fun r σ H F fm Q hC R q => ?_⟩
  have hs : σ[i]? = some (some (.ref a)) := R.pn _ hC
  exact ⟨.ref a, hs, cv, cu, b, rfl, hcls, hb, q H F R (Same.refl _) _ rfl⟩
theorem se_isEY {i : Nat} {a : Addr} {oe : Obj} {d : Option Addr} {pn : List (Addr × Obj)} {n : Str} {np : Pos} {cE : Expr} {cv : V} {cu : Value} {y : Ex} {tb : Nat → Option Bool} {ix : Nat → Bool}
    (hx : ∀ k, tb k = some true → ExcC X.K (e.ct k) ∧ e.fl k = [] ∧ PySem.W.kitOne X.K (.ref (e.ct k)) cu = some (ix k)) (ht : tb y.c = some true) (hz : Zc (.ref (e.ct y.c)) d oe) (hf : ∃ vs, oe.data = .fields vs) (hd : e.fl y.c = [] → d = none) (hcls : ∀ u, RelV cv u → u = cu)
    (hn : X.N[i]? = some n) (hv : Vis X.env.scope n) (hdb : (n == ("__debug__" : Str)) = false) (hcd : (n == ("__classdict__" : Str)) = false) (hCl : PE (X.suite a ((a, oe) :: pn)) cE (tC cv)) (hm : X.mg "isinstance" = none) (hg : Gl X "isinstance")
    (hst : starEach [.Name n np, cE] X.env = (false, eval (.Name n np) X.env) :: starEach [cE] X.env := by rfl) (hst2 : starEach [cE] X.env = (false, eval cE X.env) :: starEach [] X.env := by rfl) (hpl : (backTo pos (starEach [cE] X.env)).any (·.1) = false := by rfl) :
    SE e (X.suite a ((a, oe) :: pn)) (wSu i a) (.Call (.Name "isinstance" p) [.Name n np, cE] [] pos) (eIsE i (ix y.c)) := by
  obtain ⟨h1, h2, h3⟩ := hx y.c ht
  have := hd h2
  subst this
  exact se_isE h1 hz hf h3 hcls hn hv hdb hcd hCl hm hg hst hst2 hpl
end
end Mi

end
section
set_option maxRecDepth 100000
/-! Mi8: short words for a printed derivation; the end of a law. -/
namespace Mi
open PySem L2
open PyProof.Rows (envOfC)

/-- a name of a def at its slot -/
structure VarOk (N : List Str) (sc : Scope) (i : Nat) (x : Str) : Prop where
  hN : N[i]? = some x
  hv : Vis sc x
  hd : (x == ("__debug__" : Str)) = false
  hc : (x == ("__classdict__" : Str)) = false
section
variable {e : En} {X : Cx} {W : Wi} {io : List Nat} {a b o ix : Expr} {m n : ME} {pos pos' px : Pos} {i : Nat} {x : Str} {es : List Expr} {p : Pos}
theorem se_varK (v : VarOk X.N X.env.scope i x) : SE e X W (.Name x pos) (eVar i) := se_var v.hN v.hv v.hd v.hc
theorem ss_stLK (v : VarOk X.N X.env.scope i x) (h : SE e X W a m) (hi : SE e X W ix n)
    (hs : swapsWithSole [.Subscript (.Name x px) ix pos'] a pos.line X.env = pure false := by rfl) (hw : swappedStores [.Subscript (.Name x px) ix pos'] a X.env = pure none := by rfl)
    (h1 : (assignEach [.Subscript (.Name x px) ix pos'] X.env).map (·.2) = [assign (.Subscript (.Name x px) ix pos') X.env] := by rfl)
    (ha : ∀ v, assign (.Subscript (.Name x px) ix pos') X.env v = (do
      let ov ← holding [v] (eval (.Name x px) X.env)
      let iv ← holding [v, ov] (eval ix X.env)
      standAt pos'
      holding [v, ov, iv] (setItem ov iv v)
      release [v, ov, iv] []) := by intro _; rfl) : SS e X W io (.Assign [.Subscript (.Name x px) ix pos'] a pos) (sStL i n m) := ss_stL v.hN v.hv v.hd v.hc h hi hs hw h1 ha
theorem ss_fldK {c j : Nat} {f : Str} (C : ClO X.K e c) (hf : (e.fl c)[j]? = some f) (v : VarOk X.N X.env.scope i x) (h : SE e X W a m)
    (hs : swapsWith a (some (.Attribute (.Name x px) f pos')) pos.line X.env = pure false := by rfl) : SS e X W io (.Assign [.Attribute (.Name x px) f pos'] a pos) (sFldM i c j m) := ss_fld C hf v.hN v.hv v.hd v.hc h hs
theorem se_gint {k : Int} (hm : ∃ t, X.mg x = some (.int k t)) (hg : Gl X x) (hd : (x == ("__debug__" : Str)) = false := by decide) : SE e X W (.Name x pos) (eC (.int k)) := by
  obtain ⟨t, hm⟩ := hm
  exact se_glob (v := .int k) hg hm ⟨t, rfl⟩ (fun _ => rfl) hd
theorem se_gstr {k : Str} (hm : ∃ t, X.mg x = some (.str k t)) (hg : Gl X x) (hd : (x == ("__debug__" : Str)) = false := by decide) : SE e X W (.Name x pos) (eC (.str k)) := by
  obtain ⟨t, hm⟩ := hm
  exact se_glob (v := .str k) hg hm ⟨t, rfl⟩ (fun _ => rfl) hd
theorem se_makeX {c k n : Nat} {f : Addr} {fd : FuncData} {ps : List Str} {g : MS} {dvs : List V} {dds : List D} {w : Rho → Ou (List RV)} (M : Mk X.K (e.ct c) f) (F : FnOk X.prog X.w X.K X.mg X.base (L2.CX X.prog X.w) k f fd ps (spOf e n g)) (hr : Room (k + 1) X.A) (hg : Gl X x) (hm : X.mg x = some (.ref (e.ct c)))
    (hb : ∃ ds, Vals dvs ds ∧ Binds X.K fd ps ds) (hdd : ∀ F, RepL e F dds dvs) (tk : Takes X W.w) (hc : SC e X W (a :: es) w) (hn : es.length + 1 + dds.length + 1 = n)
    (hdb : (x == ("__debug__" : Str)) = false := by decide) (he : starEach (a :: es) X.env = (false, eval a X.env) :: starEach es X.env := by rfl) (hpl : (backTo pos (starEach es X.env)).any (·.1) = false := by rfl) : SE e X W (.Call (.Name x p) (a :: es) [] pos) (eMake c g dds w) := by
  obtain ⟨ds, hd, hb⟩ := hb
  exact se_make M F hr hg hm hb hd hdd tk hc hn hdb he hpl
end

/-! ### what isinstance and except ask -/
section
variable {K : PySem.W.Frag} {C D' : Addr} {t : Value} {b : Bool}
theorem kit_self : PySem.W.kitOne K (.ref C) (.ref C) = some true := by
  unfold PySem.W.kitOne
  rw [if_pos (beq_self_eq_true _)]
theorem kit_own (hd : PySem.W.hasDictIn K C = true) (ht : PySem.W.typeIn K (.ref C) = some (.type "type")) (hne : (t == Value.ref C) = false) (hs : PySem.W.subIn K t (.ref C) = some b) : PySem.W.kitOne K t (.ref C) = some b := by
  obtain ⟨cd, hc, _⟩ := PySem.W.any_some hd
  unfold PySem.W.kitOne
  rw [if_neg (by rw [hne]; exact Bool.false_ne_true)]
  show (if ((PySem.W.clsIn K C).isSome && PySem.W.typeIn K (.ref C) == some (.type "type")) = true then PySem.W.subIn K t (.ref C) else none) = some b
  rw [if_pos (by rw [hc, ht]; rfl)]
  exact hs
theorem kit_blt {T : String} (hm : PySem.W.kitMeta T = true) (hs : PySem.W.subIn K (.ref C) (.type T) = some b) : PySem.W.kitOne K (.ref C) (.type T) = some b := by
  unfold PySem.W.kitOne
  rw [if_neg (show ¬ (Value.ref C == Value.type T) = true by simp)]
  show (if PySem.W.kitMeta T = true then PySem.W.subIn K (.ref C) (.type T) else none) = some b
  rw [if_pos hm]
  exact hs
end

/-! ### the end -/
theorem law_sp {K : PySem.W.Frag} {e : En} {f : MS} (hK : e.K = K) (hlaw : ∀ ns : List Int, ns.length ≤ 63 → ∃ r', f [.val (.lst (ns.map .int))] = .rt (.val (.bl true)) r') (H : Hp) (a : Addr) (ns : List Int) (hl : ns.length ≤ 63) (hS : SqL K H a (ns.map V.int)) :
    spOf e 1 f [.ref a] H (fun v _ => v = .bl true) fun _ _ _ => False := by
  subst hK
  refine ⟨rfl, [.val (.lst (ns.map .int))], H, fun _ => none, fun _ => False, ?_, ?_⟩
  · exact {
      fh := fun a u q => .inl q
      gh := fun a u q => by cases q
      bf := fun a b => b.elim
      bh := fun a b => b.elim
      ln := rfl
      va := fun i d h => by
        cases i with
        | zero =>
          have h' : LV.val (.lst (ns.map .int)) = .val d := by simpa using h
          cases h'
          refine ⟨.ref a, rfl, a, _, rfl, hS, ?_⟩
          clear hS hl h
          induction ns with
          | nil => exact rfl
          | cons n r ih => exact ⟨.int n, _, rfl, rfl, ih⟩
        | succ i => simp at h
      ow := fun i d h => by
        cases i with
        | zero => simp at h
        | succ i => simp at h
      ap := fun i j d d' p h1 h2 h3 h4 => by
        cases i with
        | zero => simp at h1
        | succ i => simp at h1
      pn := fun q hq => by cases hq }
  · obtain ⟨r', h⟩ := hlaw ns hl
    rw [h]
    intro v H' F' R s hv
    exact hv
theorem law_walk {l : PySem.W.OpenLaw} {k : Nat} {q : Program} {loose : List Str} {XP : (Str → Option Value) → Heap → Prop} {YP : World → Heap → Prop} {d : DefRec} {K : Params → PySem.W.Frag} {f : MS} {x : Str} (hn : l.most = some 63) (hdf : d.params.defaults = []) (hr : Room k callerA)
    (hY : ∀ (w : World) (h : Heap), YP w h → (K w.params).In h)
    (hlaw : ∀ ns : List Int, ns.length ≤ 63 → ∃ r', f [.val (.lst (ns.map .int))] = .rt (.val (.bl true)) r')
    (F : ∀ (w : World) (mg : Str → Option Value) (fa : Addr) (h : Heap), (K w.params).In h → h.Ns mainGlobals mg → mg d.name = some (.ref fa) →
      ∃ (e : En) (fd : FuncData), e.K = K w.params ∧ (∀ (s : Shared) (u : Value), BindsTo s fd ⟨[u], []⟩ [(x, u)]) ∧
        ∀ base : Heap, (K w.params).In base → base.Ns mainGlobals mg → FnOk l.prog w (K w.params) mg base (L2.CX l.prog w) k fa fd [x] (spOf e 1 f)) :
    PySem.W.WalkO q loose XP YP l.row.toRowW d [] (fun f vs => PySem.call f vs) := by
  refine L2.walk_of (n := 63) (k := k) (x := x) (CX := fun w => L2.CX l.prog w) (sp := fun w vs H Q E => vs.length = 1 ∧ ∀ e : En, e.K = K w.params → spOf e 1 f vs H Q E) hn (by decide) hdf hr hY (fun w mg fa h KX G hmg => ?_) (fun w H a ns hl _ hS => ⟨rfl, fun e he => law_sp he hlaw H a ns hl hS⟩) fun w H s e s' z => ?_
  · obtain ⟨e, fd, he, hb, hF⟩ := F w mg fa h KX G hmg
    exact ⟨fd, hb, fun base kb gb => (hF base kb gb).imp fun vs H Q E z => z.2 e he⟩
  · obtain ⟨_, _, _, _, _, _, _, _, _, _, _, _, z⟩ := z
    exact z
end Mi

end
section
/-! Mi9: mirrors computed: the equations by which simp runs a mirror; the drawing of scripts. -/
namespace Mi
open PySem L2

def rgO (d : D) (r1 : Rho) : Ou (List D) := match d with
  | .int n => if n.natAbs < 2 ^ 62 then .ok (rgL 0 n.toNat) r1 else .no
  | _ => .no
def rgP (d d2 : D) (r2 : Rho) : Ou (List D) := match d, d2 with
  | .int i, .int j => if i.natAbs < 2 ^ 62 ∧ j.natAbs < 2 ^ 62 then .ok (rgL i (j - i).toNat) r2 else .no
  | _, _ => .no
section
variable (r : Rho) (m n : ME) (d d1 d2 : D) (i j k : Nat) (t u : MT) (s s' : MS) (f : D → D → Option R0) (g : D → Option R0) (io : List Nat)
@[simp] theorem eC_e : eC d r = .ok (.val d) r := rfl
@[simp] theorem eVar_v (h : r[i]? = some (.val d)) : eVar i r = .ok (.val d) r := by unfold eVar; rw [h]
@[simp] theorem eVar_o (h : r[i]? = some (.own d)) : eVar i r = .ok (.bor i) r := by unfold eVar; rw [h]
@[simp] theorem look_b (h : r[i]? = some (.own d)) : look (.bor i) r = some d := by rw [look_bor, h]
@[simp] theorem frz_b (h : r[i]? = some (.own d)) : frz (.bor i) r = .ok d (r.set i (.val d)) := by rw [frz_bor, h]
@[simp] theorem ownB_o (h : r[i]? = some (.own d)) : ownB r i = true := by unfold ownB; rw [h]
@[simp] theorem setI_o {l : List D} {z : Int} (h : r[i]? = some (.own (.lst l))) : setI i (.int z) d r = match ixN l.length z with
      | some j => .nx (r.set i (.own (.lst (l.set j d))))
      | none => .no := by unfold setI; rw [h] <;> rfl
@[simp] theorem setF_o {c : Nat} {l : List D} (h : r[i]? = some (.own (.ins c l))) (hj : j = l.length) : setF i c j d r = .nx (r.set i (.own (.ins c (l ++ [d])))) := by unfold setF; rw [h]; simp [hj]
@[simp] theorem retR_v : retR io (.val d) r = .rt (.val d) r := rfl
@[simp] theorem retR_o : retR io (.own d) r = .rt (.own d) r := rfl
@[simp] theorem retR_b (h : r[i]? = some (.own d)) : retR io (.bor i) r = if io.contains i = true then .rt (.val d) (r.set i (.val d)) else .rt (.own d) (r.set i .un) := by show (match r[i]? with | some (.own d) => _ | some (.val d) => _ | _ => _) = _; rw [h]
@[simp] theorem gN_e : gN i d r = some (r.set i (.val d)) := rfl
@[simp] theorem fin_e (r' : Rho) (f : Rho → So) (h : r.length ≤ r'.length) : fin io r r' f = f (back io 0 r r') := by unfold fin; rw [if_pos h]
@[simp] theorem back_0 (r' : Rho) : back io i [] r' = [] := by unfold back; cases r' <;> rfl
@[simp] theorem back_1 (a b : LV) (r' : Rho) : back io i (a :: r) (b :: r') = (if io.contains i = true then b else a) :: back io (i + 1) r r' := rfl
@[simp] theorem okA_0 : okA io i [] = true := rfl
@[simp] theorem okA_v : okA io i (.val d :: r) = okA io (i + 1) r := rfl
@[simp] theorem okA_o : okA io i (.own d :: r) = (io.contains i && okA io (i + 1) r) := rfl
@[simp] theorem argL_v : argL r (.val d) = .val d := rfl
@[simp] theorem argL_b (h : r[i]? = some (.own d)) : argL r (.bor i) = .own d := by show (r[i]?).getD .un = _; rw [h]; rfl
@[simp] theorem borI_0 : borI [] = [] := rfl
@[simp] theorem borI_v (l : List RV) : borI (.val d :: l) = borI l := rfl
@[simp] theorem borI_b (l : List RV) : borI (.bor i :: l) = i :: borI l := rfl
@[simp] theorem nodupB_0 : nodupB [] = true := rfl
@[simp] theorem nodupB_1 (l : List Nat) : nodupB (i :: l) = (!(l.contains i) && nodupB l) := rfl
@[simp] theorem wback_0 (w : Rho) : wback [] w r = r := by cases w <;> rfl
@[simp] theorem wback_v (l : List RV) (lv : LV) (w : Rho) : wback (.val d :: l) (lv :: w) r = wback l w r := rfl
@[simp] theorem wback_b (l : List RV) (lv : LV) (w : Rho) : wback (.bor i :: l) (lv :: w) r = wback l w (r.set i lv) := rfl
@[simp] theorem sNil_e : sNil r = .nx r := rfl
@[simp] theorem sSeq_e : sSeq s s' r = (s r).bd s' := rfl
@[simp] theorem sIf_e : sIf t s s' r = (t r).st fun b r1 => if b = true then s r1 else s' r1 := rfl
@[simp] theorem sBk_e : sBk r = .bk r := rfl
@[simp] theorem sCt_e : sCt r = .ct r := rfl
@[simp] theorem sSet_e : sSet i m r = (m r).st fun rv r1 => match rv with
  | .val d => .nx (r1.set i (.val d))
  | .own d => .nx (r1.set i (.own d))
  | .bor j => (frz (.bor j) r1).st fun d r2 => .nx (r2.set i (.val d)) := rfl
@[simp] theorem sRet_e : sRet io m r = (m r).st (retR io) := rfl
@[simp] theorem sRetN_e : sRetN r = .rt (.val .non) r := rfl
@[simp] theorem stl_e : stl m r = (m r).bd fun rv r' => .ok (stR rv) r' := rfl
@[simp] theorem fz_e : fz m r = (m r).bd frz := rfl
@[simp] theorem ofD_e (m : Rho → Ou D) : ofD m r = (m r).bd fun d r' => .ok (.val d) r' := rfl
@[simp] theorem stR_v : stR (.val d) = .val d := rfl
@[simp] theorem stR_o : stR (.own d) = .val d := rfl
@[simp] theorem stR_b : stR (.bor i) = .bor i := rfl
@[simp] theorem look_v : look (.val d) r = some d := rfl
@[simp] theorem frz_v : frz (.val d) r = .ok d r := rfl
@[simp] theorem frz_o : frz (.own d) r = .ok d r := rfl
@[simp] theorem res_v : res (some (.val d)) r = .ok (.val d) r := rfl
@[simp] theorem res_ol (l : List D) : res (some (.own (.lst l))) r = .ok (.own (.lst l)) r := rfl
@[simp] theorem res_ot (l : List D) : res (some (.own (.tup l))) r = .ok (.val (.tup l)) r := rfl
@[simp] theorem res_oi (c : Nat) (l : List D) : res (some (.own (.ins c l))) r = .ok (.own (.ins c l)) r := rfl
@[simp] theorem eOp_e : eOp f m n r = (stl m r).bd fun x r1 => (stl n r1).bd fun y r2 => match look x r2, look y r2 with
  | some d1, some d2 => res (f d1 d2) r2
  | _, _ => .no := rfl
@[simp] theorem eUn_e : eUn g m r = (stl m r).bd fun x r1 => match look x r1 with
  | some d => res (g d) r1
  | none => .no := rfl
@[simp] theorem tV_e : tV m r = (m r).bd fun rv r' => match rv with
  | .val (.bl b) => .ok b r'
  | _ => .no := rfl
@[simp] theorem tAnd_e : tAndM t u r = (t r).bd fun b r1 => if b = true then u r1 else .ok false r1 := rfl
@[simp] theorem tOr_e : tOrM t u r = (t r).bd fun b r1 => if b = true then .ok true r1 else u r1 := rfl
@[simp] theorem tNot_e : tNotM t r = (t r).bd fun b r1 => .ok (!b) r1 := rfl
@[simp] theorem tTru_e : tTru m r = (stl m r).bd fun rv r1 => match look rv r1 with
  | some d => match truD d with
    | some b => .ok b r1
    | none => .no
  | none => .no := rfl
@[simp] theorem eAnd_e : eAnd m n r = (m r).bd fun rv r1 => match rv with
  | .val (.bl b) => if b = true then n r1 else .ok (.val (.bl false)) r1
  | _ => .no := rfl
@[simp] theorem eOr_e : eOr m n r = (m r).bd fun rv r1 => match rv with
  | .val (.bl b) => if b = true then .ok (.val (.bl true)) r1 else n r1
  | _ => .no := rfl
@[simp] theorem eNot_e : eNot m r = (m r).bd fun rv r1 => match rv with
  | .val (.bl b) => .ok (.val (.bl !b)) r1
  | _ => .no := rfl
@[simp] theorem eIf_e : eIf t m n r = (t r).bd fun b r1 => if b = true then m r1 else n r1 := rfl
@[simp] theorem cN_e : cN r = .ok [] r := rfl
@[simp] theorem cV_e (w : Rho → Ou (List RV)) : cV m w r = (fz m r).bd fun d r1 => (w r1).bd fun l r2 => .ok (.val d :: l) r2 := rfl
@[simp] theorem cB_e (w : Rho → Ou (List RV)) : cB m w r = (stl m r).bd fun rv r1 => (w r1).bd fun l r2 => .ok (rv :: l) r2 := rfl
@[simp] theorem aN_e : aN r = .ok [] r := rfl
@[simp] theorem aC_e (w : Rho → Ou (List D)) : aC m w r = (fz m r).bd fun d r1 => (w r1).bd fun l r2 => .ok (d :: l) r2 := rfl
@[simp] theorem eTup_e (w : Rho → Ou (List D)) : eTup w r = (w r).bd fun l r1 => .ok (.val (.tup l)) r1 := rfl
@[simp] theorem eLst_e (w : Rho → Ou (List D)) : eLst w r = (w r).bd fun l r1 => .ok (.own (.lst l)) r1 := rfl
@[simp] theorem eCall_e (f : MS) (w : Rho → Ou (List RV)) : eCall f w r = (w r).bd fun l r1 => if nodupB (borI l) = true then callO l r1 (f (l.map (argL r1))) else .no := by
  unfold eCall
  cases w r with
  | ok a r1 => simp only [bd_ok]; split <;> first | rfl | (cases f (a.map (argL r1)) <;> rfl)
  | _ => rfl
@[simp] theorem callO_r (l : List RV) (a : R0) (w : Rho) : callO l r (.rt a w) = .ok (rvOf a) (wback l w r) := rfl
@[simp] theorem callO_x (l : List RV) (x : Ex) (w : Rho) : callO l r (.ex x w) = .ex x (wback l w r) := rfl
@[simp] theorem rvOf_v : rvOf (.val d) = .val d := rfl
@[simp] theorem rvOf_o : rvOf (.own d) = .own d := rfl
@[simp] theorem mkFn_e (n k : Nat) (body : MS) : mkFn n k io body r = if r.length = n ∧ okA io 0 r = true then match body (r ++ List.replicate k .un) with
  | .nx r' => fin io r r' (.rt (.val .non))
  | .rt a r' => fin io r r' (.rt a)
  | .ex x r' => fin io r r' (.ex x)
  | _ => .no else .no := rfl
@[simp] theorem iLst_e : iLst m r = (fz m r).bd fun d r1 => match d with
  | .lst l => .ok l r1
  | _ => .no := rfl
@[simp] theorem iTupM_e : iTupM m r = (fz m r).bd fun d r1 => match d with
  | .tup l => .ok l r1
  | _ => .no := rfl
@[simp] theorem iRg1_e : iRg1 m r = (fz m r).bd rgO := by
  unfold iRg1
  rfl
@[simp] theorem iRg2_e : iRg2 m n r = (fz m r).bd fun d r1 => (fz n r1).bd fun d2 r2 => rgP d d2 r2 := by
  unfold iRg2
  rfl
@[simp] theorem sFor_e (g : MG) (w : Rho → Ou (List D)) : sFor g w s r = (w r).st fun ds r1 => forL g s ds r1 := rfl
@[simp] theorem sStL_e : sStL i m n r = (fz n r).st fun d r1 => if ownB r1 i = true then (fz m r1).st fun k r2 => setI i k d r2 else .no := rfl
@[simp] theorem sPar_e (w : Rho → Ou (List D)) : sPar i j w r = (w r).st fun l r1 => match l with
  | [x, y] => .nx ((r1.set i (.val x)).set j (.val y))
  | _ => .no := rfl
@[simp] theorem sFldM_e (c : Nat) : sFldM i c j m r = (fz m r).st fun d r1 => setF i c j d r1 := rfl
@[simp] theorem eMake_e (c : Nat) (g : MS) (dds : List D) (w : Rho → Ou (List RV)) : eMake c g dds w r = (w r).bd fun l r1 => if nodupB (borI l) = true then makeO (l ++ dds.map RV.val) r1 (g (.own (.ins c []) :: (l ++ dds.map RV.val).map (argL r1))) else .no := rfl
@[simp] theorem makeO_r (l : List RV) (w : Rho) : makeO l r (.rt (.val .non) (.own d :: w)) = .ok (.own d) (wback l w r) := rfl
@[simp] theorem makeO_x (l : List RV) (x : Ex) (lv : LV) (w : Rho) : makeO l r (.ex x (lv :: w)) = .ex x (wback l w r) := rfl
@[simp] theorem eBin_e (c : Nat) (g : MS) : eBin c g m n r = (fz m r).bd fun d1 r1 => (fz n r1).bd fun d2 r2 => if isIns c d1 && isIns c d2 then callO [.val d1, .val d2] r2 (g [.val d1, .val d2]) else .no := rfl
@[simp] theorem eNegO_e (c : Nat) (g : MS) : eNegO c g m r = (fz m r).bd fun d1 r1 => if isIns c d1 = true then callO [.val d1] r1 (g [.val d1]) else .no := rfl
@[simp] theorem sRaise_e (x : Ex) : sRaise x r = .ex x r := rfl
@[simp] theorem sTryA_e (tb : Nat → Option Bool) (w : Ex → MS) : sTryA i tb s w r = match s r with
  | .ex x r1 => match tb x.c with
    | some true => if i < r1.length then aft i (w x (r1.set i .un)) else .no
    | some false => .ex x r1
    | none => .no
  | o => o := by unfold sTryA sTry; rfl
@[simp] theorem sTryO_e (tb : Nat → Option Bool) (w : Ex → MS) : sTryO tb s w r = match s r with
  | .ex x r1 => match tb x.c with
    | some true => noX (w x r1)
    | some false => .ex x r1
    | none => .no
  | o => o := by unfold sTryO sTry; rfl
@[simp] theorem eIsE_e (b : Bool) : eIsE i b r = .ok (.val (.bl b)) r := rfl
@[simp] theorem eFld_e (c : Nat) : eFld c j m r = eUn (fldD c j) m r := rfl
end
/-- behind a body of a for -/
def So.lp (o : So) (k : MS) : So := match o with
  | .nx r => k r
  | .ct r => k r
  | .bk r => .nx r
  | o => o
@[simp] theorem lp_nx (r : Rho) (k : MS) : (So.nx r).lp k = k r := rfl
@[simp] theorem lp_ct (r : Rho) (k : MS) : (So.ct r).lp k = k r := rfl
@[simp] theorem lp_bk (r : Rho) (k : MS) : (So.bk r).lp k = .nx r := rfl
@[simp] theorem lp_rt (a : R0) (r : Rho) (k : MS) : (So.rt a r).lp k = .rt a r := rfl
@[simp] theorem lp_ex (x : Ex) (r : Rho) (k : MS) : (So.ex x r).lp k = .ex x r := rfl
@[simp] theorem lp_no (k : MS) : So.no.lp k = .no := rfl
theorem lp_if {c : Prop} [Decidable c] (a b : So) (k : MS) : (if c then a else b).lp k = if c then a.lp k else b.lp k := by split <;> rfl
@[simp] theorem forL_0 (g : MG) (b : MS) (r : Rho) : forL g b [] r = .nx r := rfl
@[simp] theorem forL_n (i : Nat) (b : MS) (d : D) (ds : List D) (r : Rho) : forL (gN i) b (d :: ds) r = (b (r.set i (.val d))).lp (forL (gN i) b ds) := by
  show (match b (r.set i (.val d)) with | .nx r2 => _ | .ct r2 => _ | .bk r2 => _ | o => _) = _
  cases b (r.set i (.val d)) <;> rfl
theorem forL_g (g : MG) (b : MS) (d : D) (ds : List D) (r r1 : Rho) (h : g d r = some r1) : forL g b (d :: ds) r = (b r1).lp (forL g b ds) := by
  show (match g d r with | none => _ | some r1 => _) = _
  rw [h]
  show (match b r1 with | .nx r2 => forL g b ds r2 | .ct r2 => forL g b ds r2 | .bk r2 => .nx r2 | o => o) = _
  cases b r1 <;> rfl
/-- int operations on data -/
@[simp] theorem addD_i (a b : Int) : addD (.int a) (.int b) = some (.val (.int (a + b))) := rfl
@[simp] theorem subD_i (a b : Int) : subD (.int a) (.int b) = some (.val (.int (a - b))) := rfl
/-- small enough for what the machine's ints are asked -/
def Sm (a : Int) : Prop := a.natAbs.log2 < 9000
def Rg (n : Int) : Prop := n.natAbs < 2 ^ 62
theorem log2_lt {n k : Nat} (h : n < 2 ^ k) (hk : 0 < k) : n.log2 < k := by
  by_cases z : n = 0
  · subst z; simpa using hk
  · exact (Nat.log2_lt z).mpr h
theorem Sm.le {a b : Int} (h : a.natAbs ≤ b.natAbs) (hb : Sm b) : Sm a := by
  by_cases z : a.natAbs = 0
  · show a.natAbs.log2 < 9000
    rw [z]; decide
  · refine Nat.lt_of_le_of_lt ?_ hb
    by_cases y : b.natAbs = 0
    · omega
    · exact (Nat.le_log2 y).mpr (Nat.le_trans (Nat.log2_self_le z) h)
@[simp] theorem Sm_lit (n : Nat) (h : n < 10715086071862673209484250490600018105614048117055336074437503883703510511249361224931983788156958581275946729175531468251871452856923140435984577574698574803934567774824230985421074605062371141877954182153046474983581941267398767559165543946077062914571196477686542167660429831652624386837205668069376) : Sm (no_index (OfNat.ofNat n) : Int) := by
  refine Nat.lt_of_lt_of_le (log2_lt (k := 1000) (n := n) (Nat.lt_of_lt_of_le h (by decide +kernel)) (by decide)) (by decide)
@[simp] theorem Sm_neg (a : Int) : Sm (-a) ↔ Sm a := by unfold Sm; rw [Int.natAbs_neg]
theorem Sm_bd {a B : Int} (h : Sm B) (h1 : -B ≤ a) (h2 : a ≤ B) : Sm a := Sm.le (by omega) h
@[simp] theorem Rg_lit (n : Nat) (h : n < 4611686018427387904) : Rg (no_index (OfNat.ofNat n) : Int) := h
@[simp] theorem mulD_i (a b : Int) (ha : Sm a) (hb : Sm b) : mulD (.int a) (.int b) = some (.val (.int (a * b))) := by
  have : a.natAbs.log2 + b.natAbs.log2 < 1000000 := by unfold Sm at ha hb; omega
  show (if a.natAbs.log2 + b.natAbs.log2 < 1000000 then _ else _) = _
  rw [if_pos this]
@[simp] theorem fdivD_i (a b : Int) (h0 : b ≠ 0) (hb : Sm b) : fdivD (.int a) (.int b) = some (.val (.int (a.fdiv b))) := by
  show (if b ≠ 0 ∧ b.natAbs.log2 < 9000 then _ else _) = _
  rw [if_pos ⟨h0, hb⟩]
@[simp] theorem modD_i (a b : Int) (h0 : b ≠ 0) : modD (.int a) (.int b) = some (.val (.int (a.fmod b))) := by
  show (if b ≠ 0 then _ else _) = _
  rw [if_pos h0]
@[simp] theorem powD_i (a b : Int) : powD (.int a) (.int b) = if 0 ≤ b ∧ b ≤ 1000000 ∧ a.natAbs < 18446744073709551616 then some (.val (.int (a ^ b.toNat))) else none := rfl
@[simp] theorem rgO_i (n : Int) (r : Rho) (h : Rg n) : rgO (.int n) r = .ok (rgL 0 n.toNat) r := by
  show (if n.natAbs < 2 ^ 62 then _ else _) = _
  rw [if_pos (show n.natAbs < 2 ^ 62 from h)]
@[simp] theorem rgP_i (i j : Int) (r : Rho) (h : Rg i) (h' : Rg j) : rgP (.int i) (.int j) r = .ok (rgL i (j - i).toNat) r := by
  show (if i.natAbs < 2 ^ 62 ∧ j.natAbs < 2 ^ 62 then _ else _) = _
  rw [if_pos ⟨h, h'⟩]
@[simp] theorem negD_i (a : Int) : negD (.int a) = some (.val (.int (-a))) := rfl
@[simp] theorem absD_i (a : Int) : absD (.int a) = some (.val (.int (a.natAbs : Int))) := by
  show some (R0.val (D.int (if a < 0 then -a else a))) = _
  congr 3; split <;> omega
@[simp] theorem intD_i (a : Int) : intD (.int a) = some (.val (.int a)) := rfl
@[simp] theorem ltD_i (a b : Int) : ltD (.int a) (.int b) = some (.val (.bl (decide (a < b)))) := rfl
@[simp] theorem leD_i (a b : Int) : leD (.int a) (.int b) = some (.val (.bl (decide (a ≤ b)))) := rfl
@[simp] theorem gtD_i (a b : Int) : gtD (.int a) (.int b) = some (.val (.bl (decide (b < a)))) := rfl
@[simp] theorem geD_i (a b : Int) : geD (.int a) (.int b) = some (.val (.bl (decide (b ≤ a)))) := rfl
@[simp] theorem eqD_i (a b : Int) : eqD (.int a) (.int b) = some (.val (.bl (decide (a = b)))) := rfl
@[simp] theorem neD_i (a b : Int) : neD (.int a) (.int b) = some (.val (.bl (!decide (a = b)))) := rfl
@[simp] theorem eqD_s (a b : Str) : eqD (.str a) (.str b) = some (.val (.bl (decide (a = b)))) := rfl
@[simp] theorem neD_s (a b : Str) : neD (.str a) (.str b) = some (.val (.bl (!decide (a = b)))) := rfl
@[simp] theorem neD_b (a b : Bool) : neD (.bl a) (.bl b) = some (.val (.bl (!decide (a = b)))) := rfl
@[simp] theorem eqD_nn : eqD .non .non = some (.val (.bl true)) := rfl
@[simp] theorem eqD_is (a : Int) (b : Str) : eqD (.int a) (.str b) = some (.val (.bl false)) := rfl
@[simp] theorem eqD_si (a : Str) (b : Int) : eqD (.str a) (.int b) = some (.val (.bl false)) := rfl
@[simp] theorem isN_n : isN .non .non = some (.val (.bl true)) := rfl
@[simp] theorem isN_i (a : Int) : isN (.int a) .non = some (.val (.bl false)) := rfl
@[simp] theorem isN_s (a : Str) : isN (.str a) .non = some (.val (.bl false)) := rfl
@[simp] theorem isN_t (l : List D) : isN (.tup l) .non = some (.val (.bl false)) := rfl
@[simp] theorem isN_l (l : List D) : isN (.lst l) .non = some (.val (.bl false)) := rfl
@[simp] theorem isN_o (c : Nat) (l : List D) : isN (.ins c l) .non = some (.val (.bl false)) := rfl
@[simp] theorem isNN_n : isNN .non .non = some (.val (.bl false)) := rfl
@[simp] theorem isNN_i (a : Int) : isNN (.int a) .non = some (.val (.bl true)) := rfl
@[simp] theorem isNN_s (a : Str) : isNN (.str a) .non = some (.val (.bl true)) := rfl
@[simp] theorem isNN_t (l : List D) : isNN (.tup l) .non = some (.val (.bl true)) := rfl
@[simp] theorem isNN_l (l : List D) : isNN (.lst l) .non = some (.val (.bl true)) := rfl
@[simp] theorem isNN_o (c : Nat) (l : List D) : isNN (.ins c l) .non = some (.val (.bl true)) := rfl
@[simp] theorem eqD_b (a b : Bool) : eqD (.bl a) (.bl b) = some (.val (.bl (decide (a = b)))) := rfl
@[simp] theorem lenD_l (l : List D) : lenD (.lst l) = some (.val (.int l.length)) := rfl
@[simp] theorem lenD_t (l : List D) : lenD (.tup l) = some (.val (.int l.length)) := rfl
@[simp] theorem listD_l (l : List D) : listD (.lst l) = some (.own (.lst l)) := rfl
@[simp] theorem listD_t (l : List D) : listD (.tup l) = some (.own (.lst l)) := rfl

@[simp] theorem atI_0 {α : Type} (a : α) (l : List α) : atI (a :: l) 0 = some a := by simp [atI, ixN]
@[simp] theorem atI_1 {α : Type} (a b : α) (l : List α) : atI (a :: b :: l) 1 = some b := by
  have : (1 : Int) < (l.length : Int) + 1 + 1 := by omega
  simp [atI, ixN, this]
@[simp] theorem atI_2 {α : Type} (a b c : α) (l : List α) : atI (a :: b :: c :: l) 2 = some c := by
  have : (2 : Int) < (l.length : Int) + 1 + 1 + 1 := by omega
  simp [atI, ixN, this]
@[simp] theorem atI_3 {α : Type} (a b c d : α) (l : List α) : atI (a :: b :: c :: d :: l) 3 = some d := by
  have : (3 : Int) < (l.length : Int) + 1 + 1 + 1 + 1 := by omega
  simp [atI, ixN, this]
theorem atI_nat {α : Type} {l : List α} {i : Int} {x : α} (h0 : 0 ≤ i) (h : l[i.toNat]? = some x) : atI l i = some x := by
  obtain ⟨h1, h2⟩ := List.getElem?_eq_some_iff.mp h
  have : i < (l.length : Int) := by omega
  simp [atI, ixN, h0, this, h1, h2]
@[simp] theorem ixD_l (l : List D) (i : Int) : ixD (.lst l) (.int i) = (atI l i).map .val := rfl
@[simp] theorem ixD_t (l : List D) (i : Int) : ixD (.tup l) (.int i) = (atI l i).map .val := rfl

/-! ### the script's stream, a draw: the texts that all laws share -/
def g_stream : MS := mkFn 1 2 [] (sSeq (sSet 1 (eC (.int 17)))
    (sSeq (sFor (gN 2) (iLst (eVar 0))
    (sSet 1 (eOp modD (eUn intD (eOp addD (eOp addD (eOp mulD (eVar 1) (eC (.int 48271))) (eOp modD (eUn intD (eVar 2)) (eC (.int 65521)))) (eC (.int 1)))) (eC (.int 2147483647)))))
    (sRet [] (eLst (aC (eUn listD (eVar 0)) (aC (eC (.int 0)) (aC (eC (.int 0)) (aC (eVar 1) aN))))))))
def g_draw : MS := mkFn 2 1 [0] (sSeq (sIf (tAndM (tV (eOp eqD (eOp ixD (eVar 0) (eC (.int 1))) (eC (.int 0)))) (tV (eOp ltD (eOp ixD (eVar 0) (eC (.int 2))) (eUn lenD (eOp ixD (eVar 0) (eC (.int 0)))))))
    (sSeq (sStL 0 (eC (.int 1)) (eUn absD (eUn intD (eOp ixD (eOp ixD (eVar 0) (eC (.int 0))) (eOp ixD (eVar 0) (eC (.int 2)))))))
    (sStL 0 (eC (.int 2)) (eOp addD (eOp ixD (eVar 0) (eC (.int 2))) (eC (.int 1)))))
    sNil)
    (sSeq (sIf (tV (eOp eqD (eOp ixD (eVar 0) (eC (.int 1))) (eC (.int 0))))
    (sSeq (sStL 0 (eC (.int 3)) (eOp modD (eUn intD (eOp addD (eOp mulD (eOp ixD (eVar 0) (eC (.int 3))) (eC (.int 48271))) (eC (.int 11)))) (eC (.int 2147483647))))
    (sRet [0] (eOp modD (eUn intD (eOp fdivD (eOp ixD (eVar 0) (eC (.int 3))) (eC (.int 97)))) (eVar 1))))
    sNil)
    (sSeq (sSet 2 (eOp modD (eUn intD (eOp ixD (eVar 0) (eC (.int 1)))) (eVar 1)))
    (sSeq (sStL 0 (eC (.int 1)) (eOp fdivD (eOp ixD (eVar 0) (eC (.int 1))) (eVar 1)))
    (sRet [0] (eVar 2))))))
/-- a stream: what the script's numbers have become -/
structure Stm where
  ns : List Int
  a : Int
  b : Int
  c : Int
namespace Stm
def d (s : Stm) : D := .lst [.lst (s.ns.map .int), .int s.a, .int s.b, .int s.c]
structure Ok (s : Stm) : Prop where
  a0 : 0 ≤ s.a
  b0 : 0 ≤ s.b
  c0 : 0 ≤ s.c
  c1 : s.c < 2147483647
def fed (s : Stm) : Stm := if s.a = 0 ∧ s.b < s.ns.length then { s with a := (s.ns.getD s.b.toNat 0).natAbs, b := s.b + 1 } else s
def nc (s : Stm) : Int := (s.c * 48271 + 11).fmod 2147483647
def dv (s : Stm) (m : Int) : Int := if s.fed.a = 0 then (s.fed.nc.fdiv 97).fmod m else s.fed.a.fmod m
def dr (s : Stm) (m : Int) : Stm := if s.fed.a = 0 then { s.fed with c := s.fed.nc } else { s.fed with a := s.fed.a.fdiv m }
end Stm
def Dm (m : Int) : Prop := 1 ≤ m ∧ Sm m
@[simp] theorem Dm_lit (n : Nat) (h0 : n ≠ 0) (h : n < 10715086071862673209484250490600018105614048117055336074437503883703510511249361224931983788156958581275946729175531468251871452856923140435984577574698574803934567774824230985421074605062371141877954182153046474983581941267398767559165543946077062914571196477686542167660429831652624386837205668069376) : Dm (no_index (OfNat.ofNat n) : Int) := ⟨by
  show (1 : Int) ≤ ((n : Nat) : Int)
  omega, Sm_lit n h⟩
theorem Stm.Ok.fed {s : Stm} (h : s.Ok) : s.fed.Ok := by
  unfold Stm.fed
  split
  · exact ⟨by simp, by have := h.b0; simp; omega, h.c0, h.c1⟩
  · exact h
theorem Stm.Ok.dr {s : Stm} {m : Int} (h : s.Ok) (hm : Dm m) : (s.dr m).Ok := by
  have m1 := hm.1
  have := h.fed
  unfold Stm.dr
  split
  · exact ⟨this.a0, this.b0, Int.fmod_nonneg_of_pos _ (by omega), Int.fmod_lt_of_pos _ (by omega)⟩
  · exact ⟨Int.fdiv_nonneg this.a0 (by omega), this.b0, this.c0, this.c1⟩
theorem Stm.dv_0 (s : Stm) {m : Int} (hm : Dm m) : 0 ≤ s.dv m := by
  have := hm.1
  unfold Stm.dv
  split <;> exact Int.fmod_nonneg_of_pos _ (by omega)
theorem Stm.dv_1 (s : Stm) {m : Int} (hm : Dm m) : s.dv m < m := by
  have := hm.1
  unfold Stm.dv
  split <;> exact Int.fmod_lt_of_pos _ (by omega)
theorem g_tail {s : Stm} {m : Int} (hm : Dm m) (hs : s.Ok) : (sSeq (sIf (tV (eOp eqD (eOp ixD (eVar 0) (eC (.int 1))) (eC (.int 0))))
    (sSeq (sStL 0 (eC (.int 3)) (eOp modD (eUn intD (eOp addD (eOp mulD (eOp ixD (eVar 0) (eC (.int 3))) (eC (.int 48271))) (eC (.int 11)))) (eC (.int 2147483647))))
    (sRet [0] (eOp modD (eUn intD (eOp fdivD (eOp ixD (eVar 0) (eC (.int 3))) (eC (.int 97)))) (eVar 1))))
    sNil)
    (sSeq (sSet 2 (eOp modD (eUn intD (eOp ixD (eVar 0) (eC (.int 1)))) (eVar 1)))
    (sSeq (sStL 0 (eC (.int 1)) (eOp fdivD (eOp ixD (eVar 0) (eC (.int 1))) (eVar 1)))
    (sRet [0] (eVar 2))))) [.own s.d, .val (.int m), .un] = if s.a = 0 then .rt (.val (.int ((s.nc.fdiv 97).fmod m))) [.own { s with c := s.nc }.d, .val (.int m), .un] else .rt (.val (.int (s.a.fmod m))) [.own { s with a := s.a.fdiv m }.d, .val (.int m), .val (.int (s.a.fmod m))] := by
  obtain ⟨ns, a, b, c⟩ := s
  have hm0 : m ≠ 0 := by have := hm.1; omega
  have hml := hm.2
  have hc : Sm c := Sm_bd (Sm_lit 2147483647 (by decide)) (by have := hs.c0; simp at this; show -2147483647 ≤ _; omega) (Int.le_of_lt hs.c1)
  by_cases z : a = 0
  · subst z
    simp [Stm.d, Stm.nc, ixN, hm0, hc]
  · simp [Stm.d, ixN, hm0, hml, z]
theorem g_draw_e {s : Stm} {m : Int} (hm : Dm m) (hs : s.Ok) : g_draw [.own s.d, .val (.int m)] = .rt (.val (.int (s.dv m))) [.own (s.dr m).d, .val (.int m)] := by
  have H := g_tail hm hs.fed
  have E : g_draw [.own s.d, .val (.int m)] = match (sSeq (sIf (tV (eOp eqD (eOp ixD (eVar 0) (eC (.int 1))) (eC (.int 0))))
    (sSeq (sStL 0 (eC (.int 3)) (eOp modD (eUn intD (eOp addD (eOp mulD (eOp ixD (eVar 0) (eC (.int 3))) (eC (.int 48271))) (eC (.int 11)))) (eC (.int 2147483647))))
    (sRet [0] (eOp modD (eUn intD (eOp fdivD (eOp ixD (eVar 0) (eC (.int 3))) (eC (.int 97)))) (eVar 1))))
    sNil)
    (sSeq (sSet 2 (eOp modD (eUn intD (eOp ixD (eVar 0) (eC (.int 1)))) (eVar 1)))
    (sSeq (sStL 0 (eC (.int 1)) (eOp fdivD (eOp ixD (eVar 0) (eC (.int 1))) (eVar 1)))
    (sRet [0] (eVar 2))))) [.own s.fed.d, .val (.int m), .un] with
      | .nx r' => fin [0] [.own s.d, .val (.int m)] r' (.rt (.val .non))
      | .rt a r' => fin [0] [.own s.d, .val (.int m)] r' (.rt a)
      | .ex x r' => fin [0] [.own s.d, .val (.int m)] r' (.ex x)
      | _ => .no := by
    unfold g_draw
    rw [mkFn_e, if_pos (by simp)]
    congr 1
    rw [sSeq_e]
    obtain ⟨ns, a, b, c⟩ := s
    unfold Stm.fed
    by_cases z : a = 0
    · subst z
      by_cases y : b < ns.length
      · have b0 : 0 ≤ b := hs.b0
        have hb : b.toNat < ns.length := by omega
        have : atI (List.map D.int ns) b = some (.int (ns.getD b.toNat 0)) := atI_nat b0 (by simp [hb])
        simp [Stm.d, ixN, y, this]
      · simp [Stm.d, ixN, y]
    · simp [Stm.d, ixN, z]
  rw [E, H]
  unfold Stm.dv Stm.dr
  by_cases z : s.fed.a = 0
  · simp [z]
  · simp [z]
def Cg (c : Int) : Prop := 0 ≤ c ∧ c < 2147483647
theorem Cg.sm {c : Int} (h : Cg c) : Sm c := Sm_bd (Sm_lit 2147483647 (by decide)) (by have := h.1; show -2147483647 ≤ _; omega) (Int.le_of_lt h.2)
theorem Cg_mod (c : Int) : Cg (c.fmod 2147483647) := ⟨Int.fmod_nonneg_of_pos _ (by omega), Int.fmod_lt_of_pos _ (by omega)⟩
theorem g_loop (l : D) : ∀ (ns : List Int) (c : Int) (x : LV), Cg c → ∃ c' x', Cg c' ∧ forL (gN 2) (sSet 1 (eOp modD (eUn intD (eOp addD (eOp addD (eOp mulD (eVar 1) (eC (.int 48271))) (eOp modD (eUn intD (eVar 2)) (eC (.int 65521)))) (eC (.int 1)))) (eC (.int 2147483647)))) (ns.map .int) [.val l, .val (.int c), x] = .nx [.val l, .val (.int c'), x']
  | [], c, x, h => ⟨c, x, h, rfl⟩
  | n :: ns, c, x, h => by
    obtain ⟨c', x', h', e⟩ := g_loop l ns ((c * 48271 + n.fmod 65521 + 1).fmod 2147483647) (.val (.int n)) (Cg_mod _)
    refine ⟨c', x', h', ?_⟩
    have := h.sm
    rw [← e]
    simp [this]
theorem g_stream_e (ns : List Int) : ∃ s : Stm, s.Ok ∧ s.ns = ns ∧ g_stream [.val (.lst (ns.map .int))] = .rt (.own s.d) [.val (.lst (ns.map .int))] := by
  obtain ⟨c, x, h, e⟩ := g_loop (.lst (ns.map .int)) ns 17 .un ⟨by omega, by omega⟩
  refine ⟨⟨ns, 0, 0, c⟩, ⟨Int.le_refl _, Int.le_refl _, h.1, h.2⟩, rfl, ?_⟩
  unfold g_stream
  simp [e, Stm.d]
theorem gcd_step (a b : Int) : Int.gcd b (a.fmod b) = Int.gcd a b := by
  rw [Int.fmod_def, Int.gcd_sub_mul_left_right, Int.gcd_comm]
theorem fm_neg {a b : Int} (h : b < 0) : b < a.fmod b ∧ a.fmod b ≤ 0 := by
  have e := Int.neg_fmod_neg a b
  have h1 := Int.fmod_nonneg_of_pos (-a) (b := -b) (by omega)
  have h2 := Int.fmod_lt_of_pos (-a) (b := -b) (by omega)
  omega
theorem fm_pos {a b : Int} (h : 0 < b) : 0 ≤ a.fmod b ∧ a.fmod b < b := ⟨Int.fmod_nonneg_of_pos a h, Int.fmod_lt_of_pos a h⟩
theorem fm_half0 {b r : Int} (h0 : 0 < r) (h : r < b) : 2 * b.fmod r < b := by
  have e := Int.fmod_def b r
  have h1 := fm_pos (a := b) h0
  have q : 1 ≤ b.fdiv r := by
    rcases Int.lt_or_le (b.fdiv r) 1 with z | z
    · exfalso
      have := Int.mul_le_mul_of_nonneg_left (c := r) (show b.fdiv r ≤ 0 by omega) (by omega)
      rw [Int.mul_zero] at this
      omega
    · exact z
  have := Int.mul_le_mul_of_nonneg_left (c := r) q (by omega)
  rw [Int.mul_one] at this
  omega
theorem fm_half {b r : Int} (h : (0 < r ∧ r < b) ∨ (b < r ∧ r < 0)) : 2 * (b.fmod r).natAbs < b.natAbs := by
  rcases h with ⟨h1, h2⟩ | ⟨h1, h2⟩
  · have := fm_half0 h1 h2
    have := fm_pos (a := b) h1
    omega
  · have e := fm_half0 (b := -b) (r := -r) (by omega) (by omega)
    have := fm_neg (a := b) h2
    rw [Int.neg_fmod_neg] at e
    omega
/-- Euclid's loop, whatever the rest of the state: a test and a body that go as they should -/
theorem euclid {t : MT} {bd : MS} {st : Int → Int → Rho} (P : Int → Int → Prop) (ht : ∀ a b, P a b → t (st a b) = .ok (decide (b ≠ 0)) (st a b)) (hb : ∀ a b, P a b → b ≠ 0 → bd (st a b) = .nx (st b (a.fmod b))) (hP : ∀ a b, P a b → b ≠ 0 → P b (a.fmod b)) :
    ∀ (n k : Nat) (a b : Int), P a b → b.natAbs < 2 ^ n → 2 * n + 1 ≤ k → ∃ g : Int, P g 0 ∧ g.natAbs = Int.gcd a b ∧ whL k t bd (st a b) = .nx (st g 0)
  | 0, k + 1, a, b, p, h, hk => by
    have : b = 0 := by omega
    subst this
    refine ⟨a, p, by simp, ?_⟩
    simp [whL, ht _ _ p]
  | n + 1, k + 2, a, b, p, h, hk => by
    by_cases z : b = 0
    · subst z
      refine ⟨a, p, by simp, ?_⟩
      simp [whL, ht _ _ p]
    have p1 := hP a b p z
    by_cases y : a.fmod b = 0
    · rw [y] at p1
      refine ⟨b, p1, by rw [← gcd_step, y]; simp, ?_⟩
      simp [whL, ht _ _ p, hb _ _ p z, ht _ _ p1, z, y]
    have p2 := hP _ _ p1 y
    have hh : 2 * (b.fmod (a.fmod b)).natAbs < b.natAbs := by
      refine fm_half ?_
      rcases Int.lt_or_gt_of_ne z with c | c
      · have := fm_neg (a := a) c; right; omega
      · have := fm_pos (a := a) c; left; omega
    obtain ⟨g, h1, h2, h3⟩ := euclid P ht hb hP n k (a.fmod b) (b.fmod (a.fmod b)) p2 (by rw [Nat.pow_succ] at h; omega) (by omega)
    refine ⟨g, h1, by rw [h2, gcd_step, gcd_step], ?_⟩
    rw [← h3]
    simp [whL, ht _ _ p, hb _ _ p z, ht _ _ p1, hb _ _ p1 y, z, y]
end Mi

end
section
set_option exponentiation.threshold 20000
/-! Mi10: fractions: the mirrors of Ratio's text, whatever the numbers of the classes; drawn numbers. -/
namespace Mi
open PySem L2

@[simp] theorem str_inj (a b : String) : (Str.ofString a = Str.ofString b) ↔ a = b := by
  refine ⟨fun h => ?_, fun h => by rw [h]⟩
  rw [Str.ofString_eq_toList, Str.ofString_eq_toList] at h
  injection h with h
  have h2 : a.toList.map Char.toNat = b.toList.map Char.toNat := by simpa using h
  have inj : ∀ x y : Char, x.toNat = y.toNat → x = y := fun x y e => Char.ext (UInt32.toNat_inj.mp e)
  have h3 : ∀ l m : List Char, l.map Char.toNat = m.map Char.toNat → l = m := by
    intro l
    induction l with
    | nil => intro m e; cases m with
      | nil => rfl
      | cons _ _ => cases e
    | cons x l ih => intro m e; cases m with
      | nil => cases e
      | cons y m =>
        simp only [List.map_cons, List.cons.injEq] at e
        rw [inj x y e.1, ih m e.2]
  exact String.toList_inj.mp (h3 _ _ h2)
/-! ### sizes -/
def Bn (k : Nat) (a : Int) : Prop := a.natAbs < 2 ^ k
theorem Bn.le {k l : Nat} {a : Int} (h : Bn k a) (hkl : k ≤ l) : Bn l a := Nat.lt_of_lt_of_le h (Nat.pow_le_pow_right (by decide) hkl)
theorem Bn.sm {k : Nat} {a : Int} (h : Bn k a) (hk : k ≤ 9000) : Sm a := log2_lt (Nat.lt_of_lt_of_le h (Nat.pow_le_pow_right (by decide) hk)) (by decide)
theorem Bn.mul {k l : Nat} {a b : Int} (h : Bn k a) (h' : Bn l b) : Bn (k + l) (a * b) := by
  unfold Bn at *
  rw [Int.natAbs_mul, Nat.pow_add]
  exact Nat.mul_lt_mul'' h h'
theorem Bn.add {k : Nat} {a b : Int} (h : Bn k a) (h' : Bn k b) : Bn (k + 1) (a + b) := by
  unfold Bn at *
  rw [Nat.pow_succ]
  omega
theorem Bn.neg {k : Nat} {a : Int} (h : Bn k a) : Bn k (-a) := by
  unfold Bn at *
  omega
theorem Bn.sub {k : Nat} {a b : Int} (h : Bn k a) (h' : Bn k b) : Bn (k + 1) (a - b) := by
  rw [Int.sub_eq_add_neg]
  exact h.add h'.neg
theorem Bn.of_le {k : Nat} {a b : Int} (h : Bn k b) (hab : a.natAbs ≤ b.natAbs) : Bn k a := Nat.lt_of_le_of_lt hab h

/-! ### the greatest divisor, lowest terms -/
def g_gcd : MS := mkFn 2 0 [] (sSeq (whL 100000 (tV (eOp neD (eVar 1) (eC (.int 0)))) (sPar 0 1 (aC (eVar 1) (aC (eOp modD (eVar 0) (eVar 1)) aN))))
    (sRet [] (eUn absD (eVar 0))))
theorem g_gcd_e (a b : Int) (hb : Bn 9000 b) : g_gcd [.val (.int a), .val (.int b)] = .rt (.val (.int (Int.gcd a b))) [.val (.int a), .val (.int b)] := by
  obtain ⟨g, _, h2, h3⟩ := euclid (t := tV (eOp neD (eVar 1) (eC (.int 0)))) (bd := sPar 0 1 (aC (eVar 1) (aC (eOp modD (eVar 0) (eVar 1)) aN))) (st := fun a b => [.val (.int a), .val (.int b)]) (fun _ _ => True) (fun a b _ => by simp) (fun a b _ h => by simp [h]) (fun _ _ _ _ => trivial) 9000 100000 a b trivial hb (by decide)
  unfold g_gcd
  simp [h3, h2]
def sg (n d : Int) : Int := if d < 0 then -(Int.gcd n d : Int) else Int.gcd n d
/-- the lowest terms -/
def nt (n d : Int) : Int := n.fdiv (sg n d)
def nb (n d : Int) : Int := d.fdiv (sg n d)
structure Low (n d : Int) : Prop where
  co : Int.gcd n d = 1
  pos : 0 < d
theorem Low.ne {n d : Int} (h : Low n d) : d ≠ 0 := by have := h.pos; omega
theorem Low.sg {n d : Int} (h : Low n d) : Mi.sg n d = 1 := by
  have := h.pos
  unfold Mi.sg
  rw [h.co, if_neg (by omega)]; rfl
theorem Low.nt {n d : Int} (h : Low n d) : Mi.nt n d = n := by unfold Mi.nt; rw [h.sg]; simp
theorem Low.nb {n d : Int} (h : Low n d) : Mi.nb n d = d := by unfold Mi.nb; rw [h.sg]; simp
theorem sg_ne {n d : Int} (h : d ≠ 0) : sg n d ≠ 0 := by
  have : Int.gcd n d ≠ 0 := fun z => h (Int.gcd_eq_zero_iff.mp z).2
  unfold sg; split <;> omega
theorem sg_dn (n d : Int) : sg n d ∣ n := by
  have := Int.gcd_dvd_left n d
  unfold sg; split
  · exact Int.neg_dvd.mpr this
  · exact this
theorem sg_dd (n d : Int) : sg n d ∣ d := by
  have := Int.gcd_dvd_right n d
  unfold sg; split
  · exact Int.neg_dvd.mpr this
  · exact this
theorem nt_mul (n d : Int) : sg n d * nt n d = n := Int.mul_fdiv_cancel' (sg_dn n d)
theorem nb_mul (n d : Int) : sg n d * nb n d = d := Int.mul_fdiv_cancel' (sg_dd n d)
theorem sg_abs (n d : Int) : (sg n d).natAbs = Int.gcd n d := by unfold sg; split <;> simp
theorem low_of {n d : Int} (h : d ≠ 0) : Low (nt n d) (nb n d) := by
  have g0 : 0 < Int.gcd n d := Nat.pos_of_ne_zero fun z => h (Int.gcd_eq_zero_iff.mp z).2
  refine ⟨?_, ?_⟩
  · have e : Int.gcd n d = (sg n d).natAbs * Int.gcd (nt n d) (nb n d) := by
      have := Int.gcd_mul_left (sg n d) (nt n d) (nb n d)
      rw [nt_mul, nb_mul] at this
      exact this
    rw [sg_abs] at e
    exact Nat.eq_of_mul_eq_mul_left g0 (by omega)
  · have e := nb_mul n d
    rcases Int.lt_trichotomy (nb n d) 0 with z | z | z
    · exfalso
      unfold sg at e
      by_cases y : d < 0
      · rw [if_pos y] at e
        have := Int.mul_nonneg_of_nonpos_of_nonpos (a := -(Int.gcd n d : Int)) (b := nb n d) (by omega) (by omega)
        omega
      · rw [if_neg y] at e
        have := Int.mul_neg_of_pos_of_neg (a := (Int.gcd n d : Int)) (b := nb n d) (by omega) z
        omega
    · exfalso
      rw [z, Int.mul_zero] at e
      omega
    · exact z
theorem nt_le (n d : Int) : (nt n d).natAbs ≤ n.natAbs := Int.natAbs_fdiv_le_natAbs _ _
theorem nb_le (n d : Int) : (nb n d).natAbs ≤ d.natAbs := Int.natAbs_fdiv_le_natAbs _ _
theorem Bn.nt {k : Nat} {n d : Int} (h : Bn k n) : Bn k (nt n d) := h.of_le (nt_le n d)
theorem Bn.nb {k : Nat} {n d : Int} (h : Bn k d) : Bn k (nb n d) := h.of_le (nb_le n d)
theorem gcd_sm {n d : Int} (h : d ≠ 0) (hd : Bn 9000 d) : Sm (Int.gcd n d : Int) := by
  have : Int.gcd n d ≤ d.natAbs := Nat.le_of_dvd (by omega) (Int.gcd_dvd_natAbs_right n d)
  exact (Bn.of_le hd (by rw [Int.natAbs_natCast]; exact this)).sm (Nat.le_refl _)

/-! ### Ratio: its class's number c, ByZero's number x -/
section
variable (x c : Nat)
def g_init : MS := mkFn 3 1 [0] (sSeq (sIf (tV (eOp eqD (eVar 2) (eC (.int 0))))
    (sRaise ⟨x, []⟩)
    sNil)
    (sSeq (sSet 3 (eCall g_gcd (cV (eVar 1) (cV (eVar 2) cN))))
    (sSeq (sIf (tV (eOp ltD (eVar 2) (eC (.int 0))))
    (sSet 3 (eUn negD (eVar 3)))
    sNil)
    (sSeq (sFldM 0 c 0 (eOp fdivD (eVar 1) (eVar 3)))
    (sFldM 0 c 1 (eOp fdivD (eVar 2) (eVar 3)))))))
abbrev rt (t b : Int) : D := .ins c [.int t, .int b]
@[simp] theorem g_init_e (n d : Int) (h : d ≠ 0) (hd : Bn 9000 d) : g_init x c [.own (.ins c []), .val (.int n), .val (.int d)] = .rt (.val .non) [.own (rt c (nt n d) (nb n d)), .val (.int n), .val (.int d)] := by
  have s0 := gcd_sm (n := n) h hd
  have s1 : Int.gcd n d ≠ 0 := fun z => h (Int.gcd_eq_zero_iff.mp z).2
  unfold g_init nt nb sg
  by_cases z : d < 0
  · simp [h, g_gcd_e n d hd, z, s0, s1]
  · simp [h, g_gcd_e n d hd, z, s0, s1]
@[simp] theorem g_init_x (n : Int) : g_init x c [.own (.ins c []), .val (.int n), .val (.int 0)] = .ex ⟨x, []⟩ [.own (.ins c []), .val (.int n), .val (.int 0)] := by
  unfold g_init
  simp
@[simp] theorem fldD_0 (l : List D) (d : D) : fldD c 0 (.ins c (d :: l)) = some (.val d) := by simp [fldD]
@[simp] theorem fldD_1 (l : List D) (d d' : D) : fldD c 1 (.ins c (d :: d' :: l)) = some (.val d') := by simp [fldD]
@[simp] theorem isIns_s (l : List D) : isIns c (.ins c l) = true := by simp [isIns]
def g_add : MS := mkFn 2 1 [] (sSeq (sSet 2 (eOp addD (eOp mulD (eFld c 0 (eVar 0)) (eFld c 1 (eVar 1))) (eOp mulD (eFld c 0 (eVar 1)) (eFld c 1 (eVar 0)))))
    (sRet [] (eMake c (g_init x c) [] (cV (eVar 2) (cV (eOp mulD (eFld c 1 (eVar 0)) (eFld c 1 (eVar 1))) cN)))))
def g_mul : MS := mkFn 2 0 [] (sRet [] (eMake c (g_init x c) [] (cV (eOp mulD (eFld c 0 (eVar 0)) (eFld c 0 (eVar 1))) (cV (eOp mulD (eFld c 1 (eVar 0)) (eFld c 1 (eVar 1))) cN))))
def g_sub : MS := mkFn 2 1 [] (sSeq (sSet 2 (eOp subD (eOp mulD (eFld c 0 (eVar 0)) (eFld c 1 (eVar 1))) (eOp mulD (eFld c 0 (eVar 1)) (eFld c 1 (eVar 0)))))
    (sRet [] (eMake c (g_init x c) [] (cV (eVar 2) (cV (eOp mulD (eFld c 1 (eVar 0)) (eFld c 1 (eVar 1))) cN)))))
def g_quo : MS := mkFn 2 0 [] (sRet [] (eMake c (g_init x c) [] (cV (eOp mulD (eFld c 0 (eVar 0)) (eFld c 1 (eVar 1))) (cV (eOp mulD (eFld c 1 (eVar 0)) (eFld c 0 (eVar 1))) cN))))
def g_neg : MS := mkFn 1 0 [] (sRet [] (eMake c (g_init x c) [] (cV (eUn negD (eFld c 0 (eVar 0))) (cV (eFld c 1 (eVar 0)) cN))))
variable {a b a' b' : Int}
/-- the operators on fractions: the lowest terms of the products -/
theorem g_add_e (ha : Bn 4000 a) (hb : Bn 4000 b) (ha' : Bn 4000 a') (hb' : Bn 4000 b') (h : b ≠ 0) (h' : b' ≠ 0) : g_add x c [.val (rt c a b), .val (rt c a' b')] = .rt (.own (rt c (nt (a * b' + a' * b) (b * b')) (nb (a * b' + a' * b) (b * b')))) [.val (rt c a b), .val (rt c a' b')] := by
  have s1 := ha.sm (by decide); have s2 := hb.sm (by decide); have s3 := ha'.sm (by decide); have s4 := hb'.sm (by decide)
  have s5 : Bn 9000 (b * b') := (hb.mul hb').le (by decide)
  have s6 : b * b' ≠ 0 := Int.mul_ne_zero h h'
  unfold g_add
  simp [s1, s2, s3, s4, s5, h, h']
theorem g_sub_e (ha : Bn 4000 a) (hb : Bn 4000 b) (ha' : Bn 4000 a') (hb' : Bn 4000 b') (h : b ≠ 0) (h' : b' ≠ 0) : g_sub x c [.val (rt c a b), .val (rt c a' b')] = .rt (.own (rt c (nt (a * b' - a' * b) (b * b')) (nb (a * b' - a' * b) (b * b')))) [.val (rt c a b), .val (rt c a' b')] := by
  have s1 := ha.sm (by decide); have s2 := hb.sm (by decide); have s3 := ha'.sm (by decide); have s4 := hb'.sm (by decide)
  have s5 : Bn 9000 (b * b') := (hb.mul hb').le (by decide)
  unfold g_sub
  simp [s1, s2, s3, s4, s5, h, h']
theorem g_mul_e (ha : Bn 4000 a) (hb : Bn 4000 b) (ha' : Bn 4000 a') (hb' : Bn 4000 b') (h : b ≠ 0) (h' : b' ≠ 0) : g_mul x c [.val (rt c a b), .val (rt c a' b')] = .rt (.own (rt c (nt (a * a') (b * b')) (nb (a * a') (b * b')))) [.val (rt c a b), .val (rt c a' b')] := by
  have s1 := ha.sm (by decide); have s2 := hb.sm (by decide); have s3 := ha'.sm (by decide); have s4 := hb'.sm (by decide)
  have s5 : Bn 9000 (b * b') := (hb.mul hb').le (by decide)
  unfold g_mul
  simp [s1, s2, s3, s4, s5, h, h']
theorem g_quo_e (ha : Bn 4000 a) (hb : Bn 4000 b) (ha' : Bn 4000 a') (hb' : Bn 4000 b') (h : b ≠ 0) (h' : a' ≠ 0) : g_quo x c [.val (rt c a b), .val (rt c a' b')] = .rt (.own (rt c (nt (a * b') (b * a')) (nb (a * b') (b * a')))) [.val (rt c a b), .val (rt c a' b')] := by
  have s1 := ha.sm (by decide); have s2 := hb.sm (by decide); have s3 := ha'.sm (by decide); have s4 := hb'.sm (by decide)
  have s5 : Bn 9000 (b * a') := (hb.mul ha').le (by decide)
  unfold g_quo
  simp [s1, s2, s3, s4, s5, h, h']
theorem g_quo_x (ha : Bn 4000 a) (hb : Bn 4000 b) (hb' : Bn 4000 b') : g_quo x c [.val (rt c a b), .val (rt c 0 b')] = .ex ⟨x, []⟩ [.val (rt c a b), .val (rt c 0 b')] := by
  have s1 := ha.sm (by decide); have s2 := hb.sm (by decide); have s4 := hb'.sm (by decide)
  have s3 : Sm 0 := by simp
  unfold g_quo
  simp [s1, s2, s3, s4]
theorem g_neg_e (hb : Bn 9000 b) (h : b ≠ 0) : g_neg x c [.val (rt c a b)] = .rt (.own (rt c (nt (-a) b) (nb (-a) b))) [.val (rt c a b)] := by
  unfold g_neg
  simp [hb, h]
def g_is (tR tB : Ty → Option Bool) : MS := mkFn 2 0 [] (sSeq (sIf (tOrM (tNotM (tTru (eUn (isiD tR) (eVar 0)))) (tOrM (tTru (eUn (isiD tB) (eFld c 0 (eVar 0)))) (tTru (eUn (isiD tB) (eFld c 1 (eVar 0))))))
    (sRet [] (eC (.bl false)))
    sNil)
    (sRet [] (eAnd (eOp eqD (eFld c 0 (eVar 0)) (eOp ixD (eVar 1) (eC (.int 0)))) (eOp eqD (eFld c 1 (eVar 0)) (eOp ixD (eVar 1) (eC (.int 1)))))))
@[simp] theorem truD_b (b : Bool) : truD (.bl b) = some b := rfl
@[simp] theorem addD_l (a b : List D) (h : a.length + b.length ≤ 1000000) : addD (.lst a) (.lst b) = some (.own (.lst (a ++ b))) := by
  show (if a.length + b.length ≤ 1000000 then _ else _) = _
  rw [if_pos h]
@[simp] theorem addD_t (a b : List D) (h : a.length + b.length ≤ 1000000) (ha : a ≠ []) (hb : b ≠ []) : addD (.tup a) (.tup b) = some (.own (.tup (a ++ b))) := by
  show (if a.length + b.length ≤ 1000000 ∧ a ≠ [] ∧ b ≠ [] then _ else _) = _
  rw [if_pos ⟨h, ha, hb⟩]
@[simp] theorem intD_b (b : Bool) : intD (.bl b) = some (.val (.int (if b = true then 1 else 0))) := rfl
@[simp] theorem truD_i (i : Int) : truD (.int i) = some (i != 0) := rfl
@[simp] theorem truD_n : truD .non = some false := rfl
theorem g_is_e (tR tB : Ty → Option Bool) (h1 : tR (.own c) = some true) (h2 : tB .int = some false) (t b : Int) : g_is c tR tB [.val (rt c t b), .val (.tup [.int t, .int b])] = .rt (.val (.bl true)) [.val (rt c t b), .val (.tup [.int t, .int b])] := by
  unfold g_is
  simp [isiD, tyD, h1, h2]
end
def g_pair : MS := mkFn 2 2 [] (sSeq (sSet 2 (eUn absD (eVar 0)))
    (sSeq (sSet 3 (eUn absD (eVar 1)))
    (sSeq (whL 100000 (tV (eOp gtD (eVar 3) (eC (.int 0)))) (sPar 2 3 (aC (eVar 3) (aC (eOp modD (eUn intD (eVar 2)) (eUn intD (eVar 3))) aN))))
    (sSeq (sIf (tV (eOp ltD (eVar 1) (eC (.int 0))))
    (sSet 2 (eOp subD (eC (.int 0)) (eVar 2)))
    sNil)
    (sRet [] (eTup (aC (eOp fdivD (eVar 0) (eVar 2)) (aC (eOp fdivD (eVar 1) (eVar 2)) aN))))))))
theorem g_pair_e (n d : Int) (h : d ≠ 0) (hd : Bn 9000 d) : g_pair [.val (.int n), .val (.int d)] = .rt (.val (.tup [.int (nt n d), .int (nb n d)])) [.val (.int n), .val (.int d)] := by
  have s0 := gcd_sm (n := n) h hd
  have s1 : Int.gcd n d ≠ 0 := fun z => h (Int.gcd_eq_zero_iff.mp z).2
  obtain ⟨g, h1, h2, h3⟩ := euclid (t := tV (eOp gtD (eVar 3) (eC (.int 0)))) (bd := sPar 2 3 (aC (eVar 3) (aC (eOp modD (eUn intD (eVar 2)) (eUn intD (eVar 3))) aN))) (st := fun a b => [.val (.int n), .val (.int d), .val (.int a), .val (.int b)]) (fun a b => 0 ≤ a ∧ 0 ≤ b) (fun a b p => by
      have : (0 < b) ↔ ¬ (b = 0) := by omega
      simp [this]) (fun a b _ h => by simp [h]) (fun a b p h => ⟨p.2, Int.fmod_nonneg_of_pos a (by omega)⟩) 9000 100000 n.natAbs d.natAbs ⟨by omega, by omega⟩ (by rw [Int.natAbs_natCast]; exact hd) (by decide)
  have e : g = (Int.gcd n d : Int) := by
    have : Int.gcd (n.natAbs : Int) (d.natAbs : Int) = Int.gcd n d := rfl
    omega
  subst e
  unfold g_pair nt nb sg
  by_cases z : d < 0
  · simp [h3, z, s0, s1]
  · simp [h3, z, s0, s1]

/-! ### drawn numbers of up to 130 digits -/
def g_far : MS := mkFn 1 2 [0] (sSeq (sSet 1 (eC (.int 0)))
    (sSeq (sFor (gN 2) (iRg1 (eOp addD (eC (.int 1)) (eCall g_draw (cB (eVar 0) (cV (eC (.int 13)) cN)))))
    (sSet 1 (eOp addD (eOp mulD (eVar 1) (eOp powD (eC (.int 10)) (eC (.int 10)))) (eCall g_draw (cB (eVar 0) (cV (eOp powD (eC (.int 10)) (eC (.int 10))) cN))))))
    (sRet [0] (eVar 1))))
def g_whole : MS := mkFn 1 1 [0] (sSeq (sSet 1 (eCall g_draw (cB (eVar 0) (cV (eC (.int 6)) cN))))
    (sSeq (sIf (tV (eOp ltD (eVar 1) (eC (.int 4))))
    (sRet [0] (eOp subD (eCall g_draw (cB (eVar 0) (cV (eC (.int 25)) cN))) (eC (.int 12))))
    sNil)
    (sSeq (sIf (tV (eOp eqD (eVar 1) (eC (.int 4))))
    (sRet [0] (eOp addD (eOp subD (eOp mulD (eOp powD (eC (.int 10)) (eC (.int 60))) (eOp powD (eC (.int 10)) (eC (.int 60)))) (eC (.int 2))) (eCall g_draw (cB (eVar 0) (cV (eC (.int 4)) cN)))))
    sNil)
    (sRet [0] (eOp mulD (eCall g_far (cB (eVar 0) cN)) (eOp subD (eC (.int 1)) (eOp mulD (eC (.int 2)) (eCall g_draw (cB (eVar 0) (cV (eC (.int 2)) cN))))))))))
def g_dpair : MS := mkFn 1 1 [0] (sSeq (sSet 1 (eCall g_whole (cB (eVar 0) cN)))
    (sSeq (sIf (tV (eOp eqD (eVar 1) (eC (.int 0))))
    (sSet 1 (eC (.int 7)))
    sNil)
    (sRet [0] (eCall g_pair (cV (eCall g_whole (cB (eVar 0) cN)) (cV (eVar 1) cN))))))
@[simp] theorem g_draw_s {s : Stm} {m : Int} (hm : Dm m) (hs : s.Ok) : g_draw [.own s.d, .val (.int m)] = .rt (.val (.int (s.dv m))) [.own (s.dr m).d, .val (.int m)] := g_draw_e hm hs
@[simp] theorem Stm.dr_ok {s : Stm} {m : Int} (hm : Dm m) (h : s.Ok) : (s.dr m).Ok := h.dr hm
def Big (a : Int) : Prop := a.natAbs < 10 ^ 130
theorem Big.bn {a : Int} (h : Big a) : Bn 432 a := Nat.lt_trans h (by decide +kernel)
theorem ipow_le {i j : Nat} (h : i ≤ j) : (10 : Int) ^ i ≤ 10 ^ j := by
  have := Nat.pow_le_pow_right (n := 10) (by decide) h
  exact_mod_cast this
theorem lt_pow (j : Nat) : ((10 : Int) ^ 10) ^ j = 10 ^ (10 * j) := by rw [Int.pow_mul]
theorem far_loop : ∀ (ds : List D) (j : Nat) (s : Stm) (f : Int) (x : LV), s.Ok → 0 ≤ f → f < (10000000000 : Int) ^ j → j + ds.length ≤ 13 → ∃ (s' : Stm) (f' : Int) (x' : LV), s'.Ok ∧ 0 ≤ f' ∧ f' < 10 ^ 130 ∧
    forL (gN 2) (sSet 1 (eOp addD (eOp mulD (eVar 1) (eOp powD (eC (.int 10)) (eC (.int 10)))) (eCall g_draw (cB (eVar 0) (cV (eOp powD (eC (.int 10)) (eC (.int 10))) cN))))) ds [.own s.d, .val (.int f), x] = .nx [.own s'.d, .val (.int f'), x']
  | [], j, s, f, x, hs, h0, h1, hl => by
    refine ⟨s, f, x, hs, h0, Int.lt_of_lt_of_le h1 ?_, rfl⟩
    simp at hl
    have : (10000000000 : Int) ^ j = 10 ^ (10 * j) := lt_pow j
    rw [this]
    exact ipow_le (by omega)
  | d :: ds, j, s, f, x, hs, h0, h1, hl => by
    simp at hl
    have dm : Dm 10000000000 := by simp
    have v0 := s.dv_0 dm
    have v1 := s.dv_1 dm
    have g1 : f * 10000000000 + s.dv 10000000000 < (10000000000 : Int) ^ (j + 1) := by
      rw [Int.pow_succ]
      have : f + 1 ≤ (10000000000 : Int) ^ j := h1
      omega
    obtain ⟨s', f', x', i1, i2, i3, i4⟩ := far_loop ds (j + 1) (s.dr 10000000000) (f * 10000000000 + s.dv 10000000000) (.val d) (hs.dr dm) (by omega) g1 (by omega)
    refine ⟨s', f', x', i1, i2, i3, ?_⟩
    have sf : Sm f := by
      refine Sm_bd (B := 10 ^ 130) (by simp) (by have : (0:Int) ≤ 10 ^ 130 := by decide
                                                 omega) (Int.le_of_lt (Int.lt_of_lt_of_le h1 ?_))
      have : (10000000000 : Int) ^ j = 10 ^ (10 * j) := lt_pow j
      rw [this]
      exact ipow_le (by omega)
    rw [← i4]
    simp [hs, sf]
theorem far_e (s : Stm) (hs : s.Ok) : ∃ (s' : Stm) (f : Int), s'.Ok ∧ 0 ≤ f ∧ f < 10 ^ 130 ∧ g_far [.own s.d] = .rt (.val (.int f)) [.own s'.d] := by
  have dm : Dm 13 := by simp
  have v0 := s.dv_0 dm
  have v1 := s.dv_1 dm
  have rg : Rg (1 + s.dv 13) := by unfold Rg; omega
  obtain ⟨s', f', x', i1, i2, i3, i4⟩ := far_loop (rgL 0 (1 + s.dv 13).toNat) 0 (s.dr 13) 0 .un (hs.dr dm) (by omega) (by simp) (by simp [rgL]; omega)
  refine ⟨s', f', i1, i2, i3, ?_⟩
  unfold g_far
  simp [hs, rg, i4]
theorem whole_e (s : Stm) (hs : s.Ok) : ∃ (s' : Stm) (f : Int), s'.Ok ∧ Big f ∧ g_whole [.own s.d] = .rt (.val (.int f)) [.own s'.d] := by
  have dm : ∀ s : Stm, 0 ≤ s.dv 6 ∧ s.dv 6 < 6 := fun s => ⟨s.dv_0 (by simp), s.dv_1 (by simp)⟩
  have dm2 : ∀ s : Stm, 0 ≤ s.dv 25 ∧ s.dv 25 < 25 := fun s => ⟨s.dv_0 (by simp), s.dv_1 (by simp)⟩
  have dm3 : ∀ s : Stm, 0 ≤ s.dv 4 ∧ s.dv 4 < 4 := fun s => ⟨s.dv_0 (by simp), s.dv_1 (by simp)⟩
  have dm4 : ∀ s : Stm, 0 ≤ s.dv 2 ∧ s.dv 2 < 2 := fun s => ⟨s.dv_0 (by simp), s.dv_1 (by simp)⟩
  have o1 : (s.dr 6).Ok := hs.dr (by simp)
  unfold g_whole
  by_cases z : s.dv 6 < 4
  · refine ⟨(s.dr 6).dr 25, (s.dr 6).dv 25 - 12, o1.dr (by simp), ?_, ?_⟩
    · have := dm2 (s.dr 6); unfold Big; omega
    · simp [hs, z, o1]
  · by_cases y : s.dv 6 = 4
    · refine ⟨(s.dr 6).dr 4, 10 ^ 120 - 2 + (s.dr 6).dv 4, o1.dr (by simp), ?_, ?_⟩
      · have := dm3 (s.dr 6); unfold Big; omega
      · simp [hs, y, o1]
    · obtain ⟨s', f, h1, h2, h3, h4⟩ := far_e (s.dr 6) o1
      refine ⟨s'.dr 2, f * (1 - 2 * s'.dv 2), h1.dr (by simp), ?_, ?_⟩
      · have := dm4 s'
        rcases (show s'.dv 2 = 0 ∨ s'.dv 2 = 1 by omega) with e | e <;> rw [e] <;> unfold Big <;> omega
      · have sf : Sm f := Sm_bd (B := 10 ^ 130) (by simp) (by omega) (by omega)
        have sg : Sm (s'.dv 2) := Sm_bd (B := 2) (by simp) (by have := dm4 s'; omega) (by have := dm4 s'; omega)
        have sh : Sm (1 - 2 * s'.dv 2) := Sm_bd (B := 4) (by simp) (by have := dm4 s'; omega) (by have := dm4 s'; omega)
        simp [hs, y, z, o1, h4, h1, sf, sg, sh]
theorem dpair_e (s : Stm) (hs : s.Ok) : ∃ (s' : Stm) (n d : Int), s'.Ok ∧ Bn 432 n ∧ Bn 432 d ∧ Low n d ∧ g_dpair [.own s.d] = .rt (.val (.tup [.int n, .int d])) [.own s'.d] := by
  obtain ⟨s1, d, o1, b1, e1⟩ := whole_e s hs
  obtain ⟨s2, n, o2, b2, e2⟩ := whole_e s1 o1
  unfold g_dpair
  by_cases z : d = 0
  · subst z
    have b7 : Bn 432 7 := by unfold Bn; decide +kernel
    have := g_pair_e n 7 (by decide) (b7.le (by decide))
    refine ⟨s2, nt n 7, nb n 7, o2, b2.bn.nt, b7.nb, low_of (by decide), ?_⟩
    simp [e1, e2, this]
  · have := g_pair_e n d z (b1.bn.le (by decide))
    refine ⟨s2, nt n d, nb n d, o2, b2.bn.nt, b1.bn.nb, low_of z, ?_⟩
    simp [e1, e2, this, z]
end Mi

end
section
set_option maxRecDepth 100000
namespace LawP
open PySem L2 Mi
/-! ### the text by places -/
def top (i : Nat) : Stmt := PySem.Challenge.pw_linkwork_k05_powers.main.body.getD i (.Pass ⟨0, 0, 0, 0⟩)
abbrev s_greatest_divisor : Stmt := top 4
abbrev s_Ratio_init : Stmt := inClass (top 5) 0
abbrev s_law_draw : Stmt := top 10
abbrev s_law_pair : Stmt := top 11
abbrev s_law_far : Stmt := top 13
abbrev s_law_whole : Stmt := top 14
abbrev s_law_drawn_pair : Stmt := top 15
abbrev s_law_is : Stmt := top 12
abbrev s_law_signed : Stmt := top 16
abbrev s_law_stream : Stmt := top 9
abbrev s_Ratio_mul : Stmt := inClass (top 5) 6
abbrev s_quotient : Stmt := top 6
abbrev s_power : Stmt := top 7
abbrev s_law : Stmt := top 17
theorem sc_greatest_divisor : FnScope ["a", "b"] ["a", "b"] (defScope s_greatest_divisor) := ⟨rfl, rfl, rfl, by decide +kernel, rfl, by decide +kernel, by decide +kernel⟩
theorem v_greatest_divisor_0 : VarOk ["a", "b"] (defScope s_greatest_divisor) 0 "a" := ⟨rfl, by first | exact .inl rfl | exact .inr (.inl rfl), by decide +kernel, by decide +kernel⟩
theorem v_greatest_divisor_1 : VarOk ["a", "b"] (defScope s_greatest_divisor) 1 "b" := ⟨rfl, by first | exact .inl rfl | exact .inr (.inl rfl), by decide +kernel, by decide +kernel⟩
theorem sc_Ratio_init : FnScope ["self", "numerator", "denominator", "divisor"] ["self", "numerator", "denominator"] (defScope s_Ratio_init) := ⟨rfl, rfl, rfl, by decide +kernel, rfl, by decide +kernel, by decide +kernel⟩
theorem v_Ratio_init_0 : VarOk ["self", "numerator", "denominator", "divisor"] (defScope s_Ratio_init) 0 "self" := ⟨rfl, by first | exact .inl rfl | exact .inr (.inl rfl), by decide +kernel, by decide +kernel⟩
theorem v_Ratio_init_1 : VarOk ["self", "numerator", "denominator", "divisor"] (defScope s_Ratio_init) 1 "numerator" := ⟨rfl, by first | exact .inl rfl | exact .inr (.inl rfl), by decide +kernel, by decide +kernel⟩
theorem v_Ratio_init_2 : VarOk ["self", "numerator", "denominator", "divisor"] (defScope s_Ratio_init) 2 "denominator" := ⟨rfl, by first | exact .inl rfl | exact .inr (.inl rfl), by decide +kernel, by decide +kernel⟩
theorem v_Ratio_init_3 : VarOk ["self", "numerator", "denominator", "divisor"] (defScope s_Ratio_init) 3 "divisor" := ⟨rfl, by first | exact .inl rfl | exact .inr (.inl rfl), by decide +kernel, by decide +kernel⟩
theorem sc_law_draw : FnScope ["_law_stream_here", "_law_many", "_law_value"] ["_law_stream_here", "_law_many"] (defScope s_law_draw) := ⟨rfl, rfl, rfl, by decide +kernel, rfl, by decide +kernel, by decide +kernel⟩
theorem v_law_draw_0 : VarOk ["_law_stream_here", "_law_many", "_law_value"] (defScope s_law_draw) 0 "_law_stream_here" := ⟨rfl, by first | exact .inl rfl | exact .inr (.inl rfl), by decide +kernel, by decide +kernel⟩
theorem v_law_draw_1 : VarOk ["_law_stream_here", "_law_many", "_law_value"] (defScope s_law_draw) 1 "_law_many" := ⟨rfl, by first | exact .inl rfl | exact .inr (.inl rfl), by decide +kernel, by decide +kernel⟩
theorem v_law_draw_2 : VarOk ["_law_stream_here", "_law_many", "_law_value"] (defScope s_law_draw) 2 "_law_value" := ⟨rfl, by first | exact .inl rfl | exact .inr (.inl rfl), by decide +kernel, by decide +kernel⟩
theorem sc_law_pair : FnScope ["_law_n", "_law_d", "_law_a", "_law_b"] ["_law_n", "_law_d"] (defScope s_law_pair) := ⟨rfl, rfl, rfl, by decide +kernel, rfl, by decide +kernel, by decide +kernel⟩
theorem v_law_pair_0 : VarOk ["_law_n", "_law_d", "_law_a", "_law_b"] (defScope s_law_pair) 0 "_law_n" := ⟨rfl, by first | exact .inl rfl | exact .inr (.inl rfl), by decide +kernel, by decide +kernel⟩
theorem v_law_pair_1 : VarOk ["_law_n", "_law_d", "_law_a", "_law_b"] (defScope s_law_pair) 1 "_law_d" := ⟨rfl, by first | exact .inl rfl | exact .inr (.inl rfl), by decide +kernel, by decide +kernel⟩
theorem v_law_pair_2 : VarOk ["_law_n", "_law_d", "_law_a", "_law_b"] (defScope s_law_pair) 2 "_law_a" := ⟨rfl, by first | exact .inl rfl | exact .inr (.inl rfl), by decide +kernel, by decide +kernel⟩
theorem v_law_pair_3 : VarOk ["_law_n", "_law_d", "_law_a", "_law_b"] (defScope s_law_pair) 3 "_law_b" := ⟨rfl, by first | exact .inl rfl | exact .inr (.inl rfl), by decide +kernel, by decide +kernel⟩
theorem sc_law_far : FnScope ["_law_stream_here", "_law_found", "_law_k"] ["_law_stream_here"] (defScope s_law_far) := ⟨rfl, rfl, rfl, by decide +kernel, rfl, by decide +kernel, by decide +kernel⟩
theorem v_law_far_0 : VarOk ["_law_stream_here", "_law_found", "_law_k"] (defScope s_law_far) 0 "_law_stream_here" := ⟨rfl, by first | exact .inl rfl | exact .inr (.inl rfl), by decide +kernel, by decide +kernel⟩
theorem v_law_far_1 : VarOk ["_law_stream_here", "_law_found", "_law_k"] (defScope s_law_far) 1 "_law_found" := ⟨rfl, by first | exact .inl rfl | exact .inr (.inl rfl), by decide +kernel, by decide +kernel⟩
theorem v_law_far_2 : VarOk ["_law_stream_here", "_law_found", "_law_k"] (defScope s_law_far) 2 "_law_k" := ⟨rfl, by first | exact .inl rfl | exact .inr (.inl rfl), by decide +kernel, by decide +kernel⟩
theorem sc_law_whole : FnScope ["_law_stream_here", "_law_pick"] ["_law_stream_here"] (defScope s_law_whole) := ⟨rfl, rfl, rfl, by decide +kernel, rfl, by decide +kernel, by decide +kernel⟩
theorem v_law_whole_0 : VarOk ["_law_stream_here", "_law_pick"] (defScope s_law_whole) 0 "_law_stream_here" := ⟨rfl, by first | exact .inl rfl | exact .inr (.inl rfl), by decide +kernel, by decide +kernel⟩
theorem v_law_whole_1 : VarOk ["_law_stream_here", "_law_pick"] (defScope s_law_whole) 1 "_law_pick" := ⟨rfl, by first | exact .inl rfl | exact .inr (.inl rfl), by decide +kernel, by decide +kernel⟩
theorem sc_law_drawn_pair : FnScope ["_law_stream_here", "_law_d"] ["_law_stream_here"] (defScope s_law_drawn_pair) := ⟨rfl, rfl, rfl, by decide +kernel, rfl, by decide +kernel, by decide +kernel⟩
theorem v_law_drawn_pair_0 : VarOk ["_law_stream_here", "_law_d"] (defScope s_law_drawn_pair) 0 "_law_stream_here" := ⟨rfl, by first | exact .inl rfl | exact .inr (.inl rfl), by decide +kernel, by decide +kernel⟩
theorem v_law_drawn_pair_1 : VarOk ["_law_stream_here", "_law_d"] (defScope s_law_drawn_pair) 1 "_law_d" := ⟨rfl, by first | exact .inl rfl | exact .inr (.inl rfl), by decide +kernel, by decide +kernel⟩
theorem sc_law_is : FnScope ["_law_value", "_law_pair_here"] ["_law_value", "_law_pair_here"] (defScope s_law_is) := ⟨rfl, rfl, rfl, by decide +kernel, rfl, by decide +kernel, by decide +kernel⟩
theorem v_law_is_0 : VarOk ["_law_value", "_law_pair_here"] (defScope s_law_is) 0 "_law_value" := ⟨rfl, by first | exact .inl rfl | exact .inr (.inl rfl), by decide +kernel, by decide +kernel⟩
theorem v_law_is_1 : VarOk ["_law_value", "_law_pair_here"] (defScope s_law_is) 1 "_law_pair_here" := ⟨rfl, by first | exact .inl rfl | exact .inr (.inl rfl), by decide +kernel, by decide +kernel⟩
theorem sc_law_signed : FnScope ["_law_n", "_law_d"] ["_law_n", "_law_d"] (defScope s_law_signed) := ⟨rfl, rfl, rfl, by decide +kernel, rfl, by decide +kernel, by decide +kernel⟩
theorem v_law_signed_0 : VarOk ["_law_n", "_law_d"] (defScope s_law_signed) 0 "_law_n" := ⟨rfl, by first | exact .inl rfl | exact .inr (.inl rfl), by decide +kernel, by decide +kernel⟩
theorem v_law_signed_1 : VarOk ["_law_n", "_law_d"] (defScope s_law_signed) 1 "_law_d" := ⟨rfl, by first | exact .inl rfl | exact .inr (.inl rfl), by decide +kernel, by decide +kernel⟩
theorem sc_law_stream : FnScope ["_law_script", "_law_mixed", "_law_cell"] ["_law_script"] (defScope s_law_stream) := ⟨rfl, rfl, rfl, by decide +kernel, rfl, by decide +kernel, by decide +kernel⟩
theorem v_law_stream_0 : VarOk ["_law_script", "_law_mixed", "_law_cell"] (defScope s_law_stream) 0 "_law_script" := ⟨rfl, by first | exact .inl rfl | exact .inr (.inl rfl), by decide +kernel, by decide +kernel⟩
theorem v_law_stream_1 : VarOk ["_law_script", "_law_mixed", "_law_cell"] (defScope s_law_stream) 1 "_law_mixed" := ⟨rfl, by first | exact .inl rfl | exact .inr (.inl rfl), by decide +kernel, by decide +kernel⟩
theorem v_law_stream_2 : VarOk ["_law_script", "_law_mixed", "_law_cell"] (defScope s_law_stream) 2 "_law_cell" := ⟨rfl, by first | exact .inl rfl | exact .inr (.inl rfl), by decide +kernel, by decide +kernel⟩
theorem sc_Ratio_mul : FnScope ["self", "other"] ["self", "other"] (defScope s_Ratio_mul) := ⟨rfl, rfl, rfl, by decide +kernel, rfl, by decide +kernel, by decide +kernel⟩
theorem v_Ratio_mul_0 : VarOk ["self", "other"] (defScope s_Ratio_mul) 0 "self" := ⟨rfl, by first | exact .inl rfl | exact .inr (.inl rfl), by decide +kernel, by decide +kernel⟩
theorem v_Ratio_mul_1 : VarOk ["self", "other"] (defScope s_Ratio_mul) 1 "other" := ⟨rfl, by first | exact .inl rfl | exact .inr (.inl rfl), by decide +kernel, by decide +kernel⟩
theorem sc_quotient : FnScope ["first", "second"] ["first", "second"] (defScope s_quotient) := ⟨rfl, rfl, rfl, by decide +kernel, rfl, by decide +kernel, by decide +kernel⟩
theorem v_quotient_0 : VarOk ["first", "second"] (defScope s_quotient) 0 "first" := ⟨rfl, by first | exact .inl rfl | exact .inr (.inl rfl), by decide +kernel, by decide +kernel⟩
theorem v_quotient_1 : VarOk ["first", "second"] (defScope s_quotient) 1 "second" := ⟨rfl, by first | exact .inl rfl | exact .inr (.inl rfl), by decide +kernel, by decide +kernel⟩
theorem sc_power : FnScope ["base", "exponent", "found", "_"] ["base", "exponent"] (defScope s_power) := ⟨rfl, rfl, rfl, by decide +kernel, rfl, by decide +kernel, by decide +kernel⟩
theorem v_power_0 : VarOk ["base", "exponent", "found", "_"] (defScope s_power) 0 "base" := ⟨rfl, by first | exact .inl rfl | exact .inr (.inl rfl), by decide +kernel, by decide +kernel⟩
theorem v_power_1 : VarOk ["base", "exponent", "found", "_"] (defScope s_power) 1 "exponent" := ⟨rfl, by first | exact .inl rfl | exact .inr (.inl rfl), by decide +kernel, by decide +kernel⟩
theorem v_power_2 : VarOk ["base", "exponent", "found", "_"] (defScope s_power) 2 "found" := ⟨rfl, by first | exact .inl rfl | exact .inr (.inl rfl), by decide +kernel, by decide +kernel⟩
theorem v_power_3 : VarOk ["base", "exponent", "found", "_"] (defScope s_power) 3 "_" := ⟨rfl, by first | exact .inl rfl | exact .inr (.inl rfl), by decide +kernel, by decide +kernel⟩
theorem sc_law : FnScope ["_law_script", "_law_stream_here", "_law_pair_here", "_law_exponent", "_law_n", "_law_d", "_law_k", "_law_actual"] ["_law_script"] (defScope s_law) := ⟨rfl, rfl, rfl, by decide +kernel, rfl, by decide +kernel, by decide +kernel⟩
theorem v_law_0 : VarOk ["_law_script", "_law_stream_here", "_law_pair_here", "_law_exponent", "_law_n", "_law_d", "_law_k", "_law_actual"] (defScope s_law) 0 "_law_script" := ⟨rfl, by first | exact .inl rfl | exact .inr (.inl rfl), by decide +kernel, by decide +kernel⟩
theorem v_law_1 : VarOk ["_law_script", "_law_stream_here", "_law_pair_here", "_law_exponent", "_law_n", "_law_d", "_law_k", "_law_actual"] (defScope s_law) 1 "_law_stream_here" := ⟨rfl, by first | exact .inl rfl | exact .inr (.inl rfl), by decide +kernel, by decide +kernel⟩
theorem v_law_2 : VarOk ["_law_script", "_law_stream_here", "_law_pair_here", "_law_exponent", "_law_n", "_law_d", "_law_k", "_law_actual"] (defScope s_law) 2 "_law_pair_here" := ⟨rfl, by first | exact .inl rfl | exact .inr (.inl rfl), by decide +kernel, by decide +kernel⟩
theorem v_law_3 : VarOk ["_law_script", "_law_stream_here", "_law_pair_here", "_law_exponent", "_law_n", "_law_d", "_law_k", "_law_actual"] (defScope s_law) 3 "_law_exponent" := ⟨rfl, by first | exact .inl rfl | exact .inr (.inl rfl), by decide +kernel, by decide +kernel⟩
theorem v_law_4 : VarOk ["_law_script", "_law_stream_here", "_law_pair_here", "_law_exponent", "_law_n", "_law_d", "_law_k", "_law_actual"] (defScope s_law) 4 "_law_n" := ⟨rfl, by first | exact .inl rfl | exact .inr (.inl rfl), by decide +kernel, by decide +kernel⟩
theorem v_law_5 : VarOk ["_law_script", "_law_stream_here", "_law_pair_here", "_law_exponent", "_law_n", "_law_d", "_law_k", "_law_actual"] (defScope s_law) 5 "_law_d" := ⟨rfl, by first | exact .inl rfl | exact .inr (.inl rfl), by decide +kernel, by decide +kernel⟩
theorem v_law_6 : VarOk ["_law_script", "_law_stream_here", "_law_pair_here", "_law_exponent", "_law_n", "_law_d", "_law_k", "_law_actual"] (defScope s_law) 6 "_law_k" := ⟨rfl, by first | exact .inl rfl | exact .inr (.inl rfl), by decide +kernel, by decide +kernel⟩
theorem v_law_7 : VarOk ["_law_script", "_law_stream_here", "_law_pair_here", "_law_exponent", "_law_n", "_law_d", "_law_k", "_law_actual"] (defScope s_law) 7 "_law_actual" := ⟨rfl, by first | exact .inl rfl | exact .inr (.inl rfl), by decide +kernel, by decide +kernel⟩
/-! ### the mirrors -/
def xt_LinkworkError : Nat → Option Bool := fun k => match k with
  | 0 => some true
  | 1 => some true
  | _ => none
def xt_ByZero : Nat → Option Bool := fun k => match k with
  | 0 => some false
  | 1 => some true
  | _ => none
def tb_Ratio : Ty → Option Bool := fun k => match k with
  | .non => some false
  | .bl => some false
  | .int => some false
  | .str => some false
  | .tup => some false
  | .lst => some false
  | .dct => some false
  | .own 2 => some true
  | _ => none
def tb_bool : Ty → Option Bool := fun k => match k with
  | .non => some false
  | .bl => some true
  | .int => some false
  | .str => some false
  | .tup => some false
  | .lst => some false
  | .dct => some false
  | .own 2 => some false
  | _ => none
def m_greatest_divisor : MS := mkFn 2 0 [] (sSeq (whL 100000 (tV (eOp neD (eVar 1) (eC (.int 0)))) (sPar 0 1 (aC (eVar 1) (aC (eOp modD (eVar 0) (eVar 1)) aN))))
    (sRet [] (eUn absD (eVar 0))))
def m_Ratio_init : MS := mkFn 3 1 [0] (sSeq (sIf (tV (eOp eqD (eVar 2) (eC (.int 0))))
    (sRaise ⟨1, []⟩)
    sNil)
    (sSeq (sSet 3 (eCall m_greatest_divisor (cV (eVar 1) (cV (eVar 2) cN))))
    (sSeq (sIf (tV (eOp ltD (eVar 2) (eC (.int 0))))
    (sSet 3 (eUn negD (eVar 3)))
    sNil)
    (sSeq (sFldM 0 2 0 (eOp fdivD (eVar 1) (eVar 3)))
    (sFldM 0 2 1 (eOp fdivD (eVar 2) (eVar 3)))))))
def m_law_draw : MS := mkFn 2 1 [0] (sSeq (sIf (tAndM (tV (eOp eqD (eOp ixD (eVar 0) (eC (.int 1))) (eC (.int 0)))) (tV (eOp ltD (eOp ixD (eVar 0) (eC (.int 2))) (eUn lenD (eOp ixD (eVar 0) (eC (.int 0)))))))
    (sSeq (sStL 0 (eC (.int 1)) (eUn absD (eUn intD (eOp ixD (eOp ixD (eVar 0) (eC (.int 0))) (eOp ixD (eVar 0) (eC (.int 2)))))))
    (sStL 0 (eC (.int 2)) (eOp addD (eOp ixD (eVar 0) (eC (.int 2))) (eC (.int 1)))))
    sNil)
    (sSeq (sIf (tV (eOp eqD (eOp ixD (eVar 0) (eC (.int 1))) (eC (.int 0))))
    (sSeq (sStL 0 (eC (.int 3)) (eOp modD (eUn intD (eOp addD (eOp mulD (eOp ixD (eVar 0) (eC (.int 3))) (eC (.int 48271))) (eC (.int 11)))) (eC (.int 2147483647))))
    (sRet [0] (eOp modD (eUn intD (eOp fdivD (eOp ixD (eVar 0) (eC (.int 3))) (eC (.int 97)))) (eVar 1))))
    sNil)
    (sSeq (sSet 2 (eOp modD (eUn intD (eOp ixD (eVar 0) (eC (.int 1)))) (eVar 1)))
    (sSeq (sStL 0 (eC (.int 1)) (eOp fdivD (eOp ixD (eVar 0) (eC (.int 1))) (eVar 1)))
    (sRet [0] (eVar 2))))))
def m_law_pair : MS := mkFn 2 2 [] (sSeq (sSet 2 (eUn absD (eVar 0)))
    (sSeq (sSet 3 (eUn absD (eVar 1)))
    (sSeq (whL 100000 (tV (eOp gtD (eVar 3) (eC (.int 0)))) (sPar 2 3 (aC (eVar 3) (aC (eOp modD (eUn intD (eVar 2)) (eUn intD (eVar 3))) aN))))
    (sSeq (sIf (tV (eOp ltD (eVar 1) (eC (.int 0))))
    (sSet 2 (eOp subD (eC (.int 0)) (eVar 2)))
    sNil)
    (sRet [] (eTup (aC (eOp fdivD (eVar 0) (eVar 2)) (aC (eOp fdivD (eVar 1) (eVar 2)) aN))))))))
def m_law_far : MS := mkFn 1 2 [0] (sSeq (sSet 1 (eC (.int 0)))
    (sSeq (sFor (gN 2) (iRg1 (eOp addD (eC (.int 1)) (eCall m_law_draw (cB (eVar 0) (cV (eC (.int 13)) cN)))))
    (sSet 1 (eOp addD (eOp mulD (eVar 1) (eOp powD (eC (.int 10)) (eC (.int 10)))) (eCall m_law_draw (cB (eVar 0) (cV (eOp powD (eC (.int 10)) (eC (.int 10))) cN))))))
    (sRet [0] (eVar 1))))
def m_law_whole : MS := mkFn 1 1 [0] (sSeq (sSet 1 (eCall m_law_draw (cB (eVar 0) (cV (eC (.int 6)) cN))))
    (sSeq (sIf (tV (eOp ltD (eVar 1) (eC (.int 4))))
    (sRet [0] (eOp subD (eCall m_law_draw (cB (eVar 0) (cV (eC (.int 25)) cN))) (eC (.int 12))))
    sNil)
    (sSeq (sIf (tV (eOp eqD (eVar 1) (eC (.int 4))))
    (sRet [0] (eOp addD (eOp subD (eOp mulD (eOp powD (eC (.int 10)) (eC (.int 60))) (eOp powD (eC (.int 10)) (eC (.int 60)))) (eC (.int 2))) (eCall m_law_draw (cB (eVar 0) (cV (eC (.int 4)) cN)))))
    sNil)
    (sRet [0] (eOp mulD (eCall m_law_far (cB (eVar 0) cN)) (eOp subD (eC (.int 1)) (eOp mulD (eC (.int 2)) (eCall m_law_draw (cB (eVar 0) (cV (eC (.int 2)) cN))))))))))
def m_law_drawn_pair : MS := mkFn 1 1 [0] (sSeq (sSet 1 (eCall m_law_whole (cB (eVar 0) cN)))
    (sSeq (sIf (tV (eOp eqD (eVar 1) (eC (.int 0))))
    (sSet 1 (eC (.int 7)))
    sNil)
    (sRet [0] (eCall m_law_pair (cV (eCall m_law_whole (cB (eVar 0) cN)) (cV (eVar 1) cN))))))
def m_law_is : MS := mkFn 2 0 [] (sSeq (sIf (tOrM (tNotM (tTru (eUn (isiD tb_Ratio) (eVar 0)))) (tOrM (tTru (eUn (isiD tb_bool) (eFld 2 0 (eVar 0)))) (tTru (eUn (isiD tb_bool) (eFld 2 1 (eVar 0))))))
    (sRet [] (eC (.bl false)))
    sNil)
    (sRet [] (eAnd (eOp eqD (eFld 2 0 (eVar 0)) (eOp ixD (eVar 1) (eC (.int 0)))) (eOp eqD (eFld 2 1 (eVar 0)) (eOp ixD (eVar 1) (eC (.int 1)))))))
def m_law_signed : MS := mkFn 2 0 [] (sSeq (sIf (tV (eOp ltD (eVar 1) (eC (.int 0))))
    (sRet [] (eTup (aC (eOp subD (eC (.int 0)) (eVar 0)) (aC (eOp subD (eC (.int 0)) (eVar 1)) aN))))
    sNil)
    (sRet [] (eTup (aC (eVar 0) (aC (eVar 1) aN)))))
def m_law_stream : MS := mkFn 1 2 [] (sSeq (sSet 1 (eC (.int 17)))
    (sSeq (sFor (gN 2) (iLst (eVar 0))
    (sSet 1 (eOp modD (eUn intD (eOp addD (eOp addD (eOp mulD (eVar 1) (eC (.int 48271))) (eOp modD (eUn intD (eVar 2)) (eC (.int 65521)))) (eC (.int 1)))) (eC (.int 2147483647)))))
    (sRet [] (eLst (aC (eUn listD (eVar 0)) (aC (eC (.int 0)) (aC (eC (.int 0)) (aC (eVar 1) aN))))))))
def m_Ratio_mul : MS := mkFn 2 0 [] (sRet [] (eMake 2 m_Ratio_init [] (cV (eOp mulD (eFld 2 0 (eVar 0)) (eFld 2 0 (eVar 1))) (cV (eOp mulD (eFld 2 1 (eVar 0)) (eFld 2 1 (eVar 1))) cN))))
def m_quotient : MS := mkFn 2 0 [] (sRet [] (eMake 2 m_Ratio_init [] (cV (eOp mulD (eFld 2 0 (eVar 0)) (eFld 2 1 (eVar 1))) (cV (eOp mulD (eFld 2 1 (eVar 0)) (eFld 2 0 (eVar 1))) cN))))
def m_power : MS := mkFn 2 2 [] (sSeq (sSet 2 (eMake 2 m_Ratio_init [.int 1] (cV (eC (.int 1)) cN)))
    (sSeq (sFor (gN 3) (iRg1 (eUn absD (eVar 1)))
    (sSet 2 (eBin 2 m_Ratio_mul (eVar 2) (eVar 0))))
    (sSeq (sIf (tV (eOp ltD (eVar 1) (eC (.int 0))))
    (sRet [] (eCall m_quotient (cV (eMake 2 m_Ratio_init [.int 1] (cV (eC (.int 1)) cN)) (cV (eVar 2) cN))))
    sNil)
    (sRet [] (eVar 2)))))
def m_law : MS := mkFn 1 7 [] (sSeq (sSet 1 (eCall m_law_stream (cV (eVar 0) cN)))
    (sSeq (sSet 2 (eCall m_law_pair (cV (eOp subD (eCall m_law_draw (cB (eVar 1) (cV (eC (.int 25)) cN))) (eC (.int 12))) (cV (eOp addD (eC (.int 1)) (eCall m_law_draw (cB (eVar 1) (cV (eC (.int 12)) cN)))) cN))))
    (sSeq (sIf (tV (eOp eqD (eCall m_law_draw (cB (eVar 1) (cV (eC (.int 4)) cN))) (eC (.int 0))))
    (sSet 2 (eCall m_law_drawn_pair (cB (eVar 1) cN)))
    sNil)
    (sSeq (sSet 3 (eOp subD (eCall m_law_draw (cB (eVar 1) (cV (eC (.int 121)) cN))) (eC (.int 60))))
    (sSeq (sIf (tV (eOp eqD (eCall m_law_draw (cB (eVar 1) (cV (eC (.int 3)) cN))) (eC (.int 0))))
    (sSet 3 (eOp subD (eCall m_law_draw (cB (eVar 1) (cV (eC (.int 7)) cN))) (eC (.int 3))))
    sNil)
    (sSeq (sIf (tOrM (tV (eOp gtD (eUn absD (eOp ixD (eVar 2) (eC (.int 0)))) (eOp powD (eC (.int 10)) (eC (.int 6))))) (tV (eOp gtD (eOp ixD (eVar 2) (eC (.int 1))) (eOp powD (eC (.int 10)) (eC (.int 6))))))
    (sSet 3 (eOp subD (eCall m_law_draw (cB (eVar 1) (cV (eC (.int 9)) cN))) (eC (.int 4))))
    sNil)
    (sSeq (sSet 4 (eC (.int 1)))
    (sSeq (sSet 5 (eC (.int 1)))
    (sSeq (sFor (gN 6) (iRg1 (eUn absD (eVar 3)))
    (sSeq (sSet 4 (eOp mulD (eVar 4) (eOp ixD (eVar 2) (eC (.int 0)))))
    (sSet 5 (eOp mulD (eVar 5) (eOp ixD (eVar 2) (eC (.int 1)))))))
    (sSeq (sIf (tV (eOp ltD (eVar 3) (eC (.int 0))))
    (sPar 4 5 (aC (eVar 5) (aC (eVar 4) aN)))
    sNil)
    (sSeq (sTryO xt_ByZero (sSet 7 (eCall m_power (cV (eMake 2 m_Ratio_init [] (cV (eOp ixD (eVar 2) (eC (.int 0))) (cV (eOp ixD (eVar 2) (eC (.int 1))) cN))) (cV (eVar 3) cN))))
    (fun y => (sRet [] (eOp eqD (eVar 5) (eC (.int 0))))))
    (sSeq (sIf (tV (eOp eqD (eVar 5) (eC (.int 0))))
    (sRet [] (eC (.bl false)))
    sNil)
    (sRet [] (eCall m_law_is (cV (eVar 7) (cV (eCall m_law_signed (cV (eVar 4) (cV (eVar 5) cN))) cN))))))))))))))))
/-! ### what the top leaves -/
structure Ads where
  a_greatest_divisor : Addr
  fd_greatest_divisor : FuncData
  a_Ratio_init : Addr
  fd_Ratio_init : FuncData
  a_law_draw : Addr
  fd_law_draw : FuncData
  a_law_pair : Addr
  fd_law_pair : FuncData
  a_law_far : Addr
  fd_law_far : FuncData
  a_law_whole : Addr
  fd_law_whole : FuncData
  a_law_drawn_pair : Addr
  fd_law_drawn_pair : FuncData
  a_law_is : Addr
  fd_law_is : FuncData
  a_law_signed : Addr
  fd_law_signed : FuncData
  a_law_stream : Addr
  fd_law_stream : FuncData
  a_Ratio_mul : Addr
  fd_Ratio_mul : FuncData
  a_quotient : Addr
  fd_quotient : FuncData
  a_power : Addr
  fd_power : FuncData
  a_law : Addr
  fd_law : FuncData
  c_LinkworkError : Addr
  c_ByZero : Addr
  c_Ratio : Addr
abbrev enA (K : PySem.W.Frag) (A : Ads) : En := ⟨K, fun k => match k with
  | 0 => A.c_LinkworkError
  | 1 => A.c_ByZero
  | 2 => A.c_Ratio
  | _ => 0, fun k => match k with
  | 0 => []
  | 1 => []
  | 2 => ["top", "bottom"]
  | _ => []⟩
structure Txt (K : PySem.W.Frag) (mg : Str → Option Value) (A : Ads) : Prop where
  F_greatest_divisor : Fun K "greatest_divisor" "greatest_divisor" s_greatest_divisor A.a_greatest_divisor A.fd_greatest_divisor
  b_greatest_divisor : Binds K A.fd_greatest_divisor ["a", "b"] []
  p_greatest_divisor : PySem.W.keepIn K (.ref A.a_greatest_divisor) = true
  m_greatest_divisor : mg "greatest_divisor" = some (.ref A.a_greatest_divisor)
  F_Ratio_init : FunD K "__init__" "Ratio.__init__" (defArgs s_Ratio_init) (defBody s_Ratio_init) (defScope s_Ratio_init) [.int 1] [] A.a_Ratio_init A.fd_Ratio_init
  b_Ratio_init_2 : ∃ ds, Vals [.int 1] ds ∧ Binds K A.fd_Ratio_init ["self", "numerator", "denominator"] ds
  b_Ratio_init_3 : ∃ ds, Vals [] ds ∧ Binds K A.fd_Ratio_init ["self", "numerator", "denominator"] ds
  p_Ratio_init : PySem.W.keepIn K (.ref A.a_Ratio_init) = true
  F_law_draw : Fun K "_law_draw" "_law_draw" s_law_draw A.a_law_draw A.fd_law_draw
  b_law_draw : Binds K A.fd_law_draw ["_law_stream_here", "_law_many"] []
  p_law_draw : PySem.W.keepIn K (.ref A.a_law_draw) = true
  m_law_draw : mg "_law_draw" = some (.ref A.a_law_draw)
  F_law_pair : Fun K "_law_pair" "_law_pair" s_law_pair A.a_law_pair A.fd_law_pair
  b_law_pair : Binds K A.fd_law_pair ["_law_n", "_law_d"] []
  p_law_pair : PySem.W.keepIn K (.ref A.a_law_pair) = true
  m_law_pair : mg "_law_pair" = some (.ref A.a_law_pair)
  F_law_far : Fun K "_law_far" "_law_far" s_law_far A.a_law_far A.fd_law_far
  b_law_far : Binds K A.fd_law_far ["_law_stream_here"] []
  p_law_far : PySem.W.keepIn K (.ref A.a_law_far) = true
  m_law_far : mg "_law_far" = some (.ref A.a_law_far)
  F_law_whole : Fun K "_law_whole" "_law_whole" s_law_whole A.a_law_whole A.fd_law_whole
  b_law_whole : Binds K A.fd_law_whole ["_law_stream_here"] []
  p_law_whole : PySem.W.keepIn K (.ref A.a_law_whole) = true
  m_law_whole : mg "_law_whole" = some (.ref A.a_law_whole)
  F_law_drawn_pair : Fun K "_law_drawn_pair" "_law_drawn_pair" s_law_drawn_pair A.a_law_drawn_pair A.fd_law_drawn_pair
  b_law_drawn_pair : Binds K A.fd_law_drawn_pair ["_law_stream_here"] []
  p_law_drawn_pair : PySem.W.keepIn K (.ref A.a_law_drawn_pair) = true
  m_law_drawn_pair : mg "_law_drawn_pair" = some (.ref A.a_law_drawn_pair)
  F_law_is : Fun K "_law_is" "_law_is" s_law_is A.a_law_is A.fd_law_is
  b_law_is : Binds K A.fd_law_is ["_law_value", "_law_pair_here"] []
  p_law_is : PySem.W.keepIn K (.ref A.a_law_is) = true
  m_law_is : mg "_law_is" = some (.ref A.a_law_is)
  F_law_signed : Fun K "_law_signed" "_law_signed" s_law_signed A.a_law_signed A.fd_law_signed
  b_law_signed : Binds K A.fd_law_signed ["_law_n", "_law_d"] []
  p_law_signed : PySem.W.keepIn K (.ref A.a_law_signed) = true
  m_law_signed : mg "_law_signed" = some (.ref A.a_law_signed)
  F_law_stream : Fun K "_law_stream" "_law_stream" s_law_stream A.a_law_stream A.fd_law_stream
  b_law_stream : Binds K A.fd_law_stream ["_law_script"] []
  p_law_stream : PySem.W.keepIn K (.ref A.a_law_stream) = true
  m_law_stream : mg "_law_stream" = some (.ref A.a_law_stream)
  F_Ratio_mul : Fun K "__mul__" "Ratio.__mul__" s_Ratio_mul A.a_Ratio_mul A.fd_Ratio_mul
  b_Ratio_mul : Binds K A.fd_Ratio_mul ["self", "other"] []
  p_Ratio_mul : PySem.W.keepIn K (.ref A.a_Ratio_mul) = true
  o_Ratio_mul : OpO K A.c_Ratio "__mul__" A.a_Ratio_mul
  F_quotient : Fun K "quotient" "quotient" s_quotient A.a_quotient A.fd_quotient
  b_quotient : Binds K A.fd_quotient ["first", "second"] []
  p_quotient : PySem.W.keepIn K (.ref A.a_quotient) = true
  m_quotient : mg "quotient" = some (.ref A.a_quotient)
  F_power : Fun K "power" "power" s_power A.a_power A.fd_power
  b_power : Binds K A.fd_power ["base", "exponent"] []
  p_power : PySem.W.keepIn K (.ref A.a_power) = true
  m_power : mg "power" = some (.ref A.a_power)
  F_law : Fun K "law" "law" s_law A.a_law A.fd_law
  b_law : Binds K A.fd_law ["_law_script"] []
  p_law : PySem.W.keepIn K (.ref A.a_law) = true
  m_law : mg "law" = some (.ref A.a_law)
  m_LinkworkError : mg "LinkworkError" = some (.ref A.c_LinkworkError)
  ty_LinkworkError : PySem.W.typeIn K (.ref A.c_LinkworkError) = some (.type "type")
  hd_LinkworkError : PySem.W.hasDictIn K A.c_LinkworkError = true
  kp_LinkworkError : PySem.W.keepIn K (.ref A.c_LinkworkError) = true
  m_ByZero : mg "ByZero" = some (.ref A.c_ByZero)
  ty_ByZero : PySem.W.typeIn K (.ref A.c_ByZero) = some (.type "type")
  hd_ByZero : PySem.W.hasDictIn K A.c_ByZero = true
  kp_ByZero : PySem.W.keepIn K (.ref A.c_ByZero) = true
  m_Ratio : mg "Ratio" = some (.ref A.c_Ratio)
  ty_Ratio : PySem.W.typeIn K (.ref A.c_Ratio) = some (.type "type")
  hd_Ratio : PySem.W.hasDictIn K A.c_Ratio = true
  kp_Ratio : PySem.W.keepIn K (.ref A.c_Ratio) = true
  cl_Ratio : ClO K (enA K A) 2
  is_Ratio : IsO K A.c_Ratio
  mk_Ratio : Mk K A.c_Ratio A.a_Ratio_init
  sb_LinkworkError : PySem.W.subIn K (.ref A.c_LinkworkError) (.type "BaseException") = some true
  x_LinkworkError : PySem.W.excIn K A.c_LinkworkError [.type "ValueError", .type "Exception", .type "BaseException", .type "object"] "ValueError.__new__" = true
  se_LinkworkError_LinkworkError : PySem.W.subIn K (.ref A.c_LinkworkError) (.ref A.c_LinkworkError) = some true
  se_LinkworkError_ByZero : PySem.W.subIn K (.ref A.c_LinkworkError) (.ref A.c_ByZero) = some false
  sb_ByZero : PySem.W.subIn K (.ref A.c_ByZero) (.type "BaseException") = some true
  x_ByZero : PySem.W.excIn K A.c_ByZero [.type "ValueError", .type "Exception", .type "BaseException", .type "object"] "ValueError.__new__" = true
  se_ByZero_LinkworkError : PySem.W.subIn K (.ref A.c_ByZero) (.ref A.c_LinkworkError) = some true
  se_ByZero_ByZero : PySem.W.subIn K (.ref A.c_ByZero) (.ref A.c_ByZero) = some true
  s_NoneType_Ratio : PySem.W.subIn K (.type "NoneType") (.ref A.c_Ratio) = some false
  s_bool_Ratio : PySem.W.subIn K (.type "bool") (.ref A.c_Ratio) = some false
  s_int_Ratio : PySem.W.subIn K (.type "int") (.ref A.c_Ratio) = some false
  s_str_Ratio : PySem.W.subIn K (.type "str") (.ref A.c_Ratio) = some false
  s_tuple_Ratio : PySem.W.subIn K (.type "tuple") (.ref A.c_Ratio) = some false
  s_list_Ratio : PySem.W.subIn K (.type "list") (.ref A.c_Ratio) = some false
  s_dict_Ratio : PySem.W.subIn K (.type "dict") (.ref A.c_Ratio) = some false
  s_Ratio_bool : PySem.W.subIn K (.ref A.c_Ratio) (.type "bool") = some false
  n_abs : mg "abs" = none
  n_bool : mg "bool" = none
  n_int : mg "int" = none
  n_isinstance : mg "isinstance" = none
  n_len : mg "len" = none
  n_list : mg "list" = none
  n_range : mg "range" = none
section
variable {P : Program} {w : World} {K : PySem.W.Frag} {mg : Str → Option Value} {base : Heap} {A : Ads}
theorem xt_LinkworkError_ok (T : Txt K mg A) : ∀ k b, xt_LinkworkError k = some b → PySem.W.exmOne K (.ref ((enA K A).ct k)) (.ref A.c_LinkworkError) = some b
  | 0, b, h => by cases h; exact PySem.W.exm_ref T.sb_LinkworkError T.hd_LinkworkError T.ty_LinkworkError T.se_LinkworkError_LinkworkError
  | 1, b, h => by cases h; exact PySem.W.exm_ref T.sb_LinkworkError T.hd_LinkworkError T.ty_LinkworkError T.se_ByZero_LinkworkError
  | 2, b, h => by cases h
  | _ + 3, b, h => by cases h
theorem xt_ByZero_ok (T : Txt K mg A) : ∀ k b, xt_ByZero k = some b → PySem.W.exmOne K (.ref ((enA K A).ct k)) (.ref A.c_ByZero) = some b
  | 0, b, h => by cases h; exact PySem.W.exm_ref T.sb_ByZero T.hd_ByZero T.ty_ByZero T.se_LinkworkError_ByZero
  | 1, b, h => by cases h; exact PySem.W.exm_ref T.sb_ByZero T.hd_ByZero T.ty_ByZero T.se_ByZero_ByZero
  | 2, b, h => by cases h
  | _ + 3, b, h => by cases h
theorem tb_Ratio_ok (T : Txt K mg A) : ∀ t b, tb_Ratio t = some b → PySem.W.kitOne (enA K A).K (tyV' (enA K A) t) (.ref A.c_Ratio) = some b
  | .non, b, h => by cases h; exact kit_own T.hd_Ratio T.ty_Ratio rfl T.s_NoneType_Ratio
  | .bl, b, h => by cases h; exact kit_own T.hd_Ratio T.ty_Ratio rfl T.s_bool_Ratio
  | .int, b, h => by cases h; exact kit_own T.hd_Ratio T.ty_Ratio rfl T.s_int_Ratio
  | .str, b, h => by cases h; exact kit_own T.hd_Ratio T.ty_Ratio rfl T.s_str_Ratio
  | .tup, b, h => by cases h; exact kit_own T.hd_Ratio T.ty_Ratio rfl T.s_tuple_Ratio
  | .lst, b, h => by cases h; exact kit_own T.hd_Ratio T.ty_Ratio rfl T.s_list_Ratio
  | .dct, b, h => by cases h; exact kit_own T.hd_Ratio T.ty_Ratio rfl T.s_dict_Ratio
  | .own 0, b, h => by cases h
  | .own 1, b, h => by cases h
  | .own 2, b, h => by cases h; exact kit_self
  | .own (_ + 3), b, h => by cases h
theorem tb_Ratio_is (T : Txt K mg A) : ∀ c b, tb_Ratio (.own c) = some b → IsO (enA K A).K ((enA K A).ct c)
  | 0, b, h => by cases h
  | 1, b, h => by cases h
  | 2, b, h => T.is_Ratio
  | _ + 3, b, h => by cases h
theorem tb_bool_ok (T : Txt K mg A) : ∀ t b, tb_bool t = some b → PySem.W.kitOne (enA K A).K (tyV' (enA K A) t) (.type "bool") = some b
  | .non, b, h => by cases h; exact kit_ty (by decide +kernel)
  | .bl, b, h => by cases h; exact kit_ty (by decide +kernel)
  | .int, b, h => by cases h; exact kit_ty (by decide +kernel)
  | .str, b, h => by cases h; exact kit_ty (by decide +kernel)
  | .tup, b, h => by cases h; exact kit_ty (by decide +kernel)
  | .lst, b, h => by cases h; exact kit_ty (by decide +kernel)
  | .dct, b, h => by cases h; exact kit_ty (by decide +kernel)
  | .own 0, b, h => by cases h
  | .own 1, b, h => by cases h
  | .own 2, b, h => by cases h; exact kit_blt (by decide +kernel) T.s_Ratio_bool
  | .own (_ + 3), b, h => by cases h
theorem tb_bool_is (T : Txt K mg A) : ∀ c b, tb_bool (.own c) = some b → IsO (enA K A).K ((enA K A).ct c)
  | 0, b, h => by cases h
  | 1, b, h => by cases h
  | 2, b, h => T.is_Ratio
  | _ + 3, b, h => by cases h
theorem ok_greatest_divisor (T : Txt K mg A) : FnOk P w K mg base (L2.CX P w) 1 A.a_greatest_divisor A.fd_greatest_divisor ["a", "b"] (spOf (enA K A) 2 m_greatest_divisor) :=
  fn_ok T.F_greatest_divisor sc_greatest_divisor rfl fun cdv A0 outer s H E hr =>
    (sb_cons (ss_while (k := 100000) (passes_of rfl) (st_cmp op_ne p2_ne (nomark _) (se_varK v_greatest_divisor_1) se_int) (sb_one (ss_par (i := 0) (j := 1) (by decide) (by decide) rfl sc_greatest_divisor.nd rfl rfl (by decide) rfl rfl (sa_cons (se_varK v_greatest_divisor_1) (sa_cons (se_op op_modN p2_mod (se_varK v_greatest_divisor_0) (se_varK v_greatest_divisor_1)) sa_nil)) rfl)))
    (sb_one (ss_ret (se_call1 call_abs p1_abs (by rfl) T.n_abs (by decide +kernel) (se_varK v_greatest_divisor_0)))))
theorem ok_Ratio_init (T : Txt K mg A) : FnOk P w K mg base (L2.CX P w) 2 A.a_Ratio_init A.fd_Ratio_init ["self", "numerator", "denominator"] (spOf (enA K A) 3 m_Ratio_init) :=
  fn_okD T.F_Ratio_init sc_Ratio_init rfl fun cdv A0 outer s H E hr =>
    (sb_cons (ss_if (st_cmp op_eq p2_eq (nomark _) (se_varK v_Ratio_init_2) se_int)
    (sb_one (ss_raise (c := 1) rfl (takes_of rfl rfl rfl rfl) (pmk_own PySem.F.excBase_ValueError T.x_ByZero T.m_ByZero T.kp_ByZero (raises_own T.sb_ByZero T.ty_ByZero) (by rfl))))
    sb_nil)
    (sb_cons (ss_set (i := 3) (by decide) sc_Ratio_init.nd rfl (Or.inl rfl) (se_call (ok_greatest_divisor T) (hr.mono (by decide)) (by rfl) T.m_greatest_divisor T.p_greatest_divisor T.b_greatest_divisor (takes_of rfl rfl rfl rfl) (sc_val (se_varK v_Ratio_init_1) (sc_val (se_varK v_Ratio_init_2) sc_nil)) rfl))
    (sb_cons (ss_if (st_cmp op_ltU p2_lt (nomark _) (se_varK v_Ratio_init_2) se_int)
    (sb_one (ss_set (i := 3) (by decide) sc_Ratio_init.nd rfl (Or.inl rfl) (se_un un_neg p1_neg (se_varK v_Ratio_init_3))))
    sb_nil)
    (sb_cons (ss_fldK (i := 0) (c := 2) (j := 0) T.cl_Ratio rfl v_Ratio_init_0 (se_op op_fdivA p2_fdiv (se_varK v_Ratio_init_1) (se_varK v_Ratio_init_3)))
    (sb_one (ss_fldK (i := 0) (c := 2) (j := 1) T.cl_Ratio rfl v_Ratio_init_0 (se_op op_fdivA p2_fdiv (se_varK v_Ratio_init_2) (se_varK v_Ratio_init_3))))))))
theorem ok_law_draw (T : Txt K mg A) : FnOk P w K mg base (L2.CX P w) 1 A.a_law_draw A.fd_law_draw ["_law_stream_here", "_law_many"] (spOf (enA K A) 2 m_law_draw) :=
  fn_ok T.F_law_draw sc_law_draw rfl fun cdv A0 outer s H E hr =>
    (sb_cons (ss_if (sw_and (st_cmp op_eq p2_eq (nomark _) (se_ix ix_seq p2_ix (fun _ _ => rfl) (se_varK v_law_draw_0) se_int) se_int) (sw_and1 (st_cmp op_ltU p2_lt (nomark _) (se_ix ix_seq p2_ix (fun _ _ => rfl) (se_varK v_law_draw_0) se_int) (se_call1 call_lenU p1_len (by rfl) T.n_len (by decide +kernel) (se_ix ix_seq p2_ix (fun _ _ => rfl) (se_varK v_law_draw_0) se_int))))).st
    (sb_cons (ss_stLK (i := 0) v_law_draw_0 (se_call1 call_abs p1_abs (by rfl) T.n_abs (by decide +kernel) (se_callT1 call_int1 p1_int (by rfl) T.n_int (by decide +kernel) (se_ix ix_seq p2_ix (fun _ _ => rfl) (se_ix ix_seq p2_ix (fun _ _ => rfl) (se_varK v_law_draw_0) se_int) (se_ix ix_seq p2_ix (fun _ _ => rfl) (se_varK v_law_draw_0) se_int)))) se_int)
    (sb_one (ss_stLK (i := 0) v_law_draw_0 (se_op op_addU p2_add (se_ix ix_seq p2_ix (fun _ _ => rfl) (se_varK v_law_draw_0) se_int) se_int) se_int)))
    sb_nil)
    (sb_cons (ss_if (st_cmp op_eq p2_eq (nomark _) (se_ix ix_seq p2_ix (fun _ _ => rfl) (se_varK v_law_draw_0) se_int) se_int)
    (sb_cons (ss_stLK (i := 0) v_law_draw_0 (se_op op_modN p2_mod (se_callT1 call_int1 p1_int (by rfl) T.n_int (by decide +kernel) (se_op op_addU p2_add (se_op op_mulW p2_mul (se_ix ix_seq p2_ix (fun _ _ => rfl) (se_varK v_law_draw_0) se_int) se_int) se_int)) se_int) se_int)
    (sb_one (ss_ret (se_op op_modN p2_mod (se_callT1 call_int1 p1_int (by rfl) T.n_int (by decide +kernel) (se_op op_fdivA p2_fdiv (se_ix ix_seq p2_ix (fun _ _ => rfl) (se_varK v_law_draw_0) se_int) se_int)) (se_varK v_law_draw_1)))))
    sb_nil)
    (sb_cons (ss_set (i := 2) (by decide) sc_law_draw.nd rfl (Or.inl rfl) (se_op op_modN p2_mod (se_callT1 call_int1 p1_int (by rfl) T.n_int (by decide +kernel) (se_ix ix_seq p2_ix (fun _ _ => rfl) (se_varK v_law_draw_0) se_int)) (se_varK v_law_draw_1)))
    (sb_cons (ss_stLK (i := 0) v_law_draw_0 (se_op op_fdivA p2_fdiv (se_ix ix_seq p2_ix (fun _ _ => rfl) (se_varK v_law_draw_0) se_int) (se_varK v_law_draw_1)) se_int)
    (sb_one (ss_ret (se_varK v_law_draw_2)))))))
theorem ok_law_pair (T : Txt K mg A) : FnOk P w K mg base (L2.CX P w) 1 A.a_law_pair A.fd_law_pair ["_law_n", "_law_d"] (spOf (enA K A) 2 m_law_pair) :=
  fn_ok T.F_law_pair sc_law_pair rfl fun cdv A0 outer s H E hr =>
    (sb_cons (ss_set (i := 2) (by decide) sc_law_pair.nd rfl (Or.inl rfl) (se_call1 call_abs p1_abs (by rfl) T.n_abs (by decide +kernel) (se_varK v_law_pair_0)))
    (sb_cons (ss_set (i := 3) (by decide) sc_law_pair.nd rfl (Or.inl rfl) (se_call1 call_abs p1_abs (by rfl) T.n_abs (by decide +kernel) (se_varK v_law_pair_1)))
    (sb_cons (ss_while (k := 100000) (passes_of rfl) (st_cmp op_gt p2_gt (nomark _) (se_varK v_law_pair_3) se_int) (sb_one (ss_par (i := 2) (j := 3) (by decide) (by decide) rfl sc_law_pair.nd rfl rfl (by decide) rfl rfl (sa_cons (se_varK v_law_pair_3) (sa_cons (se_op op_modN p2_mod (se_callT1 call_int1 p1_int (by rfl) T.n_int (by decide +kernel) (se_varK v_law_pair_2)) (se_callT1 call_int1 p1_int (by rfl) T.n_int (by decide +kernel) (se_varK v_law_pair_3))) sa_nil)) rfl)))
    (sb_cons (ss_if (st_cmp op_ltU p2_lt (nomark _) (se_varK v_law_pair_1) se_int)
    (sb_one (ss_set (i := 2) (by decide) sc_law_pair.nd rfl (Or.inl rfl) (se_op op_sub p2_sub se_int (se_varK v_law_pair_2))))
    sb_nil)
    (sb_one (ss_ret (se_tup (sa_cons (se_op op_fdivA p2_fdiv (se_varK v_law_pair_0) (se_varK v_law_pair_2)) (sa_cons (se_op op_fdivA p2_fdiv (se_varK v_law_pair_1) (se_varK v_law_pair_2)) sa_nil)) (by decide))))))))
theorem ok_law_far (T : Txt K mg A) : FnOk P w K mg base (L2.CX P w) 2 A.a_law_far A.fd_law_far ["_law_stream_here"] (spOf (enA K A) 1 m_law_far) :=
  fn_ok T.F_law_far sc_law_far rfl fun cdv A0 outer s H E hr =>
    (sb_cons (ss_set (i := 1) (by decide) sc_law_far.nd rfl (Or.inl rfl) se_int)
    (sb_cons (ss_for (passes_of rfl) rfl (si_range1 (by rfl) T.n_range (se_op op_addU p2_add se_int (se_call (ok_law_draw T) (hr.mono (by decide)) (by rfl) T.m_law_draw T.p_law_draw T.b_law_draw (takes_of rfl rfl rfl rfl) (sc_bor (se_varK v_law_far_0) (sc_val se_int sc_nil)) rfl))) (sg_name (i := 2) (by decide) sc_law_far.nd rfl (Or.inl rfl)) (sb_one (ss_set (i := 1) (by decide) sc_law_far.nd rfl (Or.inl rfl) (se_op op_addU p2_add (se_op op_mulW p2_mul (se_varK v_law_far_1) (se_op op_pow p2_pow se_int se_int)) (se_call (ok_law_draw T) (hr.mono (by decide)) (by rfl) T.m_law_draw T.p_law_draw T.b_law_draw (takes_of rfl rfl rfl rfl) (sc_bor (se_varK v_law_far_0) (sc_val (se_op op_pow p2_pow se_int se_int) sc_nil)) rfl)))))
    (sb_one (ss_ret (se_varK v_law_far_1)))))
theorem ok_law_whole (T : Txt K mg A) : FnOk P w K mg base (L2.CX P w) 3 A.a_law_whole A.fd_law_whole ["_law_stream_here"] (spOf (enA K A) 1 m_law_whole) :=
  fn_ok T.F_law_whole sc_law_whole rfl fun cdv A0 outer s H E hr =>
    (sb_cons (ss_set (i := 1) (by decide) sc_law_whole.nd rfl (Or.inl rfl) (se_call (ok_law_draw T) (hr.mono (by decide)) (by rfl) T.m_law_draw T.p_law_draw T.b_law_draw (takes_of rfl rfl rfl rfl) (sc_bor (se_varK v_law_whole_0) (sc_val se_int sc_nil)) rfl))
    (sb_cons (ss_if (st_cmp op_ltU p2_lt (nomark _) (se_varK v_law_whole_1) se_int)
    (sb_one (ss_ret (se_op op_sub p2_sub (se_call (ok_law_draw T) (hr.mono (by decide)) (by rfl) T.m_law_draw T.p_law_draw T.b_law_draw (takes_of rfl rfl rfl rfl) (sc_bor (se_varK v_law_whole_0) (sc_val se_int sc_nil)) rfl) se_int)))
    sb_nil)
    (sb_cons (ss_if (st_cmp op_eq p2_eq (nomark _) (se_varK v_law_whole_1) se_int)
    (sb_one (ss_ret (se_op op_addU p2_add (se_op op_sub p2_sub (se_op op_mulW p2_mul (se_op op_pow p2_pow se_int se_int) (se_op op_pow p2_pow se_int se_int)) se_int) (se_call (ok_law_draw T) (hr.mono (by decide)) (by rfl) T.m_law_draw T.p_law_draw T.b_law_draw (takes_of rfl rfl rfl rfl) (sc_bor (se_varK v_law_whole_0) (sc_val se_int sc_nil)) rfl))))
    sb_nil)
    (sb_one (ss_ret (se_op op_mulW p2_mul (se_call (ok_law_far T) (hr.mono (by decide)) (by rfl) T.m_law_far T.p_law_far T.b_law_far (takes_of rfl rfl rfl rfl) (sc_bor (se_varK v_law_whole_0) sc_nil) rfl) (se_op op_sub p2_sub se_int (se_op op_mulW p2_mul se_int (se_call (ok_law_draw T) (hr.mono (by decide)) (by rfl) T.m_law_draw T.p_law_draw T.b_law_draw (takes_of rfl rfl rfl rfl) (sc_bor (se_varK v_law_whole_0) (sc_val se_int sc_nil)) rfl)))))))))
theorem ok_law_drawn_pair (T : Txt K mg A) : FnOk P w K mg base (L2.CX P w) 4 A.a_law_drawn_pair A.fd_law_drawn_pair ["_law_stream_here"] (spOf (enA K A) 1 m_law_drawn_pair) :=
  fn_ok T.F_law_drawn_pair sc_law_drawn_pair rfl fun cdv A0 outer s H E hr =>
    (sb_cons (ss_set (i := 1) (by decide) sc_law_drawn_pair.nd rfl (Or.inl rfl) (se_call (ok_law_whole T) (hr.mono (by decide)) (by rfl) T.m_law_whole T.p_law_whole T.b_law_whole (takes_of rfl rfl rfl rfl) (sc_bor (se_varK v_law_drawn_pair_0) sc_nil) rfl))
    (sb_cons (ss_if (st_cmp op_eq p2_eq (nomark _) (se_varK v_law_drawn_pair_1) se_int)
    (sb_one (ss_set (i := 1) (by decide) sc_law_drawn_pair.nd rfl (Or.inl rfl) se_int))
    sb_nil)
    (sb_one (ss_ret (se_call (ok_law_pair T) (hr.mono (by decide)) (by rfl) T.m_law_pair T.p_law_pair T.b_law_pair (takes_of rfl rfl rfl rfl) (sc_val (se_call (ok_law_whole T) (hr.mono (by decide)) (by rfl) T.m_law_whole T.p_law_whole T.b_law_whole (takes_of rfl rfl rfl rfl) (sc_bor (se_varK v_law_drawn_pair_0) sc_nil) rfl) (sc_val (se_varK v_law_drawn_pair_1) sc_nil)) rfl)))))
theorem ok_law_is (T : Txt K mg A) : FnOk P w K mg base (L2.CX P w) 1 A.a_law_is A.fd_law_is ["_law_value", "_law_pair_here"] (spOf (enA K A) 2 m_law_is) :=
  fn_ok T.F_law_is sc_law_is rfl fun cdv A0 outer s H E hr =>
    (sb_cons (ss_if (sw_or (st_not (st_tru rfl (se_isi rfl (.own _) (tb_Ratio_ok T) (tb_Ratio_is T) (se_varK v_law_is_0) (pe_glob (v := .ref _) (by rfl) T.m_Ratio (by rfl)) T.n_isinstance (by rfl)))) (sw_or (st_tru rfl (se_isi rfl (.ty _) (tb_bool_ok T) (tb_bool_is T) (se_fld (c := 2) (j := 0) T.cl_Ratio rfl (se_varK v_law_is_0)) (pe_bltn (v := .ty "bool") (u := .type "bool") (by rfl) T.n_bool (by decide +kernel) (by rfl)) T.n_isinstance (by rfl))) (sw_or1 (st_tru rfl (se_isi rfl (.ty _) (tb_bool_ok T) (tb_bool_is T) (se_fld (c := 2) (j := 1) T.cl_Ratio rfl (se_varK v_law_is_0)) (pe_bltn (v := .ty "bool") (u := .type "bool") (by rfl) T.n_bool (by decide +kernel) (by rfl)) T.n_isinstance (by rfl)))))).st
    (sb_one (ss_ret se_bl))
    sb_nil)
    (sb_one (ss_ret (se_and (se_cmp op_eq p2_eq (nomark _) (se_fld (c := 2) (j := 0) T.cl_Ratio rfl (se_varK v_law_is_0)) (se_ix ix_seq p2_ix (fun _ _ => rfl) (se_varK v_law_is_1) se_int)) (se_one (se_cmp op_eq p2_eq (nomark _) (se_fld (c := 2) (j := 1) T.cl_Ratio rfl (se_varK v_law_is_0)) (se_ix ix_seq p2_ix (fun _ _ => rfl) (se_varK v_law_is_1) se_int)))))))
theorem ok_law_signed (T : Txt K mg A) : FnOk P w K mg base (L2.CX P w) 1 A.a_law_signed A.fd_law_signed ["_law_n", "_law_d"] (spOf (enA K A) 2 m_law_signed) :=
  fn_ok T.F_law_signed sc_law_signed rfl fun cdv A0 outer s H E hr =>
    (sb_cons (ss_if (st_cmp op_ltU p2_lt (nomark _) (se_varK v_law_signed_1) se_int)
    (sb_one (ss_ret (se_tup (sa_cons (se_op op_sub p2_sub se_int (se_varK v_law_signed_0)) (sa_cons (se_op op_sub p2_sub se_int (se_varK v_law_signed_1)) sa_nil)) (by decide))))
    sb_nil)
    (sb_one (ss_ret (se_tup (sa_cons (se_varK v_law_signed_0) (sa_cons (se_varK v_law_signed_1) sa_nil)) (by decide)))))
theorem ok_law_stream (T : Txt K mg A) : FnOk P w K mg base (L2.CX P w) 1 A.a_law_stream A.fd_law_stream ["_law_script"] (spOf (enA K A) 1 m_law_stream) :=
  fn_ok T.F_law_stream sc_law_stream rfl fun cdv A0 outer s H E hr =>
    (sb_cons (ss_set (i := 1) (by decide) sc_law_stream.nd rfl (Or.inl rfl) se_int)
    (sb_cons (ss_for (passes_of rfl) rfl (si_list rfl (se_varK v_law_stream_0)) (sg_name (i := 2) (by decide) sc_law_stream.nd rfl (Or.inl rfl)) (sb_one (ss_set (i := 1) (by decide) sc_law_stream.nd rfl (Or.inl rfl) (se_op op_modN p2_mod (se_callT1 call_int1 p1_int (by rfl) T.n_int (by decide +kernel) (se_op op_addU p2_add (se_op op_addU p2_add (se_op op_mulW p2_mul (se_varK v_law_stream_1) se_int) (se_op op_modN p2_mod (se_callT1 call_int1 p1_int (by rfl) T.n_int (by decide +kernel) (se_varK v_law_stream_2)) se_int)) se_int)) se_int))))
    (sb_one (ss_ret (se_lst (sa_cons (se_callT1 call_list_of p1_list (by rfl) T.n_list (by decide +kernel) (se_varK v_law_stream_0)) (sa_cons se_int (sa_cons se_int (sa_cons (se_varK v_law_stream_1) sa_nil)))) (by decide))))))
theorem ok_Ratio_mul (T : Txt K mg A) : FnOk P w K mg base (L2.CX P w) 4 A.a_Ratio_mul A.fd_Ratio_mul ["self", "other"] (spOf (enA K A) 2 m_Ratio_mul) :=
  fn_ok T.F_Ratio_mul sc_Ratio_mul rfl fun cdv A0 outer s H E hr =>
    (sb_one (ss_ret (se_makeX (c := 2) (dds := []) T.mk_Ratio (ok_Ratio_init T) (hr.mono (by decide)) (by rfl) T.m_Ratio T.b_Ratio_init_3 (fun _ => rfl) (takes_of rfl rfl rfl rfl) (sc_val (se_op op_mulW p2_mul (se_fld (c := 2) (j := 0) T.cl_Ratio rfl (se_varK v_Ratio_mul_0)) (se_fld (c := 2) (j := 0) T.cl_Ratio rfl (se_varK v_Ratio_mul_1))) (sc_val (se_op op_mulW p2_mul (se_fld (c := 2) (j := 1) T.cl_Ratio rfl (se_varK v_Ratio_mul_0)) (se_fld (c := 2) (j := 1) T.cl_Ratio rfl (se_varK v_Ratio_mul_1))) sc_nil)) rfl)))
theorem ok_quotient (T : Txt K mg A) : FnOk P w K mg base (L2.CX P w) 4 A.a_quotient A.fd_quotient ["first", "second"] (spOf (enA K A) 2 m_quotient) :=
  fn_ok T.F_quotient sc_quotient rfl fun cdv A0 outer s H E hr =>
    (sb_one (ss_ret (se_makeX (c := 2) (dds := []) T.mk_Ratio (ok_Ratio_init T) (hr.mono (by decide)) (by rfl) T.m_Ratio T.b_Ratio_init_3 (fun _ => rfl) (takes_of rfl rfl rfl rfl) (sc_val (se_op op_mulW p2_mul (se_fld (c := 2) (j := 0) T.cl_Ratio rfl (se_varK v_quotient_0)) (se_fld (c := 2) (j := 1) T.cl_Ratio rfl (se_varK v_quotient_1))) (sc_val (se_op op_mulW p2_mul (se_fld (c := 2) (j := 1) T.cl_Ratio rfl (se_varK v_quotient_0)) (se_fld (c := 2) (j := 0) T.cl_Ratio rfl (se_varK v_quotient_1))) sc_nil)) rfl)))
theorem ok_power (T : Txt K mg A) : FnOk P w K mg base (L2.CX P w) 5 A.a_power A.fd_power ["base", "exponent"] (spOf (enA K A) 2 m_power) :=
  fn_ok T.F_power sc_power rfl fun cdv A0 outer s H E hr =>
    (sb_cons (ss_set (i := 2) (by decide) sc_power.nd rfl (Or.inl rfl) (se_makeX (c := 2) (dds := [.int 1]) T.mk_Ratio (ok_Ratio_init T) (hr.mono (by decide)) (by rfl) T.m_Ratio T.b_Ratio_init_2 (fun _ => ⟨_, _, rfl, rfl, rfl⟩) (takes_of rfl rfl rfl rfl) (sc_val se_int sc_nil) rfl))
    (sb_cons (ss_for (passes_of rfl) rfl (si_range1 (by rfl) T.n_range (se_call1 call_abs p1_abs (by rfl) T.n_abs (by decide +kernel) (se_varK v_power_1))) (sg_name (i := 3) (by decide) sc_power.nd rfl (Or.inl rfl)) (sb_one (ss_set (i := 2) (by decide) sc_power.nd rfl (Or.inl rfl) (se_bin (c := 2) T.o_Ratio_mul (ok_Ratio_mul T) (hr.mono (by decide)) T.b_Ratio_mul (takes_of rfl rfl rfl rfl) (se_varK v_power_2) (se_varK v_power_0)))))
    (sb_cons (ss_if (st_cmp op_ltU p2_lt (nomark _) (se_varK v_power_1) se_int)
    (sb_one (ss_ret (se_call (ok_quotient T) (hr.mono (by decide)) (by rfl) T.m_quotient T.p_quotient T.b_quotient (takes_of rfl rfl rfl rfl) (sc_val (se_makeX (c := 2) (dds := [.int 1]) T.mk_Ratio (ok_Ratio_init T) (hr.mono (by decide)) (by rfl) T.m_Ratio T.b_Ratio_init_2 (fun _ => ⟨_, _, rfl, rfl, rfl⟩) (takes_of rfl rfl rfl rfl) (sc_val se_int sc_nil) rfl) (sc_val (se_varK v_power_2) sc_nil)) rfl)))
    sb_nil)
    (sb_one (ss_ret (se_varK v_power_2))))))
theorem ok_law (T : Txt K mg A) : FnOk P w K mg base (L2.CX P w) 6 A.a_law A.fd_law ["_law_script"] (spOf (enA K A) 1 m_law) :=
  fn_ok T.F_law sc_law rfl fun cdv A0 outer s H E hr =>
    (sb_cons (ss_set (i := 1) (by decide) sc_law.nd rfl (Or.inl rfl) (se_call (ok_law_stream T) (hr.mono (by decide)) (by rfl) T.m_law_stream T.p_law_stream T.b_law_stream (takes_of rfl rfl rfl rfl) (sc_val (se_varK v_law_0) sc_nil) rfl))
    (sb_cons (ss_set (i := 2) (by decide) sc_law.nd rfl (Or.inl rfl) (se_call (ok_law_pair T) (hr.mono (by decide)) (by rfl) T.m_law_pair T.p_law_pair T.b_law_pair (takes_of rfl rfl rfl rfl) (sc_val (se_op op_sub p2_sub (se_call (ok_law_draw T) (hr.mono (by decide)) (by rfl) T.m_law_draw T.p_law_draw T.b_law_draw (takes_of rfl rfl rfl rfl) (sc_bor (se_varK v_law_1) (sc_val se_int sc_nil)) rfl) se_int) (sc_val (se_op op_addU p2_add se_int (se_call (ok_law_draw T) (hr.mono (by decide)) (by rfl) T.m_law_draw T.p_law_draw T.b_law_draw (takes_of rfl rfl rfl rfl) (sc_bor (se_varK v_law_1) (sc_val se_int sc_nil)) rfl)) sc_nil)) rfl))
    (sb_cons (ss_if (st_cmp op_eq p2_eq (nomark _) (se_call (ok_law_draw T) (hr.mono (by decide)) (by rfl) T.m_law_draw T.p_law_draw T.b_law_draw (takes_of rfl rfl rfl rfl) (sc_bor (se_varK v_law_1) (sc_val se_int sc_nil)) rfl) se_int)
    (sb_one (ss_set (i := 2) (by decide) sc_law.nd rfl (Or.inl rfl) (se_call (ok_law_drawn_pair T) (hr.mono (by decide)) (by rfl) T.m_law_drawn_pair T.p_law_drawn_pair T.b_law_drawn_pair (takes_of rfl rfl rfl rfl) (sc_bor (se_varK v_law_1) sc_nil) rfl)))
    sb_nil)
    (sb_cons (ss_set (i := 3) (by decide) sc_law.nd rfl (Or.inl rfl) (se_op op_sub p2_sub (se_call (ok_law_draw T) (hr.mono (by decide)) (by rfl) T.m_law_draw T.p_law_draw T.b_law_draw (takes_of rfl rfl rfl rfl) (sc_bor (se_varK v_law_1) (sc_val se_int sc_nil)) rfl) se_int))
    (sb_cons (ss_if (st_cmp op_eq p2_eq (nomark _) (se_call (ok_law_draw T) (hr.mono (by decide)) (by rfl) T.m_law_draw T.p_law_draw T.b_law_draw (takes_of rfl rfl rfl rfl) (sc_bor (se_varK v_law_1) (sc_val se_int sc_nil)) rfl) se_int)
    (sb_one (ss_set (i := 3) (by decide) sc_law.nd rfl (Or.inl rfl) (se_op op_sub p2_sub (se_call (ok_law_draw T) (hr.mono (by decide)) (by rfl) T.m_law_draw T.p_law_draw T.b_law_draw (takes_of rfl rfl rfl rfl) (sc_bor (se_varK v_law_1) (sc_val se_int sc_nil)) rfl) se_int)))
    sb_nil)
    (sb_cons (ss_if (sw_or (st_cmp op_gt p2_gt (nomark _) (se_call1 call_abs p1_abs (by rfl) T.n_abs (by decide +kernel) (se_ix ix_seq p2_ix (fun _ _ => rfl) (se_varK v_law_2) se_int)) (se_op op_pow p2_pow se_int se_int)) (sw_or1 (st_cmp op_gt p2_gt (nomark _) (se_ix ix_seq p2_ix (fun _ _ => rfl) (se_varK v_law_2) se_int) (se_op op_pow p2_pow se_int se_int)))).st
    (sb_one (ss_set (i := 3) (by decide) sc_law.nd rfl (Or.inl rfl) (se_op op_sub p2_sub (se_call (ok_law_draw T) (hr.mono (by decide)) (by rfl) T.m_law_draw T.p_law_draw T.b_law_draw (takes_of rfl rfl rfl rfl) (sc_bor (se_varK v_law_1) (sc_val se_int sc_nil)) rfl) se_int)))
    sb_nil)
    (sb_cons (ss_set (i := 4) (by decide) sc_law.nd rfl (Or.inl rfl) se_int)
    (sb_cons (ss_set (i := 5) (by decide) sc_law.nd rfl (Or.inl rfl) se_int)
    (sb_cons (ss_for (passes_of rfl) rfl (si_range1 (by rfl) T.n_range (se_call1 call_abs p1_abs (by rfl) T.n_abs (by decide +kernel) (se_varK v_law_3))) (sg_name (i := 6) (by decide) sc_law.nd rfl (Or.inl rfl)) (sb_cons (ss_set (i := 4) (by decide) sc_law.nd rfl (Or.inl rfl) (se_op op_mulW p2_mul (se_varK v_law_4) (se_ix ix_seq p2_ix (fun _ _ => rfl) (se_varK v_law_2) se_int)))
    (sb_one (ss_set (i := 5) (by decide) sc_law.nd rfl (Or.inl rfl) (se_op op_mulW p2_mul (se_varK v_law_5) (se_ix ix_seq p2_ix (fun _ _ => rfl) (se_varK v_law_2) se_int))))))
    (sb_cons (ss_if (st_cmp op_ltU p2_lt (nomark _) (se_varK v_law_3) se_int)
    (sb_one (ss_par (i := 4) (j := 5) (by decide) (by decide) rfl sc_law.nd rfl rfl (by decide) rfl rfl (sa_cons (se_varK v_law_5) (sa_cons (se_varK v_law_4) sa_nil)) rfl))
    sb_nil)
    (sb_cons (ss_try_only rfl rfl ⟨rfl, by decide, .inl T.m_ByZero⟩ (takes_of rfl rfl rfl rfl) rfl (xt_ByZero_ok T) (fun w pn xe tk po => (sb_one (ss_set (i := 7) (by decide) sc_law.nd rfl (Or.inl rfl) (se_call (ok_power T) (hr.mono (by decide)) (by rfl) T.m_power T.p_power T.b_power tk (sc_val (se_makeX (c := 2) (dds := []) T.mk_Ratio (ok_Ratio_init T) (hr.mono (by decide)) (by rfl) T.m_Ratio T.b_Ratio_init_3 (fun _ => rfl) tk (sc_val (se_ix ix_seq p2_ix (fun _ _ => rfl) (se_varK v_law_2) se_int) (sc_val (se_ix ix_seq p2_ix (fun _ _ => rfl) (se_varK v_law_2) se_int) sc_nil)) rfl) (sc_val (se_varK v_law_3) sc_nil)) rfl))))
    (fun y a oe d pn ht hz hf hd => (sb_one (ss_ret (se_cmp op_eq p2_eq (nomark _) (se_varK v_law_5) se_int)))))
    (sb_cons (ss_if (st_cmp op_eq p2_eq (nomark _) (se_varK v_law_5) se_int)
    (sb_one (ss_ret se_bl))
    sb_nil)
    (sb_one (ss_ret (se_call (ok_law_is T) (hr.mono (by decide)) (by rfl) T.m_law_is T.p_law_is T.b_law_is (takes_of rfl rfl rfl rfl) (sc_val (se_varK v_law_7) (sc_val (se_call (ok_law_signed T) (hr.mono (by decide)) (by rfl) T.m_law_signed T.p_law_signed T.b_law_signed (takes_of rfl rfl rfl rfl) (sc_val (se_varK v_law_4) (sc_val (se_varK v_law_5) sc_nil)) rfl) sc_nil)) rfl)))))))))))))))
end
end LawP

end
section
set_option maxRecDepth 100000
set_option exponentiation.threshold 20000
namespace LawP
open PySem L2 Mi
theorem q_init : m_Ratio_init = g_init 1 2 := rfl
theorem q_pair : m_law_pair = g_pair := rfl
theorem q_dpair : m_law_drawn_pair = g_dpair := rfl
theorem q_stream : m_law_stream = g_stream := rfl
theorem q_draw : m_law_draw = g_draw := rfl
theorem q_mul : m_Ratio_mul = g_mul 1 2 := rfl
theorem q_quo : m_quotient = g_quo 1 2 := rfl
theorem q_is : m_law_is = g_is 2 tb_Ratio tb_bool := rfl
theorem low_pow {a b : Int} (h : Low a b) (k : Nat) : Low (a ^ k) (b ^ k) := by
  refine ⟨?_, Int.pow_pos h.pos⟩
  show Nat.gcd (a ^ k).natAbs (b ^ k).natAbs = 1
  rw [Int.natAbs_pow, Int.natAbs_pow]
  exact Nat.Coprime.pow k k h.co
theorem bn_pow {w : Nat} {a : Int} (h : Bn w a) : ∀ k : Nat, Bn (w * k + 1) (a ^ k)
  | 0 => by unfold Bn; simp
  | k + 1 => by
    rw [Int.pow_succ]
    exact ((bn_pow h k).mul h).le (by rw [Nat.mul_succ]; omega)
theorem pow_loop (a b : Int) (w : Nat) (e : D) (L : Low a b) (ba : Bn w a) (bb : Bn w b) : ∀ (ds : List D) (k : Nat) (x : LV), w * (k + ds.length) ≤ 3000 → w ≤ 3000 → ∃ x', forL (gN 3) (sSet 2 (eBin 2 (g_mul 1 2) (eVar 2) (eVar 0))) ds [.val (rt 2 a b), .val e, .own (rt 2 (a ^ k) (b ^ k)), x] = .nx [.val (rt 2 a b), .val e, .own (rt 2 (a ^ (k + ds.length)) (b ^ (k + ds.length))), x']
  | [], k, x, h, hw => ⟨x, rfl⟩
  | d :: ds, k, x, h, hw => by
    have h' : w * (k + 1 + ds.length) ≤ 3000 := by
      have : k + 1 + ds.length = k + (d :: ds).length := by simp; omega
      rw [this]; exact h
    obtain ⟨x', i⟩ := pow_loop a b w e L ba bb ds (k + 1) (.val d) h' hw
    refine ⟨x', ?_⟩
    have hk : w * k + 1 ≤ 4000 := by
      have : w * k ≤ w * (k + 1 + ds.length) := Nat.mul_le_mul_left w (by omega)
      omega
    have Lk := low_pow L k
    have m := g_mul_e 1 2 ((bn_pow ba k).le hk) ((bn_pow bb k).le hk) (ba.le (by omega)) (bb.le (by omega)) Lk.ne L.ne
    have L1 := low_pow L (k + 1)
    rw [← Int.pow_succ, ← Int.pow_succ, L1.nt, L1.nb] at m
    rw [show k + (d :: ds).length = k + 1 + ds.length by simp; omega, ← i]
    simp [m]
theorem law_loop (sc : D) (s : LV) (a b : Int) (w : Nat) (e : D) (y : LV) (ba : Bn w a) (bb : Bn w b) : ∀ (ds : List D) (k : Nat) (x : LV), w * (k + ds.length) ≤ 3000 → w ≤ 3000 → ∃ x', forL (gN 6) (sSeq (sSet 4 (eOp mulD (eVar 4) (eOp ixD (eVar 2) (eC (.int 0)))))
    (sSet 5 (eOp mulD (eVar 5) (eOp ixD (eVar 2) (eC (.int 1)))))) ds [.val sc, s, .val (.tup [.int a, .int b]), .val e, .val (.int (a ^ k)), .val (.int (b ^ k)), x, y] = .nx [.val sc, s, .val (.tup [.int a, .int b]), .val e, .val (.int (a ^ (k + ds.length))), .val (.int (b ^ (k + ds.length))), x', y]
  | [], k, x, h, hw => ⟨x, rfl⟩
  | d :: ds, k, x, h, hw => by
    have h' : w * (k + 1 + ds.length) ≤ 3000 := by
      have : k + 1 + ds.length = k + (d :: ds).length := by simp; omega
      rw [this]; exact h
    obtain ⟨x', i⟩ := law_loop sc s a b w e y ba bb ds (k + 1) (.val d) h' hw
    refine ⟨x', ?_⟩
    have hk : w * k + 1 ≤ 4000 := by
      have : w * k ≤ w * (k + 1 + ds.length) := Nat.mul_le_mul_left w (by omega)
      omega
    have s1 := (bn_pow ba k).sm (by omega)
    have s2 := (bn_pow bb k).sm (by omega)
    have s3 := ba.sm (by omega)
    have s4 := bb.sm (by omega)
    rw [show k + (d :: ds).length = k + 1 + ds.length by simp; omega, ← i, Int.pow_succ, Int.pow_succ]
    simp [s1, s2, s3, s4]
theorem rgL_len (n : Nat) : (rgL 0 n).length = n := by simp [rgL]
theorem one_i : m_Ratio_init [.own (.ins 2 []), .val (.int 1), .val (.int 1)] = .rt (.val .non) [.own (rt 2 1 1), .val (.int 1), .val (.int 1)] := by
  have b1 : Bn 1 1 := by unfold Bn; decide
  have := g_init_e 1 2 1 1 (by decide) (b1.le (by decide))
  have L : Low 1 1 := ⟨rfl, by decide⟩
  rw [L.nt, L.nb] at this
  rw [q_init]; exact this
/-- power, the exponent not below 0 -/
theorem power_p (a b e : Int) (w : Nat) (L : Low a b) (ba : Bn w a) (bb : Bn w b) (he : 0 ≤ e) (hw : w * e.natAbs ≤ 3000) (hw2 : w ≤ 3000) (he2 : e.natAbs ≤ 60) : m_power [.val (rt 2 a b), .val (.int e)] = .rt (.own (rt 2 (a ^ e.natAbs) (b ^ e.natAbs))) [.val (rt 2 a b), .val (.int e)] := by
  obtain ⟨x', i⟩ := pow_loop a b w (.int e) L ba bb (rgL 0 e.natAbs) 0 .un (by rw [rgL_len, Nat.zero_add]; exact hw) hw2
  rw [rgL_len, Nat.zero_add, Int.pow_zero, Int.pow_zero] at i
  have rg : Rg (e.natAbs : Int) := by unfold Rg; omega
  have ne : ¬ e < 0 := by omega
  unfold m_power
  rw [q_mul]
  have h1 := one_i
  generalize m_Ratio_init = gi at h1 ⊢
  generalize g_mul 1 2 = gm at i ⊢
  generalize m_quotient = gq
  simp [h1, i, rg, ne]
theorem power_n (a b e : Int) (w : Nat) (L : Low a b) (ba : Bn w a) (bb : Bn w b) (he : e < 0) (hw : w * e.natAbs ≤ 3000) (hw2 : w ≤ 3000) (he2 : e.natAbs ≤ 60) (n0 : a ^ e.natAbs ≠ 0) : m_power [.val (rt 2 a b), .val (.int e)] = .rt (.own (rt 2 (nt (b ^ e.natAbs) (a ^ e.natAbs)) (nb (b ^ e.natAbs) (a ^ e.natAbs)))) [.val (rt 2 a b), .val (.int e)] := by
  obtain ⟨x', i⟩ := pow_loop a b w (.int e) L ba bb (rgL 0 e.natAbs) 0 .un (by rw [rgL_len, Nat.zero_add]; exact hw) hw2
  rw [rgL_len, Nat.zero_add, Int.pow_zero, Int.pow_zero] at i
  have rg : Rg (e.natAbs : Int) := by unfold Rg; omega
  have b1 : Bn 1 1 := by unfold Bn; decide
  have q := g_quo_e 1 2 (b1.le (by decide)) (b1.le (by decide)) ((bn_pow ba e.natAbs).le (l := 4000) (by omega)) ((bn_pow bb e.natAbs).le (l := 4000) (by omega)) (show (1 : Int) ≠ 0 by decide) n0
  rw [Int.one_mul, Int.one_mul] at q
  unfold m_power
  rw [q_mul, q_quo]
  simp [one_i, i, rg, he, q]
theorem power_x (a b e : Int) (w : Nat) (L : Low a b) (ba : Bn w a) (bb : Bn w b) (he : e < 0) (hw : w * e.natAbs ≤ 3000) (hw2 : w ≤ 3000) (he2 : e.natAbs ≤ 60) (n0 : a ^ e.natAbs = 0) : m_power [.val (rt 2 a b), .val (.int e)] = .ex ⟨1, []⟩ [.val (rt 2 a b), .val (.int e)] := by
  obtain ⟨x', i⟩ := pow_loop a b w (.int e) L ba bb (rgL 0 e.natAbs) 0 .un (by rw [rgL_len, Nat.zero_add]; exact hw) hw2
  rw [rgL_len, Nat.zero_add, Int.pow_zero, Int.pow_zero] at i
  have rg : Rg (e.natAbs : Int) := by unfold Rg; omega
  have b1 : Bn 1 1 := by unfold Bn; decide
  have q := g_quo_x 1 2 (b1.le (by decide)) (b1.le (by decide)) ((bn_pow bb e.natAbs).le (l := 4000) (by omega))
  unfold m_power
  rw [q_mul, q_quo]
  simp [one_i, i, rg, he, q, n0]
theorem signed_e (n d : Int) (h : Int.gcd n d = 1) : m_law_signed [.val (.int n), .val (.int d)] = .rt (.val (.tup [.int (nt n d), .int (nb n d)])) [.val (.int n), .val (.int d)] := by
  unfold m_law_signed nt nb sg
  by_cases z : d < 0
  · simp [z, h, Int.fdiv_neg]
  · simp [z, h]
/-- what the law does behind the drawing -/
def rest : MS := (sSeq (sSet 4 (eC (.int 1)))
    (sSeq (sSet 5 (eC (.int 1)))
    (sSeq (sFor (gN 6) (iRg1 (eUn absD (eVar 3)))
    (sSeq (sSet 4 (eOp mulD (eVar 4) (eOp ixD (eVar 2) (eC (.int 0)))))
    (sSet 5 (eOp mulD (eVar 5) (eOp ixD (eVar 2) (eC (.int 1)))))))
    (sSeq (sIf (tV (eOp ltD (eVar 3) (eC (.int 0))))
    (sPar 4 5 (aC (eVar 5) (aC (eVar 4) aN)))
    sNil)
    (sSeq (sTryO xt_ByZero (sSet 7 (eCall m_power (cV (eMake 2 m_Ratio_init [] (cV (eOp ixD (eVar 2) (eC (.int 0))) (cV (eOp ixD (eVar 2) (eC (.int 1))) cN))) (cV (eVar 3) cN))))
    (fun y => (sRet [] (eOp eqD (eVar 5) (eC (.int 0))))))
    (sSeq (sIf (tV (eOp eqD (eVar 5) (eC (.int 0))))
    (sRet [] (eC (.bl false)))
    sNil)
    (sRet [] (eCall m_law_is (cV (eVar 7) (cV (eCall m_law_signed (cV (eVar 4) (cV (eVar 5) cN))) cN))))))))))
theorem rest_ok (sc : D) (s : LV) (a b e : Int) (w : Nat) (L : Low a b) (ba : Bn w a) (bb : Bn w b) (hw : w * e.natAbs ≤ 3000) (hw2 : w ≤ 3000) (he2 : e.natAbs ≤ 60) : ∃ r', rest [.val sc, s, .val (.tup [.int a, .int b]), .val (.int e), .un, .un, .un, .un] = .rt (.val (.bl true)) r' ∧ r'.length = 8 := by
  obtain ⟨x', i⟩ := law_loop sc s a b w (.int e) .un ba bb (rgL 0 e.natAbs) 0 .un (by rw [rgL_len, Nat.zero_add]; exact hw) hw2
  rw [rgL_len, Nat.zero_add, Int.pow_zero, Int.pow_zero] at i
  have rg : Rg (e.natAbs : Int) := by unfold Rg; omega
  have i0 := g_init_e 1 2 a b L.ne (bb.le (by omega))
  rw [L.nt, L.nb] at i0
  have Lk := low_pow L e.natAbs
  have is := g_is_e 2 tb_Ratio tb_bool rfl rfl
  have bne := Lk.ne
  unfold rest
  rw [q_init, q_is]
  by_cases z : e < 0
  · have nz : ¬ 0 ≤ e := by omega
    by_cases n0 : a ^ e.natAbs = 0
    · have p := power_x a b e w L ba bb z hw hw2 he2 n0
      simp [i, rg, z, i0, p, xt_ByZero, noX, n0]
    · have p := power_n a b e w L ba bb z hw hw2 he2 n0
      have sn := signed_e (b ^ e.natAbs) (a ^ e.natAbs) (by rw [Int.gcd_comm]; exact Lk.co)
      simp [i, rg, z, i0, p, n0, sn, is]
  · have p := power_p a b e w L ba bb (by omega) hw hw2 he2
    have sn := signed_e (a ^ e.natAbs) (b ^ e.natAbs) Lk.co
    rw [Lk.nt, Lk.nb] at sn
    simp [i, rg, z, i0, p, bne, sn, is]

theorem bn_10 {a : Int} (h : a.natAbs ≤ 1000000) : Bn 20 a := Nat.lt_of_le_of_lt h (by decide +kernel)
theorem law_ok (ns : List Int) (hn : ns.length ≤ 63) : ∃ r', m_law [.val (.lst (ns.map .int))] = .rt (.val (.bl true)) r' := by
  obtain ⟨s0, o0, -, e0⟩ := g_stream_e ns
  have dm : ∀ (s : Stm) {m : Int}, Dm m → 0 ≤ s.dv m ∧ s.dv m < m := fun s m h => ⟨s.dv_0 h, s.dv_1 h⟩
  -- the pair
  have P : ∃ (a b : Int) (s : Stm), s.Ok ∧ Bn 432 a ∧ Bn 432 b ∧ Low a b ∧ ∀ (x : MS), (sSeq (sSet 1 (eCall g_stream (cV (eVar 0) cN)))
    (sSeq (sSet 2 (eCall g_pair (cV (eOp subD (eCall g_draw (cB (eVar 1) (cV (eC (.int 25)) cN))) (eC (.int 12))) (cV (eOp addD (eC (.int 1)) (eCall g_draw (cB (eVar 1) (cV (eC (.int 12)) cN)))) cN))))
    (sSeq (sIf (tV (eOp eqD (eCall g_draw (cB (eVar 1) (cV (eC (.int 4)) cN))) (eC (.int 0))))
    (sSet 2 (eCall g_dpair (cB (eVar 1) cN)))
    sNil) x))) [.val (.lst (ns.map .int)), .un, .un, .un, .un, .un, .un, .un] = x [.val (.lst (ns.map .int)), .own s.d, .val (.tup [.int a, .int b]), .un, .un, .un, .un, .un] := by
    have d1 := dm s0 (m := 25) (by simp)
    have d2 := dm (s0.dr 25) (m := 12) (by simp)
    have k1 : Bn 432 (s0.dv 25 - 12) := (bn_10 (by omega)).le (by decide)
    have k2 : Bn 432 (1 + (s0.dr 25).dv 12) := (bn_10 (by omega)).le (by decide)
    have n2 : 1 + (s0.dr 25).dv 12 ≠ 0 := by omega
    have p := g_pair_e (s0.dv 25 - 12) (1 + (s0.dr 25).dv 12) n2 (k2.le (by decide))
    by_cases z : ((s0.dr 25).dr 12).dv 4 = 0
    · obtain ⟨s', a, b, h1, h2, h3, h4, h5⟩ := dpair_e (((s0.dr 25).dr 12).dr 4) (((o0.dr (by simp)).dr (by simp)).dr (by simp))
      refine ⟨a, b, s', h1, h2, h3, h4, fun x => ?_⟩
      simp (maxDischargeDepth := 9) [e0, o0, p, z, h5]
    · refine ⟨_, _, ((s0.dr 25).dr 12).dr 4, ((o0.dr (by simp)).dr (by simp)).dr (by simp), k1.nt, k2.nb, low_of n2, fun x => ?_⟩
      simp (maxDischargeDepth := 9) [e0, o0, p, z]
  obtain ⟨a, b, s, os, ba, bb, L, hP⟩ := P
  have Q : ∃ (e : Int) (w : Nat) (s' : Stm), Bn w a ∧ Bn w b ∧ w * e.natAbs ≤ 3000 ∧ w ≤ 3000 ∧ e.natAbs ≤ 60 ∧ ∀ (x : MS), (sSeq (sSet 3 (eOp subD (eCall g_draw (cB (eVar 1) (cV (eC (.int 121)) cN))) (eC (.int 60))))
    (sSeq (sIf (tV (eOp eqD (eCall g_draw (cB (eVar 1) (cV (eC (.int 3)) cN))) (eC (.int 0))))
    (sSet 3 (eOp subD (eCall g_draw (cB (eVar 1) (cV (eC (.int 7)) cN))) (eC (.int 3))))
    sNil)
    (sSeq (sIf (tOrM (tV (eOp gtD (eUn absD (eOp ixD (eVar 2) (eC (.int 0)))) (eOp powD (eC (.int 10)) (eC (.int 6))))) (tV (eOp gtD (eOp ixD (eVar 2) (eC (.int 1))) (eOp powD (eC (.int 10)) (eC (.int 6))))))
    (sSet 3 (eOp subD (eCall g_draw (cB (eVar 1) (cV (eC (.int 9)) cN))) (eC (.int 4))))
    sNil) x))) [.val (.lst (ns.map .int)), .own s.d, .val (.tup [.int a, .int b]), .un, .un, .un, .un, .un] = x [.val (.lst (ns.map .int)), .own s'.d, .val (.tup [.int a, .int b]), .val (.int e), .un, .un, .un, .un] := by
    have E : ∃ (e : Int) (s' : Stm), s'.Ok ∧ e.natAbs ≤ 60 ∧ ∀ (x : MS), (sSeq (sSet 3 (eOp subD (eCall g_draw (cB (eVar 1) (cV (eC (.int 121)) cN))) (eC (.int 60))))
    (sSeq (sIf (tV (eOp eqD (eCall g_draw (cB (eVar 1) (cV (eC (.int 3)) cN))) (eC (.int 0))))
    (sSet 3 (eOp subD (eCall g_draw (cB (eVar 1) (cV (eC (.int 7)) cN))) (eC (.int 3))))
    sNil) x)) [.val (.lst (ns.map .int)), .own s.d, .val (.tup [.int a, .int b]), .un, .un, .un, .un, .un] = x [.val (.lst (ns.map .int)), .own s'.d, .val (.tup [.int a, .int b]), .val (.int e), .un, .un, .un, .un] := by
      have d1 := dm s (m := 121) (by simp)
      by_cases z : (s.dr 121).dv 3 = 0
      · have d2 := dm ((s.dr 121).dr 3) (m := 7) (by simp)
        refine ⟨((s.dr 121).dr 3).dv 7 - 3, ((s.dr 121).dr 3).dr 7, ((os.dr (by simp)).dr (by simp)).dr (by simp), by omega, fun x => ?_⟩
        simp (maxDischargeDepth := 9) [os, z]
      · refine ⟨s.dv 121 - 60, (s.dr 121).dr 3, (os.dr (by simp)).dr (by simp), by omega, fun x => ?_⟩
        simp (maxDischargeDepth := 9) [os, z]
    obtain ⟨e, s', os', he, hE⟩ := E
    by_cases z : 1000000 < (a.natAbs : Int) ∨ 1000000 < b
    · have d2 := dm s' (m := 9) (by simp)
      have h4 : (s'.dv 9 - 4).natAbs ≤ 4 := by omega
      refine ⟨s'.dv 9 - 4, 432, s'.dr 9, ba, bb, ?_, by decide, by omega, fun x => ?_⟩
      · have : 432 * (s'.dv 9 - 4).natAbs ≤ 432 * 4 := Nat.mul_le_mul_left _ h4
        omega
      · rw [hE]
        by_cases y : 1000000 < (a.natAbs : Int)
        · simp (maxDischargeDepth := 9) [y, os']
        · have : 1000000 < b := by omega
          simp (maxDischargeDepth := 9) [y, this, os']
    · have h1 := bn_10 (a := a) (by omega)
      have h2 := bn_10 (a := b) (by have := L.pos; omega)
      refine ⟨e, 20, s', h1, h2, by omega, by decide, he, fun x => ?_⟩
      rw [hE]
      have y1 : ¬ 1000000 < (a.natAbs : Int) := by omega
      have y2 : ¬ 1000000 < b := by omega
      simp (maxDischargeDepth := 9) [y1, y2]
  obtain ⟨e, w, s', b1, b2, c1, c2, c3, hQ⟩ := Q
  obtain ⟨r', hr, hl⟩ := rest_ok (.lst (ns.map .int)) (.own s'.d) a b e w L b1 b2 c1 c2 c3
  unfold m_law
  rw [mkFn_e, if_pos (by simp)]
  have hR := hP (sSeq (sSet 3 (eOp subD (eCall g_draw (cB (eVar 1) (cV (eC (.int 121)) cN))) (eC (.int 60))))
    (sSeq (sIf (tV (eOp eqD (eCall g_draw (cB (eVar 1) (cV (eC (.int 3)) cN))) (eC (.int 0))))
    (sSet 3 (eOp subD (eCall g_draw (cB (eVar 1) (cV (eC (.int 7)) cN))) (eC (.int 3))))
    sNil)
    (sSeq (sIf (tOrM (tV (eOp gtD (eUn absD (eOp ixD (eVar 2) (eC (.int 0)))) (eOp powD (eC (.int 10)) (eC (.int 6))))) (tV (eOp gtD (eOp ixD (eVar 2) (eC (.int 1))) (eOp powD (eC (.int 10)) (eC (.int 6))))))
    (sSet 3 (eOp subD (eCall g_draw (cB (eVar 1) (cV (eC (.int 9)) cN))) (eC (.int 4))))
    sNil) rest)))
  rw [hQ, hr] at hR
  unfold rest at hR
  rw [q_stream, q_pair, q_draw, q_dpair]
  rw [show ([LV.val (D.lst (ns.map .int))] : Rho) ++ List.replicate 7 LV.un = [.val (.lst (ns.map .int)), .un, .un, .un, .un, .un, .un, .un] from rfl, hR]
  match r', hl with
  | [_, _, _, _, _, _, _, _], _ => exact ⟨_, rfl⟩
end LawP

end
section
set_option maxRecDepth 100000
namespace LawP
open PySem L2 Mi
theorem all_mk {l : PySem.W.OpenLaw} {w : World} {K : PySem.W.Frag} {h : Heap} {mg : Str → Option Value} {fa : Addr} (X : K.In h) (G : h.Ns mainGlobals mg) (hfa : mg "law" = some (.ref fa))
    {f_greatest_divisor f_Ratio_init f_law_draw f_law_pair f_law_far f_law_whole f_law_drawn_pair f_law_is f_law_signed f_law_stream f_Ratio_mul f_quotient f_power f_law C_LinkworkError C_ByZero C_Ratio : Addr}
    {od_greatest_divisor an_greatest_divisor od_Ratio_init an_Ratio_init od_law_draw an_law_draw od_law_pair an_law_pair od_law_far an_law_far od_law_whole an_law_whole od_law_drawn_pair an_law_drawn_pair od_law_is an_law_is od_law_signed an_law_signed od_law_stream an_law_stream od_Ratio_mul an_Ratio_mul od_quotient an_quotient od_power an_power od_law an_law : Option Addr}
    {sl_greatest_divisor sl_Ratio_init sl_law_draw sl_law_pair sl_law_far sl_law_whole sl_law_drawn_pair sl_law_is sl_law_signed sl_law_stream sl_Ratio_mul sl_quotient sl_power sl_law : Array (Option Value)}
    {oc_greatest_divisor kV_greatest_divisor dc_greatest_divisor pm_greatest_divisor cd_greatest_divisor ct_greatest_divisor oc_Ratio_init kV_Ratio_init dc_Ratio_init pm_Ratio_init cd_Ratio_init ct_Ratio_init oc_law_draw kV_law_draw dc_law_draw pm_law_draw cd_law_draw ct_law_draw oc_law_pair kV_law_pair dc_law_pair pm_law_pair cd_law_pair ct_law_pair oc_law_far kV_law_far dc_law_far pm_law_far cd_law_far ct_law_far oc_law_whole kV_law_whole dc_law_whole pm_law_whole cd_law_whole ct_law_whole oc_law_drawn_pair kV_law_drawn_pair dc_law_drawn_pair pm_law_drawn_pair cd_law_drawn_pair ct_law_drawn_pair oc_law_is kV_law_is dc_law_is pm_law_is cd_law_is ct_law_is oc_law_signed kV_law_signed dc_law_signed pm_law_signed cd_law_signed ct_law_signed oc_law_stream kV_law_stream dc_law_stream pm_law_stream cd_law_stream ct_law_stream oc_Ratio_mul kV_Ratio_mul dc_Ratio_mul pm_Ratio_mul cd_Ratio_mul ct_Ratio_mul oc_quotient kV_quotient dc_quotient pm_quotient cd_quotient ct_quotient oc_power kV_power dc_power pm_power cd_power ct_power oc_law kV_law dc_law pm_law cd_law ct_law : Value}
    {T_Ratio_init : Addr} {tc_Ratio_init : Value} {td_Ratio_init : Option Addr} {ar_Ratio_init : Array Value} {tn_Ratio_init : Nat} {ts_Ratio_init : Array (Option Value)}
    (a_greatest_divisor : PySem.W.nsIn K mainGlobals "greatest_divisor" = some (some (.ref f_greatest_divisor)))
    (l_greatest_divisor : K.lookup f_greatest_divisor = some ⟨oc_greatest_divisor, od_greatest_divisor, .func (PySem.W.fnOf "greatest_divisor" "greatest_divisor" (defArgs s_greatest_divisor) (defBody s_greatest_divisor) (defScope s_greatest_divisor) .none kV_greatest_divisor dc_greatest_divisor pm_greatest_divisor an_greatest_divisor cd_greatest_divisor ct_greatest_divisor), sl_greatest_divisor⟩)
    (c_greatest_divisor : PySem.W.codeIn K cd_greatest_divisor "greatest_divisor" = true)
    (k_greatest_divisor : PySem.W.keepIn K (.ref f_greatest_divisor) = true)
    (a_Ratio_init : PySem.W.findIn K (.ref C_Ratio) "__init__" = some (some (.ref f_Ratio_init)))
    (i_Ratio_init : PySem.W.isFn K (.ref f_Ratio_init) = true)
    (l_Ratio_init : K.lookup f_Ratio_init = some ⟨oc_Ratio_init, od_Ratio_init, .func (PySem.W.fnOf "__init__" "Ratio.__init__" (defArgs s_Ratio_init) (defBody s_Ratio_init) (defScope s_Ratio_init) (.ref T_Ratio_init) kV_Ratio_init dc_Ratio_init pm_Ratio_init an_Ratio_init cd_Ratio_init ct_Ratio_init), sl_Ratio_init⟩)
    (c_Ratio_init : PySem.W.codeIn K cd_Ratio_init "Ratio.__init__" = true)
    (k_Ratio_init : PySem.W.keepIn K (.ref f_Ratio_init) = true)
    (t_Ratio_init : K.lookup T_Ratio_init = some ⟨tc_Ratio_init, td_Ratio_init, .seq ar_Ratio_init tn_Ratio_init, ts_Ratio_init⟩)
    (v_Ratio_init : Vals [.int 1] ar_Ratio_init.toList)
    (a_law_draw : PySem.W.nsIn K mainGlobals "_law_draw" = some (some (.ref f_law_draw)))
    (l_law_draw : K.lookup f_law_draw = some ⟨oc_law_draw, od_law_draw, .func (PySem.W.fnOf "_law_draw" "_law_draw" (defArgs s_law_draw) (defBody s_law_draw) (defScope s_law_draw) .none kV_law_draw dc_law_draw pm_law_draw an_law_draw cd_law_draw ct_law_draw), sl_law_draw⟩)
    (c_law_draw : PySem.W.codeIn K cd_law_draw "_law_draw" = true)
    (k_law_draw : PySem.W.keepIn K (.ref f_law_draw) = true)
    (a_law_pair : PySem.W.nsIn K mainGlobals "_law_pair" = some (some (.ref f_law_pair)))
    (l_law_pair : K.lookup f_law_pair = some ⟨oc_law_pair, od_law_pair, .func (PySem.W.fnOf "_law_pair" "_law_pair" (defArgs s_law_pair) (defBody s_law_pair) (defScope s_law_pair) .none kV_law_pair dc_law_pair pm_law_pair an_law_pair cd_law_pair ct_law_pair), sl_law_pair⟩)
    (c_law_pair : PySem.W.codeIn K cd_law_pair "_law_pair" = true)
    (k_law_pair : PySem.W.keepIn K (.ref f_law_pair) = true)
    (a_law_far : PySem.W.nsIn K mainGlobals "_law_far" = some (some (.ref f_law_far)))
    (l_law_far : K.lookup f_law_far = some ⟨oc_law_far, od_law_far, .func (PySem.W.fnOf "_law_far" "_law_far" (defArgs s_law_far) (defBody s_law_far) (defScope s_law_far) .none kV_law_far dc_law_far pm_law_far an_law_far cd_law_far ct_law_far), sl_law_far⟩)
    (c_law_far : PySem.W.codeIn K cd_law_far "_law_far" = true)
    (k_law_far : PySem.W.keepIn K (.ref f_law_far) = true)
    (a_law_whole : PySem.W.nsIn K mainGlobals "_law_whole" = some (some (.ref f_law_whole)))
    (l_law_whole : K.lookup f_law_whole = some ⟨oc_law_whole, od_law_whole, .func (PySem.W.fnOf "_law_whole" "_law_whole" (defArgs s_law_whole) (defBody s_law_whole) (defScope s_law_whole) .none kV_law_whole dc_law_whole pm_law_whole an_law_whole cd_law_whole ct_law_whole), sl_law_whole⟩)
    (c_law_whole : PySem.W.codeIn K cd_law_whole "_law_whole" = true)
    (k_law_whole : PySem.W.keepIn K (.ref f_law_whole) = true)
    (a_law_drawn_pair : PySem.W.nsIn K mainGlobals "_law_drawn_pair" = some (some (.ref f_law_drawn_pair)))
    (l_law_drawn_pair : K.lookup f_law_drawn_pair = some ⟨oc_law_drawn_pair, od_law_drawn_pair, .func (PySem.W.fnOf "_law_drawn_pair" "_law_drawn_pair" (defArgs s_law_drawn_pair) (defBody s_law_drawn_pair) (defScope s_law_drawn_pair) .none kV_law_drawn_pair dc_law_drawn_pair pm_law_drawn_pair an_law_drawn_pair cd_law_drawn_pair ct_law_drawn_pair), sl_law_drawn_pair⟩)
    (c_law_drawn_pair : PySem.W.codeIn K cd_law_drawn_pair "_law_drawn_pair" = true)
    (k_law_drawn_pair : PySem.W.keepIn K (.ref f_law_drawn_pair) = true)
    (a_law_is : PySem.W.nsIn K mainGlobals "_law_is" = some (some (.ref f_law_is)))
    (l_law_is : K.lookup f_law_is = some ⟨oc_law_is, od_law_is, .func (PySem.W.fnOf "_law_is" "_law_is" (defArgs s_law_is) (defBody s_law_is) (defScope s_law_is) .none kV_law_is dc_law_is pm_law_is an_law_is cd_law_is ct_law_is), sl_law_is⟩)
    (c_law_is : PySem.W.codeIn K cd_law_is "_law_is" = true)
    (k_law_is : PySem.W.keepIn K (.ref f_law_is) = true)
    (a_law_signed : PySem.W.nsIn K mainGlobals "_law_signed" = some (some (.ref f_law_signed)))
    (l_law_signed : K.lookup f_law_signed = some ⟨oc_law_signed, od_law_signed, .func (PySem.W.fnOf "_law_signed" "_law_signed" (defArgs s_law_signed) (defBody s_law_signed) (defScope s_law_signed) .none kV_law_signed dc_law_signed pm_law_signed an_law_signed cd_law_signed ct_law_signed), sl_law_signed⟩)
    (c_law_signed : PySem.W.codeIn K cd_law_signed "_law_signed" = true)
    (k_law_signed : PySem.W.keepIn K (.ref f_law_signed) = true)
    (a_law_stream : PySem.W.nsIn K mainGlobals "_law_stream" = some (some (.ref f_law_stream)))
    (l_law_stream : K.lookup f_law_stream = some ⟨oc_law_stream, od_law_stream, .func (PySem.W.fnOf "_law_stream" "_law_stream" (defArgs s_law_stream) (defBody s_law_stream) (defScope s_law_stream) .none kV_law_stream dc_law_stream pm_law_stream an_law_stream cd_law_stream ct_law_stream), sl_law_stream⟩)
    (c_law_stream : PySem.W.codeIn K cd_law_stream "_law_stream" = true)
    (k_law_stream : PySem.W.keepIn K (.ref f_law_stream) = true)
    (a_Ratio_mul : PySem.W.findIn K (.ref C_Ratio) "__mul__" = some (some (.ref f_Ratio_mul)))
    (i_Ratio_mul : PySem.W.isFn K (.ref f_Ratio_mul) = true)
    (l_Ratio_mul : K.lookup f_Ratio_mul = some ⟨oc_Ratio_mul, od_Ratio_mul, .func (PySem.W.fnOf "__mul__" "Ratio.__mul__" (defArgs s_Ratio_mul) (defBody s_Ratio_mul) (defScope s_Ratio_mul) .none kV_Ratio_mul dc_Ratio_mul pm_Ratio_mul an_Ratio_mul cd_Ratio_mul ct_Ratio_mul), sl_Ratio_mul⟩)
    (c_Ratio_mul : PySem.W.codeIn K cd_Ratio_mul "Ratio.__mul__" = true)
    (k_Ratio_mul : PySem.W.keepIn K (.ref f_Ratio_mul) = true)
    (a_quotient : PySem.W.nsIn K mainGlobals "quotient" = some (some (.ref f_quotient)))
    (l_quotient : K.lookup f_quotient = some ⟨oc_quotient, od_quotient, .func (PySem.W.fnOf "quotient" "quotient" (defArgs s_quotient) (defBody s_quotient) (defScope s_quotient) .none kV_quotient dc_quotient pm_quotient an_quotient cd_quotient ct_quotient), sl_quotient⟩)
    (c_quotient : PySem.W.codeIn K cd_quotient "quotient" = true)
    (k_quotient : PySem.W.keepIn K (.ref f_quotient) = true)
    (a_power : PySem.W.nsIn K mainGlobals "power" = some (some (.ref f_power)))
    (l_power : K.lookup f_power = some ⟨oc_power, od_power, .func (PySem.W.fnOf "power" "power" (defArgs s_power) (defBody s_power) (defScope s_power) .none kV_power dc_power pm_power an_power cd_power ct_power), sl_power⟩)
    (c_power : PySem.W.codeIn K cd_power "power" = true)
    (k_power : PySem.W.keepIn K (.ref f_power) = true)
    (a_law : PySem.W.nsIn K mainGlobals "law" = some (some (.ref f_law)))
    (l_law : K.lookup f_law = some ⟨oc_law, od_law, .func (PySem.W.fnOf "law" "law" (defArgs s_law) (defBody s_law) (defScope s_law) .none kV_law dc_law pm_law an_law cd_law ct_law), sl_law⟩)
    (c_law : PySem.W.codeIn K cd_law "law" = true)
    (k_law : PySem.W.keepIn K (.ref f_law) = true)
    (g_LinkworkError : PySem.W.nsIn K mainGlobals "LinkworkError" = some (some (.ref C_LinkworkError)))
    (hd_LinkworkError : PySem.W.hasDictIn K C_LinkworkError = true)
    (ty_LinkworkError : PySem.W.typeIn K (.ref C_LinkworkError) = some (.type "type"))
    (kc_LinkworkError : PySem.W.keepIn K (.ref C_LinkworkError) = true)
    (g_ByZero : PySem.W.nsIn K mainGlobals "ByZero" = some (some (.ref C_ByZero)))
    (hd_ByZero : PySem.W.hasDictIn K C_ByZero = true)
    (ty_ByZero : PySem.W.typeIn K (.ref C_ByZero) = some (.type "type"))
    (kc_ByZero : PySem.W.keepIn K (.ref C_ByZero) = true)
    (g_Ratio : PySem.W.nsIn K mainGlobals "Ratio" = some (some (.ref C_Ratio)))
    (hd_Ratio : PySem.W.hasDictIn K C_Ratio = true)
    (ty_Ratio : PySem.W.typeIn K (.ref C_Ratio) = some (.type "type"))
    (kc_Ratio : PySem.W.keepIn K (.ref C_Ratio) = true)
    (pg_Ratio : PySem.W.plainGet K C_Ratio Str.empty = true)
    (po_Ratio : PySem.W.plainOver K C_Ratio = true)
    (sa_Ratio : PySem.W.findIn K (.ref C_Ratio) "__setattr__" = some (some (.builtin "object.__setattr__")))
    (mk_Ratio : PySem.W.makesIn K C_Ratio = true)
    (ha_Ratio : PySem.W.findIn K (.ref C_Ratio) "__class__" = some (some (.builtin "object.__class__")))
    (hm_Ratio : PySem.W.mroIn K C_Ratio (.type "object") = some true)
    (sf_Ratio : PySem.W.selfFirst K C_Ratio = true)
    (na_Ratio_0 : PySem.W.findIn K (.ref C_Ratio) "top" = some none)
    (na_Ratio_1 : PySem.W.findIn K (.ref C_Ratio) "bottom" = some none)
    (hn_class : PySem.W.specialIn K (.builtin "object.__class__") "__get__" = some (some (.builtin "getset_descriptor.__get__")))
    (ht_class : PySem.W.takesIn K (.builtin "object.__class__") = some true)
    (sb_LinkworkError : PySem.W.subIn K (.ref C_LinkworkError) (.type "BaseException") = some true)
    (x_LinkworkError : PySem.W.excIn K C_LinkworkError [.type "ValueError", .type "Exception", .type "BaseException", .type "object"] "ValueError.__new__" = true)
    (se_LinkworkError_LinkworkError : PySem.W.subIn K (.ref C_LinkworkError) (.ref C_LinkworkError) = some true)
    (se_LinkworkError_ByZero : PySem.W.subIn K (.ref C_LinkworkError) (.ref C_ByZero) = some false)
    (sb_ByZero : PySem.W.subIn K (.ref C_ByZero) (.type "BaseException") = some true)
    (x_ByZero : PySem.W.excIn K C_ByZero [.type "ValueError", .type "Exception", .type "BaseException", .type "object"] "ValueError.__new__" = true)
    (se_ByZero_LinkworkError : PySem.W.subIn K (.ref C_ByZero) (.ref C_LinkworkError) = some true)
    (se_ByZero_ByZero : PySem.W.subIn K (.ref C_ByZero) (.ref C_ByZero) = some true)
    (s_NoneType_Ratio : PySem.W.subIn K (.type "NoneType") (.ref C_Ratio) = some false)
    (s_bool_Ratio : PySem.W.subIn K (.type "bool") (.ref C_Ratio) = some false)
    (s_int_Ratio : PySem.W.subIn K (.type "int") (.ref C_Ratio) = some false)
    (s_str_Ratio : PySem.W.subIn K (.type "str") (.ref C_Ratio) = some false)
    (s_tuple_Ratio : PySem.W.subIn K (.type "tuple") (.ref C_Ratio) = some false)
    (s_list_Ratio : PySem.W.subIn K (.type "list") (.ref C_Ratio) = some false)
    (s_dict_Ratio : PySem.W.subIn K (.type "dict") (.ref C_Ratio) = some false)
    (s_Ratio_bool : PySem.W.subIn K (.ref C_Ratio) (.type "bool") = some false)
    (z_abs : PySem.W.nsIn K mainGlobals "abs" = some none)
    (z_bool : PySem.W.nsIn K mainGlobals "bool" = some none)
    (z_int : PySem.W.nsIn K mainGlobals "int" = some none)
    (z_isinstance : PySem.W.nsIn K mainGlobals "isinstance" = some none)
    (z_len : PySem.W.nsIn K mainGlobals "len" = some none)
    (z_list : PySem.W.nsIn K mainGlobals "list" = some none)
    (z_range : PySem.W.nsIn K mainGlobals "range" = some none)
    : ∃ (e : En) (fd : FuncData), e.K = K ∧ (∀ (s : Shared) (v : Value), BindsTo s fd ⟨[v], []⟩ [("_law_script", v)]) ∧ ∀ base : Heap, K.In base → base.Ns mainGlobals mg → FnOk l.prog w K mg base (L2.CX l.prog w) 6 fa fd ["_law_script"] (spOf e 1 m_law) := by
  have e := hfa.symm.trans (PySem.W.mg_of X G a_law)
  cases e
  have na_all_Ratio : ∀ f ∈ [("top" : Str), ("bottom" : Str)], NoAttr K C_Ratio f := fun f hf => by
    simp only [List.mem_cons, List.not_mem_nil, or_false] at hf
    rcases hf with rfl | rfl
    · exact na_Ratio_0
    · exact na_Ratio_1
  have FD_Ratio_init : FunD K "__init__" "Ratio.__init__" (defArgs s_Ratio_init) (defBody s_Ratio_init) (defScope s_Ratio_init) [.int 1] [] f_Ratio_init _ := ⟨⟨_, _, _, _, _, _, _, _, _, _, rfl, l_Ratio_init, c_Ratio_init, .inr ⟨List.cons_ne_nil _ _, _, _, ar_Ratio_init.toList, tn_Ratio_init, rfl, t_Ratio_init, (by rw [Array.toArray_toList]), v_Ratio_init⟩, .inl rfl⟩, k_Ratio_init⟩
  have b_Ratio_init_2 : ∃ ds, Vals [.int 1] ds ∧ Binds K _ ["self", "numerator", "denominator"] ds := FD_Ratio_init.binds1 (ps := ["self", "numerator", "denominator"]) 2 0 (List.cons_ne_nil _ _) rfl fun T kV doc pm an cdv ct us its h1 h2 => match us, its, h1, h2 with | [_, _], [_], _, _ => ⟨_, rfl, rfl⟩
  have b_Ratio_init_3 : ∃ ds, Vals [] ds ∧ Binds K _ ["self", "numerator", "denominator"] ds := FD_Ratio_init.binds1 (ps := ["self", "numerator", "denominator"]) 3 1 (List.cons_ne_nil _ _) rfl fun T kV doc pm an cdv ct us its h1 h2 => match us, its, h1, h2 with | [_, _, _], [_], _, _ => ⟨_, rfl, rfl⟩
  have T : Txt K mg ⟨f_greatest_divisor, _, f_Ratio_init, _, f_law_draw, _, f_law_pair, _, f_law_far, _, f_law_whole, _, f_law_drawn_pair, _, f_law_is, _, f_law_signed, _, f_law_stream, _, f_Ratio_mul, _, f_quotient, _, f_power, _, fa, _, C_LinkworkError, C_ByZero, C_Ratio⟩ :=
    { F_greatest_divisor := fun_mk (st := s_greatest_divisor) l_greatest_divisor c_greatest_divisor k_greatest_divisor
      b_greatest_divisor := (fun_mk (st := s_greatest_divisor) l_greatest_divisor c_greatest_divisor k_greatest_divisor).binds (ps := ["a", "b"]) fun _ _ _ _ _ _ us hl => match us, hl with | [_, _], _ => rfl
      p_greatest_divisor := k_greatest_divisor
      m_greatest_divisor := PySem.W.mg_of X G a_greatest_divisor
      F_Ratio_init := FD_Ratio_init
      b_Ratio_init_2 := b_Ratio_init_2
      b_Ratio_init_3 := b_Ratio_init_3
      p_Ratio_init := k_Ratio_init
      F_law_draw := fun_mk (st := s_law_draw) l_law_draw c_law_draw k_law_draw
      b_law_draw := (fun_mk (st := s_law_draw) l_law_draw c_law_draw k_law_draw).binds (ps := ["_law_stream_here", "_law_many"]) fun _ _ _ _ _ _ us hl => match us, hl with | [_, _], _ => rfl
      p_law_draw := k_law_draw
      m_law_draw := PySem.W.mg_of X G a_law_draw
      F_law_pair := fun_mk (st := s_law_pair) l_law_pair c_law_pair k_law_pair
      b_law_pair := (fun_mk (st := s_law_pair) l_law_pair c_law_pair k_law_pair).binds (ps := ["_law_n", "_law_d"]) fun _ _ _ _ _ _ us hl => match us, hl with | [_, _], _ => rfl
      p_law_pair := k_law_pair
      m_law_pair := PySem.W.mg_of X G a_law_pair
      F_law_far := fun_mk (st := s_law_far) l_law_far c_law_far k_law_far
      b_law_far := (fun_mk (st := s_law_far) l_law_far c_law_far k_law_far).binds (ps := ["_law_stream_here"]) fun _ _ _ _ _ _ us hl => match us, hl with | [_], _ => rfl
      p_law_far := k_law_far
      m_law_far := PySem.W.mg_of X G a_law_far
      F_law_whole := fun_mk (st := s_law_whole) l_law_whole c_law_whole k_law_whole
      b_law_whole := (fun_mk (st := s_law_whole) l_law_whole c_law_whole k_law_whole).binds (ps := ["_law_stream_here"]) fun _ _ _ _ _ _ us hl => match us, hl with | [_], _ => rfl
      p_law_whole := k_law_whole
      m_law_whole := PySem.W.mg_of X G a_law_whole
      F_law_drawn_pair := fun_mk (st := s_law_drawn_pair) l_law_drawn_pair c_law_drawn_pair k_law_drawn_pair
      b_law_drawn_pair := (fun_mk (st := s_law_drawn_pair) l_law_drawn_pair c_law_drawn_pair k_law_drawn_pair).binds (ps := ["_law_stream_here"]) fun _ _ _ _ _ _ us hl => match us, hl with | [_], _ => rfl
      p_law_drawn_pair := k_law_drawn_pair
      m_law_drawn_pair := PySem.W.mg_of X G a_law_drawn_pair
      F_law_is := fun_mk (st := s_law_is) l_law_is c_law_is k_law_is
      b_law_is := (fun_mk (st := s_law_is) l_law_is c_law_is k_law_is).binds (ps := ["_law_value", "_law_pair_here"]) fun _ _ _ _ _ _ us hl => match us, hl with | [_, _], _ => rfl
      p_law_is := k_law_is
      m_law_is := PySem.W.mg_of X G a_law_is
      F_law_signed := fun_mk (st := s_law_signed) l_law_signed c_law_signed k_law_signed
      b_law_signed := (fun_mk (st := s_law_signed) l_law_signed c_law_signed k_law_signed).binds (ps := ["_law_n", "_law_d"]) fun _ _ _ _ _ _ us hl => match us, hl with | [_, _], _ => rfl
      p_law_signed := k_law_signed
      m_law_signed := PySem.W.mg_of X G a_law_signed
      F_law_stream := fun_mk (st := s_law_stream) l_law_stream c_law_stream k_law_stream
      b_law_stream := (fun_mk (st := s_law_stream) l_law_stream c_law_stream k_law_stream).binds (ps := ["_law_script"]) fun _ _ _ _ _ _ us hl => match us, hl with | [_], _ => rfl
      p_law_stream := k_law_stream
      m_law_stream := PySem.W.mg_of X G a_law_stream
      F_Ratio_mul := fun_mk (st := s_Ratio_mul) l_Ratio_mul c_Ratio_mul k_Ratio_mul
      b_Ratio_mul := (fun_mk (st := s_Ratio_mul) l_Ratio_mul c_Ratio_mul k_Ratio_mul).binds (ps := ["self", "other"]) fun _ _ _ _ _ _ us hl => match us, hl with | [_, _], _ => rfl
      p_Ratio_mul := k_Ratio_mul
      o_Ratio_mul := ⟨sf_Ratio, a_Ratio_mul, i_Ratio_mul⟩
      F_quotient := fun_mk (st := s_quotient) l_quotient c_quotient k_quotient
      b_quotient := (fun_mk (st := s_quotient) l_quotient c_quotient k_quotient).binds (ps := ["first", "second"]) fun _ _ _ _ _ _ us hl => match us, hl with | [_, _], _ => rfl
      p_quotient := k_quotient
      m_quotient := PySem.W.mg_of X G a_quotient
      F_power := fun_mk (st := s_power) l_power c_power k_power
      b_power := (fun_mk (st := s_power) l_power c_power k_power).binds (ps := ["base", "exponent"]) fun _ _ _ _ _ _ us hl => match us, hl with | [_, _], _ => rfl
      p_power := k_power
      m_power := PySem.W.mg_of X G a_power
      F_law := fun_mk (st := s_law) l_law c_law k_law
      b_law := (fun_mk (st := s_law) l_law c_law k_law).binds (ps := ["_law_script"]) fun _ _ _ _ _ _ us hl => match us, hl with | [_], _ => rfl
      p_law := k_law
      m_law := PySem.W.mg_of X G a_law
      m_LinkworkError := PySem.W.mg_of X G g_LinkworkError
      ty_LinkworkError := ty_LinkworkError
      hd_LinkworkError := hd_LinkworkError
      kp_LinkworkError := kc_LinkworkError
      m_ByZero := PySem.W.mg_of X G g_ByZero
      ty_ByZero := ty_ByZero
      hd_ByZero := hd_ByZero
      kp_ByZero := kc_ByZero
      m_Ratio := PySem.W.mg_of X G g_Ratio
      ty_Ratio := ty_Ratio
      hd_Ratio := hd_Ratio
      kp_Ratio := kc_Ratio
      cl_Ratio := ⟨⟨pg_Ratio, hd_Ratio, po_Ratio, sa_Ratio⟩, (show (["top", "bottom"] : List Str).Nodup by decide +kernel), na_all_Ratio, (show 2 ≤ 900 by decide)⟩
      is_Ratio := ⟨⟨pg_Ratio, hd_Ratio, po_Ratio, sa_Ratio⟩, ha_Ratio, hn_class, ht_class, hm_Ratio⟩
      mk_Ratio := ⟨mk_Ratio, a_Ratio_init, i_Ratio_init, kc_Ratio⟩
      sb_LinkworkError := sb_LinkworkError
      x_LinkworkError := x_LinkworkError
      se_LinkworkError_LinkworkError := se_LinkworkError_LinkworkError
      se_LinkworkError_ByZero := se_LinkworkError_ByZero
      sb_ByZero := sb_ByZero
      x_ByZero := x_ByZero
      se_ByZero_LinkworkError := se_ByZero_LinkworkError
      se_ByZero_ByZero := se_ByZero_ByZero
      s_NoneType_Ratio := s_NoneType_Ratio
      s_bool_Ratio := s_bool_Ratio
      s_int_Ratio := s_int_Ratio
      s_str_Ratio := s_str_Ratio
      s_tuple_Ratio := s_tuple_Ratio
      s_list_Ratio := s_list_Ratio
      s_dict_Ratio := s_dict_Ratio
      s_Ratio_bool := s_Ratio_bool
      n_abs := PySem.W.mg_none_of X G z_abs
      n_bool := PySem.W.mg_none_of X G z_bool
      n_int := PySem.W.mg_none_of X G z_int
      n_isinstance := PySem.W.mg_none_of X G z_isinstance
      n_len := PySem.W.mg_none_of X G z_len
      n_list := PySem.W.mg_none_of X G z_list
      n_range := PySem.W.mg_none_of X G z_range }
  exact ⟨enA K _, PySem.W.fnOf "law" "law" (defArgs s_law) (defBody s_law) (defScope s_law) .none kV_law dc_law pm_law an_law cd_law ct_law, rfl, fun s v => .of_eq rfl, fun base _ _ => ok_law T⟩
end LawP
open PySem PySem.W PyProof.Rows
set_option maxRecDepth 100000 in
set_option maxHeartbeats 0 in
theorem PySem.Challenge.cw_linkwork_k05_powers_holds : PySem.Challenge.rw_linkwork_k05_powers.Holds := by
  w_on; o_law; k_head; (case hw => w_witness2)
  k_fill
  refine Mi.law_walk (l := PySem.Challenge.rw_linkwork_k05_powers) (k := 6) (x := "_law_script") (f := LawP.m_law) rfl rfl ⟨rfl, by decide, by decide⟩ (fun w h Y => PySem.W.kIn_of Y) LawP.law_ok ?F
  case F =>
    intro w mg fa h KX G hmg
    refine' LawP.all_mk KX G hmg ?a_greatest_divisor ?l_greatest_divisor ?c_greatest_divisor ?k_greatest_divisor ?a_Ratio_init ?i_Ratio_init ?l_Ratio_init ?c_Ratio_init ?k_Ratio_init ?t_Ratio_init ?v_Ratio_init ?a_law_draw ?l_law_draw ?c_law_draw ?k_law_draw ?a_law_pair ?l_law_pair ?c_law_pair ?k_law_pair ?a_law_far ?l_law_far ?c_law_far ?k_law_far ?a_law_whole ?l_law_whole ?c_law_whole ?k_law_whole ?a_law_drawn_pair ?l_law_drawn_pair ?c_law_drawn_pair ?k_law_drawn_pair ?a_law_is ?l_law_is ?c_law_is ?k_law_is ?a_law_signed ?l_law_signed ?c_law_signed ?k_law_signed ?a_law_stream ?l_law_stream ?c_law_stream ?k_law_stream ?a_Ratio_mul ?i_Ratio_mul ?l_Ratio_mul ?c_Ratio_mul ?k_Ratio_mul ?a_quotient ?l_quotient ?c_quotient ?k_quotient ?a_power ?l_power ?c_power ?k_power ?a_law ?l_law ?c_law ?k_law ?g_LinkworkError ?hd_LinkworkError ?ty_LinkworkError ?kc_LinkworkError ?g_ByZero ?hd_ByZero ?ty_ByZero ?kc_ByZero ?g_Ratio ?hd_Ratio ?ty_Ratio ?kc_Ratio ?pg_Ratio ?po_Ratio ?sa_Ratio ?mk_Ratio ?ha_Ratio ?hm_Ratio ?sf_Ratio ?na_Ratio_0 ?na_Ratio_1 ?hn_class ?ht_class ?sb_LinkworkError ?x_LinkworkError ?se_LinkworkError_LinkworkError ?se_LinkworkError_ByZero ?sb_ByZero ?x_ByZero ?se_ByZero_LinkworkError ?se_ByZero_ByZero ?s_NoneType_Ratio ?s_bool_Ratio ?s_int_Ratio ?s_str_Ratio ?s_tuple_Ratio ?s_list_Ratio ?s_dict_Ratio ?s_Ratio_bool ?z_abs ?z_bool ?z_int ?z_isinstance ?z_len ?z_list ?z_range
    (case g_LinkworkError => k_is)
    (case g_ByZero => k_is)
    (case g_Ratio => k_is)
    (case a_greatest_divisor => k_is)
    (case l_greatest_divisor => k_is)
    (case c_greatest_divisor => k_is)
    (case k_greatest_divisor => k_is)
    (case a_Ratio_init => k_is)
    (case i_Ratio_init => k_is)
    (case l_Ratio_init => k_is)
    (case c_Ratio_init => k_is)
    (case k_Ratio_init => k_is)
    (case t_Ratio_init => k_is)
    (case v_Ratio_init => exact .cons ⟨_, rfl⟩ .nil)
    (case a_law_draw => k_is)
    (case l_law_draw => k_is)
    (case c_law_draw => k_is)
    (case k_law_draw => k_is)
    (case a_law_pair => k_is)
    (case l_law_pair => k_is)
    (case c_law_pair => k_is)
    (case k_law_pair => k_is)
    (case a_law_far => k_is)
    (case l_law_far => k_is)
    (case c_law_far => k_is)
    (case k_law_far => k_is)
    (case a_law_whole => k_is)
    (case l_law_whole => k_is)
    (case c_law_whole => k_is)
    (case k_law_whole => k_is)
    (case a_law_drawn_pair => k_is)
    (case l_law_drawn_pair => k_is)
    (case c_law_drawn_pair => k_is)
    (case k_law_drawn_pair => k_is)
    (case a_law_is => k_is)
    (case l_law_is => k_is)
    (case c_law_is => k_is)
    (case k_law_is => k_is)
    (case a_law_signed => k_is)
    (case l_law_signed => k_is)
    (case c_law_signed => k_is)
    (case k_law_signed => k_is)
    (case a_law_stream => k_is)
    (case l_law_stream => k_is)
    (case c_law_stream => k_is)
    (case k_law_stream => k_is)
    (case a_Ratio_mul => k_is)
    (case i_Ratio_mul => k_is)
    (case l_Ratio_mul => k_is)
    (case c_Ratio_mul => k_is)
    (case k_Ratio_mul => k_is)
    (case a_quotient => k_is)
    (case l_quotient => k_is)
    (case c_quotient => k_is)
    (case k_quotient => k_is)
    (case a_power => k_is)
    (case l_power => k_is)
    (case c_power => k_is)
    (case k_power => k_is)
    (case a_law => k_is)
    (case l_law => k_is)
    (case c_law => k_is)
    (case k_law => k_is)
    (case hd_LinkworkError => k_is)
    (case ty_LinkworkError => k_is)
    (case kc_LinkworkError => k_is)
    (case hd_ByZero => k_is)
    (case ty_ByZero => k_is)
    (case kc_ByZero => k_is)
    (case hd_Ratio => k_is)
    (case ty_Ratio => k_is)
    (case kc_Ratio => k_is)
    (case pg_Ratio => k_is)
    (case po_Ratio => k_is)
    (case sa_Ratio => k_is)
    (case mk_Ratio => k_is)
    (case ha_Ratio => k_is)
    (case hm_Ratio => k_is)
    (case sf_Ratio => k_is)
    (case na_Ratio_0 => k_is)
    (case na_Ratio_1 => k_is)
    (case hn_class => k_is)
    (case ht_class => k_is)
    (case sb_LinkworkError => k_is)
    (case x_LinkworkError => k_exc)
    (case se_LinkworkError_LinkworkError => k_is)
    (case se_LinkworkError_ByZero => k_is)
    (case sb_ByZero => k_is)
    (case x_ByZero => k_exc)
    (case se_ByZero_LinkworkError => k_is)
    (case se_ByZero_ByZero => k_is)
    (case s_NoneType_Ratio => k_is)
    (case s_bool_Ratio => k_is)
    (case s_int_Ratio => k_is)
    (case s_str_Ratio => k_is)
    (case s_tuple_Ratio => k_is)
    (case s_list_Ratio => k_is)
    (case s_dict_Ratio => k_is)
    (case s_Ratio_bool => k_is)
    (case z_abs => k_is)
    (case z_bool => k_is)
    (case z_int => k_is)
    (case z_isinstance => k_is)
    (case z_len => k_is)
    (case z_list => k_is)
    (case z_range => k_is)

end
