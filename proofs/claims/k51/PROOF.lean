import PyProof.Rows.All
import Wide.All
import OpenK.AllK
import Wide.FinOn
import HandS.ForMost
import HandS.ForExc
import HandS.Wide
import HandS.Defaults
import HandS.ExcInit
import HandS.IsInst
import HandS.ExcIs
import HandS.TryMany
import HandS.More
import HandS.DictComp
import HandS.RaiseMore
import HandS.TupAny
import HandS.Text
import HandS.OwnEq
import HandS.DictEq
import KE.SortData
import KE.DataEq
import KE.DataAny
import HandS.SortKw
import KE.DataMinMax
import KE.GoesRaise
import HandS.TryOnly
import PyProof.ReprRoads
import KE.KRevSl
import HandS.DictTup
import PyProof.StrOps2
import HandS.Conv
import HandS.TupLen
import PySem.Challenge.RW_linkwork_k51_matchings
set_option Elab.async false
set_option linter.all false
section
set_option maxRecDepth 100000
/-! Mi0: data without addresses (D), how a heap bears it (Rep), the state of a frame by values (Rl). -/
namespace Mi
open PySem L2

/-- data without addresses -/
inductive D where
  | non | bl (b : Bool) | int (i : Int) | str (x : Str)
  | tup (l : List D) | lst (l : List D)
  | dK (ks : List Key) (l : List D) | dT (ks : List (List Key)) (l : List D)
  | ins (c : Nat) (l : List D)
  | scr (l : List D)
/-- what is in a slot: nothing that is known, a value that is never changed any more, a container of one's own -/
inductive LV where
  | un | val (d : D) | own (d : D)
abbrev Rho := List LV
/-- an exception: its class's number, its fields -/
structure Ex where
  c : Nat
  l : List D
/-- what an expression yields: a value, a new container, the container of a slot -/
inductive RV where
  | val (d : D) | own (d : D) | bor (i : Nat)
inductive R0 where
  | val (d : D) | own (d : D)
inductive Ou (α : Type) where
  | ok (a : α) (r : Rho) | ex (x : Ex) (r : Rho) | no
inductive So where
  | nx (r : Rho) | rt (a : R0) (r : Rho) | bk (r : Rho) | ct (r : Rho) | ex (x : Ex) (r : Rho) | no

/-- the classes by numbers: where they stand, their fields in the order of __init__ -/
structure En where
  K : PySem.W.Frag
  ct : Nat → Addr
  fl : Nat → List Str

def isDct : HO → Bool
  | .dK _ => true
  | .dT _ => true
  | _ => false
/-- as it stands, or locked by a walk -/
def Lk (H : Hp) (a : Addr) (u : HO) : Prop := H a = some u ∨ (isDct u = true ∧ ∃ o, H a = some (.frz o u))
def Und (F H : Hp) : Prop := ∀ a u, F a = some u → Lk H a u

mutual
def Rep (e : En) (F : Hp) : D → V → Prop
  | .non, v => v = .non
  | .bl b, v => v = .bl b
  | .int i, v => v = .int i
  | .str x, v => v = .str x
  | .tup l, v => ∃ a vs, v = .ref a ∧ F a = some (.tup vs) ∧ RepL e F l vs
  | .lst l, v => ∃ a vs, v = .ref a ∧ F a = some (.lst vs) ∧ RepL e F l vs
  | .scr l, v => ∃ a vs, v = .ref a ∧ SqL e.K F a vs ∧ RepL e F l vs
  | .dK ks l, v => ∃ a vs, v = .ref a ∧ F a = some (.dK (ks.zip vs)) ∧ ks.length = vs.length ∧ RepL e F l vs
  | .dT ks l, v => ∃ a vs, v = .ref a ∧ F a = some (.dT (ks.zip vs)) ∧ ks.length = vs.length ∧ RepL e F l vs
  | .ins c l, v => ∃ a dx vs, v = .ref a ∧ F a = some (.ins (e.ct c) dx ((e.fl c).zip vs)) ∧ l.length ≤ (e.fl c).length ∧ RepL e F l vs
def RepL (e : En) (F : Hp) : List D → List V → Prop
  | [], vs => vs = []
  | d :: ds, vs => ∃ v r, vs = v :: r ∧ Rep e F d v ∧ RepL e F ds r
end

section
variable {e : En} {F F' H H' : Hp}
theorem SqT.mono {K : PySem.W.Frag} (s : Same F F') {a : Addr} {xs : List V} (h : SqT K F a xs) : SqT K F' a xs := by
  rcases h with (h | ⟨o, h⟩) | h
  · exact .inl (.inl (s _ _ h))
  · exact .inl (.inr ⟨o, s _ _ h⟩)
  · exact .inr h
mutual
theorem Rep.mono (s : Same F F') : ∀ {d : D} {v : V}, Rep e F d v → Rep e F' d v
  | .non, _, h => h
  | .bl _, _, h => h
  | .int _, _, h => h
  | .str _, _, h => h
  | .tup _, _, ⟨a, vs, h0, h1, h2⟩ => ⟨a, vs, h0, s _ _ h1, RepL.mono s h2⟩
  | .lst _, _, ⟨a, vs, h0, h1, h2⟩ => ⟨a, vs, h0, s _ _ h1, RepL.mono s h2⟩
  | .scr _, _, ⟨a, vs, h0, h1, h2⟩ => ⟨a, vs, h0, s.seq h1, RepL.mono s h2⟩
  | .dK _ _, _, ⟨a, vs, h0, h1, h2, h3⟩ => ⟨a, vs, h0, s _ _ h1, h2, RepL.mono s h3⟩
  | .dT _ _, _, ⟨a, vs, h0, h1, h2, h3⟩ => ⟨a, vs, h0, s _ _ h1, h2, RepL.mono s h3⟩
  | .ins _ _, _, ⟨a, dx, vs, h0, h1, h2, h3⟩ => ⟨a, dx, vs, h0, s _ _ h1, h2, RepL.mono s h3⟩
theorem RepL.mono (s : Same F F') : ∀ {ds : List D} {vs : List V}, RepL e F ds vs → RepL e F' ds vs
  | [], _, h => h
  | _ :: _, _, ⟨v, r, h0, h1, h2⟩ => ⟨v, r, h0, Rep.mono s h1, RepL.mono s h2⟩
end
theorem RepL.len : ∀ {ds : List D} {vs : List V}, RepL e F ds vs → vs.length = ds.length
  | [], _, h => by cases h; rfl
  | _ :: _, _, ⟨v, r, h0, _, h2⟩ => by subst h0; simp [RepL.len h2]
theorem RepL.get : ∀ {ds : List D} {vs : List V} {i : Nat} {d : D}, RepL e F ds vs → ds[i]? = some d → ∃ v, vs[i]? = some v ∧ Rep e F d v
  | [], _, _, _, _, q => by simp at q
  | _ :: _, _, 0, _, ⟨v, r, h0, h1, _⟩, q => by subst h0; simp at q; subst q; exact ⟨v, rfl, h1⟩
  | _ :: _, _, i + 1, _, ⟨v, r, h0, _, h2⟩, q => by subst h0; simp at q; simpa using RepL.get h2 q
theorem RepL.app : ∀ {ds es : List D} {vs ws : List V}, RepL e F ds vs → RepL e F es ws → RepL e F (ds ++ es) (vs ++ ws)
  | [], _, _, _, h, q => by cases h; exact q
  | _ :: _, _, _, _, ⟨v, r, h0, h1, h2⟩, q => by subst h0; exact ⟨v, r ++ _, rfl, h1, RepL.app h2 q⟩
theorem RepL.one {d : D} {v : V} (h : Rep e F d v) : RepL e F [d] [v] := ⟨v, [], rfl, h, rfl⟩
theorem RepL.set : ∀ {ds : List D} {vs : List V} {i : Nat} {d : D} {v : V}, RepL e F ds vs → Rep e F d v → RepL e F (ds.set i d) (vs.set i v)
  | [], _, _, _, _, h, _ => by cases h; exact rfl
  | _ :: _, _, 0, _, v', ⟨v, r, h0, _, h2⟩, q => by subst h0; exact ⟨v', r, rfl, q, h2⟩
  | _ :: _, _, i + 1, _, _, ⟨v, r, h0, h1, h2⟩, q => by subst h0; exact ⟨v, _, rfl, h1, RepL.set h2 q⟩
theorem RepL.drop : ∀ {ds : List D} {vs : List V} (n : Nat), RepL e F ds vs → RepL e F (ds.drop n) (vs.drop n)
  | _, _, 0, h => h
  | [], _, n + 1, h => by cases h; exact rfl
  | _ :: _, _, n + 1, ⟨v, r, h0, _, h2⟩ => by subst h0; exact RepL.drop n h2
theorem RepL.take : ∀ {ds : List D} {vs : List V} (n : Nat), RepL e F ds vs → RepL e F (ds.take n) (vs.take n)
  | _, _, 0, h => rfl
  | [], _, n + 1, h => by cases h; exact rfl
  | _ :: _, _, n + 1, ⟨v, r, h0, h1, h2⟩ => by subst h0; exact ⟨v, _, rfl, h1, RepL.take n h2⟩

/-! ### a container's content -/
/-- the heap's content u bears the data -/
def OR (e : En) (F : Hp) : HO → D → Prop
  | .lst vs, .lst l => RepL e F l vs
  | .tup vs, .tup l => RepL e F l vs
  | .dK kvs, .dK ks l => ∃ vs, kvs = ks.zip vs ∧ ks.length = vs.length ∧ RepL e F l vs
  | .dT kvs, .dT ks l => ∃ vs, kvs = ks.zip vs ∧ ks.length = vs.length ∧ RepL e F l vs
  | .ins C _ fs, .ins c l => ∃ vs, C = e.ct c ∧ fs = (e.fl c).zip vs ∧ l.length ≤ (e.fl c).length ∧ RepL e F l vs
  | _, _ => False
theorem OR.mono (s : Same F F') {u : HO} {d : D} (h : OR e F u d) : OR e F' u d := by
  cases u <;> cases d <;> first
    | exact h.elim
    | exact RepL.mono s h
    | (obtain ⟨vs, h1, h2, h3⟩ := h; exact ⟨vs, h1, h2, RepL.mono s h3⟩)
    | (obtain ⟨vs, h1, h2, h3, h4⟩ := h; exact ⟨vs, h1, h2, h3, RepL.mono s h4⟩)
/-- held by the heap, it is the data -/
theorem OR.rep {a : Addr} {u : HO} {d : D} (h : OR e F u d) (q : F a = some u) : Rep e F d (.ref a) := by
  cases u <;> cases d <;> first
    | exact h.elim
    | exact ⟨a, _, rfl, q, h⟩
    | exact ⟨a, _, rfl, .inl (.inl q), h⟩
    | (obtain ⟨vs, h1, h2, h3⟩ := h; subst h1; exact ⟨a, vs, rfl, q, h2, h3⟩)
    | (obtain ⟨vs, h1, h2, h3, h4⟩ := h; subst h1; subst h2; exact ⟨a, _, vs, rfl, q, h3, h4⟩)

/-- no tuple -/
def NT (d : D) : Prop := ∀ l, d ≠ .tup l
/-- the same, of what may be changed (no tuple) -/
def OM (e : En) (F : Hp) (u : HO) (d : D) : Prop := OR e F u d ∧ NT d
theorem OM.mono (s : Same F F') {u : HO} {d : D} (h : OM e F u d) : OM e F' u d := ⟨OR.mono s h.1, h.2⟩
theorem OM.rep {a : Addr} {u : HO} {d : D} (h : OM e F u d) (q : F a = some u) : Rep e F d (.ref a) := OR.rep h.1 q
theorem OM.nt {u : HO} {d : D} (h : OM e F u d) : ∀ xs, u ≠ .tup xs := fun xs z => by
  subst z
  obtain ⟨h1, h2⟩ := h
  cases d <;> first | exact h1.elim | exact h2 _ rfl

/-! ### a frame's state -/
/-- what goes with a frame: what others keep, what others may change later, the slots that stay -/
structure Fm where
  G : Hp
  B : Addr → Prop
  pn : List (Nat × V)
def Fre (fm : Fm) (F : Hp) (p : Addr) : Prop := F p = none ∧ fm.G p = none ∧ ¬ fm.B p
structure Rl (e : En) (r : Rho) (σ : St) (H F : Hp) (fm : Fm) : Prop where
  fh : Und F H
  gh : Same fm.G H
  bf : ∀ a, fm.B a → F a = none
  bh : ∀ a, fm.B a → H a ≠ none
  bt : ∀ a xs, fm.B a → H a ≠ some (.tup xs)
  ln : σ.length = r.length
  va : ∀ (i : Nat) (d : D), r[i]? = some (.val d) → ∃ v, σ[i]? = some (some v) ∧ Rep e F d v
  ow : ∀ (i : Nat) (d : D), r[i]? = some (.own d) → ∃ p u, σ[i]? = some (some (.ref p)) ∧ H p = some u ∧ OM e F u d ∧ Fre fm F p
  ap : ∀ (i j : Nat) (d d' : D) (p : Addr), r[i]? = some (.own d) → r[j]? = some (.own d') → σ[i]? = some (some (.ref p)) → σ[j]? = some (some (.ref p)) → i = j
  pn : ∀ q ∈ fm.pn, σ[q.1]? = some (some q.2)
/-- a new container that no slot has -/
def Tmp (e : En) (r : Rho) (σ : St) (H F : Hp) (fm : Fm) (p : Addr) (d : D) : Prop :=
  (∃ u, H p = some u ∧ OM e F u d) ∧ Fre fm F p ∧ ∀ (i : Nat) (d' : D), r[i]? = some (.own d') → σ[i]? ≠ some (some (.ref p))
def RvR (e : En) (rv : RV) (v : V) (r : Rho) (σ : St) (H F : Hp) (fm : Fm) : Prop :=
  match rv with
  | .val d => Rep e F d v
  | .own d => ∃ p, v = .ref p ∧ Tmp e r σ H F fm p d
  | .bor i => σ[i]? = some (some v)
end

section
variable {e : En} {F F' H H' : Hp} {r : Rho} {σ : St} {fm : Fm}
theorem Und.lay {p : Addr} {o : HO} (h : Und F H) (n : F p = none) : Und F (upd H p o) := fun a u q => by
  have ne : a ≠ p := ne_of_none q n
  unfold Lk
  rw [upd_ne ne]
  exact h a u q
theorem same_upd {p : Addr} {o : HO} (n : F p = none) : Same F (upd F p o) := fun a u q => by
  rw [upd_ne (ne_of_none q n)]
  exact q
theorem Rl.free (R : Rl e r σ H F fm) {p : Addr} (n : H p = none) : Fre fm F p := by
  refine ⟨?_, ?_, fun b => R.bh p b n⟩
  · cases q : F p with
    | none => rfl
    | some u =>
      rcases R.fh p u q with h | ⟨_, o, h⟩
      · rw [n] at h; cases h
      · rw [n] at h; cases h
  · cases q : fm.G p with
    | none => rfl
    | some u => have := R.gh p u q; rw [n] at this; cases this
theorem Rl.ow' (R : Rl e r σ H F fm) (i : Nat) (d : D) (h : r[i]? = some (.own d)) : ∃ p u, σ[i]? = some (some (.ref p)) ∧ H p = some u ∧ OR e F u d ∧ Fre fm F p := by
  obtain ⟨p, u, h1, h2, h3, h4⟩ := R.ow i d h
  exact ⟨p, u, h1, h2, h3.1, h4⟩
/-- a new object is laid, or a container that is nobody's is changed -/
theorem bt_lay (R : Rl e r σ H F fm) {p : Addr} {o : HO} (n : Fre fm F p) : ∀ a xs, fm.B a → upd H p o a ≠ some (.tup xs) := fun a xs b => by
  have ha : a ≠ p := fun z => n.2.2 (z ▸ b)
  rw [upd_ne ha]
  exact R.bt a xs b
theorem Rl.lay (R : Rl e r σ H F fm) {p : Addr} {o : HO} (n : Fre fm F p) (no : ∀ (i : Nat) (d' : D), r[i]? = some (.own d') → σ[i]? ≠ some (some (.ref p))) : Rl e r σ (upd H p o) F fm where
  fh := R.fh.lay n.1
  gh := fun a u q => by rw [upd_ne (ne_of_none q n.2.1)]; exact R.gh a u q
  bf := R.bf
  bh := fun a b => by
    by_cases ha : a = p
    · subst ha; rw [upd_same]; simp
    · rw [upd_ne ha]; exact R.bh a b
  bt := bt_lay R n
  ln := R.ln
  va := R.va
  ow := fun i d h => by
    obtain ⟨q, u, h1, h2, h3, h4⟩ := R.ow i d h
    refine ⟨q, u, h1, ?_, h3, h4⟩
    have ne : q ≠ p := fun z => no i d h (by rw [← z]; exact h1)
    rw [upd_ne ne]; exact h2
  ap := R.ap
  pn := R.pn
theorem Rl.new (R : Rl e r σ H F fm) {p : Addr} {o : HO} (n : H p = none) : Rl e r σ (upd H p o) F fm := by
  refine R.lay (R.free n) fun i d h z => ?_
  obtain ⟨q, u, h1, h2, _⟩ := R.ow i d h
  rw [h1] at z
  cases z
  rw [n] at h2; cases h2
theorem Rl.notmp (R : Rl e r σ H F fm) {p : Addr} (n : H p = none) : ∀ (i : Nat) (d' : D), r[i]? = some (.own d') → σ[i]? ≠ some (some (.ref p)) := fun i d h z => by
  obtain ⟨q, u, h1, h2, _⟩ := R.ow i d h
  rw [h1] at z
  cases z
  rw [n] at h2; cases h2
/-- a new object, as a container that no slot has -/
theorem Rl.tmp (R : Rl e r σ H F fm) {p : Addr} {o : HO} {d : D} (n : H p = none) (h : OR e F o d) (nt : NT d := by (intro l h; cases h)) : Tmp e r σ (L2.upd H p o) F fm p d :=
  ⟨⟨o, upd_same, h, nt⟩, R.free n, R.notmp n⟩
/-- a container that nobody has is frozen -/
theorem Rl.frz0 (R : Rl e r σ H F fm) {p : Addr} {d : D} {u : HO} (h1 : H p = some u) (h2 : OR e F u d) (n : Fre fm F p) (no : ∀ (i : Nat) (d' : D), r[i]? = some (.own d') → σ[i]? ≠ some (some (.ref p))) : ∃ F', Rl e r σ H F' fm ∧ Same F F' ∧ Rep e F' d (.ref p) := by
  have s : Same F (L2.upd F p u) := same_upd n.1
  refine ⟨L2.upd F p u, ?_, s, (h2.mono s).rep upd_same⟩
  exact {
    fh := fun a w q => by
      by_cases ha : a = p
      · subst ha; rw [upd_same] at q; cases q; exact .inl h1
      · rw [upd_ne ha] at q; exact R.fh a w q
    gh := R.gh
    bf := fun a b => by
      have ne : a ≠ p := fun z => n.2.2 (z ▸ b)
      rw [upd_ne ne]; exact R.bf a b
    bh := R.bh
    bt := R.bt
    ln := R.ln
    va := fun i d h => by obtain ⟨v, h3, h4⟩ := R.va i d h; exact ⟨v, h3, h4.mono s⟩
    ow := fun i d h => by
      obtain ⟨q, w, h3, h4, h5, h6⟩ := R.ow i d h
      have ne : q ≠ p := fun z => no i d h (by rw [← z]; exact h3)
      exact ⟨q, w, h3, h4, h5.mono s, by rw [Fre, upd_ne ne]; exact h6⟩
    ap := R.ap
    pn := R.pn }
theorem Rl.frzT (R : Rl e r σ H F fm) {p : Addr} {d : D} (T : Tmp e r σ H F fm p d) : ∃ F', Rl e r σ H F' fm ∧ Same F F' ∧ Rep e F' d (.ref p) := by
  obtain ⟨⟨u, h1, h2⟩, n, no⟩ := T
  exact R.frz0 h1 h2.1 n no
/-- a new object is frozen -/
theorem Rl.frzN (R : Rl e r σ H F fm) {p : Addr} {o : HO} {d : D} (n : H p = none) (h : OR e F o d) : ∃ F', Rl e r σ (L2.upd H p o) F' fm ∧ Same F F' ∧ Rep e F' d (.ref p) :=
  (R.new n).frz0 upd_same h (R.free n) (R.notmp n)
/-- a tuple that stands is frozen -/
theorem Rl.frzTup (R : Rl e r σ H F fm) {q : Addr} {vs : List V} {l : List D} (hq : H q = some (.tup vs)) (rl : RepL e F l vs) : ∃ F', Rl e r σ H F' fm ∧ Same F F' ∧ Rep e F' (.tup l) (.ref q) := by
  have hF : F q = none ∨ F q = some (.tup vs) := by
    cases z : F q with
    | none => exact .inl rfl
    | some u =>
      rcases R.fh q u z with h | ⟨_, o, h⟩
      · rw [hq] at h; cases h; exact .inr rfl
      · rw [hq] at h; cases h
  have s : Same F (L2.upd F q (.tup vs)) := fun a u h => by
    by_cases ha : a = q
    · subst ha
      rcases hF with z | z
      · rw [z] at h; cases h
      · rw [z] at h; cases h; rw [upd_same]
    · rw [upd_ne ha]; exact h
  refine ⟨L2.upd F q (.tup vs), ?_, s, ⟨q, vs, rfl, upd_same, rl.mono s⟩⟩
  exact {
    fh := fun a w z => by
      by_cases ha : a = q
      · subst ha; rw [upd_same] at z; cases z; exact .inl hq
      · rw [upd_ne ha] at z; exact R.fh a w z
    gh := R.gh
    bf := fun a b => by
      have ne : a ≠ q := fun z => R.bt q vs (z ▸ b) hq
      rw [upd_ne ne]; exact R.bf a b
    bh := R.bh
    bt := R.bt
    ln := R.ln
    va := fun i d h => by obtain ⟨v, h3, h4⟩ := R.va i d h; exact ⟨v, h3, h4.mono s⟩
    ow := fun i d h => by
      obtain ⟨p, w, h3, h4, h5, h6⟩ := R.ow i d h
      have ne : p ≠ q := fun z => by subst z; rw [hq] at h4; cases h4; exact h5.nt vs rfl
      exact ⟨p, w, h3, h4, h5.mono s, by rw [Fre, upd_ne ne]; exact h6⟩
    ap := R.ap
    pn := R.pn }
theorem set_get_ne {α : Type} {l : List α} {i j : Nat} {a : α} (h : j ≠ i) : (l.set i a)[j]? = l[j]? := List.getElem?_set_ne (Ne.symm h)
theorem set_get {α : Type} {l : List α} {i : Nat} {a b : α} (h : l[i]? = some b) : (l.set i a)[i]? = some a := by
  have := (List.getElem?_eq_some_iff.mp h).1
  rw [List.getElem?_set_self this]
/-- a slot's container is frozen -/
theorem Rl.frzS (R : Rl e r σ H F fm) {i : Nat} {d : D} (h : r[i]? = some (.own d)) : ∃ F' v, Rl e (r.set i (.val d)) σ H F' fm ∧ Same F F' ∧ σ[i]? = some (some v) ∧ Rep e F' d v := by
  obtain ⟨p, u, hp, h1, h2, n⟩ := R.ow i d h
  have s : Same F (L2.upd F p u) := same_upd n.1
  have rp : Rep e (L2.upd F p u) d (.ref p) := (h2.mono s).rep upd_same
  refine ⟨L2.upd F p u, .ref p, ?_, s, hp, rp⟩
  exact {
    fh := fun a w q => by
      by_cases ha : a = p
      · subst ha; rw [upd_same] at q; cases q; exact .inl h1
      · rw [upd_ne ha] at q; exact R.fh a w q
    gh := R.gh
    bf := fun a b => by
      have ne : a ≠ p := fun z => n.2.2 (z ▸ b)
      rw [upd_ne ne]; exact R.bf a b
    bh := R.bh
    bt := R.bt
    ln := by rw [List.length_set]; exact R.ln
    va := fun j d' h' => by
      by_cases hj : j = i
      · subst hj; rw [set_get h] at h'; cases h'; exact ⟨.ref p, hp, rp⟩
      · rw [set_get_ne hj] at h'; obtain ⟨v, h3, h4⟩ := R.va j d' h'; exact ⟨v, h3, h4.mono s⟩
    ow := fun j d' h' => by
      by_cases hj : j = i
      · subst hj; rw [set_get h] at h'; cases h'
      · rw [set_get_ne hj] at h'
        obtain ⟨q, w, h3, h4, h5, h6⟩ := R.ow j d' h'
        have ne : q ≠ p := fun z => hj (R.ap j i d' d p h' h (by rw [← z]; exact h3) hp)
        exact ⟨q, w, h3, h4, h5.mono s, by rw [Fre, upd_ne ne]; exact h6⟩
    ap := fun j k d1 d2 q h3 h4 h5 h6 => by
      by_cases hj : j = i
      · subst hj; rw [set_get h] at h3; cases h3
      · by_cases hk : k = i
        · subst hk; rw [set_get h] at h4; cases h4
        · rw [set_get_ne hj] at h3; rw [set_get_ne hk] at h4; exact R.ap j k d1 d2 q h3 h4 h5 h6
    pn := R.pn }
/-- a slot's container is changed -/
theorem Rl.mut (R : Rl e r σ H F fm) {i : Nat} {d d' : D} {p : Addr} {u : HO} (h : r[i]? = some (.own d)) (hp : σ[i]? = some (some (.ref p))) (q0 : OR e F u d') (nt : NT d' := by (intro l h; cases h)) : Rl e (r.set i (.own d')) σ (L2.upd H p u) F fm := by
  have q : OM e F u d' := ⟨q0, nt⟩
  obtain ⟨p', u0, hp', h1, h2, n⟩ := R.ow i d h
  rw [hp] at hp'; cases hp'
  exact {
    fh := R.fh.lay n.1
    gh := fun a u q => by rw [upd_ne (ne_of_none q n.2.1)]; exact R.gh a u q
    bf := R.bf
    bh := fun a b => by
      by_cases ha : a = p
      · subst ha; rw [upd_same]; simp
      · rw [upd_ne ha]; exact R.bh a b
    bt := bt_lay R n
    ln := by rw [List.length_set]; exact R.ln
    va := fun j d1 h' => by
      by_cases hj : j = i
      · subst hj; rw [set_get h] at h'; cases h'
      · rw [set_get_ne hj] at h'; exact R.va j d1 h'
    ow := fun j d1 h' => by
      by_cases hj : j = i
      · subst hj; rw [set_get h] at h'; cases h'; exact ⟨p, u, hp, upd_same, q, n⟩
      · rw [set_get_ne hj] at h'
        obtain ⟨q', w, h3, h4, h5, h6⟩ := R.ow j d1 h'
        have ne : q' ≠ p := fun z => hj (R.ap j i d1 d p h' h (by rw [← z]; exact h3) hp)
        exact ⟨q', w, h3, by rw [upd_ne ne]; exact h4, h5, h6⟩
    ap := fun j k d1 d2 q h3 h4 h5 h6 => by
      by_cases hj : j = i
      · by_cases hk : k = i
        · rw [hj, hk]
        · subst hj; rw [set_get_ne hk] at h4; exact R.ap j k d d2 q h h4 h5 h6
      · by_cases hk : k = i
        · subst hk; rw [set_get_ne hj] at h3; exact R.ap j k d1 d q h3 h h5 h6
        · rw [set_get_ne hj] at h3; rw [set_get_ne hk] at h4; exact R.ap j k d1 d2 q h3 h4 h5 h6
    pn := R.pn }
/-- a slot gets a value -/
theorem Rl.setV (R : Rl e r σ H F fm) {i : Nat} {d : D} {v : V} (q : Rep e F d v) (hp : ∀ q ∈ fm.pn, q.1 ≠ i) : Rl e (r.set i (.val d)) (σ.set i (some v)) H F fm where
  fh := R.fh
  gh := R.gh
  bf := R.bf
  bh := R.bh
  bt := R.bt
  ln := by rw [List.length_set, List.length_set]; exact R.ln
  va := fun j d1 h' => by
    by_cases hj : j = i
    · subst hj
      have hl : j < r.length := by have := (List.getElem?_eq_some_iff.mp h').1; rwa [List.length_set] at this
      rw [List.getElem?_set_self hl] at h'
      cases h'
      exact ⟨v, List.getElem?_set_self (by rw [R.ln]; exact hl), q⟩
    · rw [set_get_ne hj] at h' ⊢; exact R.va j d1 h'
  ow := fun j d1 h' => by
    by_cases hj : j = i
    · subst hj
      have hl : j < r.length := by have := (List.getElem?_eq_some_iff.mp h').1; rwa [List.length_set] at this
      rw [List.getElem?_set_self hl] at h'
      cases h'
    · rw [set_get_ne hj] at h' ⊢; exact R.ow j d1 h'
  ap := fun j k d1 d2 q h3 h4 h5 h6 => by
    by_cases hj : j = i
    · subst hj
      have hl : j < r.length := by have := (List.getElem?_eq_some_iff.mp h3).1; rwa [List.length_set] at this
      rw [List.getElem?_set_self hl] at h3
      cases h3
    · by_cases hk : k = i
      · subst hk
        have hl : k < r.length := by have := (List.getElem?_eq_some_iff.mp h4).1; rwa [List.length_set] at this
        rw [List.getElem?_set_self hl] at h4
        cases h4
      · rw [set_get_ne hj] at h3 h5; rw [set_get_ne hk] at h4 h6; exact R.ap j k d1 d2 q h3 h4 h5 h6
  pn := fun q hq => by rw [set_get_ne (hp q hq)]; exact R.pn q hq
/-- a slot gets a new container -/
theorem Rl.setO (R : Rl e r σ H F fm) {i : Nat} {d : D} {p : Addr} (T : Tmp e r σ H F fm p d) (hp : ∀ q ∈ fm.pn, q.1 ≠ i) : Rl e (r.set i (.own d)) (σ.set i (some (.ref p))) H F fm := by
  obtain ⟨⟨u, h1, h2⟩, n, no⟩ := T
  exact {
    fh := R.fh
    gh := R.gh
    bf := R.bf
    bh := R.bh
    bt := R.bt
    ln := by rw [List.length_set, List.length_set]; exact R.ln
    va := fun j d1 h' => by
      by_cases hj : j = i
      · subst hj
        have hl : j < r.length := by have := (List.getElem?_eq_some_iff.mp h').1; rwa [List.length_set] at this
        rw [List.getElem?_set_self hl] at h'
        cases h'
      · rw [set_get_ne hj] at h' ⊢; exact R.va j d1 h'
    ow := fun j d1 h' => by
      by_cases hj : j = i
      · subst hj
        have hl : j < r.length := by have := (List.getElem?_eq_some_iff.mp h').1; rwa [List.length_set] at this
        rw [List.getElem?_set_self hl] at h'
        cases h'
        exact ⟨p, u, List.getElem?_set_self (by rw [R.ln]; exact hl), h1, h2, n⟩
      · rw [set_get_ne hj] at h' ⊢; exact R.ow j d1 h'
    ap := fun j k d1 d2 q h3 h4 h5 h6 => by
      have len : ∀ {j d1}, (r.set i (.own d))[j]? = some (.own d1) → j < r.length := fun {j d1} h => by
        have := (List.getElem?_eq_some_iff.mp h).1; rwa [List.length_set] at this
      by_cases hj : j = i
      · by_cases hk : k = i
        · rw [hj, hk]
        · subst hj
          rw [set_get_ne hk] at h4 h6
          rw [List.getElem?_set_self (by rw [R.ln]; exact len h3)] at h5
          cases h5
          exact absurd h6 (no k d2 h4)
      · by_cases hk : k = i
        · subst hk
          rw [set_get_ne hj] at h3 h5
          rw [List.getElem?_set_self (by rw [R.ln]; exact len h4)] at h6
          cases h6
          exact absurd h5 (no j d1 h3)
        · rw [set_get_ne hj] at h3 h5; rw [set_get_ne hk] at h4 h6; exact R.ap j k d1 d2 q h3 h4 h5 h6
    pn := fun q hq => by rw [set_get_ne (hp q hq)]; exact R.pn q hq }
/-- a slot is forgotten -/
theorem Rl.drop (R : Rl e r σ H F fm) (i : Nat) : Rl e (r.set i .un) σ H F fm where
  fh := R.fh
  gh := R.gh
  bf := R.bf
  bh := R.bh
  bt := R.bt
  ln := by rw [List.length_set]; exact R.ln
  va := fun j d1 h' => by
    by_cases hj : j = i
    · subst hj
      have hl : j < r.length := by have := (List.getElem?_eq_some_iff.mp h').1; rwa [List.length_set] at this
      rw [List.getElem?_set_self hl] at h'
      cases h'
    · rw [set_get_ne hj] at h'; exact R.va j d1 h'
  ow := fun j d1 h' => by
    by_cases hj : j = i
    · subst hj
      have hl : j < r.length := by have := (List.getElem?_eq_some_iff.mp h').1; rwa [List.length_set] at this
      rw [List.getElem?_set_self hl] at h'
      cases h'
    · rw [set_get_ne hj] at h'; exact R.ow j d1 h'
  ap := fun j k d1 d2 q h3 h4 h5 h6 => by
    have no : ∀ {j d1}, j = i → (r.set i .un)[j]? = some (.own d1) → False := fun {j d1} z h => by
      subst z
      have hl : j < r.length := by have := (List.getElem?_eq_some_iff.mp h).1; rwa [List.length_set] at this
      rw [List.getElem?_set_self hl] at h
      cases h
    by_cases hj : j = i
    · exact (no hj h3).elim
    · by_cases hk : k = i
      · exact (no hk h4).elim
      · rw [set_get_ne hj] at h3; rw [set_get_ne hk] at h4; exact R.ap j k d1 d2 q h3 h4 h5 h6
  pn := R.pn
/-- a slot's container leaves the slot -/
theorem Rl.out (R : Rl e r σ H F fm) {i : Nat} {d : D} (h : r[i]? = some (.own d)) : ∃ p, σ[i]? = some (some (.ref p)) ∧ Rl e (r.set i .un) σ H F fm ∧ Tmp e (r.set i .un) σ H F fm p d := by
  obtain ⟨p, u, hp, h1, h2, n⟩ := R.ow i d h
  refine ⟨p, hp, R.drop i, ⟨u, h1, h2⟩, n, fun j d' hj z => ?_⟩
  by_cases hji : j = i
  · subst hji; rw [set_get h] at hj; cases hj
  · rw [set_get_ne hji] at hj
    exact hji (R.ap j i d' d p hj h z hp)

/-! ### a value that is read -/
/-- the value bears the data, its own object in the heap H -/
def Vw (e : En) (H F : Hp) : D → V → Prop
  | .tup l, v => ∃ a vs, v = .ref a ∧ H a = some (.tup vs) ∧ RepL e F l vs
  | .lst l, v => ∃ a vs, v = .ref a ∧ H a = some (.lst vs) ∧ RepL e F l vs
  | .scr l, v => ∃ a vs, v = .ref a ∧ SqL e.K H a vs ∧ RepL e F l vs
  | .dK ks l, v => ∃ a vs, v = .ref a ∧ Lk H a (.dK (ks.zip vs)) ∧ ks.length = vs.length ∧ RepL e F l vs
  | .dT ks l, v => ∃ a vs, v = .ref a ∧ Lk H a (.dT (ks.zip vs)) ∧ ks.length = vs.length ∧ RepL e F l vs
  | .ins c l, v => ∃ a dx vs, v = .ref a ∧ H a = some (.ins (e.ct c) dx ((e.fl c).zip vs)) ∧ l.length ≤ (e.fl c).length ∧ RepL e F l vs
  | .non, v => v = .non
  | .bl b, v => v = .bl b
  | .int i, v => v = .int i
  | .str x, v => v = .str x
theorem Und.sqT (h : Und F H) {a : Addr} {vs : List V} (q : SqT e.K F a vs) : SqT e.K H a vs := by
  rcases q with (q | ⟨o, q⟩) | q
  · rcases h _ _ q with z | ⟨z, _⟩
    · exact .inl (.inl z)
    · cases z
  · rcases h _ _ q with z | ⟨z, _⟩
    · exact .inl (.inr ⟨o, z⟩)
    · cases z
  · exact .inr q
theorem tupT {K : PySem.W.Frag} {a : Addr} {vs : List V} (q : H a = some (.tup vs)) : SqT K H a vs := .inl (.inl q)
theorem Und.tup (h : Und F H) {a : Addr} {vs : List V} (q : F a = some (.tup vs)) : H a = some (.tup vs) := by
  rcases h _ _ q with z | ⟨z, _⟩
  · exact z
  · cases z
theorem Und.sqL (h : Und F H) {a : Addr} {vs : List V} (q : SqL e.K F a vs) : SqL e.K H a vs := by
  rcases q with (q | ⟨o, q⟩) | q
  · rcases h _ _ q with z | ⟨z, _⟩
    · exact .inl (.inl z)
    · cases z
  · rcases h _ _ q with z | ⟨z, _⟩
    · exact .inl (.inr ⟨o, z⟩)
    · cases z
  · exact .inr q
theorem Und.lst (h : Und F H) {a : Addr} {vs : List V} (q : F a = some (.lst vs)) : H a = some (.lst vs) := by
  rcases h _ _ q with z | ⟨z, _⟩
  · exact z
  · cases z
theorem sqL_of {K : PySem.W.Frag} {a : Addr} {vs : List V} (q : H a = some (.lst vs)) : SqL K H a vs := .inl (.inl q)
theorem Rep.vw (h : Und F H) : ∀ {d : D} {v : V}, Rep e F d v → Vw e H F d v
  | .non, _, q => q
  | .bl _, _, q => q
  | .int _, _, q => q
  | .str _, _, q => q
  | .tup _, _, ⟨a, vs, h0, h1, h2⟩ => ⟨a, vs, h0, h.tup h1, h2⟩
  | .lst _, _, ⟨a, vs, h0, h1, h2⟩ => ⟨a, vs, h0, h.lst h1, h2⟩
  | .scr _, _, ⟨a, vs, h0, h1, h2⟩ => ⟨a, vs, h0, h.sqL h1, h2⟩
  | .dK _ _, _, ⟨a, vs, h0, h1, h2, h3⟩ => ⟨a, vs, h0, h _ _ h1, h2, h3⟩
  | .dT _ _, _, ⟨a, vs, h0, h1, h2, h3⟩ => ⟨a, vs, h0, h _ _ h1, h2, h3⟩
  | .ins _ _, _, ⟨a, dx, vs, h0, h1, h2, h3⟩ => ⟨a, dx, vs, h0, (by rcases h _ _ h1 with z | ⟨z, _⟩; exact z; cases z), h2, h3⟩
theorem OR.vw {a : Addr} {u : HO} {d : D} (h : OR e F u d) (q : H a = some u) : Vw e H F d (.ref a) := by
  cases u <;> cases d <;> first
    | exact h.elim
    | exact ⟨a, _, rfl, q, h⟩
    | exact ⟨a, _, rfl, .inl (.inl q), h⟩
    | (obtain ⟨vs, h1, h2, h3⟩ := h; subst h1; exact ⟨a, vs, rfl, .inl q, h2, h3⟩)
    | (obtain ⟨vs, h1, h2, h3, h4⟩ := h; subst h1; subst h2; exact ⟨a, _, vs, rfl, q, h3, h4⟩)
theorem OM.vw {a : Addr} {u : HO} {d : D} (h : OM e F u d) (q : H a = some u) : Vw e H F d (.ref a) := OR.vw h.1 q
end
end Mi

end
section
set_option maxRecDepth 100000
/-! Mi1: what an expression does to the data, by a function of the data (a mirror). -/
namespace Mi
open PySem L2

/-- what an exception must meet, and what is known of the frame -/
structure Wi where
  w : WX
  c : Fm → Prop
abbrev ME := Rho → Ou RV
abbrev MT := Rho → Ou Bool
abbrev MS := Rho → So

def Ou.bd {α β : Type} : Ou α → (α → Rho → Ou β) → Ou β
  | .ok a r, f => f a r
  | .ex x r, _ => .ex x r
  | .no, _ => .no
@[simp] theorem bd_ok {α β : Type} (a : α) (r : Rho) (f : α → Rho → Ou β) : (Ou.ok a r).bd f = f a r := rfl
@[simp] theorem bd_ex {α β : Type} (x : Ex) (r : Rho) (f : α → Rho → Ou β) : (Ou.ex x r).bd f = .ex x r := rfl
@[simp] theorem bd_no {α β : Type} (f : α → Rho → Ou β) : (Ou.no : Ou α).bd f = .no := rfl

/-- an exception as it lies -/
def ExR (e : En) (x : Ex) (cls : Value) (d : Option Addr) (H F : Hp) : Prop :=
  cls = .ref (e.ct x.c) ∧ ((x.l = [] ∧ d = none) ∨ ∃ a vs, x.l ≠ [] ∧ d = some a ∧ H a = some (.xd ((e.fl x.c).zip vs)) ∧ RepL e F x.l vs ∧ x.l.length = (e.fl x.c).length)
/-- what is wanted behind it -/
def Po {α : Type} (e : En) (W : Wi) (fm : Fm) (F : Hp) (σ : St) (K : α → Rho → Hp → Hp → Prop) (o : Ou α) : Prop :=
  match o with
  | .ok a r => ∀ H' F', Rl e r σ H' F' fm → Same F F' → K a r H' F'
  | .ex x r => ∀ cls d H' F', Rl e r σ H' F' fm → Same F F' → ExR e x cls d H' F' → W.w cls d σ H'
  | .no => False
section
variable {α β : Type} {e : En} {X : Cx} {W : Wi} {fm : Fm} {F F1 : Hp} {σ : St}
theorem Po.mono {K K' : α → Rho → Hp → Hp → Prop} {o : Ou α} (h : Po e W fm F σ K o) (k : ∀ a r H' F', Rl e r σ H' F' fm → Same F F' → K a r H' F' → K' a r H' F') : Po e W fm F σ K' o := by
  cases o with
  | ok a r => exact fun H' F' R s => k a r H' F' R s (h H' F' R s)
  | ex x r => exact h
  | no => exact h
theorem Po.le {K : α → Rho → Hp → Hp → Prop} {o : Ou α} (s : Same F F1) (h : Po e W fm F σ K o) : Po e W fm F1 σ K o := by
  cases o with
  | ok a r => exact fun H' F' R s' => h H' F' R (s.trans s')
  | ex x r => exact fun cls d H' F' R s' => h cls d H' F' R (s.trans s')
  | no => exact h
theorem Po.bd {K : β → Rho → Hp → Hp → Prop} {o : Ou α} {f : α → Rho → Ou β} (h : Po e W fm F σ K (o.bd f)) : Po e W fm F σ (fun a r _ F' => Po e W fm F' σ K (f a r)) o := by
  cases o with
  | ok a r => exact fun H' F' R s => Po.le s h
  | ex x r => exact h
  | no => exact h
end

/-! ### judgements -/
abbrev KE' (e : En) (fm : Fm) (σ : St) (Q : VK) : RV → Rho → Hp → Hp → Prop := fun rv r' H' F' => ∀ v, RvR e rv v r' σ H' F' fm → Q v H'
abbrev KD (e : En) (Q : VK) : D → Rho → Hp → Hp → Prop := fun d _ H' F' => ∀ v, Rep e F' d v → Q v H'
abbrev KA (e : En) (Q : List V → Hp → Prop) : List D → Rho → Hp → Hp → Prop := fun ds _ H' F' => ∀ vs, RepL e F' ds vs → Q vs H'
abbrev KT (Q : Bool → Hp → Prop) : Bool → Rho → Hp → Hp → Prop := fun b _ H' _ => Q b H'
def TeE (e : En) (W : Wi) (t : TE) (m : ME) : Prop := ∀ r σ H F fm Q, W.c fm → Rl e r σ H F fm → Po e W fm F σ (KE' e fm σ Q) (m r) → t σ H Q
def TeD (e : En) (W : Wi) (t : TE) (m : Rho → Ou D) : Prop := ∀ r σ H F fm Q, W.c fm → Rl e r σ H F fm → Po e W fm F σ (KD e Q) (m r) → t σ H Q
def TeA (e : En) (W : Wi) (t : TA) (m : Rho → Ou (List D)) : Prop := ∀ r σ H F fm Q, W.c fm → Rl e r σ H F fm → Po e W fm F σ (KA e Q) (m r) → t σ H Q
def TeT (e : En) (W : Wi) (t : TT) (m : MT) : Prop := ∀ r σ H F fm Q, W.c fm → Rl e r σ H F fm → Po e W fm F σ (KT Q) (m r) → t σ H Q
structure SE (e : En) (X : Cx) (W : Wi) (a : Expr) (m : ME) : Prop where
  ex : ∃ t, PE X a t ∧ TeE e W t m
structure SD (e : En) (X : Cx) (W : Wi) (a : Expr) (m : Rho → Ou D) : Prop where
  ex : ∃ t, PE X a t ∧ TeD e W t m
structure SA (e : En) (X : Cx) (W : Wi) (es : List Expr) (m : Rho → Ou (List D)) : Prop where
  ex : ∃ t, PA X es t ∧ TeA e W t m
  len : ∀ r ds r', m r = .ok ds r' → ds.length = es.length
structure ST (e : En) (X : Cx) (W : Wi) (a : Expr) (m : MT) : Prop where
  ex : ∃ t, PT X a t ∧ TeT e W t m

/-! ### frozen, settled, looked at -/
def stR : RV → RV
  | .own d => .val d
  | x => x
def stl (m : ME) : ME := fun r => (m r).bd fun rv r' => .ok (stR rv) r'
def look : RV → Rho → Option D
  | .val d, _ => some d
  | .own _, _ => none
  | .bor i, r => match r[i]? with
    | some (.own d) => some d
    | some (.val d) => some d
    | _ => none
def frz : RV → Rho → Ou D
  | .val d, r => .ok d r
  | .own d, r => .ok d r
  | .bor i, r => match r[i]? with
    | some (.own d) => .ok d (r.set i (.val d))
    | some (.val d) => .ok d r
    | _ => .no
theorem frz_bor (i : Nat) (r : Rho) : frz (.bor i) r = match r[i]? with
    | some (.own d) => .ok d (r.set i (.val d))
    | some (.val d) => .ok d r
    | _ => .no := rfl
theorem look_bor (i : Nat) (r : Rho) : look (.bor i) r = match r[i]? with
    | some (.own d) => some d
    | some (.val d) => some d
    | _ => none := rfl
def fz (m : ME) : Rho → Ou D := fun r => (m r).bd frz
def ofD (m : Rho → Ou D) : ME := fun r => (m r).bd fun d r' => .ok (.val d) r'

section
variable {e : En} {X : Cx} {W : Wi} {a b c : Expr} {m n : ME} {pos : Pos}
theorem TeE.stl {t : TE} (h : TeE e W t m) : TeE e W t (stl m) := fun r σ H F fm Q hC R q => h r σ H F fm Q hC R (by
  refine (Po.bd q).mono fun rv r' H' F' R' s k v hv => ?_
  cases rv with
  | val d => exact k H' F' R' (Same.refl _) v hv
  | bor i => exact k H' F' R' (Same.refl _) v hv
  | own d =>
    obtain ⟨p, rfl, T⟩ := hv
    obtain ⟨F2, R2, s2, rp⟩ := R'.frzT T
    exact k H' F2 R2 s2 _ rp)
theorem SE.stl (h : SE e X W a m) : SE e X W a (stl m) := by
  obtain ⟨t, h1, h2⟩ := h.ex
  exact ⟨t, h1, TeE.stl h2⟩
theorem frz_ok {rv : RV} {r : Rho} {σ : St} {H F : Hp} {fm : Fm} {v : V} {K : D → Rho → Hp → Hp → Prop} (R : Rl e r σ H F fm) (hv : RvR e rv v r σ H F fm) (q : Po e W fm F σ K (frz rv r)) :
    ∃ d r' F', Rl e r' σ H F' fm ∧ Same F F' ∧ Rep e F' d v ∧ K d r' H F' := by
  cases rv with
  | val d => exact ⟨d, r, F, R, Same.refl _, hv, q H F R (Same.refl _)⟩
  | own d =>
    obtain ⟨p, rfl, T⟩ := hv
    obtain ⟨F2, R2, s2, rp⟩ := R.frzT T
    exact ⟨d, r, F2, R2, s2, rp, q H F2 R2 s2⟩
  | bor i =>
    rw [frz_bor] at q
    cases z : r[i]? with
    | none => rw [z] at q; exact q.elim
    | some lv =>
      rw [z] at q
      cases lv with
      | un => exact q.elim
      | val d =>
        obtain ⟨v', h1, h2⟩ := R.va i d z
        have hv' : σ[i]? = some (some v) := hv
        rw [hv'] at h1; cases h1
        exact ⟨d, r, F, R, Same.refl _, h2, q H F R (Same.refl _)⟩
      | own d =>
        obtain ⟨F2, v', R2, s2, h1, h2⟩ := R.frzS z
        have hv' : σ[i]? = some (some v) := hv
        rw [hv'] at h1; cases h1
        exact ⟨d, _, F2, R2, s2, h2, q H F2 R2 s2⟩
theorem TeE.fz {t : TE} (h : TeE e W t m) : TeD e W t (fz m) := fun r σ H F fm Q hC R q => h r σ H F fm Q hC R (by
  refine (Po.bd q).mono fun rv r' H' F' R' s k v hv => ?_
  obtain ⟨d, r2, F2, _, _, h2, k2⟩ := frz_ok R' hv k
  exact k2 v h2)
theorem SE.fz (h : SE e X W a m) : SD e X W a (fz m) := by
  obtain ⟨t, h1, h2⟩ := h.ex
  exact ⟨t, h1, TeE.fz h2⟩
theorem look_vw {rv : RV} {r : Rho} {σ : St} {H F : Hp} {fm : Fm} {v : V} {d : D} (R : Rl e r σ H F fm) (hv : RvR e rv v r σ H F fm) (q : look rv r = some d) : Vw e H F d v := by
  cases rv with
  | val d' => cases q; exact Rep.vw R.fh hv
  | own d' => cases q
  | bor i =>
    rw [look_bor] at q
    have hv' : σ[i]? = some (some v) := hv
    cases z : r[i]? with
    | none => rw [z] at q; cases q
    | some lv =>
      rw [z] at q
      cases lv with
      | un => cases q
      | val d' =>
        cases q
        obtain ⟨v', h1, h2⟩ := R.va i d z
        rw [hv'] at h1; cases h1
        exact h2.vw R.fh
      | own d' =>
        cases q
        obtain ⟨p, u, h1, h2, h3, _⟩ := R.ow i d z
        rw [hv'] at h1; cases h1
        exact h3.vw h2
/-- what was yielded and settled stays so while more is evaluated -/
theorem stay {rv : RV} {r r' : Rho} {σ : St} {H H' F F' : Hp} {fm : Fm} {v : V} (hs : ∀ d, rv ≠ .own d) (s : Same F F') (hv : RvR e rv v r σ H F fm) : RvR e rv v r' σ H' F' fm := by
  cases rv with
  | val d => exact Rep.mono s hv
  | own d => exact (hs d rfl).elim
  | bor i => exact hv
theorem stl_own {m : ME} {r r' : Rho} {rv : RV} (h : stl m r = .ok rv r') : ∀ d, rv ≠ .own d := by
  unfold Mi.stl at h
  cases z : m r with
  | ok x r1 =>
    rw [z] at h
    cases x <;> (cases h; intro d q; cases q)
  | ex x r1 => rw [z] at h; cases h
  | no => rw [z] at h; cases h
end

/-! ### names, constants -/
def eVar (i : Nat) : ME := fun r => match r[i]? with
  | some (.val d) => .ok (.val d) r
  | some (.own _) => .ok (.bor i) r
  | _ => .no
def eC (d : D) : ME := fun r => .ok (.val d) r
section
variable {e : En} {X : Cx} {W : Wi} {a b c : Expr} {m n : ME} {pos : Pos}
theorem tVar_te {i : Nat} : TeE e W (tVar i) (eVar i) := fun r σ H F fm Q hC R q => by
  unfold eVar at q
  cases z : r[i]? with
  | none => rw [z] at q; exact q.elim
  | some lv =>
    rw [z] at q
    cases lv with
    | un => exact q.elim
    | val d =>
      obtain ⟨v, h1, h2⟩ := R.va i d z
      exact ⟨v, h1, q H F R (Same.refl _) v h2⟩
    | own d =>
      obtain ⟨p, u, h1, h2, h3, _⟩ := R.ow i d z
      exact ⟨.ref p, h1, q H F R (Same.refl _) _ h1⟩
theorem se_var {i : Nat} {x : Str} (hN : X.N[i]? = some x) (hv : Vis X.env.scope x) (hd : (x == ("__debug__" : Str)) = false) (hcd : (x == ("__classdict__" : Str)) = false) : SE e X W (.Name x pos) (eVar i) :=
  ⟨_, pe_var hN hv hd hcd, tVar_te⟩
theorem tC_te {d : D} {v : V} (h : ∀ F, Rep e F d v) : TeE e W (tC v) (eC d) := fun r σ H F fm Q hC R q => q H F R (Same.refl _) v (h F)
theorem se_int {i : Int} {j pos} : SE e X W (.Constant (.int i) j pos) (eC (.int i)) := ⟨_, pe_int, tC_te fun _ => rfl⟩
theorem se_bl {b : Bool} {j pos} : SE e X W (.Constant (.bool b) j pos) (eC (.bl b)) := ⟨_, pe_bl, tC_te fun _ => rfl⟩
theorem se_non {j pos} : SE e X W (.Constant .none j pos) (eC .non) := ⟨_, pe_non, tC_te fun _ => rfl⟩
theorem se_str {x : Str} {j pos} : SE e X W (.Constant (.str x) j pos) (eC (.str x)) := ⟨_, pe_str, tC_te fun _ => rfl⟩
theorem se_glob {x : Str} {v : V} {u : Value} {d : D} (hg : Gl X x) (hm : X.mg x = some u) (r : RelV v u) (h : ∀ F, Rep e F d v) (hd : (x == ("__debug__" : Str)) = false := by decide) : SE e X W (.Name x pos) (eC d) :=
  ⟨_, pe_glob hg hm r hd, tC_te h⟩

/-! ### two operands -/
/-- the result of an operation on data: a value (of the operands' parts), or something new -/
def PQ (e : En) (H F : Hp) (o : Option R0) (Q : VK) : Prop :=
  match o with
  | some (.val d) => ∀ v, Rep e F d v → Q v H
  | some (.own d) => ∀ p u, H p = none → OR e F u d → Q (.ref p) (upd H p u)
  | none => False
def res : Option R0 → Rho → Ou RV
  | some (.val d), r => .ok (.val d) r
  | some (.own (.tup l)), r => .ok (.val (.tup l)) r
  | some (.own d), r => .ok (.own d) r
  | none, _ => .no
theorem res_ok {o : Option R0} {r : Rho} {σ : St} {H F : Hp} {fm : Fm} {Q : VK} (R : Rl e r σ H F fm) (q : Po e W fm F σ (KE' e fm σ Q) (res o r)) : PQ e H F o Q := by
  cases o with
  | none => exact q.elim
  | some x =>
    cases x with
    | val d => exact fun v hv => q H F R (Same.refl _) v hv
    | own d =>
      intro p u hp ho
      cases d with
      | tup l =>
        obtain ⟨F2, R2, s2, rp⟩ := R.frzN hp ho
        exact q _ F2 R2 s2 _ rp
      | _ => exact q _ F (R.new hp) (Same.refl _) _ ⟨p, rfl, R.tmp hp ho⟩
def eOp (f : D → D → Option R0) (m n : ME) : ME := fun r => (stl m r).bd fun x r1 => (stl n r1).bd fun y r2 => match look x r2, look y r2 with
  | some d1, some d2 => res (f d1 d2) r2
  | _, _ => .no
def P2 (e : En) (f : D → D → Option R0) (r : R2) : Prop := ∀ d1 d2 v1 v2 H F Q, Vw e H F d1 v1 → Vw e H F d2 v2 → PQ e H F (f d1 d2) Q → r v1 v2 H Q
theorem tOp_te {ta tb : TE} {r : R2} {f : D → D → Option R0} (hp : P2 e f r) (ha : TeE e W ta m) (hb : TeE e W tb n) : TeE e W (tOp r ta tb) (eOp f m n) := fun ρ σ H F fm Q hC R q => by
  refine TeE.stl ha ρ σ H F fm _ hC R ?_
  have q1 := Po.bd q
  cases z1 : stl m ρ with
  | no => rw [z1] at q1; exact q1
  | ex x r1 => rw [z1] at q1; exact q1
  | ok x r1 =>
    rw [z1] at q1
    intro H1 F1 R1 s1 v1 hv1
    have q2 := Po.bd (q1 H1 F1 R1 s1)
    refine TeE.stl hb r1 σ H1 F1 fm _ hC R1 ?_
    refine q2.mono fun y r2 H2 F2 R2 s2 q3 v2 hv2 => ?_
    have hv1' : RvR e x v1 r2 σ H2 F2 fm := stay (stl_own z1) s2 hv1
    cases l1 : look x r2 with
    | none => rw [l1] at q3; exact q3.elim
    | some d1 =>
      cases l2 : look y r2 with
      | none => rw [l1, l2] at q3; exact q3.elim
      | some d2 =>
        rw [l1, l2] at q3
        exact hp d1 d2 v1 v2 H2 F2 Q (look_vw R2 hv1' l1) (look_vw R2 hv2 l2) (res_ok R2 q3)
theorem se_op {op : Operator} {r : R2} {f : D → D → Option R0} (ho : OpR X (binaryOp op) r) (hp : P2 e f r) (ha : SE e X W a m) (hb : SE e X W b n) : SE e X W (.BinOp a op b pos) (eOp f m n) := by
  obtain ⟨ta, ha1, ha2⟩ := ha.ex
  obtain ⟨tb, hb1, hb2⟩ := hb.ex
  exact ⟨_, pe_op ho ha1 hb1, tOp_te hp ha2 hb2⟩
theorem se_cmp {op : CmpOp} {r : R2} {f : D → D → Option R0} (ho : OpR X (compareOp op) r) (hp : P2 e f r) (hm : behindInMarks op b = false) (ha : SE e X W a m) (hb : SE e X W b n) : SE e X W (.Compare a [op] [b] pos) (eOp f m n) := by
  obtain ⟨ta, ha1, ha2⟩ := ha.ex
  obtain ⟨tb, hb1, hb2⟩ := hb.ex
  exact ⟨_, pe_cmpR ho ha1 hb1 hm, tOp_te hp ha2 hb2⟩
/-- a truth's own test -/
def tV (m : ME) : MT := fun r => (m r).bd fun rv r' => match rv with
  | .val (.bl b) => .ok b r'
  | _ => .no
theorem tTest_te {t : TE} (h : TeE e W t m) : TeT e W (tTest t) (tV m) := fun r σ H F fm Q hC R q => h r σ H F fm _ hC R (by
  refine (Po.bd q).mono fun rv r' H' F' R' s k v hv => ?_
  cases rv with
  | val d =>
    cases d with
    | bl b => cases hv; exact ⟨b, rfl, k H' F' R' (Same.refl _)⟩
    | _ => exact k.elim
  | _ => exact k.elim)
theorem st_cmp {op : CmpOp} {r : R2} {f : D → D → Option R0} (ho : OpR X (compareOp op) r) (hp : P2 e f r) (hm : behindInMarks op b = false) (ha : SE e X W a m) (hb : SE e X W b n) : ST e X W (.Compare a [op] [b] pos) (tV (eOp f m n)) := by
  obtain ⟨ta, ha1, ha2⟩ := ha.ex
  obtain ⟨tb, hb1, hb2⟩ := hb.ex
  exact ⟨_, pt_cmpR ho ha1 hb1 hm, tTest_te (tOp_te hp ha2 hb2)⟩

/-! ### one operand -/
def P1 (e : En) (f : D → Option R0) (r : V → Hp → VK → Prop) : Prop := ∀ d v H F Q, Vw e H F d v → PQ e H F (f d) Q → r v H Q
def eUn (f : D → Option R0) (m : ME) : ME := fun r => (stl m r).bd fun x r1 => match look x r1 with
  | some d => res (f d) r1
  | none => .no
theorem tUn_te {ta : TE} {r : V → Hp → VK → Prop} {f : D → Option R0} (hp : P1 e f r) (ha : TeE e W ta m) : TeE e W (tUn r ta) (eUn f m) := fun ρ σ H F fm Q hC R q => by
  refine TeE.stl ha ρ σ H F fm _ hC R ?_
  refine (Po.bd q).mono fun x r1 H1 F1 R1 s1 q1 v1 hv1 => ?_
  cases l1 : look x r1 with
  | none => rw [l1] at q1; exact q1.elim
  | some d1 =>
    rw [l1] at q1
    exact hp d1 v1 H1 F1 Q (look_vw R1 hv1 l1) (res_ok R1 q1)
theorem se_un {op : UnaryOp} {r : V → Hp → VK → Prop} {f : D → Option R0} (ho : UnR X (unaryOp op) r) (hp : P1 e f r) (ha : SE e X W a m) : SE e X W (.UnaryOp op a pos) (eUn f m) := by
  obtain ⟨ta, ha1, ha2⟩ := ha.ex
  exact ⟨_, pe_un ho ha1, tUn_te hp ha2⟩
/-- o[i] by a rule of subscription -/
theorem se_ix {r : R2} {f : D → D → Option R0} (ho : IxR X r) (hp : P2 e f r) (hs : PlainIx b) (ha : SE e X W a m) (hb : SE e X W b n) : SE e X W (.Subscript a b pos) (eOp f m n) := by
  obtain ⟨ta, ha1, ha2⟩ := ha.ex
  obtain ⟨tb, hb1, hb2⟩ := hb.ex
  exact ⟨_, pe_ix ho ha1 hb1 hs, tOp_te hp ha2 hb2⟩
/-- a built-in of one argument -/
def tCB1 (r : List V → Hp → VK → Prop) (ta : TE) : TE := tCB r (tCons ta tNil)
def P1L (e : En) (f : D → Option R0) (r : List V → Hp → VK → Prop) : Prop := P1 e f fun v => r [v]
theorem tCB1_te {ta : TE} {r : List V → Hp → VK → Prop} {f : D → Option R0} (hp : P1L e f r) (ha : TeE e W ta m) : TeE e W (tCB r (tCons ta tNil)) (eUn f m) := fun ρ σ H F fm Q hC R q =>
  tUn_te (r := fun v => r [v]) hp ha ρ σ H F fm Q hC R q
theorem se_call1 {x : Str} {id : String} {r : List V → Hp → VK → Prop} {f : D → Option R0} {p : Pos} (hc : CallR X (.builtin id) r) (hp : P1L e f r) (hg : Gl X x) (hm : X.mg x = none) (hv : bootBuiltins x = some (.builtin id)) (ha : SE e X W a m)
    (hn : x ≠ "__name__" := by decide) (hdb : (x == ("__debug__" : Str)) = false := by decide) (hst : starEach [a] X.env = (false, eval a X.env) :: starEach [] X.env := by rfl) (hpl : (backTo pos (starEach [] X.env)).any (·.1) = false := by rfl) : SE e X W (.Call (.Name x p) [a] [] pos) (eUn f m) := by
  obtain ⟨ta, ha1, ha2⟩ := ha.ex
  exact ⟨_, pe_callB hc hg hm hv (pa_cons ha1 pa_nil hst) hn hdb hst hpl, tCB1_te hp ha2⟩
theorem se_callT1 {x : Str} {T : String} {r : List V → Hp → VK → Prop} {f : D → Option R0} {p : Pos} (hc : CallR X (.type T) r) (hp : P1L e f r) (hg : Gl X x) (hm : X.mg x = none) (hv : bootBuiltins x = some (.type T)) (ha : SE e X W a m)
    (hn : x ≠ "__name__" := by decide) (hdb : (x == ("__debug__" : Str)) = false := by decide) (hst : starEach [a] X.env = (false, eval a X.env) :: starEach [] X.env := by rfl) (hpl : (backTo pos (starEach [] X.env)).any (·.1) = false := by rfl) : SE e X W (.Call (.Name x p) [a] [] pos) (eUn f m) := by
  obtain ⟨ta, ha1, ha2⟩ := ha.ex
  exact ⟨_, pe_callTy hc hg hm hv (pa_cons ha1 pa_nil hst) hn hdb hst hpl, tCB1_te hp ha2⟩
end
end Mi

end
section
set_option maxRecDepth 100000
/-! Mi2: statements by mirrors; calls of defs by their mirrors; a def's promise. -/
namespace Mi
open PySem L2

def rvOf : R0 → RV
  | .val d => .val d
  | .own d => .own d
/-- what is wanted behind a statement -/
def PoS (e : En) (W : Wi) (fm : Fm) (F : Hp) (D : Ends) (o : So) : Prop :=
  match o with
  | .nx r => ∀ σ' H' F', Rl e r σ' H' F' fm → Same F F' → D.nx σ' H'
  | .bk r => ∀ σ' H' F', Rl e r σ' H' F' fm → Same F F' → D.bk σ' H'
  | .ct r => ∀ σ' H' F', Rl e r σ' H' F' fm → Same F F' → D.ct σ' H'
  | .rt a r => ∀ v σ' H' F', Rl e r σ' H' F' fm → Same F F' → RvR e (rvOf a) v r σ' H' F' fm → D.rt v H'
  | .ex x r => ∀ cls d σ' H' F', Rl e r σ' H' F' fm → Same F F' → ExR e x cls d H' F' → W.w cls d σ' H'
  | .no => False
theorem PoS.le {e : En} {W : Wi} {fm : Fm} {F F1 : Hp} {D : Ends} {o : So} (s : Same F F1) (h : PoS e W fm F D o) : PoS e W fm F1 D o := by
  cases o with
  | nx r => exact fun σ' H' F' R s' => h σ' H' F' R (s.trans s')
  | bk r => exact fun σ' H' F' R s' => h σ' H' F' R (s.trans s')
  | ct r => exact fun σ' H' F' R s' => h σ' H' F' R (s.trans s')
  | rt a r => exact fun v σ' H' F' R s' => h v σ' H' F' R (s.trans s')
  | ex x r => exact fun cls d σ' H' F' R s' => h cls d σ' H' F' R (s.trans s')
  | no => exact h
def TeS (e : En) (W : Wi) (io : List Nat) (t : TS) (m : MS) : Prop := ∀ r σ H F fm D, W.c fm → (∀ q ∈ fm.pn, q.1 ∈ io) → Rl e r σ H F fm → PoS e W fm F D (m r) → t D σ H
structure SS (e : En) (X : Cx) (W : Wi) (io : List Nat) (st : Stmt) (m : MS) : Prop where
  ex : ∃ t, PS X st t ∧ TeS e W io t m
structure SB (e : En) (X : Cx) (W : Wi) (io : List Nat) (st : List Stmt) (m : MS) : Prop where
  ex : ∃ t, PSs X st t ∧ TeS e W io t m

def So.bd (o : So) (n : MS) : So := match o with
  | .nx r => n r
  | o => o
@[simp] theorem sbd_nx (r : Rho) (n : MS) : (So.nx r).bd n = n r := rfl
@[simp] theorem sbd_rt (a : R0) (r : Rho) (n : MS) : (So.rt a r).bd n = .rt a r := rfl
@[simp] theorem sbd_bk (r : Rho) (n : MS) : (So.bk r).bd n = .bk r := rfl
@[simp] theorem sbd_ct (r : Rho) (n : MS) : (So.ct r).bd n = .ct r := rfl
@[simp] theorem sbd_ex (x : Ex) (r : Rho) (n : MS) : (So.ex x r).bd n = .ex x r := rfl
@[simp] theorem sbd_no (n : MS) : (So.no).bd n = .no := rfl
/-- an expression's outcome, then a statement's -/
def Ou.st {α : Type} (o : Ou α) (f : α → Rho → So) : So := match o with
  | .ok a r => f a r
  | .ex x r => .ex x r
  | .no => .no
@[simp] theorem st_ok {α : Type} (a : α) (r : Rho) (f : α → Rho → So) : (Ou.ok a r).st f = f a r := rfl
@[simp] theorem st_ex {α : Type} (x : Ex) (r : Rho) (f : α → Rho → So) : (Ou.ex x r : Ou α).st f = .ex x r := rfl
@[simp] theorem st_no {α : Type} (f : α → Rho → So) : (Ou.no : Ou α).st f = .no := rfl

def sNil : MS := fun r => .nx r
def sSeq (m n : MS) : MS := fun r => (m r).bd n
def sIf (c : MT) (m n : MS) : MS := fun r => (c r).st fun b r1 => if b = true then m r1 else n r1
def sBk : MS := fun r => .bk r
def sCt : MS := fun r => .ct r
def sDrop (m : ME) : MS := fun r => (m r).st fun _ r1 => .nx r1
def sSet (i : Nat) (m : ME) : MS := fun r => (m r).st fun rv r1 => match rv with
  | .val d => .nx (r1.set i (.val d))
  | .own d => .nx (r1.set i (.own d))
  | .bor j => (frz (.bor j) r1).st fun d r2 => .nx (r2.set i (.val d))
def retR (io : List Nat) (rv : RV) (r : Rho) : So := match rv with
  | .val d => .rt (.val d) r
  | .own d => .rt (.own d) r
  | .bor i => match r[i]? with
    | some (.own d) => if io.contains i = true then .rt (.val d) (r.set i (.val d)) else .rt (.own d) (r.set i .un)
    | some (.val d) => .rt (.val d) r
    | _ => .no
def sRet (io : List Nat) (m : ME) : MS := fun r => (m r).st (retR io)
def sRetN : MS := fun r => .rt (.val .non) r

section
variable {e : En} {X : Cx} {W : Wi} {io : List Nat} {a b c : Expr} {m n : ME} {pos : Pos} {fm : Fm} {F H : Hp} {σ : St} {r : Rho}
/-- an outcome with its exception's arm -/
theorem Po.st {D : Ends} {α : Type} {o : Ou α} {f : α → Rho → So} (h : PoS e W fm F D (o.st f)) : Po e W fm F σ (fun a r H' F' => PoS e W fm F' D (f a r)) o := by
  cases o with
  | ok a r => exact fun H' F' R s => PoS.le s h
  | ex x r => exact fun cls d H' F' R s q => h cls d σ H' F' R s q
  | no => exact h
theorem sb_nil : SB e X W io [] sNil := ⟨_, pss_nil, fun r σ H F fm D hC hp R q => q σ H F R (Same.refl _)⟩
theorem sb_cons {st : Stmt} {rest : List Stmt} {u v : MS} (h1 : SS e X W io st u) (h2 : SB e X W io rest v) : SB e X W io (st :: rest) (sSeq u v) := by
  obtain ⟨t, a1, a2⟩ := h1.ex
  obtain ⟨t', b1, b2⟩ := h2.ex
  refine ⟨_, pss_cons a1 b1, fun r σ H F fm D hC hp R q => a2 r σ H F fm _ hC hp R ?_⟩
  have q' : PoS e W fm F D ((u r).bd v) := q
  cases z : u r with
  | nx r1 => rw [z] at q'; exact fun σ' H' F' R' s => b2 r1 σ' H' F' fm D hC hp R' (PoS.le s q')
  | bk r1 => rw [z] at q'; exact q'
  | ct r1 => rw [z] at q'; exact q'
  | rt a1 r1 => rw [z] at q'; exact q'
  | ex x r1 => rw [z] at q'; exact q'
  | no => rw [z] at q'; exact q'
theorem sb_one {st : Stmt} {u : MS} (h1 : SS e X W io st u) : SB e X W io [st] u := by
  obtain ⟨t, a1, a2⟩ := h1.ex
  exact ⟨_, pss_one a1, a2⟩
theorem ss_if {x y : List Stmt} {tc : MT} {u v : MS} (hc : ST e X W c tc) (h1 : SB e X W io x u) (h2 : SB e X W io y v) : SS e X W io (.If c x y pos) (sIf tc u v) := by
  obtain ⟨t, c1, c2⟩ := hc.ex
  obtain ⟨t1, a1, a2⟩ := h1.ex
  obtain ⟨t2, b1, b2⟩ := h2.ex
  refine ⟨_, ps_if c1 a1 b1, fun r σ H F fm D hC hp R q => c2 r σ H F fm _ hC R ?_⟩
  refine (Po.st (σ := σ) q).mono fun k r1 H1 F1 R1 s1 q1 => ?_
  cases k with
  | true => exact a2 r1 σ H1 F1 fm D hC hp R1 q1
  | false => exact b2 r1 σ H1 F1 fm D hC hp R1 q1
theorem ss_pass : SS e X W io (.Pass pos) sNil := ⟨_, ps_pass, fun r σ H F fm D hC hp R q => q σ H F R (Same.refl _)⟩
theorem ss_break : SS e X W io (.Break pos) sBk := ⟨_, ps_break, fun r σ H F fm D hC hp R q => q σ H F R (Same.refl _)⟩
theorem ss_continue : SS e X W io (.Continue pos) sCt := ⟨_, ps_continue, fun r σ H F fm D hC hp R q => q σ H F R (Same.refl _)⟩
theorem ss_expr (h : SE e X W a m) (hs : swapsWith a none pos.line X.env = pure false := by rfl) : SS e X W io (.Expr a pos) (sDrop m) := by
  obtain ⟨t, a1, a2⟩ := h.ex
  exact ⟨_, ps_expr a1 hs, fun r σ H F fm D hC hp R q => a2 r σ H F fm _ hC R ((Po.st (σ := σ) q).mono fun rv r1 H1 F1 R1 s1 q1 v hv => q1 σ H1 F1 R1 (Same.refl _))⟩
theorem tSet_te {i : Nat} {te : TE} (hi : i ∉ io) (a2 : TeE e W te m) : TeS e W io (tAsg te (gName i)) (sSet i m) := fun r σ H F fm D hC hp R q => by
  have np : ∀ q ∈ fm.pn, q.1 ≠ i := fun q hq z => hi (z ▸ hp q hq)
  refine a2 r σ H F fm _ hC R ((Po.st (σ := σ) q).mono fun rv r1 H1 F1 R1 s1 q1 v hv => ?_)
  cases rv with
  | val d => exact q1 _ H1 F1 (R1.setV hv np) (Same.refl _)
  | own d =>
    obtain ⟨p, rfl, T⟩ := hv
    exact q1 _ H1 F1 (R1.setO T np) (Same.refl _)
  | bor j =>
    obtain ⟨d, r2, F2, R2, s2, h2, k2⟩ := frz_ok (W := W) R1 hv (Po.st (σ := σ) q1)
    exact k2 _ H1 F2 (R2.setV h2 np) (Same.refl _)
theorem ss_set {i : Nat} {x : Str} {pos' : Pos} (hi : i ∉ io) (hN : X.N.Nodup) (hx : X.N[i]? = some x) (hl : Loc X.env.scope x) (h : SE e X W a m) (hs : swapsWith a (some (.Name x pos')) pos.line X.env = pure false := by rfl)
    (hf : X.fn x = true ∨ X.env.scope.names.lookup x = some .local := by first | exact .inl rfl | exact .inr rfl | assumption) : SS e X W io (.Assign [.Name x pos'] a pos) (sSet i m) := by
  obtain ⟨t, a1, a2⟩ := h.ex
  exact ⟨_, ps_set hN hx hl a1 hs hf, tSet_te hi a2⟩
theorem ss_ret (h : SE e X W a m) : SS e X W io (.Return (some a) pos) (sRet io m) := by
  obtain ⟨t, a1, a2⟩ := h.ex
  refine ⟨_, ps_ret a1, fun r σ H F fm D hC hp R q => a2 r σ H F fm _ hC R ((Po.st (σ := σ) q).mono fun rv r1 H1 F1 R1 s1 q1 v hv => ?_)⟩
  cases rv with
  | val d => exact q1 v σ H1 F1 R1 (Same.refl _) hv
  | own d => exact q1 v σ H1 F1 R1 (Same.refl _) hv
  | bor i =>
    have hv' : σ[i]? = some (some v) := hv
    have q2 : PoS e W fm F1 D (match r1[i]? with
      | some (.own d) => if io.contains i = true then .rt (.val d) (r1.set i (.val d)) else .rt (.own d) (r1.set i .un)
      | some (.val d) => .rt (.val d) r1
      | _ => .no) := q1
    cases z : r1[i]? with
    | none => rw [z] at q2; exact q2.elim
    | some lv =>
      rw [z] at q2
      cases lv with
      | un => exact q2.elim
      | val d =>
        obtain ⟨v', h1, h2⟩ := R1.va i d z
        rw [hv'] at h1; cases h1
        exact q2 v σ H1 F1 R1 (Same.refl _) h2
      | own d =>
        have q3 : PoS e W fm F1 D (if io.contains i = true then .rt (.val d) (r1.set i (.val d)) else .rt (.own d) (r1.set i .un)) := q2
        by_cases hi : io.contains i = true
        · rw [if_pos hi] at q3
          obtain ⟨F2, v', R2, s2, h1, h2⟩ := R1.frzS z
          rw [hv'] at h1; cases h1
          exact q3 v σ H1 F2 R2 s2 h2
        · rw [if_neg hi] at q3
          obtain ⟨p, h1, R2, T⟩ := R1.out z
          rw [hv'] at h1; cases h1
          exact q3 _ σ H1 F1 R2 (Same.refl _) ⟨p, rfl, T⟩
theorem ss_retN : SS e X W io (.Return none pos) sRetN := ⟨_, ps_retN, fun r σ H F fm D hC hp R q => q .non σ H F R (Same.refl _) rfl⟩

/-! ### while -/
def whL : Nat → MT → MS → MS
  | 0, _, _, _ => .no
  | k + 1, t, b, r => (t r).st fun c r1 => if c = true then (match b r1 with
      | .nx r2 => whL k t b r2
      | .ct r2 => whL k t b r2
      | .bk r2 => .nx r2
      | o => o) else .nx r1
theorem ss_while {k : Nat} {c : Expr} {body : List Stmt} {tc : MT} {u : MS} (hp : PassesOwn (model X.prog X.w) X.A X.env X.xe) (hc : ST e X W c tc) (hb : SB e X W io body u) : SS e X W io (.While c body [] pos) (whL k tc u) := by
  obtain ⟨t, c1, c2⟩ := hc.ex
  obtain ⟨t1, b1, b2⟩ := hb.ex
  refine ⟨_, ps_while hp c1 b1, fun r σ H F fm D hC hpn R q => ?_⟩
  refine ⟨fun j σ H => ∃ r F', Rl e r σ H F' fm ∧ Same F F' ∧ PoS e W fm F' D (whL j tc u r), ⟨k, r, F, R, Same.refl _, q⟩, ?_⟩
  rintro j σ1 H1 ⟨r1, F1, R1, s1, q1⟩
  cases j with
  | zero => exact q1.elim
  | succ j =>
    refine c2 r1 σ1 H1 F1 fm _ hC R1 ((Po.st (σ := σ1) q1).mono fun kk r2 H2 F2 R2 s2 q2 => ?_)
    cases kk with
    | false => exact q2 σ1 H2 F2 R2 (Same.refl _)
    | true =>
      rw [if_pos rfl] at q2
      refine iteT ⟨fun σ' H' => ∃ r F', Rl e r σ' H' F' fm ∧ Same F F' ∧ PoS e W fm F' D (whL j tc u r), fun σ' H' h => ⟨j, Nat.lt_succ_self j, h⟩, ?_⟩
      refine b2 r2 σ1 H2 F2 fm _ hC hpn R2 ?_
      cases z : u r2 with
      | nx r3 => rw [z] at q2; exact fun σ' H' F' R' s' => ⟨r3, F', R', (s1.trans s2).trans s', PoS.le s' q2⟩
      | ct r3 => rw [z] at q2; exact fun σ' H' F' R' s' => ⟨r3, F', R', (s1.trans s2).trans s', PoS.le s' q2⟩
      | bk r3 => rw [z] at q2; exact q2
      | rt a3 r3 => rw [z] at q2; exact q2
      | ex x r3 => rw [z] at q2; exact q2
      | no => rw [z] at q2; exact q2.elim

/-! ### targets -/
abbrev MG := D → Rho → Option Rho
def TeG (e : En) (io : List Nat) (t : TG) (m : MG) : Prop := ∀ d v r r' σ H F fm Q, (∀ q ∈ fm.pn, q.1 ∈ io) → Rl e r σ H F fm → Rep e F d v → m d r = some r' → (∀ σ' H' F', Rl e r' σ' H' F' fm → Same F F' → Q σ' H') → t v σ H Q
def TeGs (e : En) (io : List Nat) (t : TGs) (m : List D → Rho → Option Rho) : Prop := ∀ ds vs r r' σ H F fm Q, (∀ q ∈ fm.pn, q.1 ∈ io) → Rl e r σ H F fm → RepL e F ds vs → m ds r = some r' → (∀ σ' H' F', Rl e r' σ' H' F' fm → Same F F' → Q σ' H') → t vs σ H Q
structure SG (e : En) (X : Cx) (io : List Nat) (tg : Expr) (m : MG) : Prop where
  ex : ∃ t, PG X tg t ∧ TeG e io t m
structure SGs (e : En) (X : Cx) (io : List Nat) (tg : List Expr) (m : List D → Rho → Option Rho) : Prop where
  ex : ∃ t, PGs X tg t ∧ TeGs e io t m
def gN (i : Nat) : MG := fun d r => some (r.set i (.val d))
def gNilM : List D → Rho → Option Rho := fun ds r => match ds with
  | [] => some r
  | _ => none
def gConsM (g : MG) (gs : List D → Rho → Option Rho) : List D → Rho → Option Rho := fun ds r => match ds with
  | [] => none
  | d :: ds => (g d r).bind (gs ds)
def gTupM (n : Nat) (gs : List D → Rho → Option Rho) : MG := fun d r => match d with
  | .tup l => if l.length = n then gs l r else none
  | _ => none
theorem sg_name {i : Nat} {x : Str} (hi : i ∉ io) (hN : X.N.Nodup) (hx : X.N[i]? = some x) (hl : Loc X.env.scope x) (hf : X.fn x = true ∨ X.env.scope.names.lookup x = some .local := by first | exact .inl rfl | exact .inr rfl | assumption) : SG e X io (.Name x pos) (gN i) :=
  ⟨_, pg_name hN hx hl hf, fun d v r r' σ H F fm Q hp R hv h q => by
    cases h
    exact q _ H F (R.setV hv fun q hq z => hi (z ▸ hp q hq)) (Same.refl _)⟩
theorem sgs_nil : SGs e X io [] gNilM := ⟨_, pgs_nil, fun ds vs r r' σ H F fm Q hp R hv h q => by
  cases ds with
  | nil => cases h; cases hv; exact ⟨rfl, q σ H F R (Same.refl _)⟩
  | cons d ds => cases h⟩
theorem sgs_cons {tg : Expr} {ts : List Expr} {g : MG} {gs : List D → Rho → Option Rho} (h1 : SG e X io tg g) (h2 : SGs e X io ts gs)
    (hs : (assignEach (tg :: ts) X.env).map (·.2) = assign tg X.env :: (assignEach ts X.env).map (·.2) := by rfl) : SGs e X io (tg :: ts) (gConsM g gs) := by
  obtain ⟨t, a1, a2⟩ := h1.ex
  obtain ⟨t', b1, b2⟩ := h2.ex
  refine ⟨_, pgs_cons a1 b1 hs, fun ds vs r r' σ H F fm Q hp R hv h q => ?_⟩
  cases ds with
  | nil => cases h
  | cons d ds =>
    obtain ⟨v, vr, rfl, h3, h4⟩ := hv
    have h' : (g d r).bind (gs ds) = some r' := h
    obtain ⟨r1, g1, g2⟩ := Option.bind_eq_some_iff.mp h'
    exact ⟨v, vr, rfl, a2 d v r r1 σ H F fm _ hp R h3 g1 fun σ' H' F' R' s' => b2 ds vr r1 r' σ' H' F' fm Q hp R' (h4.mono s') g2 fun σ2 H2 F2 R2 s2 => q σ2 H2 F2 R2 (s'.trans s2)⟩
theorem sg_tup {es : List Expr} {k : Nat} {gs : List D → Rho → Option Rho} {n : Nat} (hK : X.K = e.K) (hc : X.calm = true) (h : SGs e X io es gs)
    (hn : (assignEach es X.env).length = n := by rfl) (hst : (assignEach es X.env).findIdx? (·.1) = none := by rfl) : SG e X io (.Tuple es k pos) (gTupM n gs) := by
  obtain ⟨t, a1, a2⟩ := h.ex
  refine ⟨_, pg_tup hc a1 hn hst, fun d v r r' σ H F fm Q hp R hv h q => ?_⟩
  cases d with
  | tup l =>
    have h' : (if l.length = n then gs l r else none) = some r' := h
    obtain ⟨p, vs, rfl, h1, h2⟩ := hv
    by_cases z : l.length = n
    · rw [if_pos z] at h'
      exact ⟨p, vs, rfl, by rw [hK]; exact R.fh.sqT (tupT h1), by rw [h2.len]; exact z, a2 l vs r r' σ H F fm Q hp R h2 h' q⟩
    · rw [if_neg z] at h'; cases h'
  | _ => cases h
def sAsg (g : MG) (m : ME) : MS := fun r => (fz m r).st fun d r1 => match g d r1 with
  | some r2 => .nx r2
  | none => .no
theorem ss_asg {tg : Expr} {g : MG} (h : SE e X W a m) (hg : SG e X io tg g) (hs : swapsWithSole [tg] a pos.line X.env = pure false := by rfl) (hw : swappedStores [tg] a X.env = pure none := by rfl)
    (h1 : (assignEach [tg] X.env).map (·.2) = [assign tg X.env] := by rfl) : SS e X W io (.Assign [tg] a pos) (sAsg g m) := by
  obtain ⟨t, a1, a2⟩ := h.ex
  obtain ⟨u, g1, g2⟩ := hg.ex
  refine ⟨_, ps_asg a1 g1 hs hw h1, fun r σ H F fm D hC hp R q => a2 r σ H F fm _ hC R ?_⟩
  have q1 : Po e W fm F σ (fun d r1 _ F1 => PoS e W fm F1 D (match g d r1 with
    | some r2 => .nx r2
    | none => .no)) (fz m r) := Po.st q
  refine (Po.bd q1).mono fun rv r1 H1 F1 R1 s1 q2 v hv => ?_
  obtain ⟨d, r2, F2, R2, s2, h2, k2⟩ := frz_ok R1 hv q2
  cases z : g d r2 with
  | none => rw [z] at k2; exact k2.elim
  | some r3 =>
    rw [z] at k2
    exact g2 d v r2 r3 σ H1 F2 fm _ hp R2 h2 z fun σ' H' F' R' s' => k2 σ' H' F' R' s'

/-! ### for -/
/-- what of a heap is locked -/
def Lo (G : Hp) : Hp := fun a => match G a with
  | some (.frz o u) => some (.frz o u)
  | _ => none
theorem lo_at {G : Hp} {a : Addr} {w : HO} (q : Lo G a = some w) : G a = some w ∧ ∃ o u, w = .frz o u := by
  unfold Lo at q
  cases z : G a with
  | none => rw [z] at q; cases q
  | some u => rw [z] at q; cases u <;> cases q; exact ⟨rfl, _, _, rfl⟩
theorem lo_gh {G H : Hp} (h : Same G H) : Same (Lo G) H := fun a w q => h a w (lo_at q).1
theorem lo_upd {G : Hp} {p : Addr} {u : HO} (hG : G p = none) (hu : ∀ o w, u ≠ .frz o w) : Lo (L2.upd G p u) = Lo G := by
  funext a
  unfold Lo
  by_cases ha : a = p
  · subst ha; rw [upd_same, hG]; cases u <;> first | rfl | exact (hu _ _ rfl).elim
  · rw [upd_ne ha]
/-- the iterator J gives the items ds, as they stand in F or in later heaps -/
structure ItR (e : En) (G : Hp) (J : It) (ds : List D) (F : Hp) : Prop where
  go : ∀ i H, Und F H → Same G H → i < ds.length → J.go i H
  stop : ∀ i H, Und F H → Same G H → ds.length ≤ i → J.stop i H
  yld : ∀ i H x H' d, Und F H → Same G H → J.yld i H x H' → ds[i]? = some d → (H' = H ∧ Rep e F d x) ∨ (∃ p u, H p = none ∧ H' = upd H p u ∧ x = .ref p ∧ OR e F u d) ∨ ∃ q vs l, H' = H ∧ x = .ref q ∧ d = .tup l ∧ H q = some (.tup vs) ∧ RepL e F l vs
def TeI (e : En) (W : Wi) (t : TI) (m : Rho → Ou (List D)) : Prop := ∀ r σ H F fm (R' : It → Hp → Prop), W.c fm → Rl e r σ H F fm → Po e W fm F σ (fun ds _ H' F' => ∀ J, ItR e (Lo fm.G) J ds F' → R' J H') (m r) → t σ H R'
structure SI (e : En) (X : Cx) (W : Wi) (tg iter : Expr) (m : Rho → Ou (List D)) : Prop where
  ex : ∃ t, PI X tg iter t ∧ TeI e W t m
theorem ItR.mono {G : Hp} {J : It} {ds : List D} {F F' : Hp} (s : Same F F') (h : ItR e G J ds F) : ItR e G J ds F' :=
  have u : ∀ {H}, Und F' H → Und F H := fun {H} x a o q => x a o (s a o q)
  ⟨fun i H x => h.go i H (u x), fun i H x => h.stop i H (u x), fun i H x H' d y g z w => by
    rcases h.yld i H x H' d (u y) g z w with ⟨a, b⟩ | ⟨p, o, a, b, c, d⟩ | ⟨q, vs, l, a, b, c, d, f⟩
    · exact .inl ⟨a, b.mono s⟩
    · exact .inr (.inl ⟨p, o, a, b, c, d.mono s⟩)
    · exact .inr (.inr ⟨q, vs, l, a, b, c, d, f.mono s⟩)⟩
/-- a yielded item, frozen -/
theorem ItR.item {G : Hp} {J : It} {ds : List D} {i : Nat} {x : V} {H' : Hp} {d : D} (h : ItR e G J ds F) (R : Rl e r σ H F fm) (g : Same G H) (y : J.yld i H x H') (hd : ds[i]? = some d) : ∃ F', Rl e r σ H' F' fm ∧ Same F F' ∧ Rep e F' d x := by
  rcases h.yld i H x H' d R.fh g y hd with ⟨rfl, b⟩ | ⟨p, u, n, rfl, rfl, b⟩ | ⟨q, vs, l, rfl, rfl, rfl, hq, rl⟩
  · exact ⟨F, R, Same.refl _, b⟩
  · exact R.frzN n b
  · exact R.frzTup hq rl
def forL (g : MG) (b : MS) : List D → MS
  | [], r => .nx r
  | d :: ds, r => match g d r with
    | none => .no
    | some r1 => match b r1 with
      | .nx r2 => forL g b ds r2
      | .ct r2 => forL g b ds r2
      | .bk r2 => .nx r2
      | o => o
def sFor (g : MG) (mi : Rho → Ou (List D)) (b : MS) : MS := fun r => (mi r).st fun ds r1 => forL g b ds r1
theorem ss_for {tg iter : Expr} {body : List Stmt} {g : MG} {mi : Rho → Ou (List D)} {u : MS} (hp : PassesOwn (model X.prog X.w) X.A X.env X.xe) (hc : X.calm = true) (hi : SI e X W tg iter mi) (hg : SG e X io tg g) (hb : SB e X W io body u)
    (hs : ∀ x, foldedSetIterable iter X.env x = pure x := by intro _; rfl) : SS e X W io (.For tg iter body [] pos) (sFor g mi u) := by
  obtain ⟨ti, i1, i2⟩ := hi.ex
  obtain ⟨tg', g1, g2⟩ := hg.ex
  obtain ⟨t1, b1, b2⟩ := hb.ex
  refine ⟨_, ps_for hp hc i1 g1 b1 hs, fun r σ H F fm D hC hpn R q => i2 r σ H F fm _ hC R ?_⟩
  refine (Po.st (σ := σ) q).mono fun ds r1 H1 F1 R1 s1 q1 J hJ => ?_
  refine ⟨fun i k σ H => k = ds.length - i ∧ ∃ r F', Rl e r σ H F' fm ∧ Same F1 F' ∧ PoS e W fm F' D (forL g u (ds.drop i) r), ⟨ds.length, rfl, r1, F1, R1, Same.refl _, by rw [List.drop_zero]; exact q1⟩, ?_⟩
  rintro i k σ2 H2 ⟨rfl, r2, F2, R2, s2, q2⟩
  have hJ2 := hJ.mono s2
  by_cases hlt : i < ds.length
  · refine .inr ⟨hJ2.go i H2 R2.fh (lo_gh R2.gh) hlt, fun σ H => ∃ r F', Rl e r σ H F' fm ∧ Same F1 F' ∧ PoS e W fm F' D (forL g u (ds.drop (i + 1)) r), fun σ' H' h => ⟨ds.length - (i + 1), by omega, rfl, h⟩, fun x H' y => ?_⟩
    have hd : ds[i]? = some ds[i] := List.getElem?_eq_getElem hlt
    obtain ⟨F3, R3, s3, h3⟩ := hJ2.item R2 (lo_gh R2.gh) y hd
    rw [List.drop_eq_getElem_cons hlt] at q2
    have q3 : PoS e W fm F2 D (match g ds[i] r2 with
      | none => .no
      | some r1 => match u r1 with
        | .nx r2 => forL g u (ds.drop (i + 1)) r2
        | .ct r2 => forL g u (ds.drop (i + 1)) r2
        | .bk r2 => .nx r2
        | o => o) := q2
    cases z : g ds[i] r2 with
    | none => rw [z] at q3; exact q3.elim
    | some r4 =>
      rw [z] at q3
      refine g2 ds[i] x r2 r4 σ2 H' F3 fm _ hpn R3 h3 z fun σ5 H5 F5 R5 s5 => ?_
      have sAll : Same F1 F5 := (s2.trans s3).trans s5
      have q4 : PoS e W fm F5 D (match u r4 with
        | .nx r2 => forL g u (ds.drop (i + 1)) r2
        | .ct r2 => forL g u (ds.drop (i + 1)) r2
        | .bk r2 => .nx r2
        | o => o) := PoS.le (s3.trans s5) q3
      refine b2 r4 σ5 H5 F5 fm _ hC hpn R5 ?_
      cases z2 : u r4 with
      | nx r6 => rw [z2] at q4; exact fun σ' H' F' R' s' => ⟨r6, F', R', sAll.trans s', PoS.le s' q4⟩
      | ct r6 => rw [z2] at q4; exact fun σ' H' F' R' s' => ⟨r6, F', R', sAll.trans s', PoS.le s' q4⟩
      | bk r6 => rw [z2] at q4; exact q4
      | rt a6 r6 => rw [z2] at q4; exact q4
      | ex x6 r6 => rw [z2] at q4; exact q4
      | no => rw [z2] at q4; exact q4.elim
  · refine .inl ⟨hJ2.stop i H2 R2.fh (lo_gh R2.gh) (by omega), ?_⟩
    rw [List.drop_eq_nil_of_le (by omega)] at q2
    exact q2 σ2 H2 F2 R2 (Same.refl _)
end
end Mi

end
section
set_option maxRecDepth 100000
/-! Mi3: a def's promise by its mirror; calls. -/
namespace Mi
open PySem L2
open PyProof.Rows (envOfC)

/-- a def by its mirror: arguments in, the value out, and what has become of the arguments -/
def spOf (e : En) (n : Nat) (f : MS) : Sp := fun vs H Q E => vs.length = n ∧ ∃ (r : Rho) (F G : Hp) (B : Addr → Prop), Rl e r (vs.map some) H F ⟨G, B, []⟩ ∧
  match f r with
  | .rt a r' => ∀ v H' F', Rl e r' (vs.map some) H' F' ⟨G, B, []⟩ → Same F F' → RvR e (rvOf a) v r' (vs.map some) H' F' ⟨G, B, []⟩ → Q v H'
  | .ex x r' => ∀ cls d H' F', Rl e r' (vs.map some) H' F' ⟨G, B, []⟩ → Same F F' → ExR e x cls d H' F' → E cls d H'
  | _ => False
def back (io : List Nat) : Nat → Rho → Rho → Rho
  | i, lv :: r, lv' :: r' => (if io.contains i = true then lv' else lv) :: back io (i + 1) r r'
  | _, _, _ => []
def fin (io : List Nat) (r r' : Rho) (f : Rho → So) : So := if r.length ≤ r'.length then f (back io 0 r r') else .no
def okA (io : List Nat) : Nat → Rho → Bool
  | _, [] => true
  | i, .own _ :: r => io.contains i && okA io (i + 1) r
  | i, _ :: r => okA io (i + 1) r
def mkFn (n k : Nat) (io : List Nat) (body : MS) : MS := fun r => if r.length = n ∧ okA io 0 r = true then match body (r ++ List.replicate k .un) with
  | .nx r' => fin io r r' (.rt (.val .non))
  | .rt a r' => fin io r r' (.rt a)
  | .ex x r' => fin io r r' (.ex x)
  | _ => .no else .no

theorem back_get (io : List Nat) : ∀ (r r' : Rho) (j i : Nat), r.length ≤ r'.length → i < r.length → (back io j r r')[i]? = if io.contains (j + i) = true then r'[i]? else r[i]?
  | [], _, _, _, _, h => by simp at h
  | _ :: _, [], _, _, h, _ => by simp at h
  | a :: r, b :: r', j, 0, h, _ => by
    show ((if io.contains j = true then b else a) :: back io (j + 1) r r')[0]? = _
    show _ = if io.contains j = true then some b else some a
    by_cases z : io.contains j = true
    · rw [if_pos z, if_pos z]; rfl
    · rw [if_neg z, if_neg z]; rfl
  | a :: r, b :: r', j, i + 1, h, q => by
    show ((if io.contains j = true then b else a) :: back io (j + 1) r r')[i + 1]? = _
    rw [List.getElem?_cons_succ, back_get io r r' (j + 1) i (by simpa using h) (by simpa using q), show j + 1 + i = j + (i + 1) by omega]
    simp
theorem back_len (io : List Nat) : ∀ (r r' : Rho) (j : Nat), r.length ≤ r'.length → (back io j r r').length = r.length
  | [], _, _, _ => rfl
  | _ :: _, [], _, h => by simp at h
  | a :: r, b :: r', j, h => by
    show (back io (j + 1) r r').length + 1 = r.length + 1
    rw [back_len io r r' (j + 1) (by simpa using h)]
theorem okA_get (io : List Nat) : ∀ (r : Rho) (j i : Nat) (d : D), okA io j r = true → r[i]? = some (.own d) → io.contains (j + i) = true
  | [], _, _, _, _, h => by simp at h
  | lv :: r, j, 0, d, h, q => by
    have q' : lv = .own d := by simpa using q
    subst q'
    have h' : (io.contains j && okA io (j + 1) r) = true := h
    exact (Bool.and_eq_true_iff.mp h').1
  | lv :: r, j, i + 1, d, h, q => by
    have h' : okA io (j + 1) r = true := by
      cases lv with
      | own d' =>
        have h' : (io.contains j && okA io (j + 1) r) = true := h
        exact (Bool.and_eq_true_iff.mp h').2
      | val d' => exact h
      | un => exact h
    have := okA_get io r (j + 1) i d h' (by simpa using q)
    rwa [show j + 1 + i = j + (i + 1) by omega] at this
section
variable {e : En} {F F' H H' : Hp} {r r' : Rho} {σ σ' : St} {G : Hp} {B : Addr → Prop}
theorem ext_get {r : Rho} {k i : Nat} {lv : LV} (h : (r ++ List.replicate k LV.un)[i]? = some lv) (n : lv ≠ .un) : r[i]? = some lv ∧ i < r.length := by
  by_cases z : i < r.length
  · rw [List.getElem?_append_left z] at h; exact ⟨h, z⟩
  · rw [List.getElem?_append_right (by omega)] at h
    have := List.mem_of_getElem? h
    rw [List.mem_replicate] at this
    exact (n this.2).elim
theorem Rl.ext {fm : Fm} (R : Rl e r σ H F fm) (k : Nat) (pn : List (Nat × V)) (hp : ∀ q ∈ pn, σ[q.1]? = some (some q.2)) : Rl e (r ++ List.replicate k .un) (σ ++ List.replicate k none) H F ⟨fm.G, fm.B, pn⟩ where
  fh := R.fh
  gh := R.gh
  bf := R.bf
  bh := R.bh
  bt := R.bt
  ln := by simp [R.ln]
  va := fun i d h => by
    obtain ⟨h1, h2⟩ := ext_get h (by simp)
    obtain ⟨v, h3, h4⟩ := R.va i d h1
    exact ⟨v, by rw [List.getElem?_append_left (by rw [R.ln]; exact h2)]; exact h3, h4⟩
  ow := fun i d h => by
    obtain ⟨h1, h2⟩ := ext_get h (by simp)
    obtain ⟨p, u, h3, h4⟩ := R.ow i d h1
    exact ⟨p, u, by rw [List.getElem?_append_left (by rw [R.ln]; exact h2)]; exact h3, h4⟩
  ap := fun i j d d' p h1 h2 h3 h4 => by
    obtain ⟨a1, a2⟩ := ext_get h1 (by simp)
    obtain ⟨b1, b2⟩ := ext_get h2 (by simp)
    rw [List.getElem?_append_left (by rw [R.ln]; exact a2)] at h3
    rw [List.getElem?_append_left (by rw [R.ln]; exact b2)] at h4
    exact R.ap i j d d' p a1 b1 h3 h4
  pn := fun q hq => by
    have := hp q hq
    rw [List.getElem?_append_left (List.getElem?_eq_some_iff.mp this).1]
    exact this
/-- the arguments as they are behind the body -/
theorem Rl.back {vs : List V} {io : List Nat} {pn : List (Nat × V)} (R : Rl e r (vs.map some) H F ⟨G, B, []⟩) (R' : Rl e r' σ' H' F' ⟨G, B, pn⟩) (s : Same F F') (ok : okA io 0 r = true) (hl : r.length ≤ r'.length)
    (hp : ∀ i v, i ∈ io → vs[i]? = some v → σ'[i]? = some (some v)) : Rl e (back io 0 r r') (vs.map some) H' F' ⟨G, B, []⟩ ∧ ∀ (i : Nat) (d' : D), (back io 0 r r')[i]? = some (.own d') → r'[i]? = some (.own d') ∧ σ'[i]? = (vs.map some)[i]? := by
  have len : (Mi.back io 0 r r').length = r.length := back_len io r r' 0 hl
  have lt : ∀ {i lv}, (Mi.back io 0 r r')[i]? = some lv → i < r.length := fun {i lv} h => by
    have := (List.getElem?_eq_some_iff.mp h).1; rwa [len] at this
  have vlen : vs.length = r.length := by have := R.ln; simpa using this
  have vget : ∀ {i}, i < r.length → ∃ v, vs[i]? = some v ∧ (vs.map some)[i]? = some (some v) := fun {i} h => by
    have h' : i < vs.length := by omega
    exact ⟨vs[i], List.getElem?_eq_getElem h', by simp [h']⟩
  have own : ∀ (i : Nat) (d' : D), (Mi.back io 0 r r')[i]? = some (.own d') → r'[i]? = some (.own d') ∧ σ'[i]? = (vs.map some)[i]? := fun i d' h => by
    have hi := lt h
    rw [back_get io r r' 0 i hl hi, Nat.zero_add] at h
    obtain ⟨v, h1, h2⟩ := vget hi
    by_cases z : io.contains i = true
    · rw [if_pos z] at h
      exact ⟨h, by rw [h2]; exact hp i v (List.contains_iff_mem.mp z) h1⟩
    · rw [if_neg z] at h
      exact (z (by have := okA_get io r 0 i d' ok h; rwa [Nat.zero_add] at this)).elim
  refine ⟨{
    fh := R'.fh
    gh := R'.gh
    bf := R'.bf
    bh := R'.bh
    bt := R'.bt
    ln := by rw [len]; exact R.ln
    va := fun i d h => by
      have hi := lt h
      obtain ⟨v, h1, h2⟩ := vget hi
      rw [back_get io r r' 0 i hl hi, Nat.zero_add] at h
      by_cases z : io.contains i = true
      · rw [if_pos z] at h
        obtain ⟨v', h3, h4⟩ := R'.va i d h
        rw [hp i v (List.contains_iff_mem.mp z) h1] at h3
        cases h3
        exact ⟨v, h2, h4⟩
      · rw [if_neg z] at h
        obtain ⟨v', h3, h4⟩ := R.va i d h
        exact ⟨v', h3, h4.mono s⟩
    ow := fun i d h => by
      obtain ⟨h1, h2⟩ := own i d h
      obtain ⟨p, u, h3, h4⟩ := R'.ow i d h1
      exact ⟨p, u, by rw [← h2]; exact h3, h4⟩
    ap := fun i j d d' p h1 h2 h3 h4 => by
      obtain ⟨a1, a2⟩ := own i d h1
      obtain ⟨b1, b2⟩ := own j d' h2
      exact R'.ap i j d d' p a1 b1 (by rw [a2]; exact h3) (by rw [b2]; exact h4)
    pn := fun q hq => by cases hq }, own⟩
end

section
variable {P : Program} {w : World} {K : PySem.W.Frag} {mg : Str → Option Value} {base : Heap} {e : En}
abbrev WofE (E : XK) : Wi := ⟨fun cls d _ H => E cls d H, fun _ => True⟩
/-- THE RULE for a def -/
theorem fn_okP {G : Sp → Prop} {PA : Around → Prop} {qual : Str} {st : Stmt} {f : Addr} {N ps : List Str} {k m : Nat} {io : List Nat} {body : MS}
    (hF : ∀ sp : Sp, (∀ vs H Q E, sp vs H Q E → vs.length = ps.length) → (∀ (cdv : Value) (A : Around) (outer : List Env) (s : Shared) (H : Hp) (vs : List V) (Q : VK) (E : XK), PA A → Room k (A.deeper (envOfC qual (defScope st) s.heap.objs.size f cdv)) → sp vs H Q E →
      ∃ t, PSs (cxOf (L2.CX P w) P w K mg base N qual (defScope st) f cdv A outer s H E) (defBody st) t ∧ t { nx := fun _ H' => Q .non H', rt := Q } (L2.start N vs) H) → G sp) (hm : N.length = ps.length + m)
    (hb : ∀ (cdv : Value) (A : Around) (outer : List Env) (s : Shared) (H : Hp) (E : XK), PA A → Room k (A.deeper (envOfC qual (defScope st) s.heap.objs.size f cdv)) →
      SB e (cxOf (L2.CX P w) P w K mg base N qual (defScope st) f cdv A outer s H E) (WofE E) io (defBody st) body) :
    G (spOf e ps.length (mkFn ps.length m io body)) := by
  refine hF _ (fun vs H Q E h => h.1) fun cdv A outer s H vs Q E pa hr h => ?_
  obtain ⟨hl, r, F0, G, B, R, q⟩ := h
  obtain ⟨t, h1, h2⟩ := (hb cdv A outer s H E pa hr).ex
  refine ⟨t, h1, ?_⟩
  have vlen : vs.length = r.length := by have := R.ln; simpa using this
  unfold mkFn at q
  by_cases z : r.length = ps.length ∧ okA io 0 r = true
  · rw [if_pos z] at q
    obtain ⟨z1, z2⟩ := z
    have pget : ∀ i v, vs[i]? = some v → (vs.map some)[i]? = some (some v) := fun i v h => by rw [List.getElem?_map, h]; rfl
    have est : L2.start N vs = vs.map some ++ List.replicate m none := by
      unfold L2.start
      rw [show N.length - vs.length = m by omega]
    have R0 := R.ext m ((io.filterMap fun i => (vs[i]?).map fun v => (i, v))) (fun q hq => by
      obtain ⟨i, hi, e1⟩ := List.mem_filterMap.mp hq
      cases z : vs[i]? with
      | none => rw [z] at e1; cases e1
      | some v =>
        rw [z] at e1
        cases e1
        exact pget i v z)
    have pin : ∀ {r' : Rho} {σ' : St} {H' F' : Hp}, Rl e r' σ' H' F' ⟨G, B, io.filterMap fun i => (vs[i]?).map fun v => (i, v)⟩ → ∀ i v, i ∈ io → vs[i]? = some v → σ'[i]? = some (some v) := fun {r' σ' H' F'} R' i v hi hv =>
      R'.pn (i, v) (List.mem_filterMap.mpr ⟨i, hi, by rw [hv]; rfl⟩)
    rw [est]
    refine h2 _ _ _ _ _ _ trivial (fun q hq => ?_) R0 ?_
    · obtain ⟨i, hi, e1⟩ := List.mem_filterMap.mp hq
      cases z : vs[i]? with
      | none => rw [z] at e1; cases e1
      | some v => rw [z] at e1; cases e1; exact hi
    · have go : ∀ {r' : Rho} {σ' : St} {H' F' : Hp} {f : Rho → So} {T : So → Prop}, Rl e r' σ' H' F' ⟨G, B, io.filterMap fun i => (vs[i]?).map fun v => (i, v)⟩ → Same F0 F' → T (fin io r r' f) → (T .no → False) →
          Rl e (Mi.back io 0 r r') (vs.map some) H' F' ⟨G, B, []⟩ ∧ T (f (Mi.back io 0 r r')) ∧ ∀ (i : Nat) (d' : D), (Mi.back io 0 r r')[i]? = some (.own d') → r'[i]? = some (.own d') ∧ σ'[i]? = (vs.map some)[i]? := fun {r' σ' H' F' f T} R' s' q no => by
        unfold fin at q
        by_cases hl2 : r.length ≤ r'.length
        · rw [if_pos hl2] at q
          obtain ⟨R2, o2⟩ := R.back R' s' z2 hl2 (pin R')
          exact ⟨R2, q, o2⟩
        · rw [if_neg hl2] at q
          exact (no q).elim
      cases y : body (r ++ List.replicate m LV.un) with
      | nx r' =>
        rw [y] at q
        intro σ' H' F' R' s'
        obtain ⟨R2, q2, _⟩ := go (T := fun o => match o with
          | .rt a r' => ∀ v H' F', Rl e r' (vs.map some) H' F' ⟨G, B, []⟩ → Same F0 F' → RvR e (rvOf a) v r' (vs.map some) H' F' ⟨G, B, []⟩ → Q v H'
          | .ex x r' => ∀ cls d H' F', Rl e r' (vs.map some) H' F' ⟨G, B, []⟩ → Same F0 F' → ExR e x cls d H' F' → E cls d H'
          | _ => False) R' s' q fun z => z
        exact q2 .non H' F' R2 s' rfl
      | rt a r' =>
        rw [y] at q
        intro v σ' H' F' R' s' hv
        obtain ⟨R2, q2, o2⟩ := go (T := fun o => match o with
          | .rt a r' => ∀ v H' F', Rl e r' (vs.map some) H' F' ⟨G, B, []⟩ → Same F0 F' → RvR e (rvOf a) v r' (vs.map some) H' F' ⟨G, B, []⟩ → Q v H'
          | .ex x r' => ∀ cls d H' F', Rl e r' (vs.map some) H' F' ⟨G, B, []⟩ → Same F0 F' → ExR e x cls d H' F' → E cls d H'
          | _ => False) R' s' q fun z => z
        refine q2 v H' F' R2 s' ?_
        cases a with
        | val d => exact hv
        | own d =>
          obtain ⟨p, rfl, T1, T2, T3⟩ := hv
          refine ⟨p, rfl, T1, T2, fun i d' hi z => ?_⟩
          obtain ⟨a1, a2⟩ := o2 i d' hi
          exact T3 i d' a1 (by rw [a2]; exact z)
      | ex x r' =>
        rw [y] at q
        intro cls d σ' H' F' R' s' hx
        obtain ⟨R2, q2, _⟩ := go (T := fun o => match o with
          | .rt a r' => ∀ v H' F', Rl e r' (vs.map some) H' F' ⟨G, B, []⟩ → Same F0 F' → RvR e (rvOf a) v r' (vs.map some) H' F' ⟨G, B, []⟩ → Q v H'
          | .ex x r' => ∀ cls d H' F', Rl e r' (vs.map some) H' F' ⟨G, B, []⟩ → Same F0 F' → ExR e x cls d H' F' → E cls d H'
          | _ => False) R' s' q fun z => z
        exact q2 cls d H' F' R2 s' hx
      | bk r' => rw [y] at q; exact q.elim
      | ct r' => rw [y] at q; exact q.elim
      | no => rw [y] at q; exact q.elim
  · rw [if_neg z] at q
    exact q.elim
theorem fn_okH {qual : Str} {st : Stmt} {f : Addr} {fd : FuncData} {N ps : List Str} {k m : Nat} {io : List Nat} {body : MS}
    (hF : ∀ sp : Sp, (∀ vs H Q E, sp vs H Q E → vs.length = ps.length) → (∀ (cdv : Value) (A : Around) (outer : List Env) (s : Shared) (H : Hp) (vs : List V) (Q : VK) (E : XK), Room k (A.deeper (envOfC qual (defScope st) s.heap.objs.size f cdv)) → sp vs H Q E →
      ∃ t, PSs (cxOf (L2.CX P w) P w K mg base N qual (defScope st) f cdv A outer s H E) (defBody st) t ∧ t { nx := fun _ H' => Q .non H', rt := Q } (L2.start N vs) H) → FnOk P w K mg base (L2.CX P w) (k + 1) f fd ps sp) (hm : N.length = ps.length + m)
    (hb : ∀ (cdv : Value) (A : Around) (outer : List Env) (s : Shared) (H : Hp) (E : XK), Room k (A.deeper (envOfC qual (defScope st) s.heap.objs.size f cdv)) →
      SB e (cxOf (L2.CX P w) P w K mg base N qual (defScope st) f cdv A outer s H E) (WofE E) io (defBody st) body) :
    FnOk P w K mg base (L2.CX P w) (k + 1) f fd ps (spOf e ps.length (mkFn ps.length m io body)) :=
  fn_okP (PA := fun _ => True) (fun sp len h => hF sp len fun cdv A outer s H vs Q E hr z => h cdv A outer s H vs Q E trivial hr z) hm fun cdv A outer s H E _ hr => hb cdv A outer s H E hr
theorem fn_ok {x qual : Str} {st : Stmt} {f : Addr} {fd : FuncData} {N ps : List Str} {k m : Nat} {io : List Nat} {body : MS} (F : Fun K x qual st f fd) (S : FnScope N ps (defScope st)) (hm : N.length = ps.length + m)
    (hb : ∀ (cdv : Value) (A : Around) (outer : List Env) (s : Shared) (H : Hp) (E : XK), Room k (A.deeper (envOfC qual (defScope st) s.heap.objs.size f cdv)) →
      SB e (cxOf (L2.CX P w) P w K mg base N qual (defScope st) f cdv A outer s H E) (WofE E) io (defBody st) body) :
    FnOk P w K mg base (L2.CX P w) (k + 1) f fd ps (spOf e ps.length (mkFn ps.length m io body)) :=
  fn_okH (fun sp len hb => F.okX S len hb) hm hb
/-- for a def with defaults -/
theorem fn_okD {x qual : Str} {st : Stmt} {f : Addr} {fd : FuncData} {N ps : List Str} {k m : Nat} {io : List Nat} {body : MS} {dvs : List V} {kws : List (Str × V)} (F : FunD K x qual (defArgs st) (defBody st) (defScope st) dvs kws f fd) (S : FnScope N ps (defScope st)) (hm : N.length = ps.length + m)
    (hb : ∀ (cdv : Value) (A : Around) (outer : List Env) (s : Shared) (H : Hp) (E : XK), Room k (A.deeper (envOfC qual (defScope st) s.heap.objs.size f cdv)) →
      SB e (cxOf (L2.CX P w) P w K mg base N qual (defScope st) f cdv A outer s H E) (WofE E) io (defBody st) body) :
    FnOk P w K mg base (L2.CX P w) (k + 1) f fd ps (spOf e ps.length (mkFn ps.length m io body)) :=
  fn_okH (fun sp len hb => F.ok S len hb) hm hb
end
/-! ### calls -/
def ArgsR (e : En) (σ : St) (F : Hp) : List RV → List V → Prop
  | [], vs => vs = []
  | rv :: l, vs => ∃ v w, vs = v :: w ∧ (match rv with
    | .val d => Rep e F d v
    | .bor i => σ[i]? = some (some v)
    | .own _ => False) ∧ ArgsR e σ F l w
abbrev KC (e : En) (σ : St) (Q : List V → Hp → Prop) : List RV → Rho → Hp → Hp → Prop := fun l _ H' F' => ∀ vs, ArgsR e σ F' l vs → Q vs H'
def TeC (e : En) (W : Wi) (t : TA) (m : Rho → Ou (List RV)) : Prop := ∀ r σ H F fm Q, W.c fm → Rl e r σ H F fm → Po e W fm F σ (KC e σ Q) (m r) → t σ H Q
structure SC (e : En) (X : Cx) (W : Wi) (es : List Expr) (m : Rho → Ou (List RV)) : Prop where
  ex : ∃ t, PA X es t ∧ TeC e W t m
  len : ∀ r l r', m r = .ok l r' → l.length = es.length
theorem bd_inv' {α β : Type} {o : Ou α} {f : α → Rho → Ou β} {b : β} {r : Rho} (h : o.bd f = .ok b r) : ∃ a r1, o = .ok a r1 ∧ f a r1 = .ok b r := by
  cases o with
  | ok a r1 => exact ⟨a, r1, rfl, h⟩
  | ex x r1 => cases h
  | no => cases h
def cN : Rho → Ou (List RV) := fun r => .ok [] r
def cV (m : ME) (n : Rho → Ou (List RV)) : Rho → Ou (List RV) := fun r => (fz m r).bd fun d r1 => (n r1).bd fun l r2 => .ok (.val d :: l) r2
def cB (m : ME) (n : Rho → Ou (List RV)) : Rho → Ou (List RV) := fun r => (stl m r).bd fun rv r1 => (n r1).bd fun l r2 => .ok (rv :: l) r2
section
variable {e : En} {X : Cx} {W : Wi} {a : Expr} {es : List Expr} {m : ME} {n : Rho → Ou (List RV)} {F F' H : Hp} {σ : St} {r : Rho} {fm : Fm}
theorem ArgsR.mono (s : Same F F') : ∀ {l : List RV} {vs : List V}, ArgsR e σ F l vs → ArgsR e σ F' l vs
  | [], _, h => h
  | rv :: l, _, ⟨v, w, h0, h1, h2⟩ => ⟨v, w, h0, by
      cases rv with
      | val d => exact Rep.mono s h1
      | bor i => exact h1
      | own d => exact h1, ArgsR.mono s h2⟩
theorem ArgsR.len : ∀ {l : List RV} {vs : List V}, ArgsR e σ F l vs → vs.length = l.length
  | [], _, h => by cases h; rfl
  | _ :: _, _, ⟨v, w, h0, _, h2⟩ => by subst h0; simp [ArgsR.len h2]
theorem ArgsR.get : ∀ {l : List RV} {vs : List V} {i : Nat} {rv : RV}, ArgsR e σ F l vs → l[i]? = some rv → ∃ v, vs[i]? = some v ∧ (match rv with
    | .val d => Rep e F d v
    | .bor i => σ[i]? = some (some v)
    | .own _ => False)
  | [], _, _, _, _, q => by simp at q
  | _ :: _, _, 0, _, ⟨v, w, h0, h1, _⟩, q => by subst h0; simp at q; subst q; exact ⟨v, rfl, h1⟩
  | _ :: _, _, i + 1, _, ⟨v, w, h0, _, h2⟩, q => by subst h0; simp at q; simpa using ArgsR.get h2 q
theorem sc_nil : SC e X W [] cN := ⟨⟨_, pa_nil, fun r σ H F fm Q hC R q => q H F R (Same.refl _) [] rfl⟩, fun r l r' h => by cases h; rfl⟩
theorem sc_val (h : SE e X W a m) (hr : SC e X W es n) (hs : starEach (a :: es) X.env = (false, eval a X.env) :: starEach es X.env := by rfl) : SC e X W (a :: es) (cV m n) := by
  obtain ⟨t, a1, a2⟩ := h.fz.ex
  obtain ⟨u, b1, b2⟩ := hr.ex
  refine ⟨⟨_, pa_cons a1 b1 hs, fun r σ H F fm Q hC R q => a2 r σ H F fm _ hC R ?_⟩, fun r l r' q => ?_⟩
  · refine (Po.bd q).mono fun d r1 H1 F1 R1 s1 q1 v hv => b2 r1 σ H1 F1 fm _ hC R1 ?_
    refine (Po.bd q1).mono fun l r2 H2 F2 R2 s2 q2 vs hvs => ?_
    exact q2 H2 F2 R2 (Same.refl _) (v :: vs) ⟨v, vs, rfl, hv.mono s2, hvs⟩
  · obtain ⟨d, r1, _, q1⟩ := bd_inv' q
    obtain ⟨l2, r2, e2, q2⟩ := bd_inv' q1
    cases q2
    rw [List.length_cons, List.length_cons, hr.len _ _ _ e2]
theorem sc_bor (h : SE e X W a m) (hr : SC e X W es n) (hs : starEach (a :: es) X.env = (false, eval a X.env) :: starEach es X.env := by rfl) : SC e X W (a :: es) (cB m n) := by
  obtain ⟨t, a1, a2⟩ := h.stl.ex
  obtain ⟨u, b1, b2⟩ := hr.ex
  refine ⟨⟨_, pa_cons a1 b1 hs, fun r σ H F fm Q hC R q => a2 r σ H F fm _ hC R ?_⟩, fun r l r' q => ?_⟩
  · have q' := Po.bd q
    cases z : stl m r with
    | no => rw [z] at q'; exact q'
    | ex x r1 => rw [z] at q'; exact q'
    | ok rv r1 =>
      rw [z] at q'
      intro H1 F1 R1 s1 v hv
      refine b2 r1 σ H1 F1 fm _ hC R1 ?_
      refine (Po.bd (q' H1 F1 R1 s1)).mono fun l r2 H2 F2 R2 s2 q2 vs hvs => ?_
      refine q2 H2 F2 R2 (Same.refl _) (v :: vs) ⟨v, vs, rfl, ?_, hvs⟩
      cases rv with
      | val d => exact Rep.mono s2 hv
      | bor i => exact hv
      | own d => exact stl_own z d rfl
  · obtain ⟨d, r1, _, q1⟩ := bd_inv' q
    obtain ⟨l2, r2, e2, q2⟩ := bd_inv' q1
    cases q2
    rw [List.length_cons, List.length_cons, hr.len _ _ _ e2]
end
def argL (r : Rho) : RV → LV
  | .val d => .val d
  | .bor i => (r[i]?).getD .un
  | .own _ => .un
def borI : List RV → List Nat
  | [] => []
  | .bor i :: l => i :: borI l
  | .val _ :: l => borI l
  | .own _ :: l => borI l
def wback : List RV → Rho → Rho → Rho
  | .bor i :: l, lv :: w, r => wback l w (r.set i lv)
  | .val _ :: l, _ :: w, r => wback l w r
  | .own _ :: l, _ :: w, r => wback l w r
  | _, _, r => r
def nodupB : List Nat → Bool
  | [] => true
  | a :: l => !(l.contains a) && nodupB l
def eCall (f : MS) (m : Rho → Ou (List RV)) : ME := fun r => (m r).bd fun l r1 => if nodupB (borI l) = true then match f (l.map (argL r1)) with
  | .rt a r2 => .ok (rvOf a) (wback l r2 r1)
  | .ex x r2 => .ex x (wback l r2 r1)
  | _ => .no else .no
theorem nodupB_ok : ∀ {l : List Nat}, nodupB l = true → l.Nodup
  | [], _ => List.nodup_nil
  | a :: l, h => by
    have h' : (!(l.contains a) && nodupB l) = true := h
    obtain ⟨h1, h2⟩ := Bool.and_eq_true_iff.mp h'
    refine List.nodup_cons.mpr ⟨fun m => ?_, nodupB_ok h2⟩
    rw [List.contains_iff_mem.mpr m] at h1
    cases h1
theorem borI_mem : ∀ {l : List RV} {i : Nat}, i ∈ borI l → ∃ j : Nat, l[j]? = some (.bor i)
  | [], i, h => by cases h
  | .bor k :: l, i, h => by
    rcases List.mem_cons.mp h with rfl | h
    · exact ⟨0, rfl⟩
    · obtain ⟨j, q⟩ := borI_mem h
      exact ⟨j + 1, by simpa using q⟩
  | .val _ :: l, i, h => by
    obtain ⟨j, q⟩ := borI_mem (l := l) h
    exact ⟨j + 1, by simpa using q⟩
  | .own _ :: l, i, h => by
    obtain ⟨j, q⟩ := borI_mem (l := l) h
    exact ⟨j + 1, by simpa using q⟩
theorem mem_borI : ∀ {l : List RV} {i j : Nat}, l[j]? = some (.bor i) → i ∈ borI l
  | [], _, _, h => by simp at h
  | .bor k :: l, i, 0, h => by simp at h; subst h; exact List.mem_cons_self
  | .val _ :: l, i, 0, h => by simp at h
  | .own _ :: l, i, 0, h => by simp at h
  | .bor k :: l, i, j + 1, h => List.mem_cons_of_mem _ (mem_borI (l := l) (j := j) (by simpa using h))
  | .val _ :: l, i, j + 1, h => mem_borI (l := l) (j := j) (by simpa using h)
  | .own _ :: l, i, j + 1, h => mem_borI (l := l) (j := j) (by simpa using h)
/-- one slot is given once -/
theorem bor_inj : ∀ {l : List RV} {i j k : Nat}, (borI l).Nodup → l[j]? = some (.bor i) → l[k]? = some (.bor i) → j = k
  | [], _, _, _, _, h, _ => by simp at h
  | rv :: l, i, 0, 0, _, _, _ => rfl
  | rv :: l, i, 0, k + 1, nd, h1, h2 => by
    simp at h1; subst h1
    exact absurd (mem_borI (l := l) (j := k) (by simpa using h2)) (List.nodup_cons.mp nd).1
  | rv :: l, i, j + 1, 0, nd, h1, h2 => by
    simp at h2; subst h2
    exact absurd (mem_borI (l := l) (j := j) (by simpa using h1)) (List.nodup_cons.mp nd).1
  | rv :: l, i, j + 1, k + 1, nd, h1, h2 => by
    have nd' : (borI l).Nodup := by
      cases rv with
      | bor _ => exact (List.nodup_cons.mp nd).2
      | val _ => exact nd
      | own _ => exact nd
    exact congrArg (· + 1) (bor_inj (l := l) (i := i) nd' (by simpa using h1) (by simpa using h2))
theorem wback_len : ∀ (l : List RV) (w r : Rho), (wback l w r).length = r.length
  | [], _, _ => by unfold wback; rfl
  | .bor i :: l, lv :: w, r => by
    exact (wback_len l w (r.set i lv)).trans List.length_set
  | .val _ :: l, _ :: w, r => wback_len l w r
  | .own _ :: l, _ :: w, r => wback_len l w r
  | .bor _ :: _, [], _ => by unfold wback; rfl
  | .val _ :: _, [], _ => by unfold wback; rfl
  | .own _ :: _, [], _ => by unfold wback; rfl
theorem wback_no : ∀ (l : List RV) (w r : Rho) (i : Nat), i ∉ borI l → (wback l w r)[i]? = r[i]?
  | [], _, _, _, _ => by unfold wback; rfl
  | .bor k :: l, lv :: w, r, i, h => by
    show (wback l w (r.set k lv))[i]? = _
    have h1 : i ≠ k := fun z => h (z ▸ List.mem_cons_self)
    rw [wback_no l w _ i (fun z => h (List.mem_cons_of_mem _ z)), set_get_ne h1]
  | .val _ :: l, _ :: w, r, i, h => wback_no l w r i h
  | .own _ :: l, _ :: w, r, i, h => wback_no l w r i h
  | .bor _ :: _, [], _, _, _ => by unfold wback; rfl
  | .val _ :: _, [], _, _, _ => by unfold wback; rfl
  | .own _ :: _, [], _, _, _ => by unfold wback; rfl
theorem wback_at : ∀ (l : List RV) (w r : Rho) (i j : Nat), (borI l).Nodup → l[j]? = some (.bor i) → i < r.length → j < w.length → (wback l w r)[i]? = w[j]?
  | [], _, _, _, _, _, h, _, _ => by simp at h
  | _ :: _, [], _, _, _, _, _, _, h => by simp at h
  | .bor k :: l, lv :: w, r, i, 0, nd, h, hi, _ => by
    simp at h; subst h
    show (wback l w (r.set k lv))[k]? = _
    rw [wback_no l w _ k (List.nodup_cons.mp nd).1, List.getElem?_set_self hi]
    rfl
  | .val _ :: _, _ :: _, _, _, 0, _, h, _, _ => by simp at h
  | .own _ :: _, _ :: _, _, _, 0, _, h, _, _ => by simp at h
  | .bor k :: l, lv :: w, r, i, j + 1, nd, h, hi, hj => by
    show (wback l w (r.set k lv))[i]? = _
    rw [wback_at l w _ i j (List.nodup_cons.mp nd).2 (by simpa using h) (by rw [List.length_set]; exact hi) (by simpa using hj)]
    simp
  | .val _ :: l, _ :: w, r, i, j + 1, nd, h, hi, hj => by
    show (wback l w r)[i]? = _
    rw [wback_at l w r i j nd (by simpa using h) hi (by simpa using hj)]
    simp
  | .own _ :: l, _ :: w, r, i, j + 1, nd, h, hi, hj => by
    show (wback l w r)[i]? = _
    rw [wback_at l w r i j nd (by simpa using h) hi (by simpa using hj)]
    simp
section
variable {e : En} {X : Cx} {W : Wi} {F F' H H' : Hp} {σ : St} {r : Rho} {fm : Fm} {l : List RV} {vs : List V}
open Classical in
/-- what the callee must leave: the frame's own containers that it does not get -/
noncomputable def outG (r : Rho) (σ : St) (H : Hp) (fm : Fm) (l : List RV) : Hp := fun a => if (∃ (i : Nat) (d : D), r[i]? = some (.own d) ∧ σ[i]? = some (some (.ref a)) ∧ i ∉ borI l) then H a else fm.G a
def outB (r : Rho) (σ : St) (fm : Fm) (l : List RV) : Addr → Prop := fun a => fm.B a ∨ ∃ (i : Nat) (d : D), r[i]? = some (.own d) ∧ σ[i]? = some (some (.ref a)) ∧ i ∉ borI l
theorem outG_own {i : Nat} {d : D} {a : Addr} (h1 : r[i]? = some (.own d)) (h2 : σ[i]? = some (some (.ref a))) (h3 : i ∉ borI l) : outG r σ H fm l a = H a := if_pos ⟨i, d, h1, h2, h3⟩
theorem outG_no {a : Addr} (h : ¬ ∃ (i : Nat) (d : D), r[i]? = some (.own d) ∧ σ[i]? = some (some (.ref a)) ∧ i ∉ borI l) : outG r σ H fm l a = fm.G a := if_neg h
theorem argL_own {r : Rho} {j : Nat} {d : D} (h : (l.map (argL r))[j]? = some (.own d)) : ∃ i : Nat, l[j]? = some (.bor i) ∧ r[i]? = some (.own d) := by
  rw [List.getElem?_map] at h
  cases z : l[j]? with
  | none => rw [z] at h; cases h
  | some rv =>
    rw [z] at h
    cases rv with
    | val d' => cases h
    | own d' => cases h
    | bor i =>
      have h' : (r[i]?).getD .un = .own d := Option.some.inj h
      cases y : r[i]? with
      | none => rw [y] at h'; cases h'
      | some lv =>
        rw [y] at h'
        exact ⟨i, rfl, by rw [y]; exact congrArg some h'⟩
theorem argL_val {r : Rho} {j : Nat} {d : D} (h : (l.map (argL r))[j]? = some (.val d)) : l[j]? = some (.val d) ∨ ∃ i : Nat, l[j]? = some (.bor i) ∧ r[i]? = some (.val d) := by
  rw [List.getElem?_map] at h
  cases z : l[j]? with
  | none => rw [z] at h; cases h
  | some rv =>
    rw [z] at h
    cases rv with
    | val d' => cases h; exact .inl rfl
    | own d' => cases h
    | bor i =>
      have h' : (r[i]?).getD .un = .val d := Option.some.inj h
      cases y : r[i]? with
      | none => rw [y] at h'; cases h'
      | some lv =>
        rw [y] at h'
        exact .inr ⟨i, rfl, by rw [y]; exact congrArg some h'⟩
theorem vsome {vs : List V} {j : Nat} {v : V} (h : vs[j]? = some v) : (vs.map some)[j]? = some (some v) := by rw [List.getElem?_map, h]; rfl
theorem call_in (R : Rl e r σ H F fm) (A : ArgsR e σ F l vs) (nd : (borI l).Nodup) : Rl e (l.map (argL r)) (vs.map some) H F ⟨outG r σ H fm l, outB r σ fm l, []⟩ where
  fh := R.fh
  gh := fun a u q => by
    by_cases z : ∃ (i : Nat) (d : D), r[i]? = some (.own d) ∧ σ[i]? = some (some (.ref a)) ∧ i ∉ borI l
    · obtain ⟨i, d, h1, h2, h3⟩ := z
      have q' : outG r σ H fm l a = some u := q
      rwa [outG_own h1 h2 h3] at q'
    · have q' : outG r σ H fm l a = some u := q
      rw [outG_no z] at q'
      exact R.gh a u q'
  bf := fun a b => by
    rcases b with b | ⟨i, d, h1, h2, _⟩
    · exact R.bf a b
    · obtain ⟨p, u, h3, _, _, n⟩ := R.ow i d h1
      rw [h2] at h3; cases h3
      exact n.1
  bh := fun a b => by
    rcases b with b | ⟨i, d, h1, h2, _⟩
    · exact R.bh a b
    · obtain ⟨p, u, h3, h4, _⟩ := R.ow i d h1
      rw [h2] at h3; cases h3
      rw [h4]; simp
  bt := fun a xs b => by
    rcases b with b | ⟨i, d, h1, h2, _⟩
    · exact R.bt a xs b
    · obtain ⟨p, u, h3, h4, h5, _⟩ := R.ow i d h1
      rw [h2] at h3; cases h3
      rw [h4]; intro z; cases z; exact h5.nt xs rfl
  ln := by rw [List.length_map, List.length_map]; exact A.len
  va := fun j d h => by
    rcases argL_val h with h | ⟨i, h, h'⟩
    · obtain ⟨v, h1, h2⟩ := A.get h
      exact ⟨v, vsome h1, h2⟩
    · obtain ⟨v, h1, h2⟩ := A.get h
      obtain ⟨v', h3, h4⟩ := R.va i d h'
      have h2' : σ[i]? = some (some v) := h2
      rw [h2'] at h3; cases h3
      exact ⟨v, vsome h1, h4⟩
  ow := fun j d h => by
    obtain ⟨i, h1, h2⟩ := argL_own h
    obtain ⟨v, h3, h4⟩ := A.get h1
    obtain ⟨p, u, h5, h6, h7, n⟩ := R.ow i d h2
    have h4' : σ[i]? = some (some v) := h4
    rw [h4'] at h5; cases h5
    have no : ¬ ∃ (i : Nat) (d : D), r[i]? = some (.own d) ∧ σ[i]? = some (some (.ref p)) ∧ i ∉ borI l := by
      rintro ⟨i', d', a1, a2, a3⟩
      have := R.ap i i' d d' p h2 a1 h4' a2
      subst this
      exact a3 (mem_borI h1)
    refine ⟨p, u, vsome h3, h6, h7, n.1, ?_, ?_⟩
    · show outG r σ H fm l p = none
      rw [outG_no no]; exact n.2.1
    · rintro (b | b)
      · exact n.2.2 b
      · exact no b
  ap := fun j k d d' p h1 h2 h3 h4 => by
    obtain ⟨i, a1, a2⟩ := argL_own h1
    obtain ⟨i', b1, b2⟩ := argL_own h2
    obtain ⟨v, a3, a4⟩ := A.get a1
    obtain ⟨v', b3, b4⟩ := A.get b1
    have a4' : σ[i]? = some (some v) := a4
    have b4' : σ[i']? = some (some v') := b4
    rw [vsome a3] at h3; cases h3
    rw [vsome b3] at h4; cases h4
    have := R.ap i i' d d' p a2 b2 a4' b4'
    subst this
    exact bor_inj nd a1 b1
  pn := fun q hq => by cases hq
theorem call_out {w : Rho} (R : Rl e r σ H F fm) (A : ArgsR e σ F l vs) (nd : (borI l).Nodup) (R' : Rl e w (vs.map some) H' F' ⟨outG r σ H fm l, outB r σ fm l, []⟩) (s : Same F F') : Rl e (wback l w r) σ H' F' fm := by
  have wl : w.length = l.length := by have := R'.ln; rw [List.length_map, A.len] at this; exact this.symm
  have slot : ∀ {i : Nat} {lv : LV}, (wback l w r)[i]? = some lv → (i ∉ borI l ∧ r[i]? = some lv) ∨ ∃ (j : Nat) (v : V), l[j]? = some (.bor i) ∧ w[j]? = some lv ∧ vs[j]? = some v ∧ σ[i]? = some (some v) := fun {i lv} h => by
    by_cases z : i ∈ borI l
    · obtain ⟨j, hj⟩ := borI_mem z
      have hi : i < r.length := by have := (List.getElem?_eq_some_iff.mp h).1; rwa [wback_len] at this
      have hjl : j < w.length := by rw [wl]; exact (List.getElem?_eq_some_iff.mp hj).1
      rw [wback_at l w r i j nd hj hi hjl] at h
      obtain ⟨v, h1, h2⟩ := A.get hj
      exact .inr ⟨j, v, hj, h, h1, h2⟩
    · rw [wback_no l w r i z] at h
      exact .inl ⟨z, h⟩
  -- an own container that was not given stands as before
  have kept : ∀ {i : Nat} {d : D}, i ∉ borI l → r[i]? = some (.own d) → ∃ (p : Addr) (u : HO), σ[i]? = some (some (.ref p)) ∧ H' p = some u ∧ OM e F' u d ∧ Fre fm F' p := fun {i d} z h => by
    obtain ⟨p, u, h1, h2, h3, n⟩ := R.ow i d h
    refine ⟨p, u, h1, R'.gh p u ?_, h3.mono s, R'.bf p (.inr ⟨i, d, h, h1, z⟩), n.2⟩
    show outG r σ H fm l p = some u
    rw [outG_own h h1 z]; exact h2
  have notB : ∀ {j : Nat} {d : D} {p : Addr}, w[j]? = some (.own d) → (vs.map some)[j]? = some (some (.ref p)) → Fre fm F' p ∧ ∃ u, H' p = some u ∧ OM e F' u d := fun {j d p} h1 h2 => by
    obtain ⟨p', u, h3, h4, h5, n⟩ := R'.ow j d h1
    rw [h2] at h3; cases h3
    refine ⟨⟨n.1, ?_, fun b => n.2.2 (.inl b)⟩, u, h4, h5⟩
    have no : ¬ ∃ (i : Nat) (d : D), r[i]? = some (.own d) ∧ σ[i]? = some (some (.ref p)) ∧ i ∉ borI l := fun b => n.2.2 (.inr b)
    have g : outG r σ H fm l p = none := n.2.1
    rwa [outG_no no] at g
  exact {
    fh := R'.fh
    gh := fun a u q => by
      by_cases z : ∃ (i : Nat) (d : D), r[i]? = some (.own d) ∧ σ[i]? = some (some (.ref a)) ∧ i ∉ borI l
      · obtain ⟨i, d, h1, h2, h3⟩ := z
        obtain ⟨p, u', h4, h5, _, n⟩ := R.ow i d h1
        rw [h2] at h4; cases h4
        rw [n.2.1] at q; cases q
      · exact R'.gh a u (by show outG r σ H fm l a = some u; rw [outG_no z]; exact q)
    bf := fun a b => R'.bf a (.inl b)
    bh := fun a b => R'.bh a (.inl b)
    bt := fun a xs b => R'.bt a xs (.inl b)
    ln := by rw [wback_len]; exact R.ln
    va := fun i d h => by
      rcases slot h with ⟨_, h⟩ | ⟨j, v, h1, h2, h3, h4⟩
      · obtain ⟨v, h1, h2⟩ := R.va i d h
        exact ⟨v, h1, h2.mono s⟩
      · obtain ⟨v', h5, h6⟩ := R'.va j d h2
        rw [vsome h3] at h5; cases h5
        exact ⟨v, h4, h6⟩
    ow := fun i d h => by
      rcases slot h with ⟨z, h⟩ | ⟨j, v, h1, h2, h3, h4⟩
      · exact kept z h
      · obtain ⟨p, u, h5, _⟩ := R'.ow j d h2
        rw [vsome h3] at h5; cases h5
        obtain ⟨n, u', a1, a2⟩ := notB h2 (vsome h3)
        exact ⟨p, u', h4, a1, a2, n⟩
    ap := fun i k d d' p h1 h2 h3 h4 => by
      rcases slot h1 with ⟨z, h⟩ | ⟨j, v, a1, a2, a3, a4⟩
      · rcases slot h2 with ⟨z', h'⟩ | ⟨j', v', b1, b2, b3, b4⟩
        · exact R.ap i k d d' p h h' h3 h4
        · rw [h4] at b4; cases b4
          obtain ⟨p', u, h5, _, _, n⟩ := R'.ow j' d' b2
          rw [vsome b3] at h5; cases h5
          exact (n.2.2 (.inr ⟨i, d, h, h3, z⟩)).elim
      · rw [h3] at a4; cases a4
        rcases slot h2 with ⟨z', h'⟩ | ⟨j', v', b1, b2, b3, b4⟩
        · obtain ⟨p', u, h5, _, _, n⟩ := R'.ow j d a2
          rw [vsome a3] at h5; cases h5
          exact (n.2.2 (.inr ⟨k, d', h', h4, z'⟩)).elim
        · rw [h4] at b4; cases b4
          have := R'.ap j j' d d' p a2 b2 (vsome a3) (vsome b3)
          subst this
          rw [a1] at b1
          cases b1
          rfl
    pn := R.pn }
theorem call_tmp {w : Rho} {p : Addr} {d : D} (R : Rl e r σ H F fm) (A : ArgsR e σ F l vs) (nd : (borI l).Nodup) (R' : Rl e w (vs.map some) H' F' ⟨outG r σ H fm l, outB r σ fm l, []⟩) (T : Tmp e w (vs.map some) H' F' ⟨outG r σ H fm l, outB r σ fm l, []⟩ p d) :
    Tmp e (wback l w r) σ H' F' fm p d := by
  obtain ⟨⟨u, h1, h2⟩, n, no⟩ := T
  have nx : ¬ ∃ (i : Nat) (d : D), r[i]? = some (.own d) ∧ σ[i]? = some (some (.ref p)) ∧ i ∉ borI l := fun b => n.2.2 (.inr b)
  have g : outG r σ H fm l p = none := n.2.1
  rw [outG_no nx] at g
  refine ⟨⟨u, h1, h2⟩, ⟨n.1, g, fun b => n.2.2 (.inl b)⟩, fun i d' h z => ?_⟩
  have wl : w.length = l.length := by have := R'.ln; rw [List.length_map, A.len] at this; exact this.symm
  by_cases y : i ∈ borI l
  · obtain ⟨j, hj⟩ := borI_mem y
    have hi : i < r.length := by have := (List.getElem?_eq_some_iff.mp h).1; rwa [wback_len] at this
    have hjl : j < w.length := by rw [wl]; exact (List.getElem?_eq_some_iff.mp hj).1
    rw [wback_at l w r i j nd hj hi hjl] at h
    obtain ⟨v, a1, a2⟩ := A.get hj
    have a2' : σ[i]? = some (some v) := a2
    rw [z] at a2'; cases a2'
    exact no j d' h (vsome a1)
  · rw [wback_no l w r i y] at h
    exact nx ⟨i, d', h, z, y⟩
def callO (l : List RV) (r : Rho) : So → Ou RV
  | .rt a r2 => .ok (rvOf a) (wback l r2 r)
  | .ex x r2 => .ex x (wback l r2 r)
  | _ => .no
theorem call_sp {n : Nat} {f : MS} {Q : VK} (R : Rl e r σ H F fm) (A : ArgsR e σ F l vs) (nd : (borI l).Nodup) (hn : vs.length = n) (q : Po e W fm F σ (KE' e fm σ Q) (callO l r (f (l.map (argL r))))) :
    spOf e n f vs H Q (fun cls d H' => W.w cls d σ H') := by
  refine ⟨hn, l.map (argL r), F, outG r σ H fm l, outB r σ fm l, call_in R A nd, ?_⟩
  cases z : f (l.map (argL r)) with
  | rt a w =>
    rw [z] at q
    intro v H' F' R' s hv
    refine q H' F' (call_out R A nd R' s) s v ?_
    cases a with
    | val d => exact hv
    | own d =>
      obtain ⟨p, rfl, T⟩ := hv
      exact ⟨p, rfl, call_tmp R A nd R' T⟩
  | ex x w =>
    rw [z] at q
    intro cls d H' F' R' s hx
    exact q cls d H' F' (call_out R A nd R' s) s hx
  | nx w => rw [z] at q; exact q
  | bk w => rw [z] at q; exact q
  | ct w => rw [z] at q; exact q
  | no => rw [z] at q; exact q
end
theorem eCall_eq (f : MS) (m : Rho → Ou (List RV)) (r : Rho) : eCall f m r = (m r).bd fun l r1 => if nodupB (borI l) = true then callO l r1 (f (l.map (argL r1))) else .no := by
  unfold eCall callO
  rfl
section
variable {e : En} {X : Cx} {W : Wi} {x : Str} {p pos : Pos} {a : Expr} {es : List Expr} {m : Rho → Ou (List RV)} {k n : Nat} {f : Addr} {fd : FuncData} {ps : List Str} {g : MS}
theorem tCall_te {t : TA} (h : TeC e W t m) (ha : ∀ r l r', m r = .ok l r' → l.length = n) : TeE e W (tCallS (spOf e n g) (WE W.w) t) (eCall g m) := fun r σ H F fm Q hC R q => by
  refine h r σ H F fm _ hC R ?_
  rw [eCall_eq] at q
  have q' := Po.bd q
  cases z : m r with
  | no => rw [z] at q'; exact q'
  | ex x r1 => rw [z] at q'; exact q'
  | ok l r1 =>
    rw [z] at q'
    intro H1 F1 R1 s1 vs A
    have q1 := q' H1 F1 R1 s1
    dsimp only at q1
    by_cases nd : nodupB (borI l) = true
    · rw [if_pos nd] at q1
      exact call_sp R1 A (nodupB_ok nd) (by rw [A.len]; exact ha r l r1 z) q1
    · rw [if_neg nd] at q1; exact q1.elim
end
end Mi

end
section
set_option maxRecDepth 100000
/-! Mi4: the operations on data: ints, comparisons, sequences, truth; tests; displays; what is walked. -/
theorem Mi.un_of {k : Nat} {A : PySem.Around} (r : L2.Room k A) : A.units + 100 < PySem.cLine := by have := r.un; omega
namespace Mi
open PySem L2

abbrev vI (i : Int) : Option R0 := some (.val (.int i))
abbrev vB (b : Bool) : Option R0 := some (.val (.bl b))
/-! ### ints -/
def addD : D → D → Option R0
  | .int a, .int b => vI (a + b)
  | .str a, .str b => if a.length + b.length ≤ 1000000 then some (.val (.str (a ++ b))) else none
  | .lst a, .lst b => if a.length + b.length ≤ 1000000 then some (.own (.lst (a ++ b))) else none
  | .tup a, .tup b => if a.length + b.length ≤ 1000000 ∧ a ≠ [] ∧ b ≠ [] then some (.own (.tup (a ++ b))) else none
  | _, _ => none
def subD : D → D → Option R0
  | .int a, .int b => vI (a - b)
  | _, _ => none
def mulD : D → D → Option R0
  | .int a, .int b => if a.natAbs.log2 + b.natAbs.log2 < 1000000 then vI (a * b) else none
  | _, _ => none
def fdivD : D → D → Option R0
  | .int a, .int b => if b ≠ 0 ∧ b.natAbs.log2 < 9000 then vI (a.fdiv b) else none
  | _, _ => none
def modD : D → D → Option R0
  | .int a, .int b => if b ≠ 0 then vI (a.fmod b) else none
  | _, _ => none
def powD : D → D → Option R0
  | .int a, .int b => if 0 ≤ b ∧ b ≤ 1000000 ∧ a.natAbs < 2 ^ 64 then vI (a ^ b.toNat) else none
  | _, _ => none
def negD : D → Option R0
  | .int a => vI (-a)
  | _ => none
def absD : D → Option R0
  | .int a => vI (if a < 0 then -a else a)
  | _ => none
def intD : D → Option R0
  | .int a => vI a
  | .bl b => vI (if b then 1 else 0)
  | _ => none
def ltD : D → D → Option R0
  | .int a, .int b => vB (decide (a < b))
  | .str a, .str b => vB (decide (a.cps.toList < b.cps.toList))
  | _, _ => none
def leD : D → D → Option R0
  | .int a, .int b => vB (decide (a ≤ b))
  | _, _ => none
def gtD : D → D → Option R0
  | .int a, .int b => vB (decide (b < a))
  | _, _ => none
def geD : D → D → Option R0
  | .int a, .int b => vB (decide (b ≤ a))
  | _, _ => none
/-- == of scalars -/
def eqS : D → D → Option Bool
  | .non, .non => some true
  | .bl a, .bl b => some (decide (a = b))
  | .int a, .int b => some (decide (a = b))
  | .str a, .str b => some (decide (a = b))
  | .non, .bl _ => some false
  | .non, .int _ => some false
  | .non, .str _ => some false
  | .bl _, .non => some false
  | .int _, .non => some false
  | .str _, .non => some false
  | .int _, .str _ => some false
  | .str _, .int _ => some false
  | .bl _, .str _ => some false
  | .str _, .bl _ => some false
  | _, _ => none
def eqD (a b : D) : Option R0 := (eqS a b).map fun k => .val (.bl k)
def neD (a b : D) : Option R0 := (eqS a b).map fun k => .val (.bl (!k))
def isN (a b : D) : Option R0 := match b with
  | .non => vB (match a with
    | .non => true
    | _ => false)
  | _ => none
def isNN (a b : D) : Option R0 := match b with
  | .non => vB (match a with
    | .non => false
    | _ => true)
  | _ => none
section
variable {e : En} {X : Cx}
theorem p2_i {f : D → D → Option R0} {r : R2} (h : ∀ d1 d2, f d1 d2 ≠ none → ∃ a b, d1 = .int a ∧ d2 = .int b) (g : ∀ a b H F Q, PQ e H F (f (.int a) (.int b)) Q → r (.int a) (.int b) H Q) : P2 e f r := fun d1 d2 v1 v2 H F Q h1 h2 q => by
  have n : f d1 d2 ≠ none := fun z => by rw [z] at q; exact q
  obtain ⟨a, b, rfl, rfl⟩ := h d1 d2 n
  cases h1; cases h2
  exact g a b H F Q q
theorem p2_sub : P2 e subD (rI0 fun i j => .int (i - j)) := p2_i (fun d1 d2 n => by cases d1 <;> cases d2 <;> first | exact ⟨_, _, rfl, rfl⟩ | exact (n rfl).elim) fun a b H F Q q => ⟨a, b, rfl, rfl, q _ rfl⟩
theorem p2_lt : P2 e ltD (fun x y H Q => rI0 (fun i j => .bl (decide (i < j))) x y H Q ∨ ∃ i j, x = .str i ∧ y = .str j ∧ Q (.bl (decide (i.cps.toList < j.cps.toList))) H) := fun d1 d2 v1 v2 H F Q h1 h2 q => by
  cases d1 <;> cases d2 <;> first
    | exact q.elim
    | (cases h1; cases h2; exact .inl ⟨_, _, rfl, rfl, q _ rfl⟩)
    | (cases h1; cases h2; exact .inr ⟨_, _, rfl, rfl, q _ rfl⟩)
theorem op_ltU : OpR X (compareOp .Lt) (fun x y H Q => rI0 (fun i j => .bl (decide (i < j))) x y H Q ∨ ∃ i j, x = .str i ∧ y = .str j ∧ Q (.bl (decide (i.cps.toList < j.cps.toList))) H) := op_lt.or op_lt_str
theorem p2_le : P2 e leD (rI0 fun i j => .bl (decide (i ≤ j))) := p2_i (fun d1 d2 n => by cases d1 <;> cases d2 <;> first | exact ⟨_, _, rfl, rfl⟩ | exact (n rfl).elim) fun a b H F Q q => ⟨a, b, rfl, rfl, q _ rfl⟩
theorem p2_gt : P2 e gtD (rI0 fun i j => .bl (decide (j < i))) := p2_i (fun d1 d2 n => by cases d1 <;> cases d2 <;> first | exact ⟨_, _, rfl, rfl⟩ | exact (n rfl).elim) fun a b H F Q q => ⟨a, b, rfl, rfl, q _ rfl⟩
theorem p2_ge : P2 e geD (rI0 fun i j => .bl (decide (j ≤ i))) := p2_i (fun d1 d2 n => by cases d1 <;> cases d2 <;> first | exact ⟨_, _, rfl, rfl⟩ | exact (n rfl).elim) fun a b H F Q q => ⟨a, b, rfl, rfl, q _ rfl⟩
theorem big_le {n : Nat} (h : n ≤ 1000000) : n ≤ sizeLine := Nat.le_trans h (by decide)
/-- list + list, both read -/
def rCatL (K : PySem.W.Frag) : R2 := fun x y H Q => ∃ l b xs zs, x = .ref l ∧ y = .ref b ∧ SqL K H l xs ∧ SqL K H b zs ∧ xs.length + zs.length ≤ sizeLine ∧ ∀ p, H p = none → Q (.ref p) (upd H p (.lst (xs ++ zs)))
theorem op_catL : OpR X (binaryOp .Add) (rCatL X.K) := by
  intro pins s σ H x y v u Q I rx ry h
  obtain ⟨l, b, xs, zs, rfl, rfl, hH, hB, hz, q⟩ := h
  cases rx
  cases ry
  obtain ⟨its, r, ⟨⟨c1, d1, t1, s1⟩, n, e, hc, hd, hs⟩, _⟩ := I.list hH
  obtain ⟨its2, r2, ⟨⟨c2, d2, t2, s2⟩, n2, e2, hc2, hd2, hs2⟩, _⟩ := I.list hB
  simp only at hc hd hs hc2 hd2 hs2
  subst hc hd hs hc2 hd2 hs2
  have l1 := r.length
  have l2 := r2.length
  have ea : its.toArray ++ its2.toArray = (its ++ its2).toArray := by simp
  refine PySem.concat_meets ⟨_, e, rfl⟩ ⟨_, e2, rfl⟩ PySem.noFill_list_add PySem.seq_list_add PySem.F.slot_list_add PySem.F.entry_list_add (PySem.F.args_list_add_2 _ _)
    (PyProof.Rows.list_addW l b its.toArray its2.toArray n n2 none none s1 s2 (by simp; try omega)) ⟨e, e2, ?_⟩
  rw [ea]
  exact ⟨.ref _, _, I.lnew (t' := s.toks) (r.append r2) (by rw [List.length_append]; omega), rfl, q _ I.fresh⟩
abbrev rAddU (K : PySem.W.Frag) : R2 := fun x y H Q => ((rI0 (fun i j => .int (i + j)) x y H Q ∨ ∃ i j, x = .str i ∧ y = .str j ∧ i.length + j.length ≤ sizeLine ∧ Q (.str (i ++ j)) H) ∨ rCatL K x y H Q) ∨ rCatT K x y H Q
theorem op_addU : OpR X (binaryOp .Add) (rAddU X.K) := ((op_add.or op_add_str).or op_catL).or op_catT
theorem p2_add : P2 e addD (rAddU e.K) := fun d1 d2 v1 v2 H F Q h1 h2 q => by
  cases d1 <;> cases d2 <;> first
    | exact q.elim
    | (cases h1; cases h2; exact .inl (.inl (.inl ⟨_, _, rfl, rfl, q _ rfl⟩)))
    | skip
  · rename_i a b
    cases h1; cases h2
    by_cases z : a.length + b.length ≤ 1000000
    · have q' : PQ e H F (if a.length + b.length ≤ 1000000 then some (.val (.str (a ++ b))) else none) Q := q
      rw [if_pos z] at q'
      exact .inl (.inl (.inr ⟨a, b, rfl, rfl, big_le z, q' _ rfl⟩))
    · have q' : PQ e H F (if a.length + b.length ≤ 1000000 then some (.val (.str (a ++ b))) else none) Q := q
      rw [if_neg z] at q'
      exact q'.elim
  · rename_i a b
    obtain ⟨p1, xs, rfl, s1, r1⟩ := h1
    obtain ⟨p2, ys, rfl, s2, r2⟩ := h2
    have q' : PQ e H F (if a.length + b.length ≤ 1000000 ∧ a ≠ [] ∧ b ≠ [] then some (.own (.tup (a ++ b))) else none) Q := q
    by_cases z : a.length + b.length ≤ 1000000 ∧ a ≠ [] ∧ b ≠ []
    · rw [if_pos z] at q'
      have l1 := r1.len
      have l2 := r2.len
      have n1 : xs ≠ [] := fun h => z.2.1 (by subst h; exact List.eq_nil_of_length_eq_zero l1.symm)
      have n2 : ys ≠ [] := fun h => z.2.2 (by subst h; exact List.eq_nil_of_length_eq_zero l2.symm)
      exact .inr ⟨p1, p2, xs, ys, rfl, rfl, tupT s1, tupT s2, n1, by rw [l1, l2]; exact big_le z.1, fun h => (n2 h).elim, fun _ p hp => q' p (.tup (xs ++ ys)) hp (RepL.app r1 r2)⟩
    · rw [if_neg z] at q'
      exact q'.elim
  · rename_i a b
    obtain ⟨p1, xs, rfl, s1, r1⟩ := h1
    obtain ⟨p2, ys, rfl, s2, r2⟩ := h2
    have q' : PQ e H F (if a.length + b.length ≤ 1000000 then some (.own (.lst (a ++ b))) else none) Q := q
    by_cases z : a.length + b.length ≤ 1000000
    · rw [if_pos z] at q'
      exact .inl (.inr ⟨p1, p2, xs, ys, rfl, rfl, sqL_of s1, sqL_of s2, by rw [r1.len, r2.len]; exact big_le z, fun p hp => q' p (.lst (xs ++ ys)) hp (RepL.app r1 r2)⟩)
    · rw [if_neg z] at q'
      exact q'.elim
theorem p2_mul : P2 e mulD (rI CMulW fun i j => .int (i * j)) := p2_i (fun d1 d2 n => by cases d1 <;> cases d2 <;> first | exact ⟨_, _, rfl, rfl⟩ | exact (n rfl).elim) fun a b H F Q q => by
  have q' : PQ e H F (if a.natAbs.log2 + b.natAbs.log2 < 1000000 then vI (a * b) else none) Q := q
  by_cases z : a.natAbs.log2 + b.natAbs.log2 < 1000000
  · rw [if_pos z] at q'; exact ⟨a, b, rfl, rfl, z, q' _ rfl⟩
  · rw [if_neg z] at q'; exact q'.elim
def CDivA (i j : Int) : Prop := j ≠ 0 ∧ j.natAbs.log2 < 9000
theorem op_fdivA : OpR X (binaryOp .FloorDiv) (rI CDivA fun i j => .int (i.fdiv j)) := opI fun _ _ _ _ _ _ _ hc q => PyProof.Rows.floordiv_int hc.1 q (.inl (PyProof.noPylong_of_log2 hc.2))
theorem p2_fdiv : P2 e fdivD (rI CDivA fun i j => .int (i.fdiv j)) := p2_i (fun d1 d2 n => by cases d1 <;> cases d2 <;> first | exact ⟨_, _, rfl, rfl⟩ | exact (n rfl).elim) fun a b H F Q q => by
  have q' : PQ e H F (if b ≠ 0 ∧ b.natAbs.log2 < 9000 then vI (a.fdiv b) else none) Q := q
  by_cases z : b ≠ 0 ∧ b.natAbs.log2 < 9000
  · rw [if_pos z] at q'; exact ⟨a, b, rfl, rfl, z, q' _ rfl⟩
  · rw [if_neg z] at q'; exact q'.elim
theorem p2_mod : P2 e modD (rI (fun _ j => j ≠ 0) fun i j => .int (i.fmod j)) := p2_i (fun d1 d2 n => by cases d1 <;> cases d2 <;> first | exact ⟨_, _, rfl, rfl⟩ | exact (n rfl).elim) fun a b H F Q q => by
  have q' : PQ e H F (if b ≠ 0 then vI (a.fmod b) else none) Q := q
  by_cases z : b ≠ 0
  · rw [if_pos z] at q'; exact ⟨a, b, rfl, rfl, z, q' _ rfl⟩
  · rw [if_neg z] at q'; exact q'.elim
theorem p2_pow : P2 e powD (rI CPow fun i j => .int (i ^ j.toNat)) := p2_i (fun d1 d2 n => by cases d1 <;> cases d2 <;> first | exact ⟨_, _, rfl, rfl⟩ | exact (n rfl).elim) fun a b H F Q q => by
  have q' : PQ e H F (if 0 ≤ b ∧ b ≤ 1000000 ∧ a.natAbs < 2 ^ 64 then vI (a ^ b.toNat) else none) Q := q
  by_cases z : 0 ≤ b ∧ b ≤ 1000000 ∧ a.natAbs < 2 ^ 64
  · rw [if_pos z] at q'; exact ⟨a, b, rfl, rfl, z, q' _ rfl⟩
  · rw [if_neg z] at q'; exact q'.elim
theorem p1_neg : P1 e negD (rU fun i => .int (-i)) := fun d v H F Q h q => by
  cases d <;> first | exact q.elim | (cases h; exact ⟨_, rfl, q _ rfl⟩)
theorem p1_abs : P1L e absD (fun xs H Q => ∃ i, xs = [.int i] ∧ Q (.int (if i < 0 then -i else i)) H) := fun d v H F Q h q => by
  cases d <;> first | exact q.elim | (cases h; exact ⟨_, rfl, q _ rfl⟩)
theorem p1_int : P1L e intD (fun xs H Q => (∃ i, xs = [.int i] ∧ Q (.int i) H) ∨ ∃ k, xs = [.bl k] ∧ Q (.int (if k then 1 else 0)) H) := fun d v H F Q h q => by
  cases d <;> first | exact q.elim | (cases h; exact .inl ⟨_, rfl, q _ rfl⟩) | (cases h; exact .inr ⟨_, rfl, q _ rfl⟩)
theorem p2_eq : P2 e eqD rEq := fun d1 d2 v1 v2 H F Q h1 h2 q => by
  cases d1 <;> cases d2 <;> first
    | exact q.elim
    | (cases h1; cases h2; refine ⟨rfl, ?_⟩; have q' := q _ rfl; simp at q' ⊢; exact q')
theorem p2_ne : P2 e neD rNe := fun d1 d2 v1 v2 H F Q h1 h2 q => by
  cases d1 <;> cases d2 <;> first
    | exact q.elim
    | (cases h1; cases h2; refine ⟨rfl, ?_⟩; have q' := q _ rfl; simp at q' ⊢; exact q')
theorem p2_isN : P2 e isN (fun x y H Q => y = .non ∧ Q (.bl (decide (x = .non))) H) := fun d1 d2 v1 v2 H F Q h1 h2 q => by
  cases d2 <;> first | exact q.elim | skip
  cases h2
  have ref : ∀ {a : Addr}, Q (.bl false) H → Q (.bl (decide (V.ref a = .non))) H := fun {a} z => by simpa using z
  cases d1 <;> first
    | (cases h1; have q' := q _ rfl; exact ⟨rfl, by simpa using q'⟩)
    | (obtain ⟨a, vs, rfl, _⟩ := h1; exact ⟨rfl, ref (q _ rfl)⟩)
    | (obtain ⟨a, dx, vs, rfl, _⟩ := h1; exact ⟨rfl, ref (q _ rfl)⟩)
theorem p2_isNN : P2 e isNN (fun x y H Q => y = .non ∧ Q (.bl (!decide (x = .non))) H) := fun d1 d2 v1 v2 H F Q h1 h2 q => by
  cases d2 <;> first | exact q.elim | skip
  cases h2
  have ref : ∀ {a : Addr}, Q (.bl true) H → Q (.bl (!decide (V.ref a = .non))) H := fun {a} z => by simpa using z
  cases d1 <;> first
    | (cases h1; have q' := q _ rfl; exact ⟨rfl, by simpa using q'⟩)
    | (obtain ⟨a, vs, rfl, _⟩ := h1; exact ⟨rfl, ref (q _ rfl)⟩)
    | (obtain ⟨a, dx, vs, rfl, _⟩ := h1; exact ⟨rfl, ref (q _ rfl)⟩)
end

/-! ### dicts, by keys -/
def keyD : D → Option Key
  | .int i => some (.inl i)
  | .str x => some (.inr x)
  | _ => none
def vl {κ : Type} [DecidableEq κ] : List κ → List D → κ → Option D
  | k' :: ks, d :: l, k => if k' = k then some d else vl ks l k
  | _, _, _ => none
theorem vl_rep {κ : Type} [DecidableEq κ] {e : En} {F : Hp} : ∀ {ks : List κ} {l : List D} {vs : List V} (k : κ), RepL e F l vs → ks.length = vs.length → match vl ks l k with
    | some d => ∃ v, valV (ks.zip vs) k = some v ∧ Rep e F d v
    | none => valV (ks.zip vs) k = none
  | [], l, vs, k, h, hl => by
    have : vl ([] : List κ) l k = none := by unfold vl; rfl
    rw [this]; rfl
  | k' :: ks, [], vs, k, h, hl => by cases h; cases hl
  | k' :: ks, d :: l, vs, k, ⟨v, r, e1, h1, h2⟩, hl => by
    subst e1
    show match (if k' = k then some d else vl ks l k) with | some d => _ | none => _
    by_cases z : k' = k
    · rw [if_pos z]; exact ⟨v, valV_pos (p := (k', v)) z, h1⟩
    · rw [if_neg z]
      have ih := vl_rep (ks := ks) k h2 (by simpa using hl)
      rw [show valV ((k' :: ks).zip (v :: r)) k = valV (ks.zip r) k from valV_neg (p := (k', v)) z]
      exact ih
theorem keyD_v {e : En} {H F : Hp} {d : D} {k : Key} {y : V} (h : keyD d = some k) (w : Vw e H F d y) : y = kV k := by
  cases d <;> cases h <;> exact w
/-- a tuple of ints and texts is a key -/
def keyL : List D → Option (List Key)
  | [] => some []
  | d :: l => match keyD d, keyL l with
    | some k, some ks => some (k :: ks)
    | _, _ => none
def keyT (d : D) : Option (List Key) := match d with
  | .tup l => keyL l
  | _ => none
theorem keyL_v {e : En} {F : Hp} : ∀ {l : List D} {ks : List Key} {vs : List V}, keyL l = some ks → RepL e F l vs → vs = ks.map kV
  | [], _, _, h, r => by cases h; cases r; rfl
  | d :: l, ks, _, h, ⟨v, r, e0, h1, h2⟩ => by
    subst e0
    unfold keyL at h
    cases y : keyD d with
    | none => rw [y] at h; cases h
    | some k =>
      rw [y] at h
      cases z : keyL l with
      | none => rw [z] at h; cases h
      | some ks' =>
        rw [z] at h
        cases h
        have e1 : v = kV k := by cases d <;> cases y <;> exact h1
        rw [e1, keyL_v z h2]
        rfl
theorem keyT_v {e : En} {H F : Hp} {d : D} {k : List Key} {y : V} (h : keyT d = some k) (w : Vw e H F d y) : ∃ b, y = .ref b ∧ H b = some (.tup (k.map kV)) := by
  cases d <;> first | (cases h; done) | skip
  obtain ⟨b, vs, rfl, h1, h2⟩ := w
  have := keyL_v h h2
  subst this
  exact ⟨b, rfl, h1⟩
theorem Lk.rd {H : Hp} {a : Addr} {u : HO} (h : Lk H a u) : Rd H a u := by
  rcases h with h | ⟨_, h⟩
  · exact .inl h
  · exact .inr h
/-! ### sequences -/
def lenD : D → Option R0
  | .dK ks _ => vI ks.length
  | .lst l => vI l.length
  | .tup l => vI l.length
  | .str x => if x.length ≤ 1000000 then vI x.length else none
  | _ => none
def ixD0 : D → D → Option R0
  | .lst l, .int i => (atI l i).map .val
  | .tup l, .int i => (atI l i).map .val
  | .str x, .int i => if x.length ≤ 1000000 then (atI x.cps.toList i).map fun c => .val (.str ⟨#[c]⟩) else none
  | _, _ => none
def ixD (a b : D) : Option R0 := match a with
  | .dK ks l => match keyD b with
    | some k => (vl ks l k).map .val
    | none => none
  | .dT ks l => match keyT b with
    | some k => (vl ks l k).map .val
    | none => none
  | a => ixD0 a b
def listD : D → Option R0
  | .lst l => some (.own (.lst l))
  | .tup l => some (.own (.lst l))
  | .scr l => some (.own (.lst l))
  | _ => none
section
variable {e : En} {X : Cx}
theorem atI_rep {F : Hp} {l : List D} {vs : List V} {i : Int} {d : D} (h : RepL e F l vs) (q : atI l i = some d) : ∃ v, atI vs i = some v ∧ Rep e F d v := by
  unfold atI at q ⊢
  rw [h.len]
  cases z : ixN l.length i with
  | none => rw [z] at q; cases q
  | some j =>
    rw [z] at q
    obtain ⟨v, h1, h2⟩ := h.get (i := j) q
    exact ⟨v, h1, h2⟩
abbrev rLen (K : PySem.W.Frag) : List V → Hp → VK → Prop := fun xs H Q => ((∃ p ys, xs = [.ref p] ∧ (SqL K H p ys ∨ SqT K H p ys) ∧ Q (.int ys.length) H) ∨ ∃ z, xs = [.str z] ∧ z.length ≤ sizeLine ∧ Q (.int z.length) H) ∨ ∃ (a : Addr) (kvs : List (Key × V)), xs = [.ref a] ∧ Rd H a (.dK kvs) ∧ Q (.int kvs.length) H
theorem call_lenD : CallR X (.builtin "len") (fun xs H Q => ∃ (a : Addr) (kvs : List (Key × V)), xs = [.ref a] ∧ Rd H a (.dK kvs) ∧ Q (.int kvs.length) H) := by
  intro pins s σ H xs us Q I r h
  obtain ⟨a, kvs, rfl, hd, q⟩ := h
  obtain ⟨u, rfl, rx⟩ := vals1 r
  cases rx
  exact d_len I hd fun t s' I' => ⟨.int kvs.length, H, I', ⟨_, rfl⟩, q⟩
theorem call_lenU : CallR X (.builtin "len") (rLen X.K) := (call_len_seq.or call_len_str).or call_lenD
theorem p1_len : P1L e lenD (rLen e.K) := fun d v H F Q h q => by
  cases d <;> first | exact q.elim | skip
  · cases h
    rename_i x
    have q' : PQ e H F (if x.length ≤ 1000000 then vI x.length else none) Q := q
    by_cases z : x.length ≤ 1000000
    · rw [if_pos z] at q'; exact .inl (.inr ⟨x, rfl, big_le z, q' _ rfl⟩)
    · rw [if_neg z] at q'; exact q'.elim
  · obtain ⟨a, vs, rfl, h1, h2⟩ := h
    exact .inl (.inl ⟨a, vs, rfl, .inr (tupT h1), by rw [h2.len]; exact q _ rfl⟩)
  · obtain ⟨a, vs, rfl, h1, h2⟩ := h
    exact .inl (.inl ⟨a, vs, rfl, .inl (sqL_of h1), by rw [h2.len]; exact q _ rfl⟩)
  · obtain ⟨a, vs, rfl, h1, h2, h3⟩ := h
    refine .inr ⟨a, _, rfl, h1.rd, ?_⟩
    rw [List.length_zip, ← h2, Nat.min_self]
    exact q _ rfl
theorem p2_ix0 : P2 e ixD0 (rIx e.K) := fun d1 d2 v1 v2 H F Q h1 h2 q => by
  cases d1 <;> cases d2 <;> first | exact q.elim | skip
  · cases h1; cases h2
    rename_i x i
    have q' : PQ e H F (if x.length ≤ 1000000 then (atI x.cps.toList i).map fun c => .val (.str ⟨#[c]⟩) else none) Q := q
    by_cases z : x.length ≤ 1000000
    · rw [if_pos z] at q'
      cases y : atI x.cps.toList i with
      | none => rw [y] at q'; exact q'.elim
      | some c => rw [y] at q'; exact .inr (.inr ⟨x, i, c, rfl, rfl, big_le z, y, q' _ rfl⟩)
    · rw [if_neg z] at q'; exact q'.elim
  · obtain ⟨a, vs, rfl, h3, h4⟩ := h1
    cases h2
    rename_i l i
    have q' : PQ e H F ((atI l i).map .val) Q := q
    cases y : atI l i with
    | none => rw [y] at q'; exact q'.elim
    | some d =>
      rw [y] at q'
      obtain ⟨v, h5, h6⟩ := atI_rep h4 y
      exact .inr (.inl ⟨a, vs, i, v, rfl, rfl, tupT h3, h5, q' v h6⟩)
  · obtain ⟨a, vs, rfl, h3, h4⟩ := h1
    cases h2
    rename_i l i
    have q' : PQ e H F ((atI l i).map .val) Q := q
    cases y : atI l i with
    | none => rw [y] at q'; exact q'.elim
    | some d =>
      rw [y] at q'
      obtain ⟨v, h5, h6⟩ := atI_rep h4 y
      exact .inl ⟨a, vs, i, v, rfl, rfl, sqL_of h3, h5, q' v h6⟩
/-- d[y] -/
def rDGet : R2 := fun x y H Q => ∃ a v, x = .ref a ∧ DGet H a y (some v) ∧ Q v H
open PySem.Spec PyProof.Rows in
theorem ix_dict (hu : X.A.units + 100 < cLine) : IxR X rDGet := by
  intro value slice pins s σ H x y v u Q I rx ry h hs
  obtain ⟨a, w, rfl, g, q⟩ := h
  cases rx
  have hT := dict_typeIs I g
  unfold subscriptTail
  refine wpAny_bind ?_
  rw [getitemInPython_of_ne hT.not_modules]
  refine wpAny_bind (wpAny_specialOf hT PySem.F.slot_dict_getitem.lookup ?_)
  have fin : wpAny (model X.prog X.w) X.A (subscripted slice false (.ref a) u) (fun r s₃ => wpAny (model X.prog X.w) X.A (letTemporaryGo value (.ref a) r >>= fun _ => pure r) (EP X pins σ Q) X.xe s₃) X.xe s := by
    rw [hs]
    exact wpAny_operating (d_getItem (by omega) I g ry fun w' s3 I3 rw' => wpAny_bind (wpAny_letTemporaryGo (wpAny_pure ⟨w, H, I3, rw', q⟩)))
  first
    | exact wpAny_pure (wpAny_bind fin)
    | exact wpAny_bind (wpAny_pure (wpAny_bind fin))
    | exact wpAny_bind fin
abbrev rIxA (K : PySem.W.Frag) : R2 := fun x y H Q => rIx K x y H Q ∨ rDGet x y H Q
theorem ix_any (hu : X.A.units + 100 < cLine) : IxR X (rIxA X.K) := ix_seq.or (ix_dict hu)
theorem p2_ix : P2 e ixD (rIxA e.K) := fun d1 d2 v1 v2 H F Q h1 h2 q => by
  by_cases z : ∃ ks l, d1 = .dK ks l
  · obtain ⟨ks, l, rfl⟩ := z
    obtain ⟨a, vs, rfl, h3, h4, h5⟩ := h1
    have q' : PQ e H F (match keyD d2 with
      | some k => (vl ks l k).map .val
      | none => none) Q := q
    cases y : keyD d2 with
    | none => rw [y] at q'; exact q'.elim
    | some k =>
      rw [y] at q'
      have hv := vl_rep k h5 h4
      have q2 : PQ e H F ((vl ks l k).map .val) Q := q'
      cases w : vl ks l k with
      | none => rw [w] at q2; exact q2.elim
      | some d =>
        rw [w] at q2 hv
        obtain ⟨v, e1, e2⟩ := hv
        exact .inr ⟨a, v, rfl, .inl ⟨_, k, h3.rd, keyD_v y h2, e1.symm⟩, q2 v e2⟩
  · by_cases z2 : ∃ ks l, d1 = .dT ks l
    · obtain ⟨ks, l, rfl⟩ := z2
      obtain ⟨a, vs, rfl, h3, h4, h5⟩ := h1
      have q' : PQ e H F (match keyT d2 with
        | some k => (vl ks l k).map .val
        | none => none) Q := q
      cases y : keyT d2 with
      | none => rw [y] at q'; exact q'.elim
      | some k =>
        rw [y] at q'
        have hv := vl_rep k h5 h4
        have q2 : PQ e H F ((vl ks l k).map .val) Q := q'
        cases w : vl ks l k with
        | none => rw [w] at q2; exact q2.elim
        | some d =>
          rw [w] at q2 hv
          obtain ⟨v, e1, e2⟩ := hv
          obtain ⟨b, rfl, hb⟩ := keyT_v y h2
          exact .inr ⟨a, v, rfl, .inr ⟨_, k, b, h3.rd, rfl, hb, e1.symm⟩, q2 v e2⟩
    have e1 : ixD d1 d2 = ixD0 d1 d2 := by
      cases d1 <;> first | rfl | exact (z ⟨_, _, rfl⟩).elim | exact (z2 ⟨_, _, rfl⟩).elim
    rw [e1] at q
    exact .inl (p2_ix0 d1 d2 v1 v2 H F Q h1 h2 q)
theorem p1_list : P1L e listD (fun xs H Q => ∃ p ys, xs = [.ref p] ∧ (SqL e.K H p ys ∨ SqT e.K H p ys) ∧ ∀ l, H l = none → Q (.ref l) (upd H l (.lst ys))) := fun d v H F Q h q => by
  cases d <;> first | exact q.elim | skip
  · obtain ⟨a, vs, rfl, h1, h2⟩ := h
    exact ⟨a, vs, rfl, .inr (tupT h1), fun l hl => q l _ hl h2⟩
  · obtain ⟨a, vs, rfl, h1, h2⟩ := h
    exact ⟨a, vs, rfl, .inl (sqL_of h1), fun l hl => q l _ hl h2⟩
  · obtain ⟨a, vs, rfl, h1, h2⟩ := h
    exact ⟨a, vs, rfl, .inl h1, fun l hl => q l _ hl h2⟩
end

/-! ### tests -/
def tAndM (m n : MT) : MT := fun r => (m r).bd fun b r1 => if b = true then n r1 else .ok false r1
def tOrM (m n : MT) : MT := fun r => (m r).bd fun b r1 => if b = true then .ok true r1 else n r1
def tNotM (m : MT) : MT := fun r => (m r).bd fun b r1 => .ok (!b) r1
/-- truth of any value -/
def truD : D → Option Bool
  | .non => some false
  | .bl b => some b
  | .int i => some (i != 0)
  | .str x => if x.length ≤ 1000000 then some ((x.length : Int) != 0) else none
  | .lst l => some !l.isEmpty
  | .tup l => some !l.isEmpty
  | _ => none
def tTru (m : ME) : MT := fun r => (stl m r).bd fun rv r1 => match look rv r1 with
  | some d => match truD d with
    | some b => .ok b r1
    | none => .no
  | none => .no
/-- and, or of truths as values -/
def eAnd (m n : ME) : ME := fun r => (m r).bd fun rv r1 => match rv with
  | .val (.bl b) => if b = true then n r1 else .ok (.val (.bl false)) r1
  | _ => .no
def eOr (m n : ME) : ME := fun r => (m r).bd fun rv r1 => match rv with
  | .val (.bl b) => if b = true then .ok (.val (.bl true)) r1 else n r1
  | _ => .no
def eNot (m : ME) : ME := fun r => (m r).bd fun rv r1 => match rv with
  | .val (.bl b) => .ok (.val (.bl !b)) r1
  | _ => .no
def eIf (c : MT) (m n : ME) : ME := fun r => (c r).bd fun b r1 => if b = true then m r1 else n r1
structure SW (e : En) (X : Cx) (W : Wi) (a : Expr) (m : MT) : Prop where
  ex : ∃ t, PW X a t ∧ TeT e W t m
section
variable {e : En} {X : Cx} {W : Wi} {a b c : Expr} {rest : List Expr} {m n : ME} {u v : MT} {pos : Pos}
theorem SW.st (h : SW e X W a u) : ST e X W a u := by
  obtain ⟨t, h1, h2⟩ := h.ex
  exact ⟨t, h1.pt, h2⟩
theorem sw_and1 (h : ST e X W a u) : SW e X W (.BoolOp .And [a] pos) u := by
  obtain ⟨t, h1, h2⟩ := h.ex
  exact ⟨t, pw_and1 h1, h2⟩
theorem sw_or1 (h : ST e X W a u) : SW e X W (.BoolOp .Or [a] pos) u := by
  obtain ⟨t, h1, h2⟩ := h.ex
  exact ⟨t, pw_or1 h1, h2⟩
theorem sw_and (h : ST e X W a u) (k : SW e X W (.BoolOp .And (b :: rest) pos) v) : SW e X W (.BoolOp .And (a :: b :: rest) pos) (tAndM u v) := by
  obtain ⟨t, h1, h2⟩ := h.ex
  obtain ⟨t', k1, k2⟩ := k.ex
  refine ⟨_, pw_and h1 k1, fun r σ H F fm Q hC R q => h2 r σ H F fm _ hC R ?_⟩
  refine (Po.bd q).mono fun b r1 H1 F1 R1 s1 q1 => ?_
  cases b with
  | true => exact k2 r1 σ H1 F1 fm Q hC R1 q1
  | false => exact q1 H1 F1 R1 (Same.refl _)
theorem sw_or (h : ST e X W a u) (k : SW e X W (.BoolOp .Or (b :: rest) pos) v) : SW e X W (.BoolOp .Or (a :: b :: rest) pos) (tOrM u v) := by
  obtain ⟨t, h1, h2⟩ := h.ex
  obtain ⟨t', k1, k2⟩ := k.ex
  refine ⟨_, pw_or h1 k1, fun r σ H F fm Q hC R q => h2 r σ H F fm _ hC R ?_⟩
  refine (Po.bd q).mono fun b r1 H1 F1 R1 s1 q1 => ?_
  cases b with
  | true => exact q1 H1 F1 R1 (Same.refl _)
  | false => exact k2 r1 σ H1 F1 fm Q hC R1 q1
theorem st_not (h : ST e X W a u) : ST e X W (.UnaryOp .Not a pos) (tNotM u) := by
  obtain ⟨t, h1, h2⟩ := h.ex
  exact ⟨_, pt_not h1, fun r σ H F fm Q hC R q => h2 r σ H F fm _ hC R ((Po.bd q).mono fun b r1 H1 F1 R1 s1 q1 => q1 H1 F1 R1 (Same.refl _))⟩
theorem emp_eq {l : List D} {vs : List V} (h : vs.length = l.length) : (!l.isEmpty) = !vs.isEmpty := by
  cases l <;> cases vs <;> first | rfl | simp at h
theorem truD_ok {H F : Hp} {d : D} {v : V} {k : Bool} (h : Vw e H F d v) (q : truD d = some k) : TruV e.K v H k := by
  cases d <;> first | (cases q; done) | skip
  · cases h; cases q; rfl
  · cases h; cases q; rfl
  · cases h; cases q; rfl
  · cases h
    rename_i x
    have q' : (if x.length ≤ 1000000 then some ((x.length : Int) != 0) else none) = some k := q
    by_cases z : x.length ≤ 1000000
    · rw [if_pos z] at q'; cases q'; exact ⟨big_le z, rfl⟩
    · rw [if_neg z] at q'; cases q'
  · obtain ⟨a, vs, rfl, h1, h2⟩ := h
    cases q
    refine .inr (.inl ⟨vs, tupT h1, ?_⟩)
    exact emp_eq h2.len
  · obtain ⟨a, vs, rfl, h1, h2⟩ := h
    cases q
    refine .inl ⟨vs, sqL_of h1, ?_⟩
    exact emp_eq h2.len
theorem st_tru (hK : X.K = e.K) (h : SE e X W a m) (he : ∀ whole, isTrue a X.env whole = (do let v ← whole; standAt a.pos; holding [v] (truthy v)) := by intro _; rfl) : ST e X W a (tTru m) := by
  obtain ⟨t, h1, h2⟩ := h.stl.ex
  refine ⟨_, pt_truth h1 he, fun r σ H F fm Q hC R q => h2 r σ H F fm _ hC R ?_⟩
  refine (Po.bd q).mono fun rv r1 H1 F1 R1 s1 q1 v hv => ?_
  cases z : look rv r1 with
  | none => rw [z] at q1; exact q1.elim
  | some d =>
    rw [z] at q1
    have q2 : Po e W fm F1 σ (KT Q) (match truD d with
      | some b => .ok b r1
      | none => .no) := q1
    cases y : truD d with
    | none => rw [y] at q2; exact q2.elim
    | some k =>
      rw [y] at q2
      exact ⟨k, by rw [hK]; exact truD_ok (look_vw R1 hv z) y, q2 H1 F1 R1 (Same.refl _)⟩
/-- a value that is a truth, as a test -/
theorem st_val (h : SE e X W a m) (he : ∀ whole, isTrue a X.env whole = (do let v ← whole; standAt a.pos; holding [v] (truthy v)) := by intro _; rfl) : ST e X W a (tV m) := by
  obtain ⟨t, h1, h2⟩ := h.ex
  exact ⟨_, pt_val h1 he, tTest_te h2⟩
theorem se_one {op} (h : SE e X W a m) : SE e X W (.BoolOp op [a] pos) m := by
  obtain ⟨t, h1, h2⟩ := h.ex
  exact ⟨t, pe_one h1, h2⟩
theorem se_and (h : SE e X W a m) (k : SE e X W (.BoolOp .And (b :: rest) pos) n) : SE e X W (.BoolOp .And (a :: b :: rest) pos) (eAnd m n) := by
  obtain ⟨t, h1, h2⟩ := h.ex
  obtain ⟨t', k1, k2⟩ := k.ex
  refine ⟨_, pe_and h1 k1, fun r σ H F fm Q hC R q => h2 r σ H F fm _ hC R ?_⟩
  refine (Po.bd q).mono fun rv r1 H1 F1 R1 s1 q1 v hv => ?_
  cases rv with
  | val d =>
    cases d with
    | bl b =>
      cases hv
      cases b with
      | true => exact ⟨true, rfl, iteT (k2 r1 σ H1 F1 fm Q hC R1 q1)⟩
      | false => exact ⟨false, rfl, iteF (q1 H1 F1 R1 (Same.refl _) _ rfl)⟩
    | _ => exact q1.elim
  | _ => exact q1.elim
theorem se_or (h : SE e X W a m) (k : SE e X W (.BoolOp .Or (b :: rest) pos) n) : SE e X W (.BoolOp .Or (a :: b :: rest) pos) (eOr m n) := by
  obtain ⟨t, h1, h2⟩ := h.ex
  obtain ⟨t', k1, k2⟩ := k.ex
  refine ⟨_, pe_or h1 k1, fun r σ H F fm Q hC R q => h2 r σ H F fm _ hC R ?_⟩
  refine (Po.bd q).mono fun rv r1 H1 F1 R1 s1 q1 v hv => ?_
  cases rv with
  | val d =>
    cases d with
    | bl b =>
      cases hv
      cases b with
      | true => exact ⟨true, rfl, iteT (q1 H1 F1 R1 (Same.refl _) _ rfl)⟩
      | false => exact ⟨false, rfl, iteF (k2 r1 σ H1 F1 fm Q hC R1 q1)⟩
    | _ => exact q1.elim
  | _ => exact q1.elim
theorem se_not (h : SE e X W a m) : SE e X W (.UnaryOp .Not a pos) (eNot m) := by
  obtain ⟨t, h1, h2⟩ := h.ex
  refine ⟨_, pe_not h1, fun r σ H F fm Q hC R q => h2 r σ H F fm _ hC R ?_⟩
  refine (Po.bd q).mono fun rv r1 H1 F1 R1 s1 q1 v hv => ?_
  cases rv with
  | val d =>
    cases d with
    | bl b => cases hv; exact ⟨b, rfl, q1 H1 F1 R1 (Same.refl _) _ rfl⟩
    | _ => exact q1.elim
  | _ => exact q1.elim
theorem se_ifE (hc : ST e X W c u) (h : SE e X W a m) (k : SE e X W b n) : SE e X W (.IfExp c a b pos) (eIf u m n) := by
  obtain ⟨t, c1, c2⟩ := hc.ex
  obtain ⟨t1, h1, h2⟩ := h.ex
  obtain ⟨t2, k1, k2⟩ := k.ex
  refine ⟨_, pe_ifExp c1 h1 k1, fun r σ H F fm Q hC R q => c2 r σ H F fm _ hC R ?_⟩
  refine (Po.bd q).mono fun b r1 H1 F1 R1 s1 q1 => ?_
  cases b with
  | true => exact h2 r1 σ H1 F1 fm Q hC R1 q1
  | false => exact k2 r1 σ H1 F1 fm Q hC R1 q1

/-! ### displays -/
def aN : Rho → Ou (List D) := fun r => .ok [] r
def aC (m : ME) (n : Rho → Ou (List D)) : Rho → Ou (List D) := fun r => (fz m r).bd fun d r1 => (n r1).bd fun l r2 => .ok (d :: l) r2
def eTup (n : Rho → Ou (List D)) : ME := fun r => (n r).bd fun l r1 => .ok (.val (.tup l)) r1
def eLst (n : Rho → Ou (List D)) : ME := fun r => (n r).bd fun l r1 => .ok (.own (.lst l)) r1
theorem bd_inv {α β : Type} {o : Ou α} {f : α → Rho → Ou β} {b : β} {r : Rho} (h : o.bd f = .ok b r) : ∃ a r1, o = .ok a r1 ∧ f a r1 = .ok b r := by
  cases o with
  | ok a r1 => exact ⟨a, r1, rfl, h⟩
  | ex x r1 => cases h
  | no => cases h
variable {es : List Expr} {w : Rho → Ou (List D)}
theorem sa_nil : SA e X W [] aN := ⟨⟨_, pa_nil, fun r σ H F fm Q hC R q => q H F R (Same.refl _) [] rfl⟩, fun r ds r' h => by cases h; rfl⟩
theorem sa_cons (h : SE e X W a m) (k : SA e X W es w) (hs : starEach (a :: es) X.env = (false, eval a X.env) :: starEach es X.env := by rfl) : SA e X W (a :: es) (aC m w) := by
  obtain ⟨t, h1, h2⟩ := h.fz.ex
  obtain ⟨t', k1, k2⟩ := k.ex
  refine ⟨⟨_, pa_cons h1 k1 hs, fun r σ H F fm Q hC R q => h2 r σ H F fm _ hC R ?_⟩, fun r ds r' q => ?_⟩
  · refine (Po.bd q).mono fun d r1 H1 F1 R1 s1 q1 v hv => k2 r1 σ H1 F1 fm _ hC R1 ?_
    refine (Po.bd q1).mono fun l r2 H2 F2 R2 s2 q2 vs hvs => ?_
    exact q2 H2 F2 R2 (Same.refl _) (v :: vs) ⟨v, vs, rfl, hv.mono s2, hvs⟩
  · obtain ⟨d, r1, _, q1⟩ := bd_inv q
    obtain ⟨l, r2, e2, q2⟩ := bd_inv q1
    cases q2
    rw [List.length_cons, List.length_cons, k.len _ _ _ e2]
theorem se_tup {x1} (h : SA e X W es w) (hz : es.length ≤ 100) : SE e X W (.Tuple es x1 pos) (eTup w) := by
  obtain ⟨t, h1, h2⟩ := h.ex
  refine ⟨_, pe_tup h1, fun r σ H F fm Q hC R q => h2 r σ H F fm _ hC R ?_⟩
  have q' := Po.bd q
  cases z : w r with
  | no => rw [z] at q'; exact q'
  | ex x r1 => rw [z] at q'; exact q'
  | ok l r1 =>
    rw [z] at q'
    intro H1 F1 R1 s1 vs hvs
    refine ⟨by rw [hvs.len, h.len r l r1 z]; exact big_le (by omega), fun p hp => ?_⟩
    obtain ⟨F2, R2, s2, rp⟩ := R1.frzN (o := .tup vs) (d := .tup l) hp hvs
    exact q' H1 F1 R1 s1 _ F2 R2 s2 _ rp
theorem se_lst (h : SA e X W es w) (hz : es.length ≤ 100) : SE e X W (.List es pos) (eLst w) := by
  obtain ⟨t, h1, h2⟩ := h.ex
  refine ⟨_, pe_lst h1, fun r σ H F fm Q hC R q => h2 r σ H F fm _ hC R ?_⟩
  have q' := Po.bd q
  cases z : w r with
  | no => rw [z] at q'; exact q'
  | ex x r1 => rw [z] at q'; exact q'
  | ok l r1 =>
    rw [z] at q'
    intro H1 F1 R1 s1 vs hvs
    refine ⟨by rw [hvs.len, h.len r l r1 z]; exact big_le (by omega), fun p hp => ?_⟩
    exact q' H1 F1 R1 s1 _ F1 (R1.new hp) (Same.refl _) _ ⟨p, rfl, R1.tmp (o := .lst vs) (d := .lst l) hp hvs⟩
end

/-! ### what is walked -/
def iLst (m : ME) : Rho → Ou (List D) := fun r => (fz m r).bd fun d r1 => match d with
  | .lst l => .ok l r1
  | .scr l => .ok l r1
  | _ => .no
def iTupM (m : ME) : Rho → Ou (List D) := fun r => (fz m r).bd fun d r1 => match d with
  | .tup l => .ok l r1
  | _ => .no
def rgL (lo : Int) (n : Nat) : List D := (List.range n).map fun (k : Nat) => .int (lo + k)
def iRg1 (m : ME) : Rho → Ou (List D) := fun r => (fz m r).bd fun d r1 => match d with
  | .int n => if n.natAbs < 2 ^ 62 then .ok (rgL 0 n.toNat) r1 else .no
  | _ => .no
def iRg2 (m n : ME) : Rho → Ou (List D) := fun r => (fz m r).bd fun d r1 => (fz n r1).bd fun d2 r2 => match d, d2 with
  | .int i, .int j => if i.natAbs < 2 ^ 62 ∧ j.natAbs < 2 ^ 62 then .ok (rgL i (j - i).toNat) r2 else .no
  | _, _ => .no
section
variable {e : En} {X : Cx} {W : Wi} {a b tg : Expr} {m n : ME} {pos p : Pos} {F : Hp}
theorem itr_list {G : Hp} {q : Addr} {vs : List V} {l : List D} (h : SqL e.K F q vs) (r : RepL e F l vs) : ItR e G (Itl e.K q) l F where
  go := fun i H u _ hi => ⟨vs, vs[i]'(by rw [r.len]; exact hi), u.sqL h, by simp [r.len, hi]⟩
  stop := fun i H u _ hi => ⟨vs, u.sqL h, by rw [r.len]; exact hi⟩
  yld := fun i H x H' d u _ y hd => by
    obtain ⟨rfl, y⟩ := y
    obtain ⟨v, h1, h2⟩ := r.get hd
    have := y vs (u.sqL h)
    rw [h1] at this; cases this
    exact .inl ⟨rfl, h2⟩
theorem itr_tup {G : Hp} {q : Addr} {vs : List V} {l : List D} (h : SqT e.K F q vs) (r : RepL e F l vs) : ItR e G (Itt e.K q) l F where
  go := fun i H u _ hi => ⟨vs, vs[i]'(by rw [r.len]; exact hi), u.sqT h, by simp [r.len, hi]⟩
  stop := fun i H u _ hi => ⟨vs, u.sqT h, by rw [r.len]; exact hi⟩
  yld := fun i H x H' d u _ y hd => by
    obtain ⟨rfl, y⟩ := y
    obtain ⟨v, h1, h2⟩ := r.get hd
    have := y vs (u.sqT h)
    rw [h1] at this; cases this
    exact .inl ⟨rfl, h2⟩
theorem itr_range {G : Hp} {lo : Int} {n : Nat} : ItR e G (Itr lo n) (rgL lo n) F where
  go := fun i H u _ hi => by
    show i < n
    simpa [rgL] using hi
  stop := fun i H u _ hi => by
    show n ≤ i
    simpa [rgL] using hi
  yld := fun i H x H' d u _ y hd => by
    obtain ⟨rfl, rfl⟩ := y
    refine .inl ⟨rfl, ?_⟩
    unfold rgL at hd
    rw [List.getElem?_map] at hd
    cases z : (List.range n)[i]? with
    | none => rw [z] at hd; cases hd
    | some k =>
      rw [z] at hd
      cases hd
      have h1 := (List.getElem?_eq_some_iff.mp z)
      obtain ⟨h2, h3⟩ := h1
      rw [List.getElem_range] at h3
      subst h3
      rfl
theorem si_list (hK : X.K = e.K) (h : SE e X W a m) : SI e X W tg a (iLst m) := by
  obtain ⟨t, h1, h2⟩ := h.fz.ex
  refine ⟨_, pi_list h1, fun r σ H F fm R' hC R q => h2 r σ H F fm _ hC R ?_⟩
  refine (Po.bd q).mono fun d r1 H1 F1 R1 s1 q1 v hv => ?_
  cases d with
  | lst l =>
    obtain ⟨p, vs, rfl, h3, h4⟩ := hv
    refine ⟨p, rfl, ⟨vs, sqL_of (R1.fh.lst h3)⟩, ?_⟩
    rw [hK]
    exact q1 H1 F1 R1 (Same.refl _) _ (itr_list (sqL_of h3) h4)
  | scr l =>
    obtain ⟨p, vs, rfl, h3, h4⟩ := hv
    refine ⟨p, rfl, ⟨vs, by rw [hK]; exact R1.fh.sqL h3⟩, ?_⟩
    rw [hK]
    exact q1 H1 F1 R1 (Same.refl _) _ (itr_list h3 h4)
  | _ => exact q1.elim
theorem si_tup (hK : X.K = e.K) (h : SE e X W a m) : SI e X W tg a (iTupM m) := by
  obtain ⟨t, h1, h2⟩ := h.fz.ex
  refine ⟨_, pi_tup h1, fun r σ H F fm R' hC R q => h2 r σ H F fm _ hC R ?_⟩
  refine (Po.bd q).mono fun d r1 H1 F1 R1 s1 q1 v hv => ?_
  cases d with
  | tup l =>
    obtain ⟨p, vs, rfl, h3, h4⟩ := hv
    refine ⟨p, rfl, ⟨vs, by rw [hK]; exact R1.fh.sqT (tupT h3)⟩, ?_⟩
    rw [hK]
    exact q1 H1 F1 R1 (Same.refl _) _ (itr_tup (tupT h3) h4)
  | _ => exact q1.elim
theorem si_range1 (hg : Gl X "range") (hm : X.mg "range" = none) (h : SE e X W a m) (hs : starEach [a] X.env = [(false, eval a X.env)] := by rfl) : SI e X W tg (.Call (.Name "range" p) [a] [] pos) (iRg1 m) := by
  obtain ⟨t, h1, h2⟩ := h.fz.ex
  refine ⟨_, pi_range1 hg hm (pa_cons h1 pa_nil hs) hs, fun r σ H F fm R' hC R q => h2 r σ H F fm _ hC R ?_⟩
  refine (Po.bd q).mono fun d r1 H1 F1 R1 s1 q1 v hv => ?_
  cases d with
  | int n =>
    cases hv
    have q2 : Po e W fm F1 σ _ (if n.natAbs < 2 ^ 62 then .ok (rgL 0 n.toNat) r1 else .no) := q1
    by_cases z : n.natAbs < 2 ^ 62
    · rw [if_pos z] at q2
      exact ⟨n, rfl, by omega, by omega, q2 H1 F1 R1 (Same.refl _) _ itr_range⟩
    · rw [if_neg z] at q2; exact q2.elim
  | _ => exact q1.elim
end
end Mi

end
section
set_option maxRecDepth 100000
/-! Mi5: stores, attributes, objects made, operators of one's own, isinstance, raise, try. -/
namespace Mi
open PySem L2
open PyProof.Rows (envOfC)

/-! ### xs[i] = v, the list a slot's own -/
def ownB (r : Rho) (i : Nat) : Bool := match r[i]? with
  | some (.own _) => true
  | _ => false
/-- the values of a dict's keys, one of them anew -/
def rp {κ α : Type} [DecidableEq κ] : List κ → List α → κ → α → List α
  | k' :: ks, d' :: l, k, d => (if k' = k then d else d') :: rp ks l k d
  | _, l, _, _ => l
def ptK {κ : Type} [DecidableEq κ] (ks : List κ) (k : κ) : List κ := if k ∈ ks then ks else ks ++ [k]
def ptL {κ α : Type} [DecidableEq κ] (ks : List κ) (l : List α) (k : κ) (d : α) : List α := if k ∈ ks then rp ks l k d else l ++ [d]
theorem rp_len {κ α : Type} [DecidableEq κ] : ∀ (ks : List κ) (l : List α) (k : κ) (d : α), (rp ks l k d).length = l.length
  | [], l, _, _ => by unfold rp; rfl
  | _ :: _, [], _, _ => by unfold rp; rfl
  | k' :: ks, d' :: l, k, d => by unfold rp; simp [rp_len ks l k d]
theorem rp_zip {κ : Type} [DecidableEq κ] : ∀ (ks : List κ) (vs : List V) (k : κ) (v : V), ks.length = vs.length → (ks.zip vs).map (fun kv => if kv.1 = k then (kv.1, v) else kv) = ks.zip (rp ks vs k v)
  | [], _, _, _, _ => rfl
  | _ :: _, [], _, _, h => by cases h
  | k' :: ks, d' :: l, k, d, h => by
    show (if k' = k then (k', d) else (k', d')) :: (ks.zip l).map _ = (k', if k' = k then d else d') :: ks.zip (rp ks l k d)
    rw [rp_zip ks l k d (by simpa using h)]
    split <;> rfl
theorem any_zip {κ : Type} [DecidableEq κ] : ∀ (ks : List κ) (vs : List V) (k : κ), ks.length = vs.length → ((ks.zip vs).any fun kv => decide (kv.1 = k)) = decide (k ∈ ks)
  | [], _, _, _ => rfl
  | _ :: _, [], _, h => by cases h
  | k' :: ks, d' :: l, k, h => by
    show (decide (k' = k) || (ks.zip l).any _) = _
    rw [any_zip ks l k (by simpa using h)]
    by_cases z : k' = k
    · subst z; simp
    · have z' : ¬ k = k' := fun e => z e.symm
      simp [z, z']
theorem pt_zip {κ : Type} [DecidableEq κ] (ks : List κ) (vs : List V) (k : κ) (v : V) (h : ks.length = vs.length) : putK (ks.zip vs) k v = (ptK ks k).zip (ptL ks vs k v) := by
  unfold putK ptK ptL
  rw [any_zip ks vs k h]
  by_cases z : k ∈ ks
  · rw [if_pos (by simpa using z), if_pos z, if_pos z, rp_zip ks vs k v h]
  · rw [if_neg (by simpa using z), if_neg z, if_neg z, List.zip_append h]; rfl
theorem pt_len {κ α : Type} [DecidableEq κ] (ks : List κ) (l : List α) (k : κ) (v : α) (h : ks.length = l.length) : (ptK ks k).length = (ptL ks l k v).length := by
  unfold ptK ptL
  split
  · rw [rp_len, h]
  · simp [h]
theorem rp_rep {κ : Type} [DecidableEq κ] {e : En} {F : Hp} {d : D} {v : V} {k : κ} (hd : Rep e F d v) : ∀ {ks : List κ} {l : List D} {vs : List V}, RepL e F l vs → RepL e F (rp ks l k d) (rp ks vs k v)
  | [], l, vs, h => by unfold rp; exact h
  | _ :: _, [], vs, h => by cases h; unfold rp; exact rfl
  | k' :: ks, d' :: l, vs, ⟨w, r, e1, h1, h2⟩ => by
    subst e1
    refine ⟨if k' = k then v else w, rp ks r k v, rfl, ?_, rp_rep hd h2⟩
    by_cases z : k' = k
    · rw [if_pos z, if_pos z]; exact hd
    · rw [if_neg z, if_neg z]; exact h1
theorem pt_rep {κ : Type} [DecidableEq κ] {e : En} {F : Hp} {d : D} {v : V} {k : κ} {ks : List κ} {l : List D} {vs : List V} (hd : Rep e F d v) (h : RepL e F l vs) : RepL e F (ptL ks l k d) (ptL ks vs k v) := by
  unfold ptL
  split
  · exact rp_rep hd h
  · exact h.app (RepL.one hd)
def setI (i : Nat) (k d : D) (r2 : Rho) : So := match r2[i]? with
  | some (.own (.lst l)) => match k with
    | .int z => match ixN l.length z with
      | some j => .nx (r2.set i (.own (.lst (l.set j d))))
      | none => .no
    | _ => .no
  | some (.own (.dK ks l)) => match keyD k with
    | some k => if ks.length < 1000000 then .nx (r2.set i (.own (.dK (ptK ks k) (ptL ks l k d)))) else .no
    | none => .no
  | some (.own (.dT ks l)) => match keyT k with
    | some k => if ks.length < 1000000 then .nx (r2.set i (.own (.dT (ptK ks k) (ptL ks l k d)))) else .no
    | none => .no
  | _ => .no
def rSetD : V → V → V → Hp → (Hp → Prop) → Prop := fun o i v H Q => ∃ a H', o = .ref a ∧ DPut H a i v H' ∧ Q H'
theorem set_dict {X : Cx} (hu : X.A.units + 100 < cLine) : PSet X rSetD := by
  intro pins s σ H o i v ov iv u Q I ro ri rv h
  obtain ⟨a, H', rfl, g, q⟩ := h
  cases ro
  exact d_setItem (by omega) I g ri rv fun s' I' => ⟨H', I', q⟩
abbrev rSetA : V → V → V → Hp → (Hp → Prop) → Prop := fun o i v H Q => rSetL o i v H Q ∨ rSetD o i v H Q
theorem set_any {X : Cx} (hu : X.A.units + 100 < cLine) : PSet X rSetA := by
  intro pins s σ H o i v ov iv u Q I ro ri rv h
  rcases h with h | h
  · exact set_list pins s σ H o i v ov iv u Q I ro ri rv h
  · exact set_dict hu pins s σ H o i v ov iv u Q I ro ri rv h
def sStL (i : Nat) (mi mv : ME) : MS := fun r => (fz mv r).st fun d r1 => if ownB r1 i = true then (fz mi r1).st fun k r2 => setI i k d r2 else .no
/-- a, b = x, y at two names -/
def sPar (i j : Nat) (w : Rho → Ou (List D)) : MS := fun r => (w r).st fun l r1 => match l with
  | [x, y] => .nx ((r1.set i (.val x)).set j (.val y))
  | _ => .no
section
variable {e : En} {X : Cx} {W : Wi} {io : List Nat} {a b c o ix : Expr} {m n : ME} {pos pos' : Pos} {F H : Hp} {σ : St} {r : Rho} {fm : Fm}
theorem own_at (R : Rl e r σ H F fm) {i : Nat} {l : List D} (h : r[i]? = some (.own (.lst l))) : ∃ p vs, σ[i]? = some (some (.ref p)) ∧ H p = some (.lst vs) ∧ RepL e F l vs := by
  obtain ⟨p, u, h1, h2, h3, _⟩ := R.ow' i _ h
  cases u <;> first | exact h3.elim | exact ⟨p, _, h1, h2, h3⟩
theorem ownB_at (R : Rl e r σ H F fm) {i : Nat} (h : ownB r i = true) : ∃ p d, r[i]? = some (.own d) ∧ σ[i]? = some (some (.ref p)) := by
  unfold ownB at h
  cases z : r[i]? with
  | none => rw [z] at h; cases h
  | some lv =>
    rw [z] at h
    cases lv with
    | own d => obtain ⟨p, u, h1, _⟩ := R.ow' i d z; exact ⟨p, d, rfl, h1⟩
    | _ => cases h
theorem setI_ok {Dn : Ends} {i : Nat} {p : Addr} {k d : D} {v vk : V} (R : Rl e r σ H F fm) (hs : σ[i]? = some (some (.ref p))) (hv : Rep e F d v) (hk : Rep e F k vk) (q : PoS e W fm F Dn (setI i k d r)) : rSetA (.ref p) vk v H (fun H' => Dn.nx σ H') := by
  unfold setI at q
  cases z : r[i]? with
  | none => rw [z] at q; exact q.elim
  | some lv =>
    rw [z] at q
    cases lv with
    | own d' =>
      cases d' with
      | lst l =>
        cases k with
        | int z' =>
          have q' : PoS e W fm F Dn (match ixN l.length z' with
            | some j => .nx (r.set i (.own (.lst (l.set j d))))
            | none => .no) := q
          obtain ⟨p', vs, h1, h2, h3⟩ := own_at R z
          rw [hs] at h1; cases h1
          cases hk
          cases y : ixN l.length z' with
          | none => rw [y] at q'; exact q'.elim
          | some j =>
            rw [y] at q'
            refine .inl ⟨p, vs, z', j, rfl, rfl, h2, by rw [h3.len]; exact y, ?_⟩
            exact q' σ _ F (R.mut z hs (show OR e F (.lst (vs.set j v)) (.lst (l.set j d)) from h3.set hv)) (Same.refl _)
        | _ => exact q.elim
      | dK ks l =>
        have q' : PoS e W fm F Dn (match keyD k with
          | some k => if ks.length < 1000000 then .nx (r.set i (.own (.dK (ptK ks k) (ptL ks l k d)))) else .no
          | none => .no) := q
        obtain ⟨p', u, h1, h2, h3, _⟩ := R.ow' i _ z
        rw [hs] at h1; cases h1
        cases y : keyD k with
        | none => rw [y] at q'; exact q'.elim
        | some kk =>
          rw [y] at q'
          have ek : vk = kV kk := by cases k <;> cases y <;> exact hk
          by_cases hl : ks.length < 1000000
          · have q2 : PoS e W fm F Dn (if ks.length < 1000000 then .nx (r.set i (.own (.dK (ptK ks kk) (ptL ks l kk d)))) else .no) := q'
            rw [if_pos hl] at q2
            cases u <;> first | exact h3.elim | skip
            obtain ⟨vs, e1, e2, e3⟩ := h3
            subst e1
            refine .inr ⟨p, _, rfl, .inl ⟨_, kk, h2, ek, by rw [List.length_zip, ← e2, Nat.min_self]; exact Nat.lt_of_lt_of_le hl (by decide), rfl⟩, ?_⟩
            rw [pt_zip ks vs kk v e2]
            exact q2 σ _ F (R.mut z hs (show OR e F (.dK ((ptK ks kk).zip (ptL ks vs kk v))) (.dK (ptK ks kk) (ptL ks l kk d)) from ⟨_, rfl, pt_len ks vs kk v e2, pt_rep hv e3⟩)) (Same.refl _)
          · have q2 : PoS e W fm F Dn (if ks.length < 1000000 then .nx (r.set i (.own (.dK (ptK ks kk) (ptL ks l kk d)))) else .no) := q'
            rw [if_neg hl] at q2
            exact q2.elim
      | dT ks l =>
        have q' : PoS e W fm F Dn (match keyT k with
          | some k => if ks.length < 1000000 then .nx (r.set i (.own (.dT (ptK ks k) (ptL ks l k d)))) else .no
          | none => .no) := q
        obtain ⟨p', u, h1, h2, h3, _⟩ := R.ow' i _ z
        rw [hs] at h1; cases h1
        cases y : keyT k with
        | none => rw [y] at q'; exact q'.elim
        | some kk =>
          rw [y] at q'
          obtain ⟨b, eb, hb⟩ := keyT_v y (hk.vw R.fh)
          by_cases hl : ks.length < 1000000
          · have q2 : PoS e W fm F Dn (if ks.length < 1000000 then .nx (r.set i (.own (.dT (ptK ks kk) (ptL ks l kk d)))) else .no) := q'
            rw [if_pos hl] at q2
            cases u <;> first | exact h3.elim | skip
            obtain ⟨vs, e1, e2, e3⟩ := h3
            subst e1
            refine .inr ⟨p, _, rfl, .inr ⟨_, kk, b, h2, eb, hb, by rw [List.length_zip, ← e2, Nat.min_self]; exact Nat.lt_of_lt_of_le hl (by decide), rfl⟩, ?_⟩
            rw [pt_zip ks vs kk v e2]
            exact q2 σ _ F (R.mut z hs (show OR e F (.dT ((ptK ks kk).zip (ptL ks vs kk v))) (.dT (ptK ks kk) (ptL ks l kk d)) from ⟨_, rfl, pt_len ks vs kk v e2, pt_rep hv e3⟩)) (Same.refl _)
          · have q2 : PoS e W fm F Dn (if ks.length < 1000000 then .nx (r.set i (.own (.dT (ptK ks kk) (ptL ks l kk d)))) else .no) := q'
            rw [if_neg hl] at q2
            exact q2.elim
      | _ => exact q.elim
    | _ => exact q.elim
theorem ss_stL {i : Nat} {x : Str} {px : Pos} (hu : X.A.units + 100 < cLine) (hx : X.N[i]? = some x) (hv : Vis X.env.scope x) (hd : (x == ("__debug__" : Str)) = false) (hcd : (x == ("__classdict__" : Str)) = false) (h : SE e X W a m) (hi : SE e X W ix n)
    (hs : swapsWithSole [.Subscript (.Name x px) ix pos'] a pos.line X.env = pure false := by rfl) (hw : swappedStores [.Subscript (.Name x px) ix pos'] a X.env = pure none := by rfl)
    (h1 : (assignEach [.Subscript (.Name x px) ix pos'] X.env).map (·.2) = [assign (.Subscript (.Name x px) ix pos') X.env] := by rfl)
    (ha : ∀ v, assign (.Subscript (.Name x px) ix pos') X.env v = (do
      let ov ← holding [v] (eval (.Name x px) X.env)
      let iv ← holding [v, ov] (eval ix X.env)
      standAt pos'
      holding [v, ov, iv] (setItem ov iv v)
      release [v, ov, iv] []) := by intro _; rfl) : SS e X W io (.Assign [.Subscript (.Name x px) ix pos'] a pos) (sStL i n m) := by
  obtain ⟨t, a1, a2⟩ := h.fz.ex
  obtain ⟨ti, i1, i2⟩ := hi.fz.ex
  refine ⟨_, ps_asg a1 (pg_sub (pe_var hx hv hd hcd) i1 (set_any hu) ha) hs hw h1, fun r σ H F fm D hC hp R q => a2 r σ H F fm _ hC R ?_⟩
  refine (Po.st (σ := σ) q).mono fun d r1 H1 F1 R1 s1 q1 v hv => ?_
  by_cases z : ownB r1 i = true
  · rw [if_pos z] at q1
    obtain ⟨p, d', h3, h4⟩ := ownB_at R1 z
    refine ⟨.ref p, h4, i2 r1 σ H1 F1 fm _ hC R1 ?_⟩
    exact (Po.st (σ := σ) q1).mono fun k r2 H2 F2 R2 s2 q2 vk hvk => setI_ok R2 h4 (hv.mono s2) hvk q2
  · rw [if_neg z] at q1
    exact q1.elim
theorem ss_par {i j : Nat} {x y : Str} {w : Rho → Ou (List D)} {px py pt : Pos} {kt k2 pt2} (hi : i ∉ io) (hj : j ∉ io) (hc : X.calm = true) (hN : X.N.Nodup) (hx : X.N[i]? = some x) (hy : X.N[j]? = some y) (hij : i ≠ j)
    (lx : X.env.scope.names.lookup x = some .local) (ly : X.env.scope.names.lookup y = some .local) (h : SA e X W [a, b] w)
    (hw : swappedStores [.Tuple [.Name x px, .Name y py] kt pt] (.Tuple [a, b] k2 pt2) X.env = pure (some [x, y]))
    (hs : swapsWithSole [.Tuple [.Name x px, .Name y py] kt pt] (.Tuple [a, b] k2 pt2) pos.line X.env = pure false := by rfl) :
    SS e X W io (.Assign [.Tuple [.Name x px, .Name y py] kt pt] (.Tuple [a, b] k2 pt2) pos) (sPar i j w) := by
  obtain ⟨t, a1, a2⟩ := h.ex
  refine ⟨_, ps_par hc hN hx hy hij lx ly a1 hw hs, fun r σ H F fm D hC hp R q => a2 r σ H F fm _ hC R ?_⟩
  refine (Po.st (σ := σ) q).mono fun l r1 H1 F1 R1 s1 q1 vs hvs => ?_
  cases l with
  | nil => exact q1.elim
  | cons d1 l =>
    cases l with
    | nil => exact q1.elim
    | cons d2 l =>
      cases l with
      | nil =>
        obtain ⟨v1, w1, rfl, h1, v2, w2, rfl, h2, rfl⟩ := hvs
        exact ⟨v1, v2, rfl, q1 _ H1 F1 ((R1.setV h1 fun q hq z => hi (by rw [← z]; exact hp q hq)).setV h2 fun q hq z => hj (by rw [← z]; exact hp q hq)) (Same.refl _)⟩
      | cons _ _ => exact q1.elim
end

/-! ### attributes -/
theorem lookup_zip : ∀ {ns : List Str} {vs : List V} {j : Nat} {f : Str} {v : V}, ns.Nodup → ns[j]? = some f → vs[j]? = some v → (ns.zip vs).lookup f = some v
  | [], _, _, _, _, _, h, _ => by simp at h
  | _ :: _, [], _, _, _, _, _, h => by simp at h
  | g :: ns, w :: vs, 0, f, v, nd, h1, h2 => by
    simp at h1 h2; subst h1; subst h2
    show List.lookup g ((g, w) :: ns.zip vs) = some w
    rw [List.lookup_cons_self]
  | g :: ns, w :: vs, j + 1, f, v, nd, h1, h2 => by
    have h1' : ns[j]? = some f := by simpa using h1
    have ne : (f == g) = false := by
      refine beq_eq_false_iff_ne.mpr fun z => (List.nodup_cons.mp nd).1 (z ▸ List.mem_of_getElem? h1')
    show List.lookup f ((g, w) :: ns.zip vs) = some v
    rw [List.lookup_cons, ne]
    exact lookup_zip (List.nodup_cons.mp nd).2 h1' (by simpa using h2)
theorem lookup_zip_no : ∀ {ns : List Str} {vs : List V} {f : Str}, f ∉ ns → (ns.zip vs).lookup f = none
  | [], _, _, _ => rfl
  | _ :: _, [], _, _ => rfl
  | g :: ns, w :: vs, f, h => by
    have ne : (f == g) = false := beq_eq_false_iff_ne.mpr fun z => h (z ▸ List.mem_cons_self)
    show List.lookup f ((g, w) :: ns.zip vs) = none
    rw [List.lookup_cons, ne]
    exact lookup_zip_no fun z => h (List.mem_cons_of_mem _ z)
theorem putF_new : ∀ {ns : List Str} {vs : List V} {f : Str} {v : V}, ns.Nodup → vs.length ≤ ns.length → ns[vs.length]? = some f → putF f v (ns.zip vs) = ns.zip (vs ++ [v])
  | [], _, _, _, _, _, h => by simp at h
  | g :: ns, [], f, v, _, _, h => by
    simp at h; subst h
    show [(g, v)] = (g, v) :: ns.zip []
    rw [List.zip_nil_right]
  | g :: ns, w :: vs, f, v, nd, hl, h => by
    have h' : ns[vs.length]? = some f := by simpa using h
    have ne : ¬ g = f := fun z => (List.nodup_cons.mp nd).1 (z ▸ List.mem_of_getElem? h')
    show (if g = f then (g, v) :: ns.zip vs else (g, w) :: putF f v (ns.zip vs)) = (g, w) :: ns.zip (vs ++ [v])
    rw [if_neg ne, putF_new (List.nodup_cons.mp nd).2 (by simpa using hl) h']
/-- what is asked of a class with instances -/
structure ClO (K : PySem.W.Frag) (e : En) (c : Nat) : Prop where
  cl : Cls K (e.ct c)
  nd : (e.fl c).Nodup
  na : ∀ f ∈ e.fl c, NoAttr K (e.ct c) f
  lim : (e.fl c).length ≤ 900
/-- o.f, f the field j of the class c -/
def fldD (c j : Nat) : D → Option R0
  | .ins c' l => if c' = c then (l[j]?).map .val else none
  | _ => none
def eFld (c j : Nat) (m : ME) : ME := eUn (fldD c j) m
/-- o.f = v, o a slot's own object; f its field j -/
def setF (i c j : Nat) (d : D) (r2 : Rho) : So := match r2[i]? with
  | some (.own (.ins c' l)) => if c' = c ∧ j = l.length then .nx (r2.set i (.own (.ins c (l ++ [d])))) else .no
  | _ => .no
def sFldM (i c j : Nat) (mv : ME) : MS := fun r => (fz mv r).st fun d r1 => setF i c j d r1
section
variable {e : En} {X : Cx} {W : Wi} {io : List Nat} {a b o : Expr} {m n : ME} {pos pos' : Pos} {F H : Hp} {σ : St} {r : Rho} {fm : Fm}
theorem se_fld {c j : Nat} {f : Str} (C : ClO X.K e c) (hf : (e.fl c)[j]? = some f) (h : SE e X W a m) (hb : attributeBase a f X.env (eval a X.env) = eval a X.env := by rfl) : SE e X W (.Attribute a f pos) (eFld c j m) := by
  obtain ⟨t, h1, h2⟩ := h.ex
  refine ⟨_, pe_fld h1 hb, ?_⟩
  refine tUn_te (r := fun x H Q => ∃ a C dx fs v, x = .ref a ∧ H a = some (.ins C dx fs) ∧ Cls X.K C ∧ NoAttr X.K C f ∧ fs.lookup f = some v ∧ Q v H) (fun d v H F Q hv q => ?_) h2
  cases d with
  | ins c' l =>
    obtain ⟨p, dx, vs, rfl, h3, h4, h5⟩ := hv
    have q' : PQ e H F (if c' = c then (l[j]?).map .val else none) Q := q
    by_cases z : c' = c
    · rw [if_pos z] at q'
      subst z
      cases y : l[j]? with
      | none => rw [y] at q'; exact q'.elim
      | some d =>
        rw [y] at q'
        obtain ⟨v, h6, h7⟩ := h5.get y
        exact ⟨p, e.ct c', dx, _, v, rfl, h3, C.cl, C.na f (List.mem_of_getElem? hf), lookup_zip C.nd hf h6, q' v h7⟩
    · rw [if_neg z] at q'; exact q'.elim
  | _ => exact q.elim
theorem ss_fld {i c j : Nat} {x f : Str} {px : Pos} (C : ClO X.K e c) (hf : (e.fl c)[j]? = some f) (hx : X.N[i]? = some x) (hv : Vis X.env.scope x) (hd : (x == ("__debug__" : Str)) = false) (hcd : (x == ("__classdict__" : Str)) = false) (h : SE e X W a m)
    (hs : swapsWith a (some (.Attribute (.Name x px) f pos')) pos.line X.env = pure false := by rfl) : SS e X W io (.Assign [.Attribute (.Name x px) f pos'] a pos) (sFldM i c j m) := by
  obtain ⟨t, h1, h2⟩ := h.fz.ex
  refine ⟨_, ps_fld (pe_var hx hv hd hcd) h1 hs, fun r σ H F fm D hC hp R q => h2 r σ H F fm _ hC R ?_⟩
  refine (Po.st (σ := σ) q).mono fun d r1 H1 F1 R1 s1 q1 v hv => ?_
  unfold setF at q1
  cases z : r1[i]? with
  | none => rw [z] at q1; exact q1.elim
  | some lv =>
    rw [z] at q1
    cases lv with
    | own d' =>
      cases d' with
      | ins c' l =>
        have q' : PoS e W fm F1 D (if c' = c ∧ j = l.length then .nx (r1.set i (.own (.ins c (l ++ [d])))) else .no) := q1
        by_cases y : c' = c ∧ j = l.length
        · rw [if_pos y] at q'
          obtain ⟨rfl, rfl⟩ := y
          obtain ⟨p, u, h3, h4, h5, _⟩ := R1.ow' i _ z
          cases u <;> first | exact h5.elim | skip
          rename_i C0 dx fs
          obtain ⟨vs, rfl, rfl, h6, h7⟩ := h5
          have hlt : l.length < (e.fl c').length := (List.getElem?_eq_some_iff.mp hf).1
          refine ⟨.ref p, h3, p, e.ct c', dx, _, rfl, h4, C.cl, C.na f (List.mem_of_getElem? hf), ?_, ?_⟩
          · have := C.lim
            rw [List.length_zip]
            omega
          · rw [putF_new C.nd (by rw [h7.len]; exact h6) (by rw [h7.len]; exact hf)]
            exact q' σ _ F1 (R1.mut z h3 (show OR e F1 (.ins (e.ct c') dx ((e.fl c').zip (vs ++ [v]))) (.ins c' (l ++ [d])) from ⟨_, rfl, rfl, by rw [List.length_append, List.length_singleton]; exact hlt, h7.app (RepL.one hv)⟩)) (Same.refl _)
        · rw [if_neg y] at q'; exact q'.elim
      | _ => exact q1.elim
    | _ => exact q1.elim
end
end Mi

end
section
set_option maxRecDepth 100000
/-! Mi6: calls of defs, objects made, methods, operators of one's own, isinstance, raise, try. -/
namespace Mi
open PySem L2
open PyProof.Rows (envOfC)

section
variable {e : En} {X : Cx} {W : Wi} {x : Str} {p pos : Pos} {a b o : Expr} {es : List Expr} {m : Rho → Ou (List RV)} {k n : Nat} {f : Addr} {fd : FuncData} {ps : List Str} {g : MS} {mo ma mb : ME}
/-- f(..) of a def -/
theorem se_call (F : FnOk X.prog X.w X.K X.mg X.base (L2.CX X.prog X.w) k f fd ps (spOf e n g)) (hr : Room k X.A) (hg : Gl X x) (hm : X.mg x = some (.ref f)) (hk : PySem.W.keepIn X.K (.ref f) = true) (hb : Binds X.K fd ps []) (tk : Takes X W.w) (hc : SC e X W (a :: es) m) (hn : es.length + 1 = n)
    (hdb : (x == ("__debug__" : Str)) = false := by decide) (he : starEach (a :: es) X.env = (false, eval a X.env) :: starEach es X.env := by rfl) (hpl : (backTo pos (starEach es X.env)).any (·.1) = false := by rfl) : SE e X W (.Call (.Name x p) (a :: es) [] pos) (eCall g m) := by
  obtain ⟨t, h1, h2⟩ := hc.ex
  exact ⟨_, pe_callS F hr hg hm hk hb (fun σ => passAt tk σ) h1 hdb he hpl, tCall_te h2 fun r l r' q => (hc.len r l r' q).trans hn⟩

/-! ### an object is made -/
theorem run_makeS {pins : List (Addr × Obj)} {σ : St} {H : Hp} {s : Shared} {Q : VK} {us : List Value} {vs : List V} {CX : CXT} {C : Addr} {sp : Sp} {dvs : List V} {ds : List Value} {E : XK} (M : Mk X.K C f) (F : FnOk X.prog X.w X.K X.mg X.base CX k f fd ps sp) (hr : Room (k + 1) X.A) (hb : Binds X.K fd ps ds) (hd : Vals dvs ds)
    (hx : PassesAt CX X σ E) (I : Inv X pins σ H s) (r : Vals vs us)
    (h : ∀ x dx, H x = none → H dx = none → dx ≠ x → sp (.ref x :: (vs ++ dvs)) (upd (upd H dx (.own x)) x (.ins C dx [])) (fun v H2 => v = .non ∧ Q (.ref x) H2) E) :
    wpAny (model X.prog X.w) X.A (call (.ref C) us) (EP X pins σ Q) X.xe s := by
  have hq := h (s.heap.objs.size + 1) s.heap.objs.size (I.hok.fresh (Nat.le_succ _)) (I.hok.fresh (Nat.le_refl _)) (Nat.ne_of_lt (Nat.lt_succ_self _))
  have I2 := Inv.made (C := C) I
  have r2 : Vals (V.ref (s.heap.objs.size + 1) :: (vs ++ dvs)) (Value.ref (s.heap.objs.size + 1) :: (us ++ ds)) := .cons rfl (r.append hd)
  have hl : (Value.ref (s.heap.objs.size + 1) :: us ++ ds).length = ps.length := by
    have e := r2.length
    rw [F.len _ _ _ _ hq] at e
    exact e.symm
  refine wpAny_call (make_map (f := f) I.kIn M.makes M.init (beq_iff_eq.mp M.fn) (codeAny_mono (F.run _ X.stack _ _ ⟨Value.ref (s.heap.objs.size + 1) :: us, []⟩ (Value.ref (s.heap.objs.size + 1) :: (us ++ ds)) _ _ E (hr.make C us [])
    (I2.env0.make C us []) (hb _ (Value.ref (s.heap.objs.size + 1) :: us) I2.kIn hl) r2 hq) fun r s' hq' => ?_))
  cases r with
  | error e => exact hx pins _ _ e s' I2 hq'
  | ok fl =>
    cases fl with
    | ret u =>
      obtain ⟨v, H', I3, rv, ev, q3⟩ := I2.after hq'
      subst ev
      exact ⟨rv, ⟨V.ref (s.heap.objs.size + 1), H', I3, rfl, q3⟩⟩
    | next => exact False.elim hq'
    | brk => exact False.elim hq'
    | cont => exact False.elim hq'
def tMakeS (C : Addr) (sp : Sp) (dvs : List V) (E : St → XK) (t : TA) : TE := fun σ H Q => t σ H fun vs H1 => ∀ x dx, H1 x = none → H1 dx = none → dx ≠ x →
  sp (.ref x :: (vs ++ dvs)) (upd (upd H1 dx (.own x)) x (.ins C dx [])) (fun v H2 => v = .non ∧ Q (.ref x) H2) (E σ)
theorem pe_makeS {CX : CXT} {C : Addr} {sp : Sp} {dvs : List V} {ds : List Value} {E : St → XK} {t : TA} (M : Mk X.K C f) (F : FnOk X.prog X.w X.K X.mg X.base CX k f fd ps sp) (hr : Room (k + 1) X.A) (hg : Gl X x) (hm : X.mg x = some (.ref C)) (hb : Binds X.K fd ps ds) (hd : Vals dvs ds) (hx : ∀ σ, PassesAt CX X σ (E σ))
    (ha : PA X (a :: es) t) (hdb : (x == ("__debug__" : Str)) = false := by decide) (he : starEach (a :: es) X.env = (false, eval a X.env) :: starEach es X.env := by rfl) (hpl : (backTo pos (starEach es X.env)).any (·.1) = false := by rfl) :
    PE X (.Call (.Name x p) (a :: es) [] pos) (tMakeS C sp dvs E t) := by
  refine ⟨fun pins s σ H Q I h => ?_⟩
  refine wpAny_Call_Name_kw (ld_glob I hg hm ?_ hdb)
  refine PySem.W.callWith_K (h₀ := X.base) I.ok.mod.kin M.kp (thn (ha.run pos pins s σ H _ I h) fun us s1 ⟨vs, H1, I1, r, q⟩ => ⟨I1.kIn, ?_⟩) he hpl
  exact run_makeS M F hr hb hd (hx σ) I1 r q
end
def makeO (l : List RV) (r : Rho) : So → Ou RV
  | .rt (.val .non) (.own d :: w) => .ok (.own d) (wback l w r)
  | .ex x (_ :: w) => .ex x (wback l w r)
  | _ => .no
def eMake (c : Nat) (g : MS) (dds : List D) (m : Rho → Ou (List RV)) : ME := fun r => (m r).bd fun l r1 => if nodupB (borI l) = true then makeO (l ++ dds.map RV.val) r1 (g (.own (.ins c []) :: (l ++ dds.map RV.val).map (argL r1))) else .no
section
variable {e : En} {W : Wi} {r : Rho} {σ : St} {H H' F F' : Hp} {fm : Fm} {l : List RV} {vs : List V} {d : D} {p : Addr}
theorem snoc_get {r : Rho} {lv : LV} {i : Nat} : (r ++ [lv])[i]? = if i < r.length then r[i]? else if i = r.length then some lv else none := by
  by_cases h : i < r.length
  · rw [if_pos h, List.getElem?_append_left h]
  · rw [if_neg h]
    by_cases h2 : i = r.length
    · rw [if_pos h2, h2, List.getElem?_append_right (Nat.le_refl _), Nat.sub_self]; rfl
    · rw [if_neg h2]; exact List.getElem?_eq_none (by rw [List.length_append, List.length_singleton]; omega)
theorem Rl.snoc (R : Rl e r σ H F fm) (T : Tmp e r σ H F fm p d) : Rl e (r ++ [.own d]) (σ ++ [some (.ref p)]) H F fm := by
  have hs : ∀ {i : Nat} {v : Option V}, σ[i]? = some v → (σ ++ [some (.ref p)])[i]? = some v := fun {i v} h => by
    rw [List.getElem?_append_left (List.getElem?_eq_some_iff.mp h).1]; exact h
  have hl : (σ ++ [some (V.ref p)])[r.length]? = some (some (.ref p)) := by
    rw [← R.ln, List.getElem?_append_right (Nat.le_refl _), Nat.sub_self]; rfl
  have cs : ∀ {i : Nat} {lv : LV}, (r ++ [LV.own d])[i]? = some lv → (i < r.length ∧ r[i]? = some lv) ∨ (i = r.length ∧ lv = .own d) := fun {i lv} h => by
    rw [snoc_get] at h
    by_cases h1 : i < r.length
    · rw [if_pos h1] at h; exact .inl ⟨h1, h⟩
    · rw [if_neg h1] at h
      by_cases h2 : i = r.length
      · rw [if_pos h2] at h; exact .inr ⟨h2, (Option.some.inj h).symm⟩
      · rw [if_neg h2] at h; cases h
  obtain ⟨⟨u, t1, t2⟩, n, no⟩ := T
  exact {
    fh := R.fh
    gh := R.gh
    bf := R.bf
    bh := R.bh
    bt := R.bt
    ln := by simp [R.ln]
    va := fun i d' h => by
      rcases cs h with ⟨_, h⟩ | ⟨_, k⟩
      · obtain ⟨v, a1, a2⟩ := R.va i d' h; exact ⟨v, hs a1, a2⟩
      · cases k
    ow := fun i d' h => by
      rcases cs h with ⟨_, h⟩ | ⟨rfl, k⟩
      · obtain ⟨q, w, a1, a2⟩ := R.ow i d' h; exact ⟨q, w, hs a1, a2⟩
      · cases k; exact ⟨p, u, hl, t1, t2, n⟩
    ap := fun i j d1 d2 q h1 h2 h3 h4 => by
      rcases cs h1 with ⟨i1, h1⟩ | ⟨rfl, h1⟩
      · obtain ⟨q1, w1, a1, _⟩ := R.ow i d1 h1
        rw [hs a1] at h3; cases h3
        rcases cs h2 with ⟨j1, h2⟩ | ⟨rfl, h2⟩
        · obtain ⟨q2, w2, b1, _⟩ := R.ow j d2 h2
          rw [hs b1] at h4; cases h4
          exact R.ap i j d1 d2 q h1 h2 a1 b1
        · rw [hl] at h4; cases h4
          exact (no i d1 h1 a1).elim
      · rw [hl] at h3; cases h3
        rcases cs h2 with ⟨j1, h2⟩ | ⟨rfl, h2⟩
        · obtain ⟨q2, w2, b1, _⟩ := R.ow j d2 h2
          rw [hs b1] at h4; cases h4
          exact (no j d2 h2 b1).elim
        · rfl
    pn := fun q hq => hs (R.pn q hq) }
theorem Rl.cut {lv : LV} {x : Option V} (R : Rl e (r ++ [lv]) (σ ++ [x]) H F fm) (hp : ∀ q ∈ fm.pn, q.1 < σ.length) : Rl e r σ H F fm := by
  have ln : σ.length = r.length := by have := R.ln; simpa using this
  have hr : ∀ {i : Nat} {lv' : LV}, r[i]? = some lv' → i < r.length ∧ (r ++ [lv])[i]? = some lv' := fun {i lv'} h => by
    have h1 := (List.getElem?_eq_some_iff.mp h).1
    exact ⟨h1, by rw [List.getElem?_append_left h1]; exact h⟩
  have hs : ∀ {i : Nat} {v : Option V}, i < r.length → (σ ++ [x])[i]? = some v → σ[i]? = some v := fun {i v} h q => by
    rwa [List.getElem?_append_left (by rw [ln]; exact h)] at q
  exact {
    fh := R.fh
    gh := R.gh
    bf := R.bf
    bh := R.bh
    bt := R.bt
    ln := ln
    va := fun i d' h => by
      obtain ⟨h1, h2⟩ := hr h
      obtain ⟨v, a1, a2⟩ := R.va i d' h2; exact ⟨v, hs h1 a1, a2⟩
    ow := fun i d' h => by
      obtain ⟨h1, h2⟩ := hr h
      obtain ⟨q, w, a1, a2⟩ := R.ow i d' h2; exact ⟨q, w, hs h1 a1, a2⟩
    ap := fun i j d1 d2 q h1 h2 h3 h4 => by
      obtain ⟨a1, a2⟩ := hr h1
      obtain ⟨b1, b2⟩ := hr h2
      exact R.ap i j d1 d2 q a2 b2 (by rw [List.getElem?_append_left (by rw [ln]; exact a1)]; exact h3) (by rw [List.getElem?_append_left (by rw [ln]; exact b1)]; exact h4)
    pn := fun q hq => by
      have := R.pn q hq
      rwa [List.getElem?_append_left (hp q hq)] at this }
theorem Rl.unsnoc (R : Rl e (r ++ [.own d]) (σ ++ [some (.ref p)]) H F fm) (hp : ∀ q ∈ fm.pn, q.1 < σ.length) : Rl e r σ H F fm ∧ Tmp e r σ H F fm p d := by
  have ln : σ.length = r.length := by have := R.ln; simpa using this
  have hl : (σ ++ [some (V.ref p)])[r.length]? = some (some (.ref p)) := by
    rw [← ln, List.getElem?_append_right (Nat.le_refl _), Nat.sub_self]; rfl
  have rl : (r ++ [LV.own d])[r.length]? = some (.own d) := by rw [List.getElem?_append_right (Nat.le_refl _), Nat.sub_self]; rfl
  refine ⟨R.cut hp, ?_⟩
  obtain ⟨q, u, a1, a2, a3, a4⟩ := R.ow r.length d rl
  rw [hl] at a1; cases a1
  refine ⟨⟨u, a2, a3⟩, a4, fun i d' h z => ?_⟩
  have b1 := (List.getElem?_eq_some_iff.mp h).1
  have b2 : (r ++ [LV.own d])[i]? = some (.own d') := by rw [List.getElem?_append_left b1]; exact h
  have := R.ap i r.length d' d p b2 rl (by rw [List.getElem?_append_left (by rw [ln]; exact b1)]; exact z) hl
  omega
theorem wback_app : ∀ (l : List RV) (w r s : Rho), (∀ i ∈ borI l, i < r.length) → wback l w (r ++ s) = wback l w r ++ s
  | [], _, _, _, _ => by unfold wback; rfl
  | .bor i :: l, lv :: w, r, s, h => by
    show wback l w ((r ++ s).set i lv) = wback l w (r.set i lv) ++ s
    have hi : i < r.length := h i List.mem_cons_self
    rw [List.set_append_left _ _ hi]
    exact wback_app l w (r.set i lv) s fun j hj => by rw [List.length_set]; exact h j (List.mem_cons_of_mem _ hj)
  | .val _ :: l, _ :: w, r, s, h => wback_app l w r s h
  | .own _ :: l, _ :: w, r, s, h => wback_app l w r s h
  | .bor _ :: _, [], _, _, _ => by unfold wback; rfl
  | .val _ :: _, [], _, _, _ => by unfold wback; rfl
  | .own _ :: _, [], _, _, _ => by unfold wback; rfl
theorem wback_snoc {w : Rho} {lv lv' : LV} (h : ∀ i ∈ borI l, i < r.length) : wback (.bor r.length :: l) (lv' :: w) (r ++ [lv]) = wback l w r ++ [lv'] := by
  show wback l w ((r ++ [lv]).set r.length lv') = _
  rw [List.set_append_right _ _ (Nat.le_refl _), Nat.sub_self]
  exact wback_app l w r [lv'] h
theorem borI_lt (R : Rl e r σ H F fm) (A : ArgsR e σ F l vs) : ∀ i ∈ borI l, i < r.length := fun i hi => by
  obtain ⟨j, hj⟩ := borI_mem hi
  obtain ⟨v, _, h2⟩ := A.get hj
  have h2' : σ[i]? = some (some v) := h2
  rw [← R.ln]
  exact (List.getElem?_eq_some_iff.mp h2').1
theorem argL_snoc {lv : LV} (h : ∀ i ∈ borI l, i < r.length) : l.map (argL (r ++ [lv])) = l.map (argL r) := by
  refine List.map_congr_left fun rv hrv => ?_
  cases rv with
  | val d => rfl
  | own d => rfl
  | bor i =>
    obtain ⟨j, hj⟩ := List.getElem?_of_mem hrv
    have hi := h i (mem_borI hj)
    show ((r ++ [lv])[i]?).getD .un = (r[i]?).getD .un
    rw [List.getElem?_append_left hi]
theorem ArgsR.snoc {q : Option V} (A : ArgsR e σ F l vs) : ArgsR e (σ ++ [q]) F l vs := by
  revert vs
  induction l with
  | nil => intro vs A; exact A
  | cons rv l ih =>
    intro vs A
    obtain ⟨v, w, h0, h1, h2⟩ := A
    refine ⟨v, w, h0, ?_, ih h2⟩
    cases rv with
    | val d => exact h1
    | own d => exact h1
    | bor i =>
      have h1' : σ[i]? = some (some v) := h1
      show (σ ++ [q])[i]? = some (some v)
      rw [List.getElem?_append_left (List.getElem?_eq_some_iff.mp h1').1]
      exact h1'
theorem ArgsR.vals : ∀ {l : List RV} {vs : List V} {dds : List D} {dvs : List V}, ArgsR e σ F l vs → RepL e F dds dvs → ArgsR e σ F (l ++ dds.map RV.val) (vs ++ dvs)
  | [], _, dds, dvs, h, q => by
    cases h
    revert dvs
    induction dds with
    | nil => intro dvs q; cases q; exact rfl
    | cons d ds ih =>
      intro dvs q
      obtain ⟨v, r, h0, h1, h2⟩ := q
      exact ⟨v, r, h0, h1, ih r h2⟩
  | rv :: l, _, dds, dvs, ⟨v, w, h0, h1, h2⟩, q => by
    subst h0
    exact ⟨v, w ++ dvs, rfl, h1, ArgsR.vals h2 q⟩
theorem borI_vals (dds : List D) : ∀ l : List RV, borI (l ++ dds.map RV.val) = borI l
  | [] => by
    induction dds with
    | nil => rfl
    | cons d ds ih => exact ih
  | .bor i :: l => by
    show i :: borI (l ++ dds.map RV.val) = i :: borI l
    rw [borI_vals dds l]
  | .val _ :: l => borI_vals dds l
  | .own _ :: l => borI_vals dds l
theorem make_sp {n c : Nat} {g : MS} {Q : VK} {x dx : Addr} (R : Rl e r σ H F fm) (A : ArgsR e σ F l vs) (nd : (borI l).Nodup) (hn : vs.length + 1 = n) (hx : H x = none) (hd : H dx = none) (ne : dx ≠ x)
    (q : Po e W fm F σ (KE' e fm σ Q) (makeO l r (g (.own (.ins c []) :: l.map (argL r))))) :
    spOf e n g (.ref x :: vs) (upd (upd H dx (.own x)) x (.ins (e.ct c) dx [])) (fun v H2 => v = .non ∧ Q (.ref x) H2) (fun cls d H' => W.w cls d σ H') := by
  have R1 : Rl e r σ (upd H dx (.own x)) F fm := R.new hd
  have hx1 : (upd H dx (.own x)) x = none := by rw [upd_ne (Ne.symm ne)]; exact hx
  have o1 : OR e F (.ins (e.ct c) dx []) (.ins c []) := ⟨[], rfl, by rw [List.zip_nil_right], Nat.zero_le _, rfl⟩
  have R2 : Rl e r σ (upd (upd H dx (.own x)) x (.ins (e.ct c) dx [])) F fm := R1.new hx1
  have R3 := R2.snoc (R1.tmp (o := .ins (e.ct c) dx []) hx1 o1)
  have bl := borI_lt R A
  have hp : ∀ q ∈ fm.pn, q.1 < σ.length := fun q hq => (List.getElem?_eq_some_iff.mp (R.pn q hq)).1
  have A3 : ArgsR e (σ ++ [some (V.ref x)]) F (.bor r.length :: l) (.ref x :: vs) := ⟨.ref x, vs, rfl, by
    show (σ ++ [some (V.ref x)])[r.length]? = some (some (.ref x))
    rw [← R.ln, List.getElem?_append_right (Nat.le_refl _), Nat.sub_self]; rfl, A.snoc⟩
  have nd3 : (borI (.bor r.length :: l)).Nodup := List.nodup_cons.mpr ⟨fun h => Nat.lt_irrefl _ (bl _ h), nd⟩
  refine call_sp (W := ⟨fun cls d _ H' => W.w cls d σ H', W.c⟩) (f := g) R3 A3 nd3 (by rw [List.length_cons]; exact hn) ?_
  have e1 : (RV.bor r.length :: l).map (argL (r ++ [LV.own (.ins c [])])) = .own (.ins c []) :: l.map (argL r) := by
    rw [List.map_cons, argL_snoc bl]
    congr 1
    show ((r ++ [LV.own (.ins c [])])[r.length]?).getD .un = _
    rw [List.getElem?_append_right (Nat.le_refl _), Nat.sub_self]; rfl
  rw [e1]
  cases z : g (.own (.ins c []) :: l.map (argL r)) with
  | rt a w =>
    rw [z] at q
    cases w with
    | nil => cases a <;> first | exact q.elim | (rename_i d; cases d <;> exact q.elim)
    | cons lv w =>
      cases a with
      | own d => exact q.elim
      | val d =>
        cases d <;> first | exact q.elim | skip
        cases lv with
        | un => exact q.elim
        | val d => exact q.elim
        | own d =>
          have q' : Po e W fm F σ (KE' e fm σ Q) (.ok (.own d) (wback l w r)) := q
          intro H' F' R' s v hv
          rw [wback_snoc bl] at R'
          obtain ⟨R4, T⟩ := R'.unsnoc hp
          exact ⟨hv, q' H' F' R4 s (.ref x) ⟨x, rfl, T⟩⟩
  | ex y w =>
    rw [z] at q
    cases w with
    | nil => exact q.elim
    | cons lv w =>
      have q' : Po e W fm F σ (KE' e fm σ Q) (.ex y (wback l w r)) := q
      intro cls d H' F' R' s hx'
      rw [wback_snoc bl] at R'
      exact q' cls d H' F' (R'.cut hp) s hx'
  | nx w => rw [z] at q; exact q
  | bk w => rw [z] at q; exact q
  | ct w => rw [z] at q; exact q
  | no => rw [z] at q; exact q
end
end Mi

end
section
set_option maxRecDepth 100000
/-! Mi7: objects made (the rule), operators of one's own, isinstance, raise, try. -/
namespace Mi
open PySem L2
open PyProof.Rows (envOfC)

section
variable {e : En} {X : Cx} {W : Wi} {x : Str} {p pos : Pos} {a b o : Expr} {es : List Expr} {m : Rho → Ou (List RV)} {k n : Nat} {f : Addr} {fd : FuncData} {ps : List Str} {g : MS} {ma mb : ME}
theorem se_make {c : Nat} {dvs : List V} {ds : List Value} {dds : List D} (M : Mk X.K (e.ct c) f) (F : FnOk X.prog X.w X.K X.mg X.base (L2.CX X.prog X.w) k f fd ps (spOf e n g)) (hr : Room (k + 1) X.A) (hg : Gl X x) (hm : X.mg x = some (.ref (e.ct c))) (hb : Binds X.K fd ps ds) (hd : Vals dvs ds) (hdd : ∀ F, RepL e F dds dvs)
    (tk : Takes X W.w) (hc : SC e X W (a :: es) m) (hn : es.length + 1 + dds.length + 1 = n)
    (hdb : (x == ("__debug__" : Str)) = false := by decide) (he : starEach (a :: es) X.env = (false, eval a X.env) :: starEach es X.env := by rfl) (hpl : (backTo pos (starEach es X.env)).any (·.1) = false := by rfl) : SE e X W (.Call (.Name x p) (a :: es) [] pos) (eMake c g dds m) := by
  obtain ⟨t, h1, h2⟩ := hc.ex
  refine ⟨_, pe_makeS M F hr hg hm hb hd (fun σ => passAt tk σ) h1 hdb he hpl, fun r σ H F' fm Q hC R q => h2 r σ H F' fm _ hC R ?_⟩
  have q' := Po.bd q
  cases z : m r with
  | no => rw [z] at q'; exact q'
  | ex y r1 => rw [z] at q'; exact q'
  | ok l r1 =>
    rw [z] at q'
    intro H1 F1 R1 s1 vs A y dy hy hdy ne
    have q1 := q' H1 F1 R1 s1
    dsimp only at q1
    by_cases nd : nodupB (borI l) = true
    · rw [if_pos nd] at q1
      have A' := A.vals (hdd F1)
      have hl : (vs ++ dvs).length + 1 = n := by
        rw [A'.len, List.length_append, List.length_map, hc.len r l r1 z, List.length_cons]
        omega
      exact make_sp R1 A' (by rw [borI_vals]; exact nodupB_ok nd) hl hy hdy ne q1
    · rw [if_neg nd] at q1; exact q1.elim

/-! ### operators of one's own -/
/-- what is asked of a class whose objects stand in an operation -/
structure OpO (K : PySem.W.Frag) (C : Addr) (nm : Str) (f : Addr) : Prop where
  sf : PySem.W.selfFirst K C = true
  at_ : PySem.W.findIn K (.ref C) nm = some (some (.ref f))
  fn : PySem.W.isFn K (.ref f) = true
def isIns (c : Nat) : D → Bool
  | .ins c' _ => c' == c
  | _ => false
def eBin (c : Nat) (g : MS) (ma mb : ME) : ME := fun r => (fz ma r).bd fun d1 r1 => (fz mb r1).bd fun d2 r2 => if isIns c d1 && isIns c d2 then callO [.val d1, .val d2] r2 (g [.val d1, .val d2]) else .no
def tBinS (C : Addr) (sp : Sp) (E : St → XK) (ta tb : TE) : TE := fun σ H Q => ta σ H fun x H1 => tb σ H1 fun y H2 => (∃ a b dx fs dy gs, x = .ref a ∧ y = .ref b ∧ H2 a = some (.ins C dx fs) ∧ H2 b = some (.ins C dy gs)) ∧ sp [x, y] H2 Q (E σ)
theorem isIns_vw {H F : Hp} {c : Nat} {d : D} {v : V} (h : isIns c d = true) (q : Vw e H F d v) : ∃ a dx fs, v = .ref a ∧ H a = some (.ins (e.ct c) dx fs) := by
  cases d with
  | ins c' l =>
    obtain ⟨a, dx, vs, rfl, h1, _⟩ := q
    have : c' = c := by simpa [isIns] using h
    subst this
    exact ⟨a, dx, _, rfl, h1⟩
  | _ => cases h
theorem cback_ep {pins : List (Addr × Obj)} {σ : St} {Q : VK} {v : Value} {s : Shared} (h : EP X pins σ Q v s) : PySem.W.CmpBack (EP X pins σ Q) v s := by
  obtain ⟨w, H', I, r, q⟩ := h
  cases v <;> first | exact ⟨w, H', I, r, q⟩ | (cases w <;> first | (obtain ⟨_, z⟩ := r; cases z; done) | (cases r; done))
theorem two_obj {pins : List (Addr × Obj)} {σ : St} {H : Hp} {s : Shared} {C q dx : Addr} {fs : List (Str × V)} (I : Inv X pins σ H s) (h : H q = some (.ins C dx fs)) : ∃ ox od, PySem.W.InstAt s.heap q ox C od := by
  obtain ⟨mA, O, _⟩ := ins_get I.hok h
  obtain ⟨od, J, _⟩ := O.look
  exact ⟨_, _, J⟩
theorem bin_te {C : Addr} {ta tb : TE} {c : Nat} (hC' : C = e.ct c) (h1 : TeE e W ta ma) (h2 : TeE e W tb mb) : TeE e W (tBinS C (spOf e 2 g) (WE W.w) ta tb) (eBin c g ma mb) := fun r σ H F fm Q hC R q => by
  refine TeE.fz h1 r σ H F fm _ hC R ?_
  refine (Po.bd q).mono fun d1 r1 H1 F1 R1 s1 q1 v1 hv1 => TeE.fz h2 r1 σ H1 F1 fm _ hC R1 ?_
  refine (Po.bd q1).mono fun d2 r2 H2 F2 R2 s2 q2 v2 hv2 => ?_
  by_cases z : (isIns c d1 && isIns c d2) = true
  · rw [if_pos z] at q2
    obtain ⟨z1, z2⟩ := Bool.and_eq_true_iff.mp z
    have w1 := (hv1.mono s2).vw R2.fh
    obtain ⟨p1, dx, fs, rfl, i1⟩ := isIns_vw z1 w1
    obtain ⟨p2, dy, gs, rfl, i2⟩ := isIns_vw z2 (hv2.vw R2.fh)
    subst hC'
    refine ⟨⟨p1, p2, dx, fs, dy, gs, rfl, rfl, i1, i2⟩, ?_⟩
    exact call_sp (l := [.val d1, .val d2]) R2 ⟨_, _, rfl, hv1.mono s2, _, _, rfl, hv2, rfl⟩ List.nodup_nil rfl q2
  · rw [if_neg z] at q2; exact q2.elim
theorem se_bin {op : Operator} {c : Nat} (O : OpO X.K (e.ct c) (PySem.dunder op.info.2) f) (F : FnOk X.prog X.w X.K X.mg X.base (L2.CX X.prog X.w) k f fd ps (spOf e 2 g)) (hr : Room k X.A) (hb : Binds X.K fd ps []) (tk : Takes X W.w) (h1 : SE e X W a ma) (h2 : SE e X W b mb) :
    SE e X W (.BinOp a op b pos) (eBin c g ma mb) := by
  obtain ⟨ta, a1, a2⟩ := h1.ex
  obtain ⟨tb, b1, b2⟩ := h2.ex
  refine ⟨tBinS (e.ct c) (spOf e 2 g) (WE W.w) ta tb, ⟨fun pins s σ H Q I h => ?_⟩, bin_te rfl a2 b2⟩
  refine wpAny_BinOp (bin a1 b1 I h fun v u s2 x y H2 I2 rx ry q => ?_)
  obtain ⟨⟨p1, p2, dx, fs, dy, gs, rfl, rfl, i1, i2⟩, q⟩ := q
  cases rx
  cases ry
  obtain ⟨ox, od, J⟩ := two_obj I2 i1
  obtain ⟨oy, od', J'⟩ := two_obj I2 i2
  obtain ⟨m, F0⟩ := I2.fr
  refine PySem.W.binop_K F0 I2.mod.kin J J'.type O.sf O.at_ O.fn ?_
  exact thn (run_fnS (vs := [.ref p1, .ref p2]) F hr hb (passAt tk σ) I2 (.cons rfl (.cons rfl .nil)) q) fun v s3 h3 => cback_ep h3
/-- ==, != of two objects of one class that says them itself -/
theorem rich_te {op : CmpOp} {c : Nat} {sy : String} {nm rn : Str} (hop : cmpInfo op = (sy, nm, rn)) (hri : ∀ v u, compareOp op v u = richCompare op v u) (O : OpO X.K (e.ct c) nm f) (F : FnOk X.prog X.w X.K X.mg X.base (L2.CX X.prog X.w) k f fd ps (spOf e 2 g)) (hr : Room k X.A) (hb : Binds X.K fd ps []) (tk : Takes X W.w)
    {pins : List (Addr × Obj)} {s : Shared} {σ : St} {H : Hp} {x y : V} {v u : Value} {Q : VK} (I2 : Inv X pins σ H s) (rx : RelV x v) (ry : RelV y u) (i : ∃ a b dx fs dy gs, x = .ref a ∧ y = .ref b ∧ H a = some (.ins (e.ct c) dx fs) ∧ H b = some (.ins (e.ct c) dy gs)) (q : spOf e 2 g [x, y] H Q (WE W.w σ)) :
    wpAny (model X.prog X.w) X.A (compareOp op v u) (EP X pins σ Q) X.xe s := by
  obtain ⟨p1, p2, dx, fs, dy, gs, rfl, rfl, i1, i2⟩ := i
  cases rx
  cases ry
  obtain ⟨ox, od, J⟩ := two_obj I2 i1
  obtain ⟨oy, od', J'⟩ := two_obj I2 i2
  obtain ⟨m, F0⟩ := I2.fr
  rw [hri]
  have hu : X.A.units < cLine := hr.units0
  refine PySem.W.cmp_K (tb := .ref (e.ct c)) hu F0 I2.mod.kin J J'.type (by unfold PySem.W.notFirst; rw [beq_self_eq_true]; rfl) (by rw [hop]; exact O.at_) O.fn ?_
  exact thn (run_fnS (vs := [.ref p1, .ref p2]) F hr hb (passAt tk σ) I2 (.cons rfl (.cons rfl .nil)) q) fun v s3 h3 => cback_ep h3
theorem se_cmpO {op : CmpOp} {c : Nat} {sy : String} {nm rn : Str} (hop : cmpInfo op = (sy, nm, rn)) (hri : ∀ v u, compareOp op v u = richCompare op v u) (O : OpO X.K (e.ct c) nm f) (F : FnOk X.prog X.w X.K X.mg X.base (L2.CX X.prog X.w) k f fd ps (spOf e 2 g)) (hr : Room k X.A) (hb : Binds X.K fd ps []) (tk : Takes X W.w) (h1 : SE e X W a ma) (h2 : SE e X W b mb)
    (hm : behindInMarks op b = false) : SE e X W (.Compare a [op] [b] pos) (eBin c g ma mb) := by
  obtain ⟨ta, a1, a2⟩ := h1.ex
  obtain ⟨tb, b1, b2⟩ := h2.ex
  refine ⟨tBinS (e.ct c) (spOf e 2 g) (WE W.w) ta tb, ⟨fun pins s σ H Q I h => ?_⟩, bin_te rfl a2 b2⟩
  exact wpAny_Compare1 (bin a1 b1 I h fun v u s2 x y H2 I2 rx ry q => rich_te hop hri O F hr hb tk I2 rx ry q.1 q.2) hm
theorem st_cmpO {op : CmpOp} {c : Nat} {sy : String} {nm rn : Str} (hop : cmpInfo op = (sy, nm, rn)) (hri : ∀ v u, compareOp op v u = richCompare op v u) (O : OpO X.K (e.ct c) nm f) (F : FnOk X.prog X.w X.K X.mg X.base (L2.CX X.prog X.w) k f fd ps (spOf e 2 g)) (hr : Room k X.A) (hb : Binds X.K fd ps []) (tk : Takes X W.w) (h1 : SE e X W a ma) (h2 : SE e X W b mb)
    (hm : behindInMarks op b = false) : ST e X W (.Compare a [op] [b] pos) (tV (eBin c g ma mb)) := by
  obtain ⟨ta, a1, a2⟩ := h1.ex
  obtain ⟨tb, b1, b2⟩ := h2.ex
  have C : PC X op a b (tBinS (e.ct c) (spOf e 2 g) (WE W.w) ta tb) := ⟨fun pins s σ H Q I h => bin a1 b1 I h fun v u s2 x y H2 I2 rx ry q => rich_te hop hri O F hr hb tk I2 rx ry q.1 q.2⟩
  exact ⟨_, pt_cmp C hm, tTest_te (bin_te rfl a2 b2)⟩
def eNegO (c : Nat) (g : MS) (ma : ME) : ME := fun r => (fz ma r).bd fun d1 r1 => if isIns c d1 = true then callO [.val d1] r1 (g [.val d1]) else .no
theorem se_negO {c : Nat} (O : OpO X.K (e.ct c) "__neg__" f) (F : FnOk X.prog X.w X.K X.mg X.base (L2.CX X.prog X.w) k f fd ps (spOf e 1 g)) (hr : Room k X.A) (hb : Binds X.K fd ps []) (tk : Takes X W.w) (h1 : SE e X W a ma) : SE e X W (.UnaryOp .USub a pos) (eNegO c g ma) := by
  obtain ⟨ta, a1, a2⟩ := h1.fz.ex
  refine ⟨fun σ H Q => ta σ H fun x H1 => (∃ a dx fs, x = .ref a ∧ H1 a = some (.ins (e.ct c) dx fs)) ∧ spOf e 1 g [x] H1 Q (WE W.w σ), ⟨fun pins s σ H Q I h => ?_⟩, fun r σ H F fm Q hC R q => a2 r σ H F fm _ hC R ?_⟩
  · refine PyProof.Rows.UnaryOp_ (thn (a1.run pins s σ H _ I h) fun v s1 ⟨x, H1, I1, r1, ⟨p1, dx, fs, ex, i1⟩, q1⟩ => ?_)
    subst ex
    cases r1
    obtain ⟨ox, od, J⟩ := two_obj I1 i1
    obtain ⟨m, F0⟩ := I1.fr
    exact PySem.W.ksp_neg F0 I1.mod.kin J O.at_ O.fn (run_fnS (vs := [.ref p1]) F hr hb (passAt tk σ) I1 (.cons rfl .nil) q1)
  · refine (Po.bd q).mono fun d1 r1 H1 F1 R1 s1 q1 v1 hv1 => ?_
    by_cases z : isIns c d1 = true
    · rw [if_pos z] at q1
      obtain ⟨p1, dx, fs, rfl, i1⟩ := isIns_vw z (hv1.vw R1.fh)
      exact ⟨⟨p1, dx, fs, rfl, i1⟩, call_sp (l := [.val d1]) R1 ⟨_, _, rfl, hv1, rfl⟩ List.nodup_nil rfl q1⟩
    · rw [if_neg z] at q1; exact q1.elim

/-! ### isinstance -/
/-- what is asked of a class whose objects are asked -/
structure IsO (K : PySem.W.Frag) (C : Addr) : Prop where
  cl : Cls K C
  ha : PySem.W.findIn K (.ref C) "__class__" = some (some (.builtin "object.__class__"))
  hn : PySem.W.specialIn K (.builtin "object.__class__") "__get__" = some (some (.builtin "getset_descriptor.__get__"))
  htk : PySem.W.takesIn K (.builtin "object.__class__") = some true
  hm : PySem.W.mroIn K C (.type "object") = some true
/-- the type of a value: a built-in one, or a class's number -/
inductive Ty where
  | non | bl | int | str | tup | lst | dct | own (c : Nat)
def tyD : D → Ty
  | .non => .non
  | .bl _ => .bl
  | .int _ => .int
  | .str _ => .str
  | .tup _ => .tup
  | .lst _ => .lst
  | .scr _ => .lst
  | .dK _ _ => .dct
  | .dT _ _ => .dct
  | .ins c _ => .own c
/-- isinstance(x, T): the answer by the type's table -/
def isiD (tb : Ty → Option Bool) (d : D) : Option R0 := match d with
  | .dT _ _ => none
  | d => (tb (tyD d)).map fun b => .val (.bl b)
def tyV' (e : En) : Ty → Value
  | .non => .type "NoneType"
  | .bl => .type "bool"
  | .int => .type "int"
  | .str => .type "str"
  | .tup => .type "tuple"
  | .lst => .type "list"
  | .dct => .type "dict"
  | .own c => .ref (e.ct c)
theorem tyX_of {H F : Hp} {d : D} {v : V} (hT : ∀ ks l, d ≠ .dT ks l) (hI : ∀ c l, d = .ins c l → IsO e.K (e.ct c)) (h : Vw e H F d v) : TyX e.K H v (tyV' e (tyD d)) := by
  cases d with
  | non => cases h; exact .base .non
  | bl b => cases h; exact .base (.bl b)
  | int i => cases h; exact .base (.int i)
  | str x => cases h; exact .base (.str x)
  | tup l =>
    obtain ⟨a, vs, rfl, h1, _⟩ := h
    exact .base (.tup h1)
  | lst l =>
    obtain ⟨a, vs, rfl, h1, _⟩ := h
    exact .base (.lst h1)
  | scr l =>
    obtain ⟨a, vs, rfl, h1, _⟩ := h
    rcases h1 with (h1 | ⟨o, h1⟩) | ⟨o, its, n, h1, h2, _⟩
    · exact .base (.lst h1)
    · exact .base (.frz h1)
    · exact .kList h1 h2
  | dK ks l =>
    obtain ⟨a, vs, rfl, h1, _⟩ := h
    rcases h1 with h1 | ⟨_, o, h1⟩
    · exact .base (.dK h1)
    · exact .fDict h1
  | dT ks l => exact (hT ks l rfl).elim
  | ins c l =>
    obtain ⟨a, dx, vs, rfl, h1, _⟩ := h
    have I := hI c l rfl
    exact .base (.ins h1 I.cl I.ha I.hn I.htk I.hm)
theorem se_isi {tb : Ty → Option Bool} {cE : Expr} {cv : V} {cu : Value} (hK : X.K = e.K) (hcls : ClsV cv cu) (htb : ∀ t b, tb t = some b → PySem.W.kitOne e.K (tyV' e t) cu = some b) (hI : ∀ c b, tb (.own c) = some b → IsO e.K (e.ct c)) (h : SE e X W a ma)
    (hC : PE X cE (tC cv)) (hm : X.mg "isinstance" = none) (hg : Gl X "isinstance")
    (hst : starEach [a, cE] X.env = (false, eval a X.env) :: starEach [cE] X.env := by rfl) (hst2 : starEach [cE] X.env = (false, eval cE X.env) :: starEach [] X.env := by rfl) (hpl : (backTo pos (starEach [cE] X.env)).any (·.1) = false := by rfl) :
    SE e X W (.Call (.Name "isinstance" p) [a, cE] [] pos) (eUn (isiD tb) ma) := by
  obtain ⟨ta, a1, a2⟩ := h.ex
  refine ⟨_, pe_callB call_isi hg hm (by decide +kernel) (pa_cons a1 (pa_cons hC pa_nil hst2) hst) (by decide) (by decide) hst hpl, ?_⟩
  refine tUn_te (r := fun x H Q => rIsi X.K [x, cv] H Q) (fun d v H F Q hv q => ?_) a2
  have hq : ∀ {ks l}, d ≠ .dT ks l := fun {ks l} z => by subst z; exact q
  have q' : PQ e H F ((tb (tyD d)).map fun b => .val (.bl b)) Q := by
    cases d <;> first | exact q | exact q.elim
  cases z : tb (tyD d) with
  | none => rw [z] at q'; exact q'.elim
  | some b =>
    rw [z] at q'
    refine ⟨v, cv, _, cu, b, rfl, hcls, by rw [hK]; exact tyX_of (fun ks l => hq) (fun c l hd => hI c b (by rw [← z, hd]; rfl)) hv, by rw [hK]; exact htb _ _ z, q' _ rfl⟩

/-! ### raise -/
def sRaise (x : Ex) : MS := fun r => .ex x r
theorem ss_raise {c : Nat} {ex : Expr} {io : List Nat} (hc : X.calm = true) (tk : Takes X W.w) (h : PMk X ex (fun _ H Q => Q (.ref (e.ct c)) none H)) : SS e X W io (.Raise (some ex) none pos) (sRaise ⟨c, []⟩) :=
  ⟨_, ps_raise hc tk h, fun r σ H F fm D hC hp R q => q _ none σ H F R (Same.refl _) ⟨rfl, .inl ⟨rfl, rfl⟩⟩⟩

/-! ### try -/
/-- the canonical reading of a block by its mirror -/
def canS (e : En) (W : Wi) (io : List Nat) (m : MS) : TS := fun D σ H => ∃ r F fm, W.c fm ∧ (∀ q ∈ fm.pn, q.1 ∈ io) ∧ Rl e r σ H F fm ∧ PoS e W fm F D (m r)
theorem SB.can {st : List Stmt} {io : List Nat} {m : MS} (h : SB e X W io st m) : PSs X st (canS e W io m) := by
  obtain ⟨t, h1, h2⟩ := h.ex
  exact ⟨fun pins s σ H D I ⟨r, F, fm, hC, hp, R, q⟩ => h1.run pins s σ H D I (h2 r σ H F fm D hC hp R q)⟩
/-- an exception that a clause takes: by its class's number -/
def sTry (tb : Nat → Option Bool) (body : MS) (suite : Ex → MS) : MS := fun r => match body r with
  | .ex x r1 => match tb x.c with
    | some true => suite x r1
    | some false => .ex x r1
    | none => .no
  | o => o
theorem Rl.setU {r : Rho} {σ : St} {H F : Hp} {fm : Fm} (R : Rl e r σ H F fm) (i : Nat) (x : Option V) (hp : ∀ q ∈ fm.pn, q.1 ≠ i) : Rl e (r.set i .un) (σ.set i x) H F fm := by
  have R1 := R.drop i
  have no : ∀ {j : Nat} {lv : LV}, (r.set i .un)[j]? = some lv → lv ≠ .un → j ≠ i := fun {j lv} h n z => by
    subst z
    have hl : j < r.length := by have := (List.getElem?_eq_some_iff.mp h).1; rwa [List.length_set] at this
    rw [List.getElem?_set_self hl] at h
    cases h
    exact n rfl
  exact {
    fh := R1.fh
    gh := R1.gh
    bf := R1.bf
    bh := R1.bh
    bt := R1.bt
    ln := by rw [List.length_set]; exact R1.ln
    va := fun j d h => by
      have n := no h (by simp)
      rw [set_get_ne n]; exact R1.va j d h
    ow := fun j d h => by
      have n := no h (by simp)
      rw [set_get_ne n]; exact R1.ow j d h
    ap := fun j k d d' p h1 h2 h3 h4 => by
      rw [set_get_ne (no h1 (by simp))] at h3
      rw [set_get_ne (no h2 (by simp))] at h4
      exact R1.ap j k d d' p h1 h2 h3 h4
    pn := fun q hq => by rw [set_get_ne (hp q hq)]; exact R1.pn q hq }
/-- within a suite: nothing leaves; slot i holds the exception at a -/
def wSu (i : Nat) (a : Addr) : Wi := ⟨fun _ _ _ _ => False, fun fm => (i, V.ref a) ∈ fm.pn⟩
abbrev wSo : Wi := ⟨fun _ _ _ _ => False, fun _ => True⟩
/-- behind a suite: slot i is forgotten, nothing was raised -/
def aft (i : Nat) : So → So
  | .nx r => .nx (r.set i .un)
  | .bk r => .bk (r.set i .un)
  | .ct r => .ct (r.set i .un)
  | .rt a r => .rt a r
  | _ => .no
def noX : So → So
  | .ex _ _ => .no
  | o => o
def sTryA (i : Nat) (tb : Nat → Option Bool) (body : MS) (suite : Ex → MS) : MS := sTry tb body fun x r => if i < r.length then aft i (suite x (r.set i .un)) else .no
def sTryO (tb : Nat → Option Bool) (body : MS) (suite : Ex → MS) : MS := sTry tb body fun x r => noX (suite x r)
theorem Rl.pinned {r : Rho} {σ : St} {H F G : Hp} {B : Addr → Prop} {pn pn' : List (Nat × V)} (R : Rl e r σ H F ⟨G, B, pn⟩) (h : ∀ q ∈ pn', σ[q.1]? = some (some q.2)) : Rl e r σ H F ⟨G, B, pn'⟩ :=
  ⟨R.fh, R.gh, R.bf, R.bh, R.bt, R.ln, R.va, R.ow, R.ap, h⟩
theorem Rl.unpinned {r : Rho} {σ : St} {H F G : Hp} {B : Addr → Prop} {pn pn' : List (Nat × V)} (R : Rl e r σ H F ⟨G, B, pn⟩) (h : ∀ q ∈ pn', q ∈ pn) : Rl e r σ H F ⟨G, B, pn'⟩ :=
  ⟨R.fh, R.gh, R.bf, R.bh, R.bt, R.ln, R.va, R.ow, R.ap, fun q hq => R.pn q (h q hq)⟩
theorem sTry_post {tb : Nat → Option Bool} {body : MS} {suite : Ex → MS} {r : Rho} {F : Hp} {fm : Fm} {Dn : Ends} {w : WX} (q : PoS e W fm F Dn (sTry tb body suite r))
    (h : ∀ y r1, body r = .ex y r1 → ∀ cls d σ' H' F', Rl e r1 σ' H' F' fm → Same F F' → ExR e y cls d H' F' → (tb y.c = some true ∧ PoS e W fm F' Dn (suite y r1)) ∨ (tb y.c = some false ∧ W.w cls d σ' H') → w cls d σ' H') : PoS e ⟨w, W.c⟩ fm F Dn (body r) := by
  unfold sTry at q
  cases z : body r with
  | nx r1 => rw [z] at q; exact q
  | rt a r1 => rw [z] at q; exact q
  | bk r1 => rw [z] at q; exact q
  | ct r1 => rw [z] at q; exact q
  | no => rw [z] at q; exact q
  | ex y r1 =>
    rw [z] at q
    intro cls d σ' H' F' R' s hx
    have q1 : PoS e W fm F Dn (match tb y.c with
      | some true => suite y r1
      | some false => .ex y r1
      | none => .no) := q
    refine h y r1 z cls d σ' H' F' R' s hx ?_
    cases y' : tb y.c with
    | none => rw [y'] at q1; exact q1.elim
    | some b =>
      rw [y'] at q1
      cases b with
      | true => exact .inl ⟨rfl, PoS.le s q1⟩
      | false => exact .inr ⟨rfl, q1 cls d σ' H' F' R' s hx⟩
theorem ss_try_as {i : Nat} {x n : Str} {c : Value} {io : List Nat} {body suite : List Stmt} {b₀ : Stmt} {np pos' : Pos} {tb : Nat → Option Bool} {mb : MS} {ms : Ex → MS} (hi : i ∉ io)
    (hs : X.stack = X.env :: X.outer) (hf : X.env.frame = some X.env.locals) (hN : X.N.Nodup) (hx : X.N[i]? = some n) (hln : X.env.kindOf n = some .local) (hc : Names X x c) (tk : Takes X W.w) (hK : X.K = e.K)
    (htb : ∀ k b, tb k = some b → PySem.W.exmOne e.K (.ref (e.ct k)) c = some b)
    (hb : ∀ (w : WX) (pn : List (Addr × Obj)) (xe : Value → Shared → Prop), Takes (X.tr pn xe) w → PassesOwn (model X.prog X.w) X.A X.env xe → SB e (X.tr pn xe) ⟨w, W.c⟩ io body mb)
    (hsu : ∀ (y : Ex) (a : Addr) (oe : Obj) (d : Option Addr) (pn : List (Addr × Obj)), tb y.c = some true → Zc (.ref (e.ct y.c)) d oe → (∃ vs, oe.data = .fields vs) → (e.fl y.c = [] → d = none) → SB e (X.suite a ((a, oe) :: pn)) (wSu i a) (i :: io) (b₀ :: suite) (ms y)) :
    SS e X W io (.Try body [.ExceptHandler (some (.Name x np)) (some n) (b₀ :: suite) pos'] [] [] pos) (sTryA i tb mb ms) := by
  have hb' : ∀ (w : WX) (pn : List (Addr × Obj)) (xe : Value → Shared → Prop), Takes (X.tr pn xe) w → PassesOwn (model X.prog X.w) X.A X.env xe → PSs (X.tr pn xe) body (canS e ⟨w, W.c⟩ io mb) := fun w pn xe h1 h2 => (hb w pn xe h1 h2).can
  refine ⟨_, ps_try_as (tb := fun w => canS e ⟨w, W.c⟩ io mb) (ts := fun a cls d D σ H => ∃ y, tb y.c = some true ∧ cls = .ref (e.ct y.c) ∧ (e.fl y.c = [] → d = none) ∧ canS e (wSu i a) (i :: io) (ms y) D σ H) hs hf hN hx hln hc tk hb' (fun a oe cls d pn hz hd => ⟨fun pins s σ H D I ⟨y, h0, h1, h2, h3⟩ => ?_⟩), fun r σ H F fm D hC hp R q => ?_⟩
  · subst h1
    exact (hsu y a oe d pn h0 hz hd h2).can.run pins s σ H D I h3
  · refine ⟨r, F, fm, hC, hp, R, sTry_post q fun y r1 hy cls d σ' H' F' R' s hx' hor => ?_⟩
    have hcls : cls = .ref (e.ct y.c) := hx'.1
    have hd : e.fl y.c = [] → d = none := fun z => by
      rcases hx'.2 with ⟨_, h⟩ | ⟨a, vs, h, _, _, _, h2⟩
      · exact h
      · exact (h (List.eq_nil_of_length_eq_zero (by rw [h2, z]; rfl))).elim
    have np : ∀ q ∈ fm.pn, q.1 ≠ i := fun q hq z => hi (by rw [← z]; exact hp q hq)
    rcases hor with ⟨t, q1⟩ | ⟨t, q1⟩
    · by_cases hlt : i < r1.length
      · rw [if_pos hlt] at q1
        refine ⟨true, by rw [hK, hcls]; exact htb _ _ t, fun _ a ha => ⟨y, t, hcls, hd, r1.set i .un, F', ⟨fm.G, fm.B, (i, .ref a) :: fm.pn⟩, List.mem_cons_self, fun q hq => ?_, ?_, ?_⟩, fun z => by cases z⟩
        · rcases List.mem_cons.mp hq with rfl | hq
          · exact List.mem_cons_self
          · exact List.mem_cons_of_mem _ (hp q hq)
        · exact (R'.setU i (some (.ref a)) np).pinned fun q hq => by
            rcases List.mem_cons.mp hq with rfl | hq
            · exact List.getElem?_set_self (by rw [R'.ln]; exact hlt)
            · exact (R'.setU i (some (.ref a)) np).pn q hq
        · cases z : ms y (r1.set i .un) with
          | nx r2 => rw [z] at q1; exact fun σ2 H2 F2 R2 s2 => q1 _ H2 F2 ((R2.unpinned fun q hq => List.mem_cons_of_mem _ hq).setU i none np) s2
          | bk r2 => rw [z] at q1; exact fun σ2 H2 F2 R2 s2 => q1 _ H2 F2 ((R2.unpinned fun q hq => List.mem_cons_of_mem _ hq).setU i none np) s2
          | ct r2 => rw [z] at q1; exact fun σ2 H2 F2 R2 s2 => q1 _ H2 F2 ((R2.unpinned fun q hq => List.mem_cons_of_mem _ hq).setU i none np) s2
          | rt b r2 =>
            rw [z] at q1
            intro v σ2 H2 F2 R2 s2 hv
            refine q1 v σ2 H2 F2 (R2.unpinned fun q hq => List.mem_cons_of_mem _ hq) s2 ?_
            cases b with
            | val d => exact hv
            | own d => exact hv
          | ex y2 r2 => rw [z] at q1; exact q1.elim
          | no => rw [z] at q1; exact q1.elim
      · rw [if_neg hlt] at q1; exact q1.elim
    · exact ⟨false, by rw [hK, hcls]; exact htb _ _ t, fun z => (by cases z), fun _ => q1⟩
theorem ss_try_only {x : Str} {c : Value} {io : List Nat} {body suite : List Stmt} {b₀ : Stmt} {np pos' : Pos} {tb : Nat → Option Bool} {mb : MS} {ms : Ex → MS}
    (hs : X.stack = X.env :: X.outer) (hf : X.env.frame = some X.env.locals) (hc : Names X x c) (tk : Takes X W.w) (hK : X.K = e.K)
    (htb : ∀ k b, tb k = some b → PySem.W.exmOne e.K (.ref (e.ct k)) c = some b)
    (hb : ∀ (w : WX) (pn : List (Addr × Obj)) (xe : Value → Shared → Prop), Takes (X.tr pn xe) w → PassesOwn (model X.prog X.w) X.A X.env xe → SB e (X.tr pn xe) ⟨w, W.c⟩ io body mb)
    (hsu : ∀ (y : Ex) (a : Addr) (oe : Obj) (d : Option Addr) (pn : List (Addr × Obj)), tb y.c = some true → Zc (.ref (e.ct y.c)) d oe → (∃ vs, oe.data = .fields vs) → (e.fl y.c = [] → d = none) → SB e (X.suite a ((a, oe) :: pn)) wSo io (b₀ :: suite) (ms y)) :
    SS e X W io (.Try body [.ExceptHandler (some (.Name x np)) none (b₀ :: suite) pos'] [] [] pos) (sTryO tb mb ms) := by
  have hb' : ∀ (w : WX) (pn : List (Addr × Obj)) (xe : Value → Shared → Prop), Takes (X.tr pn xe) w → PassesOwn (model X.prog X.w) X.A X.env xe → PSs (X.tr pn xe) body (canS e ⟨w, W.c⟩ io mb) := fun w pn xe h1 h2 => (hb w pn xe h1 h2).can
  refine ⟨_, ps_try_only (tb := fun w => canS e ⟨w, W.c⟩ io mb) (ts := fun a cls d D σ H => ∃ y, tb y.c = some true ∧ cls = .ref (e.ct y.c) ∧ (e.fl y.c = [] → d = none) ∧ canS e wSo io (ms y) D σ H) hs hf hc tk hb' (fun a oe cls d pn hz hd => ⟨fun pins s σ H D I ⟨y, h0, h1, h2, h3⟩ => ?_⟩), fun r σ H F fm D hC hp R q => ?_⟩
  · subst h1
    exact (hsu y a oe d pn h0 hz hd h2).can.run pins s σ H D I h3
  · refine ⟨r, F, fm, hC, hp, R, sTry_post q fun y r1 hy cls d σ' H' F' R' s hx' hor => ?_⟩
    have hcls : cls = .ref (e.ct y.c) := hx'.1
    have hd : e.fl y.c = [] → d = none := fun z => by
      rcases hx'.2 with ⟨_, h⟩ | ⟨a, vs, h, _, _, _, h2⟩
      · exact h
      · exact (h (List.eq_nil_of_length_eq_zero (by rw [h2, z]; rfl))).elim
    rcases hor with ⟨t, q1⟩ | ⟨t, q1⟩
    · refine ⟨true, by rw [hK, hcls]; exact htb _ _ t, fun _ a ha => ⟨y, t, hcls, hd, r1, F', fm, trivial, hp, R', ?_⟩, fun z => by cases z⟩
      cases z : ms y r1 with
      | nx r2 => rw [z] at q1; exact q1
      | bk r2 => rw [z] at q1; exact q1
      | ct r2 => rw [z] at q1; exact q1
      | rt b r2 => rw [z] at q1; exact q1
      | ex y2 r2 => rw [z] at q1; exact q1.elim
      | no => rw [z] at q1; exact q1.elim
    · exact ⟨false, by rw [hK, hcls]; exact htb _ _ t, fun z => (by cases z), fun _ => q1⟩
/-- isinstance of the exception that the suite holds (no own dict) -/
def eIsE (i : Nat) (b : Bool) : ME := fun r => .ok (.val (.bl b)) r
theorem se_isE {i : Nat} {a : Addr} {oe : Obj} {pn : List (Addr × Obj)} {C : Addr} {n : Str} {np : Pos} {cE : Expr} {cv : V} {cu : Value} {b : Bool} (hE : ExcC X.K C) (hz : Zc (.ref C) none oe) (hf : ∃ vs, oe.data = .fields vs) (hb : PySem.W.kitOne X.K (.ref C) cu = some b) (hcls : ∀ u, RelV cv u → u = cu)
    (hn : X.N[i]? = some n) (hv : Vis X.env.scope n) (hd : (n == ("__debug__" : Str)) = false) (hcd : (n == ("__classdict__" : Str)) = false) (hCl : PE (X.suite a ((a, oe) :: pn)) cE (tC cv)) (hm : X.mg "isinstance" = none) (hg : Gl X "isinstance")
    (hst : starEach [.Name n np, cE] X.env = (false, eval (.Name n np) X.env) :: starEach [cE] X.env := by rfl) (hst2 : starEach [cE] X.env = (false, eval cE X.env) :: starEach [] X.env := by rfl) (hpl : (backTo pos (starEach [cE] X.env)).any (·.1) = false := by rfl) :
    SE e (X.suite a ((a, oe) :: pn)) (wSu i a) (.Call (.Name "isinstance" p) [.Name n np, cE] [] pos) (eIsE i b) := by
  refine ⟨_, pe_callB (X := X.suite a ((a, oe) :: pn)) (call_isE hE hz hf) hg hm (by decide +kernel) (pa_cons (pe_var (X := X.suite a ((a, oe) :: pn)) hn hv hd hcd) (pa_cons hCl pa_nil hst2) hst) (by decide) (by decide) hst hpl, fun r σ H F fm Q hC R q => ?_⟩
  have hs : σ[i]? = some (some (.ref a)) := R.pn _ hC
  exact ⟨.ref a, hs, cv, cu, b, rfl, hcls, hb, q H F R (Same.refl _) _ rfl⟩
theorem se_isEY {i : Nat} {a : Addr} {oe : Obj} {d : Option Addr} {pn : List (Addr × Obj)} {n : Str} {np : Pos} {cE : Expr} {cv : V} {cu : Value} {y : Ex} {tb : Nat → Option Bool} {ix : Nat → Bool}
    (hx : ∀ k, tb k = some true → ExcC X.K (e.ct k) ∧ e.fl k = [] ∧ PySem.W.kitOne X.K (.ref (e.ct k)) cu = some (ix k)) (ht : tb y.c = some true) (hz : Zc (.ref (e.ct y.c)) d oe) (hf : ∃ vs, oe.data = .fields vs) (hd : e.fl y.c = [] → d = none) (hcls : ∀ u, RelV cv u → u = cu)
    (hn : X.N[i]? = some n) (hv : Vis X.env.scope n) (hdb : (n == ("__debug__" : Str)) = false) (hcd : (n == ("__classdict__" : Str)) = false) (hCl : PE (X.suite a ((a, oe) :: pn)) cE (tC cv)) (hm : X.mg "isinstance" = none) (hg : Gl X "isinstance")
    (hst : starEach [.Name n np, cE] X.env = (false, eval (.Name n np) X.env) :: starEach [cE] X.env := by rfl) (hst2 : starEach [cE] X.env = (false, eval cE X.env) :: starEach [] X.env := by rfl) (hpl : (backTo pos (starEach [cE] X.env)).any (·.1) = false := by rfl) :
    SE e (X.suite a ((a, oe) :: pn)) (wSu i a) (.Call (.Name "isinstance" p) [.Name n np, cE] [] pos) (eIsE i (ix y.c)) := by
  obtain ⟨h1, h2, h3⟩ := hx y.c ht
  have := hd h2
  subst this
  exact se_isE h1 hz hf h3 hcls hn hv hdb hcd hCl hm hg hst hst2 hpl
end
end Mi

end
section
set_option maxRecDepth 100000
/-! Mi8: short words for a printed derivation; the end of a law. -/
namespace Mi
open PySem L2
open PyProof.Rows (envOfC)

/-- a name of a def at its slot -/
structure VarOk (N : List Str) (sc : Scope) (i : Nat) (x : Str) : Prop where
  hN : N[i]? = some x
  hv : Vis sc x
  hd : (x == ("__debug__" : Str)) = false
  hc : (x == ("__classdict__" : Str)) = false
section
variable {e : En} {X : Cx} {W : Wi} {io : List Nat} {a b o ix : Expr} {m n : ME} {pos pos' px : Pos} {i : Nat} {x : Str} {es : List Expr} {p : Pos}
theorem se_varK (v : VarOk X.N X.env.scope i x) : SE e X W (.Name x pos) (eVar i) := se_var v.hN v.hv v.hd v.hc
theorem ss_stLK (hu : X.A.units + 100 < cLine) (v : VarOk X.N X.env.scope i x) (h : SE e X W a m) (hi : SE e X W ix n)
    (hs : swapsWithSole [.Subscript (.Name x px) ix pos'] a pos.line X.env = pure false := by rfl) (hw : swappedStores [.Subscript (.Name x px) ix pos'] a X.env = pure none := by rfl)
    (h1 : (assignEach [.Subscript (.Name x px) ix pos'] X.env).map (·.2) = [assign (.Subscript (.Name x px) ix pos') X.env] := by rfl)
    (ha : ∀ v, assign (.Subscript (.Name x px) ix pos') X.env v = (do
      let ov ← holding [v] (eval (.Name x px) X.env)
      let iv ← holding [v, ov] (eval ix X.env)
      standAt pos'
      holding [v, ov, iv] (setItem ov iv v)
      release [v, ov, iv] []) := by intro _; rfl) : SS e X W io (.Assign [.Subscript (.Name x px) ix pos'] a pos) (sStL i n m) := ss_stL hu v.hN v.hv v.hd v.hc h hi hs hw h1 ha
theorem ss_fldK {c j : Nat} {f : Str} (C : ClO X.K e c) (hf : (e.fl c)[j]? = some f) (v : VarOk X.N X.env.scope i x) (h : SE e X W a m)
    (hs : swapsWith a (some (.Attribute (.Name x px) f pos')) pos.line X.env = pure false := by rfl) : SS e X W io (.Assign [.Attribute (.Name x px) f pos'] a pos) (sFldM i c j m) := ss_fld C hf v.hN v.hv v.hd v.hc h hs
theorem se_gint {k : Int} (hm : ∃ t, X.mg x = some (.int k t)) (hg : Gl X x) (hd : (x == ("__debug__" : Str)) = false := by decide) : SE e X W (.Name x pos) (eC (.int k)) := by
  obtain ⟨t, hm⟩ := hm
  exact se_glob (v := .int k) hg hm ⟨t, rfl⟩ (fun _ => rfl) hd
theorem se_gstr {k : Str} (hm : ∃ t, X.mg x = some (.str k t)) (hg : Gl X x) (hd : (x == ("__debug__" : Str)) = false := by decide) : SE e X W (.Name x pos) (eC (.str k)) := by
  obtain ⟨t, hm⟩ := hm
  exact se_glob (v := .str k) hg hm ⟨t, rfl⟩ (fun _ => rfl) hd
theorem se_makeX {c k n : Nat} {f : Addr} {fd : FuncData} {ps : List Str} {g : MS} {dvs : List V} {dds : List D} {w : Rho → Ou (List RV)} (M : Mk X.K (e.ct c) f) (F : FnOk X.prog X.w X.K X.mg X.base (L2.CX X.prog X.w) k f fd ps (spOf e n g)) (hr : Room (k + 1) X.A) (hg : Gl X x) (hm : X.mg x = some (.ref (e.ct c)))
    (hb : ∃ ds, Vals dvs ds ∧ Binds X.K fd ps ds) (hdd : ∀ F, RepL e F dds dvs) (tk : Takes X W.w) (hc : SC e X W (a :: es) w) (hn : es.length + 1 + dds.length + 1 = n)
    (hdb : (x == ("__debug__" : Str)) = false := by decide) (he : starEach (a :: es) X.env = (false, eval a X.env) :: starEach es X.env := by rfl) (hpl : (backTo pos (starEach es X.env)).any (·.1) = false := by rfl) : SE e X W (.Call (.Name x p) (a :: es) [] pos) (eMake c g dds w) := by
  obtain ⟨ds, hd, hb⟩ := hb
  exact se_make M F hr hg hm hb hd hdd tk hc hn hdb he hpl
end

/-! ### what isinstance and except ask -/
section
variable {K : PySem.W.Frag} {C D' : Addr} {t : Value} {b : Bool}
theorem kit_self : PySem.W.kitOne K (.ref C) (.ref C) = some true := by
  unfold PySem.W.kitOne
  rw [if_pos (beq_self_eq_true _)]
theorem kit_own (hd : PySem.W.hasDictIn K C = true) (ht : PySem.W.typeIn K (.ref C) = some (.type "type")) (hne : (t == Value.ref C) = false) (hs : PySem.W.subIn K t (.ref C) = some b) : PySem.W.kitOne K t (.ref C) = some b := by
  obtain ⟨cd, hc, _⟩ := PySem.W.any_some hd
  unfold PySem.W.kitOne
  rw [if_neg (by rw [hne]; exact Bool.false_ne_true)]
  show (if ((PySem.W.clsIn K C).isSome && PySem.W.typeIn K (.ref C) == some (.type "type")) = true then PySem.W.subIn K t (.ref C) else none) = some b
  rw [if_pos (by rw [hc, ht]; rfl)]
  exact hs
theorem kit_blt {T : String} (hm : PySem.W.kitMeta T = true) (hs : PySem.W.subIn K (.ref C) (.type T) = some b) : PySem.W.kitOne K (.ref C) (.type T) = some b := by
  unfold PySem.W.kitOne
  rw [if_neg (show ¬ (Value.ref C == Value.type T) = true by simp)]
  show (if PySem.W.kitMeta T = true then PySem.W.subIn K (.ref C) (.type T) else none) = some b
  rw [if_pos hm]
  exact hs
end

/-! ### the end -/
theorem law_sp {K : PySem.W.Frag} {e : En} {f : MS} (hK : e.K = K) (hlaw : ∀ ns : List Int, ns.length ≤ 63 → ∃ r', f [.val (.scr (ns.map .int))] = .rt (.val (.bl true)) r') (H : Hp) (a : Addr) (ns : List Int) (hl : ns.length ≤ 63) (hS : SqL K H a (ns.map V.int)) :
    spOf e 1 f [.ref a] H (fun v _ => v = .bl true) fun _ _ _ => False := by
  subst hK
  refine ⟨rfl, [.val (.scr (ns.map .int))], H, fun _ => none, fun _ => False, ?_, ?_⟩
  · exact {
      fh := fun a u q => .inl q
      gh := fun a u q => by cases q
      bf := fun a b => b.elim
      bh := fun a b => b.elim
      bt := fun a xs b => b.elim
      ln := rfl
      va := fun i d h => by
        cases i with
        | zero =>
          have h' : LV.val (.scr (ns.map .int)) = .val d := by simpa using h
          cases h'
          refine ⟨.ref a, rfl, a, _, rfl, hS, ?_⟩
          clear hS hl h
          induction ns with
          | nil => exact rfl
          | cons n r ih => exact ⟨.int n, _, rfl, rfl, ih⟩
        | succ i => simp at h
      ow := fun i d h => by
        cases i with
        | zero => simp at h
        | succ i => simp at h
      ap := fun i j d d' p h1 h2 h3 h4 => by
        cases i with
        | zero => simp at h1
        | succ i => simp at h1
      pn := fun q hq => by cases hq }
  · obtain ⟨r', h⟩ := hlaw ns hl
    rw [h]
    intro v H' F' R s hv
    exact hv
theorem law_walk {l : PySem.W.OpenLaw} {k : Nat} {q : Program} {loose : List Str} {XP : (Str → Option Value) → Heap → Prop} {YP : World → Heap → Prop} {d : DefRec} {K : Params → PySem.W.Frag} {f : MS} {x : Str} (hn : l.most = some 63) (hdf : d.params.defaults = []) (hr : Room k callerA)
    (hY : ∀ (w : World) (h : Heap), YP w h → (K w.params).In h)
    (hlaw : ∀ ns : List Int, ns.length ≤ 63 → ∃ r', f [.val (.scr (ns.map .int))] = .rt (.val (.bl true)) r')
    (F : ∀ (w : World) (mg : Str → Option Value) (fa : Addr) (h : Heap), (K w.params).In h → h.Ns mainGlobals mg → mg d.name = some (.ref fa) →
      ∃ (e : En) (fd : FuncData), e.K = K w.params ∧ (∀ (s : Shared) (u : Value), BindsTo s fd ⟨[u], []⟩ [(x, u)]) ∧
        ∀ base : Heap, (K w.params).In base → base.Ns mainGlobals mg → FnOk l.prog w (K w.params) mg base (L2.CX l.prog w) k fa fd [x] (spOf e 1 f)) :
    PySem.W.WalkO q loose XP YP l.row.toRowW d [] (fun f vs => PySem.call f vs) := by
  refine L2.walk_of (n := 63) (k := k) (x := x) (CX := fun w => L2.CX l.prog w) (sp := fun w vs H Q E => vs.length = 1 ∧ ∀ e : En, e.K = K w.params → spOf e 1 f vs H Q E) hn (by decide) hdf hr hY (fun w mg fa h KX G hmg => ?_) (fun w H a ns hl _ hS => ⟨rfl, fun e he => law_sp he hlaw H a ns hl hS⟩) fun w H s e s' z => ?_
  · obtain ⟨e, fd, he, hb, hF⟩ := F w mg fa h KX G hmg
    exact ⟨fd, hb, fun base kb gb => (hF base kb gb).imp fun vs H Q E z => z.2 e he⟩
  · obtain ⟨_, _, _, _, _, _, _, _, _, _, _, _, z⟩ := z
    exact z
end Mi

end
section
/-! Mi9: membership, methods of a slot's own list or dict, the empty dict. -/
namespace Mi
open PySem L2

/-! ### membership -/
def dV : D → V
  | .bl b => .bl b
  | .int i => .int i
  | .str x => .str x
  | _ => .non
def flD : D → Bool
  | .non => true
  | .bl _ => true
  | .int _ => true
  | .str _ => true
  | _ => false
def inS (x : D) (l : List D) : Option Bool := if flD x = true ∧ l.all flD = true then some (l.any fun y => eqV (dV y) (dV x)) else none
def inD (x c : D) : Option Bool := match c with
  | .lst l => inS x l
  | .tup l => inS x l
  | .dK ks l => match keyD x with
    | some k => some (vl ks l k).isSome
    | none => none
  | .dT ks l => match keyT x with
    | some k => some (vl ks l k).isSome
    | none => none
  | _ => none
def inDD (x c : D) : Option R0 := (inD x c).map fun b => .val (.bl b)
def niDD (x c : D) : Option R0 := (inD x c).map fun b => .val (.bl !b)
def rDIn (neg : Bool) : R2 := fun x y H Q => ∃ a o, y = .ref a ∧ DGet H a x o ∧ Q (.bl (if neg then !o.isSome else o.isSome)) H
abbrev rInA (K : PySem.W.Frag) (neg : Bool) : R2 := fun x y H Q => rIn K neg x y H Q ∨ rDIn neg x y H Q
section
variable {e : En} {X : Cx} {W : Wi} {a b c o ix : Expr} {m n : ME} {pos pos' : Pos} {F H : Hp} {σ : St} {r : Rho} {fm : Fm}
theorem op_inDct (hu : X.A.units + 100 < cLine) : OpR X (compareOp .In) (rDIn false) := by
  intro pins s σ H x y v u Q I rx ry h
  obtain ⟨a, o, rfl, g, q⟩ := h
  cases ry
  exact d_in (by omega) I g rx fun s' I' => ⟨.bl o.isSome, H, I', rfl, q⟩
theorem op_niDct (hu : X.A.units + 100 < cLine) : OpR X (compareOp .NotIn) (rDIn true) := by
  intro pins s σ H x y v u Q I rx ry h
  obtain ⟨a, o, rfl, g, q⟩ := h
  cases ry
  exact d_notIn (by omega) I g rx fun s' I' => ⟨.bl (!o.isSome), H, I', rfl, q⟩
theorem op_inA (hu : X.A.units + 100 < cLine) : OpR X (compareOp .In) (rInA X.K false) := op_in_seq.or (op_inDct hu)
theorem op_niA (hu : X.A.units + 100 < cLine) : OpR X (compareOp .NotIn) (rInA X.K true) := op_notIn_seq.or (op_niDct hu)
theorem fl_rep {d : D} {v : V} (h : flD d = true) (hv : Rep e F d v) : v = dV d ∧ flatV v = true := by
  cases d <;> first | (cases h; done) | (cases hv; exact ⟨rfl, rfl⟩)
theorem fl_vw {d : D} {v : V} (h : flD d = true) (hv : Vw e H F d v) : v = dV d ∧ flatV v = true := by
  cases d <;> first | (cases h; done) | (cases hv; exact ⟨rfl, rfl⟩)
theorem fl_all : ∀ {l : List D} {vs : List V}, l.all flD = true → RepL e F l vs → vs = l.map dV ∧ vs.all flatV = true
  | [], vs, _, h => by cases h; exact ⟨rfl, rfl⟩
  | d :: l, vs, q, ⟨v, r, e1, h1, h2⟩ => by
    subst e1
    rw [List.all_cons, Bool.and_eq_true] at q
    obtain ⟨i1, i2⟩ := fl_all q.2 h2
    obtain ⟨j1, j2⟩ := fl_rep q.1 h1
    refine ⟨by rw [i1, j1]; rfl, ?_⟩
    rw [List.all_cons, j2, i2]; rfl
theorem inS_ok {x : D} {l : List D} {vx : V} {vs : List V} {b : Bool} (h : inS x l = some b) (hx : Vw e H F x vx) (hl : RepL e F l vs) : flatV vx = true ∧ vs.all flatV = true ∧ inV vx vs = b := by
  unfold inS at h
  by_cases z : flD x = true ∧ l.all flD = true
  · rw [if_pos z] at h
    obtain ⟨i1, i2⟩ := fl_all z.2 hl
    obtain ⟨j1, j2⟩ := fl_vw z.1 hx
    refine ⟨j2, i2, ?_⟩
    cases h
    unfold inV
    rw [i1, j1, List.any_map]; rfl
  · rw [if_neg z] at h; cases h
theorem in_ok {x c : D} {vx vc : V} {b neg : Bool} {Q : VK} (h : inD x c = some b) (hx : Vw e H F x vx) (hc : Vw e H F c vc) (q : Q (.bl (if neg then !b else b)) H) : rInA e.K neg vx vc H Q := by
  cases c <;> first | (cases h; done) | skip
  · obtain ⟨p, vs, rfl, s1, r1⟩ := hc
    obtain ⟨f1, f2, f3⟩ := inS_ok h hx r1
    exact .inl ⟨p, vs, rfl, .inr (tupT s1), f1, f2, by rw [f3]; exact q⟩
  · obtain ⟨p, vs, rfl, s1, r1⟩ := hc
    obtain ⟨f1, f2, f3⟩ := inS_ok h hx r1
    exact .inl ⟨p, vs, rfl, .inl (sqL_of s1), f1, f2, by rw [f3]; exact q⟩
  · rename_i ks l
    obtain ⟨p, vs, rfl, s1, hl, r1⟩ := hc
    have h' : (match keyD x with
      | some k => some (vl ks l k).isSome
      | none => none) = some b := h
    cases y : keyD x with
    | none => rw [y] at h'; cases h'
    | some k =>
      rw [y] at h'
      have h2 : (vl ks l k).isSome = b := by simpa using h'
      have hv := vl_rep k r1 hl
      refine .inr ⟨p, valV (ks.zip vs) k, rfl, .inl ⟨_, k, s1.rd, keyD_v y hx, rfl⟩, ?_⟩
      cases w : vl ks l k with
      | none => rw [w] at hv h2; rw [hv]; subst h2; exact q
      | some d => rw [w] at hv h2; obtain ⟨v, e1, _⟩ := hv; rw [e1]; subst h2; exact q
  · rename_i ks l
    obtain ⟨p, vs, rfl, s1, hl, r1⟩ := hc
    have h' : (match keyT x with
      | some k => some (vl ks l k).isSome
      | none => none) = some b := h
    cases y : keyT x with
    | none => rw [y] at h'; cases h'
    | some k =>
      rw [y] at h'
      have h2 : (vl ks l k).isSome = b := by simpa using h'
      have hv := vl_rep k r1 hl
      obtain ⟨q1, rfl, hq⟩ := keyT_v y hx
      refine .inr ⟨p, valV (ks.zip vs) k, rfl, .inr ⟨_, k, q1, s1.rd, rfl, hq, rfl⟩, ?_⟩
      cases w : vl ks l k with
      | none => rw [w] at hv h2; rw [hv]; subst h2; exact q
      | some d => rw [w] at hv h2; obtain ⟨v, e1, _⟩ := hv; rw [e1]; subst h2; exact q
theorem p2_in : P2 e inDD (rInA e.K false) := fun d1 d2 v1 v2 H F Q h1 h2 q => by
  unfold inDD at q
  cases z : inD d1 d2 with
  | none => rw [z] at q; exact q.elim
  | some b => rw [z] at q; exact in_ok z h1 h2 (q _ rfl)
theorem p2_ni : P2 e niDD (rInA e.K true) := fun d1 d2 v1 v2 H F Q h1 h2 q => by
  unfold niDD at q
  cases z : inD d1 d2 with
  | none => rw [z] at q; exact q.elim
  | some b => rw [z] at q; exact in_ok z h1 h2 (q _ rfl)

/-! ### the empty dict -/
def eDct : ME := fun r => .ok (.own (.dK [] [])) r
theorem se_dct : SE e X W (.Dict [] [] pos) eDct := ⟨_, pe_dnewK, fun r σ H F fm Q hC R q p hp =>
  q _ F (R.new hp) (Same.refl _) _ ⟨p, rfl, R.tmp hp (show OR e F (.dK []) (.dK [] []) from ⟨[], rfl, rfl, rfl⟩)⟩⟩

/-- an empty dict whose keys will be tuples -/
def eDctT : ME := fun r => .ok (.own (.dT [] [])) r
theorem se_dctT : SE e X W (.Dict [] [] pos) eDctT := ⟨_, pe_dnewT, fun r σ H F fm Q hC R q p hp =>
  q _ F (R.new hp) (Same.refl _) _ ⟨p, rfl, R.tmp hp (show OR e F (.dT []) (.dT [] []) from ⟨[], rfl, rfl, rfl⟩)⟩⟩

/-! ### methods that change a slot's own container -/
def mthG (i : Nat) (f : D → List D → Option (D × D)) (ds : List D) (r1 : Rho) : Ou RV := match r1[i]? with
  | some (.own d) => match f d ds with
    | some (v, d') => .ok (.val v) (r1.set i (.own d'))
    | none => .no
  | _ => .no
def eMth (i : Nat) (kd : D → Bool) (f : D → List D → Option (D × D)) (w : Rho → Ou (List D)) : ME := fun r => match r[i]? with
  | some (.own d0) => if kd d0 = true then (w r).bd (mthG i f) else .no
  | _ => .no
def kdL : D → Bool
  | .lst _ => true
  | _ => false
def kdD : D → Bool
  | .dK _ _ => true
  | _ => false
/-- a method's promise about contents -/
structure MO (e : En) (T : String) (kd : D → Bool) (f : D → List D → Option (D × D)) (r : V → List V → Hp → VK → Prop) : Prop where
  ty : ∀ d u p H F, kd d = true → H p = some u → OR e F u d → tyV e.K T (.ref p) H
  ok : ∀ d u p H F ds vs v d' Q, H p = some u → OR e F u d → RepL e F ds vs → Und F H → f d ds = some (v, d') → (∀ u' w, OR e F u' d' → NT d' → Rep e F v w → Q w (upd H p u')) → r (.ref p) vs H Q
theorem mth_te {i : Nat} {T : String} {kd : D → Bool} {f : D → List D → Option (D × D)} {rr : V → List V → Hp → VK → Prop} {w : Rho → Ou (List D)} {t : TA} (M : MO e T kd f rr) (h : TeA e W t w) : TeE e W (tBM e.K T rr (tVar i) t) (eMth i kd f w) := fun r σ H F fm Q hC R q => by
  unfold eMth at q
  cases z : r[i]? with
  | none => rw [z] at q; exact q.elim
  | some lv =>
    rw [z] at q
    cases lv with
    | own d0 =>
      obtain ⟨p, u, h1, h2, h3, _⟩ := R.ow' i d0 z
      by_cases k : kd d0 = true
      · have q' : Po e W fm F σ (KE' e fm σ Q) (if kd d0 = true then (w r).bd (mthG i f) else .no) := q
        rw [if_pos k] at q'
        refine ⟨.ref p, h1, M.ty d0 u p H F k h2 h3, h r σ H F fm _ hC R ?_⟩
        refine (Po.bd q').mono fun ds r1 H1 F1 R1 s1 q1 vs hvs => ?_
        unfold mthG at q1
        cases z1 : r1[i]? with
        | none => rw [z1] at q1; exact q1.elim
        | some lv1 =>
          rw [z1] at q1
          cases lv1 with
          | own d =>
            obtain ⟨p1, u1, g1, g2, g3, _⟩ := R1.ow' i d z1
            rw [h1] at g1; cases g1
            have q2 : Po e W fm F1 σ (KE' e fm σ Q) (match f d ds with
              | some (v, d') => .ok (.val v) (r1.set i (.own d'))
              | none => .no) := q1
            cases y : f d ds with
            | none => rw [y] at q2; exact q2.elim
            | some vd =>
              rw [y] at q2
              exact M.ok d u1 p H1 F1 ds vs vd.1 vd.2 _ g2 g3 hvs R1.fh y fun u' w' o' nt' hw => q2 _ F1 (R1.mut z1 h1 o' nt') (Same.refl _) _ hw
          | _ => exact q1.elim
      · have q' : Po e W fm F σ (KE' e fm σ Q) (if kd d0 = true then (w r).bd (mthG i f) else .no) := q
        rw [if_neg k] at q'; exact q'.elim
    | _ => exact q.elim
theorem se_mth {i : Nat} {x : Str} {T id : String} {name : Str} {px apos cpos : Pos} {kd : D → Bool} {f : D → List D → Option (D × D)} {rr : V → List V → Hp → VK → Prop} {w : Rho → Ou (List D)} {ae : Expr} {es : List Expr} (v : VarOk X.N X.env.scope i x) (M : MO e T kd f rr)
    (pa : PlainAttrs T) (slot : Slot T name id) (hty : typeOf (.builtin id) = pure (.type "method_descriptor")) (hm : MtR X id rr) (hK : X.K = e.K) (h : SA e X W (ae :: es) w)
    (hbase : attributeBase (.Name x px) name X.env (eval (.Name x px) X.env) = eval (.Name x px) X.env := by rfl)
    (hfew : ((backTo cpos (starEach (ae :: es) X.env)).all (fun x => !x.1) && (backToKw cpos (keywordEach [] X.env)).all (fun x => x.1.isSome)
      && decide ((ae :: es).length + ([] : List Keyword).length + (if ([] : List Keyword).isEmpty then 0 else 1) < 30)) = true := by rfl)
    (hline : (apos.endLine == cpos.line) = true := by rfl) (hs : starEach (ae :: es) X.env = (false, eval ae X.env) :: starEach es X.env := by rfl) (hplain : (backTo cpos (starEach es X.env)).any (·.1) = false := by rfl) :
    SE e X W (.Call (.Attribute (.Name x px) name apos) (ae :: es) [] cpos) (eMth i kd f w) := by
  obtain ⟨t, a1, a2⟩ := h.ex
  exact ⟨_, pe_bm pa slot hty hm (pe_var v.hN v.hv v.hd v.hc) a1 hbase hfew hline hs hplain, by rw [hK]; exact mth_te M a2⟩
/-- list.append -/
def fAppend (d : D) (ds : List D) : Option (D × D) := match d, ds with
  | .lst l, [x] => if l.length < 1000000 then some (.non, .lst (l ++ [x])) else none
  | _, _ => none
theorem mo_append : MO e "list" kdL fAppend rAppend where
  ty := fun d u p H F k h o => by
    cases d <;> first | (cases k; done) | skip
    cases u <;> first | exact o.elim | exact .inl ⟨rfl, _, .inl (.inl h)⟩
  ok := fun d u p H F ds vs v d' Q h o rl un q k => by
    cases d <;> first | (cases q; done) | skip
    rename_i l
    match ds, q, rl with
    | [], q, _ => cases q
    | _ :: _ :: _, q, _ => cases q
    | [x], q, rl =>
      obtain ⟨vx, _, rfl, r1, rfl⟩ := rl
      have q' : (if l.length < 1000000 then some (D.non, D.lst (l ++ [x])) else none) = some (v, d') := q
      by_cases z : l.length < 1000000
      · rw [if_pos z] at q'
        cases q'
        cases u <;> first | exact o.elim | skip
        rename_i xs
        have ol : RepL e F l xs := o
        exact ⟨p, xs, vx, rfl, rfl, h, by rw [ol.len]; exact Nat.lt_of_lt_of_le z (by decide), k (.lst (xs ++ [vx])) .non (ol.app (RepL.one r1)) (fun l h => nomatch h) rfl⟩
      · rw [if_neg z] at q'; cases q'
/-- d.pop(k), the key in it -/
def dlL {κ α : Type} [DecidableEq κ] : List κ → List α → κ → List α
  | k' :: ks, d :: l, k => if k' = k then dlL ks l k else d :: dlL ks l k
  | _, _, _ => []
def dlK {κ : Type} [DecidableEq κ] (ks : List κ) (k : κ) : List κ := ks.filter fun k' => decide (k' ≠ k)
theorem dl_zip {κ : Type} [DecidableEq κ] : ∀ (ks : List κ) (vs : List V) (k : κ), ks.length = vs.length → dropK (ks.zip vs) k = (dlK ks k).zip (dlL ks vs k) ∧ (dlK ks k).length = (dlL ks vs k).length
  | [], _, _, _ => ⟨rfl, by unfold dlL dlK; rfl⟩
  | _ :: _, [], _, h => by cases h
  | k' :: ks, v :: vs, k, h => by
    obtain ⟨i1, i2⟩ := dl_zip ks vs k (by simpa using h)
    by_cases z : k' = k
    · have e1 : dropK ((k' :: ks).zip (v :: vs)) k = dropK (ks.zip vs) k := by unfold dropK; simp [z]
      have e2 : dlK (k' :: ks) k = dlK ks k := by unfold dlK; simp [z]
      have e3 : dlL (k' :: ks) (v :: vs) k = dlL ks vs k := by
        show (if k' = k then _ else _) = _
        rw [if_pos z]
      rw [e1, e2, e3]; exact ⟨i1, i2⟩
    · have e1 : dropK ((k' :: ks).zip (v :: vs)) k = (k', v) :: dropK (ks.zip vs) k := by unfold dropK; simp [z]
      have e2 : dlK (k' :: ks) k = k' :: dlK ks k := by unfold dlK; simp [z]
      have e3 : dlL (k' :: ks) (v :: vs) k = v :: dlL ks vs k := by
        show (if k' = k then _ else _) = _
        rw [if_neg z]
      rw [e1, e2, e3, i1]; exact ⟨rfl, by simp [i2]⟩
theorem dl_rep {κ : Type} [DecidableEq κ] {k : κ} : ∀ {ks : List κ} {l : List D} {vs : List V}, RepL e F l vs → RepL e F (dlL ks l k) (dlL ks vs k)
  | [], l, vs, h => by unfold dlL; exact rfl
  | _ :: _, [], vs, h => by cases h; unfold dlL; exact rfl
  | k' :: ks, d' :: l, vs, ⟨w, r, e1, h1, h2⟩ => by
    subst e1
    show RepL e F (if k' = k then dlL ks l k else d' :: dlL ks l k) (if k' = k then dlL ks r k else w :: dlL ks r k)
    by_cases z : k' = k
    · rw [if_pos z, if_pos z]; exact dl_rep h2
    · rw [if_neg z, if_neg z]; exact ⟨w, _, rfl, h1, dl_rep h2⟩
def fPopK (d : D) (ds : List D) : Option (D × D) := match d, ds with
  | .dK ks l, [x] => match keyD x with
    | some k => (vl ks l k).map fun v => (v, .dK (dlK ks k) (dlL ks l k))
    | none => none
  | _, _ => none
def rPopK : V → List V → Hp → VK → Prop := fun x vs H Q => ∃ a kvs k v, x = .ref a ∧ vs = [kV k] ∧ H a = some (.dK kvs) ∧ valV kvs k = some v ∧ Q v (upd H a (.dK (dropK kvs k)))
theorem mt_popK : MtR X "dict.pop" rPopK := by
  intro pins s σ H x xs v us Q I ro rs h
  obtain ⟨a, kvs, k, w, rfl, rfl, hH, hv, q⟩ := h
  cases ro
  obtain ⟨u, rfl, ru⟩ := Vals.one rs
  exact d_pop I hH ru hv (.inl rfl) fun w' s3 I3 rw' => ⟨w, _, I3, rw', q⟩
theorem mo_popK : MO e "dict" kdD fPopK rPopK where
  ty := fun d u p H F k h o => by
    cases d <;> first | (cases k; done) | skip
    cases u <;> first | exact o.elim | exact .inr (.inr (.inl ⟨rfl, .inl ⟨_, h⟩⟩))
  ok := fun d u p H F ds vs v d' Q h o rl un q kk => by
    cases d <;> first | (cases q; done) | skip
    rename_i ks l
    match ds, q, rl with
    | [], q, _ => cases q
    | _ :: _ :: _, q, _ => cases q
    | [x], q, rl =>
      obtain ⟨vx, _, rfl, r1, rfl⟩ := rl
      have q' : (match keyD x with
        | some k => (vl ks l k).map fun v => (v, D.dK (dlK ks k) (dlL ks l k))
        | none => none) = some (v, d') := q
      cases y : keyD x with
      | none => rw [y] at q'; cases q'
      | some k =>
        rw [y] at q'
        have q2 : ((vl ks l k).map fun v => (v, D.dK (dlK ks k) (dlL ks l k))) = some (v, d') := q'
        cases u <;> first | exact o.elim | skip
        obtain ⟨ws, e1, e2, e3⟩ := o
        subst e1
        have hv := vl_rep k e3 e2
        cases w : vl ks l k with
        | none => rw [w] at q2; cases q2
        | some d =>
          rw [w] at q2 hv
          cases q2
          obtain ⟨v', f1, f2⟩ := hv
          have ek : vx = kV k := by cases x <;> cases y <;> exact r1
          refine ⟨p, _, k, v', rfl, by rw [ek], h, f1, ?_⟩
          rw [(dl_zip ks ws k e2).1]
          exact kk _ v' ⟨_, rfl, (dl_zip ks ws k e2).2, dl_rep e3⟩ (fun l h => nomatch h) f2
end
end Mi

end
section
/-! Mi10: list comprehensions. -/
namespace Mi
open PySem L2

/-! ### canonical readings -/
def canE (e : En) (W : Wi) (m : ME) : TE := fun σ H Q => ∃ r F fm, W.c fm ∧ Rl e r σ H F fm ∧ Po e W fm F σ (KE' e fm σ Q) (m r)
def canT (e : En) (W : Wi) (m : MT) : TT := fun σ H Q => ∃ r F fm, W.c fm ∧ Rl e r σ H F fm ∧ Po e W fm F σ (KT Q) (m r)
/-- a target that stores into the slots vs alone -/
def TeGv (e : En) (vs : List Nat) (t : TG) (m : MG) : Prop := ∀ d v r r' σ H F fm Q, fm.pn = [] → Rl e r σ H F fm → Rep e F d v → m d r = some r' → (∀ σ' H' F', Rl e r' σ' H' F' fm → Same F F' → wipe σ' vs = wipe σ vs → Q σ' H') → t v σ H Q
def TeGvs (e : En) (vs : List Nat) (t : TGs) (m : List D → Rho → Option Rho) : Prop := ∀ ds ws r r' σ H F fm Q, fm.pn = [] → Rl e r σ H F fm → RepL e F ds ws → m ds r = some r' → (∀ σ' H' F', Rl e r' σ' H' F' fm → Same F F' → wipe σ' vs = wipe σ vs → Q σ' H') → t ws σ H Q
structure SGv (e : En) (X : Cx) (vs : List Nat) (tg : Expr) (m : MG) : Prop where
  ex : ∃ t, PG X tg t ∧ TeGv e vs t m
structure SGvs (e : En) (X : Cx) (vs : List Nat) (tg : List Expr) (m : List D → Rho → Option Rho) : Prop where
  ex : ∃ t, PGs X tg t ∧ TeGvs e vs t m
def canG (e : En) (vs : List Nat) (m : MG) : TG := fun v σ H Q => ∃ d r r' F fm, fm.pn = [] ∧ Rl e r σ H F fm ∧ Rep e F d v ∧ m d r = some r' ∧ ∀ σ' H' F', Rl e r' σ' H' F' fm → Same F F' → wipe σ' vs = wipe σ vs → Q σ' H'
/-- a clause's tests -/
structure STs (e : En) (X : Cx) (W : Wi) (ifs : List Expr) (m : MT) : Prop where
  ex : ∃ t, PTs X ifs t ∧ TeT e W t m
def tYesM : MT := fun r => .ok true r
/-- behind a turn: the block's own names are forgotten -/
def wipeR (r : Rho) : List Nat → Rho
  | [] => r
  | v :: vs => (wipeR r vs).set v .un
def lcL (g : MG) (t : MT) (el : ME) (vs : List Nat) : List D → Rho → List D → Ou RV
  | [], r, acc => .ok (.own (.lst acc)) r
  | d :: ds, r, acc => match g d r with
    | none => .no
    | some r1 => match t r1 with
      | .ok b r2 => if b = true then (match fz el r2 with
          | .ok x r3 => if acc.length < 1000000 then lcL g t el vs ds (wipeR r3 vs) (acc ++ [x]) else .no
          | _ => .no) else lcL g t el vs ds (wipeR r2 vs) acc
      | _ => .no
def eLc (g : MG) (mi : Rho → Ou (List D)) (t : MT) (el : ME) (vs : List Nat) : ME := fun r => (mi r).bd fun ds r1 => lcL g t el vs ds (wipeR r1 vs) []
section
variable {e : En} {X : Cx} {W : Wi} {io : List Nat} {a b c : Expr} {m n : ME} {pos : Pos} {H F G : Hp} {B : Addr → Prop} {pn : List (Nat × V)} {σ : St} {r : Rho} {fm : Fm}
theorem SE.can (h : SE e X W a m) : PE X a (canE e W m) := by
  obtain ⟨t, h1, h2⟩ := h.ex
  exact ⟨fun pins s σ H Q I ⟨r, F, fm, hC, R, q⟩ => h1.run pins s σ H Q I (h2 r σ H F fm Q hC R q)⟩
theorem STs.can {ifs : List Expr} {m : MT} (h : STs e X W ifs m) : PTs X ifs (canT e W m) := by
  obtain ⟨t, h1, h2⟩ := h.ex
  exact ⟨fun pins s σ H Q I ⟨r, F, fm, hC, R, q⟩ => h1.run pins s σ H Q I (h2 r σ H F fm Q hC R q)⟩
theorem SGv.can {vs : List Nat} {tg : Expr} {m : MG} (h : SGv e X vs tg m) : PG X tg (canG e vs m) := by
  obtain ⟨t, h1, h2⟩ := h.ex
  exact ⟨fun pins s σ H v u Q I rv ⟨d, r, r', F, fm, hp, R, hd, hm, q⟩ => h1.run pins s σ H v u Q I rv (h2 d v r r' σ H F fm Q hp R hd hm q)⟩
theorem sts_nil : STs e X W [] tYesM := ⟨_, pts_nil, fun r σ H F fm Q hC R q => q H F R (Same.refl _)⟩
theorem sts_one {m : MT} (h : ST e X W c m) : STs e X W [c] m := by
  obtain ⟨t, h1, h2⟩ := h.ex
  exact ⟨_, pts_one h1, h2⟩
theorem wipe_set (i : Nat) (x : Option V) : ∀ {vs : List Nat} (σ : St), i ∈ vs → wipe (σ.set i x) vs = wipe σ vs
  | v :: vs, σ, h => by
    unfold wipe
    by_cases z : i ∈ vs
    · rw [wipe_set i x σ z]
    · have e1 : i = v := by
        rcases List.mem_cons.mp h with h | h
        · exact h
        · exact (z h).elim
      subst e1
      have : ∀ us : List Nat, i ∉ us → wipe (σ.set i x) us = (wipe σ us).set i x := fun us => by
        induction us with
        | nil => intro _; rfl
        | cons u us ih =>
          intro hu
          have hu1 : i ≠ u := fun e => hu (e ▸ List.mem_cons_self)
          have hu2 : i ∉ us := fun h => hu (List.mem_cons_of_mem _ h)
          show (wipe (σ.set i x) us).set u none = ((wipe σ us).set u none).set i x
          rw [ih hu2, List.set_comm _ _ hu1]
      rw [this vs z, List.set_set]
theorem sgv_name {i : Nat} {x : Str} {vs : List Nat} (hi : i ∈ vs) (hN : X.N.Nodup) (hx : X.N[i]? = some x) (hl : Loc X.env.scope x) (hf : X.fn x = true ∨ X.env.scope.names.lookup x = some .local) : SGv e X vs (.Name x pos) (gN i) :=
  ⟨_, pg_name hN hx hl hf, fun d v r r' σ H F fm Q hp R hv h q => by
    cases h
    exact q _ H F (R.setV hv fun q hq z => by rw [hp] at hq; cases hq) (Same.refl _) (wipe_set i _ σ hi)⟩
theorem sgvs_nil {vs : List Nat} : SGvs e X vs [] gNilM := ⟨_, pgs_nil, fun ds ws r r' σ H F fm Q hp R hv h q => by
  cases ds with
  | nil => cases h; cases hv; exact ⟨rfl, q σ H F R (Same.refl _) rfl⟩
  | cons d ds => cases h⟩
theorem sgvs_cons {vs : List Nat} {tg : Expr} {ts : List Expr} {g : MG} {gs : List D → Rho → Option Rho} (h1 : SGv e X vs tg g) (h2 : SGvs e X vs ts gs)
    (hs : (assignEach (tg :: ts) X.env).map (·.2) = assign tg X.env :: (assignEach ts X.env).map (·.2) := by rfl) : SGvs e X vs (tg :: ts) (gConsM g gs) := by
  obtain ⟨t, a1, a2⟩ := h1.ex
  obtain ⟨t', b1, b2⟩ := h2.ex
  refine ⟨_, pgs_cons a1 b1 hs, fun ds ws r r' σ H F fm Q hp R hv h q => ?_⟩
  cases ds with
  | nil => cases h
  | cons d ds =>
    obtain ⟨v, vr, rfl, h3, h4⟩ := hv
    have h' : (g d r).bind (gs ds) = some r' := h
    obtain ⟨r1, g1, g2⟩ := Option.bind_eq_some_iff.mp h'
    exact ⟨v, vr, rfl, a2 d v r r1 σ H F fm _ hp R h3 g1 fun σ' H' F' R' s' w' => b2 ds vr r1 r' σ' H' F' fm Q hp R' (h4.mono s') g2 fun σ2 H2 F2 R2 s2 w2 => q σ2 H2 F2 R2 (s'.trans s2) (w2.trans w')⟩
theorem sgv_tup {vs : List Nat} {es : List Expr} {k : Nat} {gs : List D → Rho → Option Rho} {n : Nat} (hK : X.K = e.K) (hc : X.calm = true) (h : SGvs e X vs es gs)
    (hn : (assignEach es X.env).length = n := by rfl) (hst : (assignEach es X.env).findIdx? (·.1) = none := by rfl) : SGv e X vs (.Tuple es k pos) (gTupM n gs) := by
  obtain ⟨t, a1, a2⟩ := h.ex
  refine ⟨_, pg_tup hc a1 hn hst, fun d v r r' σ H F fm Q hp R hv h q => ?_⟩
  cases d with
  | tup l =>
    have h' : (if l.length = n then gs l r else none) = some r' := h
    obtain ⟨p, ws, rfl, h1, h2⟩ := hv
    by_cases z : l.length = n
    · rw [if_pos z] at h'
      exact ⟨p, ws, rfl, by rw [hK]; exact R.fh.sqT (tupT h1), by rw [h2.len]; exact z, a2 l ws r r' σ H F fm Q hp R h2 h' q⟩
    · rw [if_neg z] at h'; cases h'
  | _ => cases h

/-! ### the list under way is kept from the element -/
def fmK (G : Hp) (B : Addr → Prop) (p : Addr) (u : HO) : Fm := ⟨L2.upd G p u, fun a => B a ∨ a = p, []⟩
theorem Rl.keep {p : Addr} {d : D} {u : HO} (R : Rl e r σ H F ⟨G, B, []⟩) (T : Tmp e r σ H F ⟨G, B, []⟩ p d) (hu : H p = some u) : Rl e r σ H F (fmK G B p u) := by
  obtain ⟨⟨u', t1, t2⟩, n, no⟩ := T
  exact {
    fh := R.fh
    bt := fun a xs h => by
      rcases h with h | rfl
      · exact R.bt a xs h
      · rw [hu]; rw [hu] at t1; cases t1; intro z; cases z; exact t2.nt xs rfl
    gh := fun a o q => by
      by_cases ha : a = p
      · subst ha
        have : L2.upd G a u a = some o := q
        rw [upd_same] at this
        cases this
        exact hu
      · have : L2.upd G p u a = some o := q
        rw [upd_ne ha] at this
        exact R.gh a o this
    bf := fun a h => by
      rcases h with h | rfl
      · exact R.bf a h
      · exact n.1
    bh := fun a h => by
      rcases h with h | rfl
      · exact R.bh a h
      · rw [hu]; simp
    ln := R.ln
    va := R.va
    ow := fun i d h => by
      obtain ⟨p', u', h1, h2, h3, h4⟩ := R.ow i d h
      have ne : p' ≠ p := fun z => no i d h (z ▸ h1)
      refine ⟨p', u', h1, h2, h3, h4.1, ?_, fun h => ?_⟩
      · show L2.upd G p u p' = none
        rw [upd_ne ne]; exact h4.2.1
      · rcases h with h | h
        · exact h4.2.2 h
        · exact ne h
    ap := R.ap
    pn := R.pn }
theorem Rl.unkeep {p : Addr} {d : D} {u : HO} (R : Rl e r σ H F (fmK G B p u)) (hG : G p = none) (hB : ¬ B p) (ho : OR e F u d) (nt : NT d := by (intro l h; cases h)) : Rl e r σ H F ⟨G, B, []⟩ ∧ Tmp e r σ H F ⟨G, B, []⟩ p d ∧ H p = some u := by
  have hp : H p = some u := R.gh p u (by show L2.upd G p u p = some u; rw [upd_same])
  have hF : F p = none := R.bf p (.inr rfl)
  have own : ∀ (i : Nat) (d : D), r[i]? = some (.own d) → ∃ p' u', σ[i]? = some (some (.ref p')) ∧ H p' = some u' ∧ OM e F u' d ∧ Fre ⟨G, B, []⟩ F p' ∧ p' ≠ p := fun i d h => by
    obtain ⟨p', u', h1, h2, h3, h4⟩ := R.ow i d h
    have ne : p' ≠ p := fun z => h4.2.2 (.inr z)
    refine ⟨p', u', h1, h2, h3, ⟨h4.1, ?_, fun h => h4.2.2 (.inl h)⟩, ne⟩
    have := h4.2.1
    have t : L2.upd G p u p' = none := this
    rw [upd_ne ne] at t
    exact t
  refine ⟨{
    fh := R.fh
    gh := fun a o q => R.gh a o (by
      show L2.upd G p u a = some o
      have ne : a ≠ p := ne_of_none q hG
      rw [upd_ne ne]; exact q)
    bf := fun a h => R.bf a (.inl h)
    bh := fun a h => R.bh a (.inl h)
    bt := fun a xs h => R.bt a xs (.inl h)
    ln := R.ln
    va := R.va
    ow := fun i d h => by
      obtain ⟨p', u', h1, h2, h3, h4, _⟩ := own i d h
      exact ⟨p', u', h1, h2, h3, h4⟩
    ap := R.ap
    pn := R.pn }, ⟨⟨u, hp, ho, nt⟩, ⟨hF, hG, hB⟩, fun i d' h z => ?_⟩, hp⟩
  obtain ⟨p', u', h1, _, _, _, ne⟩ := own i d' h
  rw [h1] at z
  cases z
  exact ne rfl
theorem Rl.wipe {vs : List Nat} (R : Rl e r σ H F ⟨G, B, []⟩) : Rl e (wipeR r vs) (L2.wipe σ vs) H F ⟨G, B, []⟩ := by
  induction vs with
  | nil => exact R
  | cons v vs ih =>
    show Rl e ((wipeR r vs).set v .un) ((L2.wipe σ vs).set v none) H F ⟨G, B, []⟩
    exact ih.setU v none fun q h => by cases h
theorem Rl.unwipe {vs : List Nat} (R : Rl e r (L2.wipe σ vs) H F ⟨G, B, []⟩) (h : ∀ q ∈ pn, σ[q.1]? = some (some q.2)) : Rl e r σ H F ⟨G, B, pn⟩ := {
  fh := R.fh
  gh := R.gh
  bf := R.bf
  bh := R.bh
  bt := R.bt
  ln := by rw [← R.ln, wipe_length]
  va := fun i d h => by
    obtain ⟨v, h1, h2⟩ := R.va i d h
    exact ⟨v, (wipe_some h1).1, h2⟩
  ow := fun i d h => by
    obtain ⟨p, u, h1, h2, h3, h4⟩ := R.ow i d h
    exact ⟨p, u, (wipe_some h1).1, h2, h3, h4⟩
  ap := fun i j d d' p h1 h2 h3 h4 => by
    obtain ⟨p1, _, g1, _⟩ := R.ow i d h1
    obtain ⟨p2, _, g2, _⟩ := R.ow j d' h2
    have e1 := (wipe_some g1).1
    have e2 := (wipe_some g2).1
    rw [h3] at e1; rw [h4] at e2
    cases e1; cases e2
    exact R.ap i j d d' p h1 h2 g1 g2
  pn := h }
theorem Tmp.unwipe {vs : List Nat} {p : Addr} {d : D} (R : Rl e r (L2.wipe σ vs) H F ⟨G, B, []⟩) (T : Tmp e r (L2.wipe σ vs) H F ⟨G, B, []⟩ p d) : Tmp e r σ H F ⟨G, B, pn⟩ p d := by
  obtain ⟨h1, h2, h3⟩ := T
  refine ⟨h1, h2, fun i d' h z => ?_⟩
  obtain ⟨p', u, g1, _⟩ := R.ow i d' h
  have e1 := (wipe_some g1).1
  rw [z] at e1
  cases e1
  exact h3 i d' h g1
theorem Tmp.wipe {vs : List Nat} {p : Addr} {d : D} (T : Tmp e r σ H F ⟨G, B, pn⟩ p d) : Tmp e (wipeR r vs) (L2.wipe σ vs) H F ⟨G, B, []⟩ p d := by
  obtain ⟨h1, h2, h3⟩ := T
  refine ⟨h1, h2, fun i d' h z => ?_⟩
  have hs := (wipe_some z)
  have hr : ∀ us : List Nat, i ∉ us → (wipeR r us)[i]? = r[i]? := fun us => by
    induction us with
    | nil => intro _; rfl
    | cons u us ih =>
      intro hu
      have hu1 : u ≠ i := fun e => hu (e ▸ List.mem_cons_self)
      have hu2 : i ∉ us := fun h => hu (List.mem_cons_of_mem _ h)
      show ((wipeR r us).set u .un)[i]? = _
      rw [List.getElem?_set_ne hu1, ih hu2]
  rw [hr vs hs.2] at h
  exact h3 i d' h hs.1
def canD (e : En) (W : Wi) (m : Rho → Ou D) : TE := fun σ H Q => ∃ r F fm, W.c fm ∧ Rl e r σ H F fm ∧ Po e W fm F σ (KD e Q) (m r)
theorem SD.can {m : Rho → Ou D} (h : SD e X W a m) : PE X a (canD e W m) := by
  obtain ⟨t, h1, h2⟩ := h.ex
  exact ⟨fun pins s σ H Q I ⟨r, F, fm, hC, R, q⟩ => h1.run pins s σ H Q I (h2 r σ H F fm Q hC R q)⟩
theorem wipe_get (σ : St) (j : Nat) : ∀ vs : List Nat, (L2.wipe σ vs)[j]? = if j ∈ vs then (σ[j]?).map (fun _ => none) else σ[j]?
  | [] => by simp [L2.wipe]
  | v :: vs => by
    show ((L2.wipe σ vs).set v none)[j]? = _
    have ih := wipe_get σ j vs
    by_cases z : v = j
    · subst z
      by_cases hv : v < (L2.wipe σ vs).length
      · rw [List.getElem?_set_self hv]
        rw [wipe_length] at hv
        simp [hv]
      · rw [List.getElem?_eq_none (by rw [List.length_set]; omega)]
        rw [wipe_length] at hv
        simp [List.getElem?_eq_none (Nat.le_of_not_lt hv)]
    · rw [List.getElem?_set_ne z, ih]
      have : j ≠ v := fun e => z e.symm
      simp [this]
theorem wipe_idem (σ : St) (vs : List Nat) : L2.wipe (L2.wipe σ vs) vs = L2.wipe σ vs := by
  apply List.ext_getElem?
  intro j
  rw [wipe_get (L2.wipe σ vs), wipe_get σ]
  split
  · simp [Function.comp_def]
  · rfl
theorem or_lst {vs : List V} {d : D} {F F' : Hp} (s : Same F F') (h : OR e F (.lst vs) d) : OR e F' (.lst vs) d := h.mono s
theorem lc_te {ti : TI} {g : MG} {mi : Rho → Ou (List D)} {t : MT} {el : ME} {vs : List Nat} (i2 : TeI e W ti mi) : TeE e W (tLc ti (canG e vs g) (canT e wSo t) (canD e wSo (fz el)) vs) (eLc g mi t el vs) := by
  intro r σ H F fm Q hC R q
  refine i2 r σ H F fm _ hC R ?_
  obtain ⟨G, B, pn⟩ := fm
  refine (Po.bd q).mono fun ds r1 H1 F1 R1 s1 q1 J hJ => ?_
  intro D hD
  have fr := R1.free hD
  have hG : G D = none := fr.2.1
  have hB : ¬ B D := fr.2.2
  have o0 : OR e F1 (.lst []) (.lst []) := rfl
  have T0 := R1.tmp hD o0
  have RN := R1.new (o := .lst []) hD
  refine ⟨fun i m H => m = ds.length - i ∧ ∃ r F acc vacc, Rl e r (L2.wipe σ vs) H F ⟨G, B, []⟩ ∧ Same F1 F ∧ Tmp e r (L2.wipe σ vs) H F ⟨G, B, []⟩ D (.lst acc) ∧ H D = some (.lst vacc) ∧ Po e W ⟨G, B, pn⟩ F σ (KE' e ⟨G, B, pn⟩ σ Q) (lcL g t el vs (ds.drop i) r acc),
    ⟨ds.length, rfl, wipeR r1 vs, F1, [], [], (RN.unpinned (pn' := []) fun q h => by cases h).wipe, Same.refl _, T0.wipe, upd_same, by rw [List.drop_zero]; exact q1⟩, ?_⟩
  rintro i m H2 ⟨rfl, r2, F2, acc, vacc, R2, s2, T2, hv, q2⟩
  have hJ2 := hJ.mono s2
  have oV : OR e F2 (.lst vacc) (.lst acc) := by
    obtain ⟨⟨u, h1, h2⟩, _⟩ := T2
    rw [hv] at h1; cases h1; exact h2.1
  by_cases hlt : i < ds.length
  · refine .inr ⟨hJ2.go i H2 R2.fh (lo_gh R2.gh) hlt, fun H => ∃ r F acc vacc, Rl e r (L2.wipe σ vs) H F ⟨G, B, []⟩ ∧ Same F1 F ∧ Tmp e r (L2.wipe σ vs) H F ⟨G, B, []⟩ D (.lst acc) ∧ H D = some (.lst vacc) ∧ Po e W ⟨G, B, pn⟩ F σ (KE' e ⟨G, B, pn⟩ σ Q) (lcL g t el vs (ds.drop (i + 1)) r acc),
      fun H' h => ⟨ds.length - (i + 1), by omega, rfl, h⟩, fun x H' y => ?_⟩
    have hd : ds[i]? = some ds[i] := List.getElem?_eq_getElem hlt
    have R2k := R2.keep T2 hv
    obtain ⟨F3, R3, s3, h3⟩ := hJ2.item R2k (lo_gh R2.gh) y hd
    rw [List.drop_eq_getElem_cons hlt] at q2
    have q3 : Po e W ⟨G, B, pn⟩ F2 σ (KE' e ⟨G, B, pn⟩ σ Q) (match g ds[i] r2 with
      | none => .no
      | some r1 => match t r1 with
        | .ok b r2 => if b = true then (match fz el r2 with
            | .ok x r3 => if acc.length < 1000000 then lcL g t el vs (ds.drop (i + 1)) (wipeR r3 vs) (acc ++ [x]) else .no
            | _ => .no) else lcL g t el vs (ds.drop (i + 1)) (wipeR r2 vs) acc
        | _ => .no) := q2
    cases z : g ds[i] r2 with
    | none => rw [z] at q3; exact q3.elim
    | some r4 =>
      rw [z] at q3
      have q4 : Po e W ⟨G, B, pn⟩ F2 σ (KE' e ⟨G, B, pn⟩ σ Q) (match t r4 with
        | .ok b r2 => if b = true then (match fz el r2 with
            | .ok x r3 => if acc.length < 1000000 then lcL g t el vs (ds.drop (i + 1)) (wipeR r3 vs) (acc ++ [x]) else .no
            | _ => .no) else lcL g t el vs (ds.drop (i + 1)) (wipeR r2 vs) acc
        | _ => .no) := q3
      refine ⟨ds[i], r2, r4, F3, fmK G B D (.lst vacc), rfl, R3, h3, z, fun σ5 H5 F5 R5 s5 w5 => ?_⟩
      have w5' : L2.wipe σ5 vs = L2.wipe σ vs := by rw [w5, wipe_idem]
      have sAll : Same F2 F5 := s3.trans s5
      refine ⟨by rw [w5, wipe_idem], r4, F5, fmK G B D (.lst vacc), trivial, R5, ?_⟩
      cases z2 : t r4 with
      | no => rw [z2] at q4; exact q4.elim
      | ex x6 r6 => rw [z2] at q4; exact q4.elim
      | ok b r6 =>
        rw [z2] at q4
        intro H6 F6 R6 s6
        have s26 := sAll.trans s6
        cases b with
        | false =>
          have q5 : Po e W ⟨G, B, pn⟩ F2 σ (KE' e ⟨G, B, pn⟩ σ Q) (lcL g t el vs (ds.drop (i + 1)) (wipeR r6 vs) acc) := q4
          obtain ⟨R7, T7, hp7⟩ := R6.unkeep hG hB (or_lst s26 oV)
          exact ⟨wipeR r6 vs, F6, acc, vacc, by rw [← w5']; exact R7.wipe, s2.trans s26, by rw [← w5']; exact T7.wipe, hp7, q5.le s26⟩
        | true =>
          have q5 : Po e W ⟨G, B, pn⟩ F2 σ (KE' e ⟨G, B, pn⟩ σ Q) (match fz el r6 with
            | .ok x r3 => if acc.length < 1000000 then lcL g t el vs (ds.drop (i + 1)) (wipeR r3 vs) (acc ++ [x]) else .no
            | _ => .no) := q4
          refine ⟨r6, F6, fmK G B D (.lst vacc), trivial, R6, ?_⟩
          cases z3 : fz el r6 with
          | no => rw [z3] at q5; exact q5.elim
          | ex x7 r7 => rw [z3] at q5; exact q5.elim
          | ok x7 r7 =>
            rw [z3] at q5
            intro H7 F7 R7 s7 v hv7
            have s27 := s26.trans s7
            have q6 : Po e W ⟨G, B, pn⟩ F2 σ (KE' e ⟨G, B, pn⟩ σ Q) (if acc.length < 1000000 then lcL g t el vs (ds.drop (i + 1)) (wipeR r7 vs) (acc ++ [x7]) else .no) := q5
            by_cases hl : acc.length < 1000000
            · rw [if_pos hl] at q6
              have o7 : RepL e F7 acc vacc := or_lst s27 oV
              obtain ⟨R8, T8, hp8⟩ := R7.unkeep hG hB (d := .lst acc) (show OR e F7 (.lst vacc) (.lst acc) from o7)
              have oN : OR e F7 (.lst (vacc ++ [v])) (.lst (acc ++ [x7])) := o7.app (RepL.one hv7)
              refine ⟨vacc, hp8, by rw [o7.len]; exact Nat.lt_of_lt_of_le hl (by decide), wipeR r7 vs, F7, acc ++ [x7], vacc ++ [v], ?_, s2.trans s27, ?_, upd_same, q6.le s27⟩
              · rw [← w5']
                exact (R8.lay T8.2.1 T8.2.2).wipe
              · rw [← w5']
                exact Tmp.wipe ⟨⟨_, upd_same, oN, fun _ z => nomatch z⟩, T8.2⟩
            · rw [if_neg hl] at q6; exact q6.elim
  · refine .inl ⟨hJ2.stop i H2 R2.fh (lo_gh R2.gh) (by omega), ?_⟩
    rw [List.drop_eq_nil_of_le (by omega)] at q2
    have q3 : Po e W ⟨G, B, pn⟩ F2 σ (KE' e ⟨G, B, pn⟩ σ Q) (.ok (.own (.lst acc)) r2) := q2
    exact q3 H2 F2 (R2.unwipe R.pn) (Same.refl _) _ ⟨D, rfl, Tmp.unwipe R2 T2⟩
theorem se_lc {elt tg iter : Expr} {ifs : List Expr} {scope : Scope} {own : List (Str × Nat)} {g : MG} {mi : Rho → Ou (List D)} {t : MT} {el : ME} (hc : X.calm = true) (hN : X.N.Nodup) (hi : SI e X W tg iter mi) (ok : BlkOk X.N X.env.scope scope own)
    (hg : ∀ (s : Shared) (H : Hp) (C : Addr) (cl : List (Str × Addr)) (fp : List Addr), SGv e (X.blk s H scope (compEnvC scope cl C X.env) fp) (own.map (·.2)) tg g)
    (ht : ∀ (s : Shared) (H : Hp) (C : Addr) (cl : List (Str × Addr)) (fp : List Addr), STs e (X.blk s H scope (compEnvC scope cl C X.env) fp) wSo ifs t)
    (he : ∀ (s : Shared) (H : Hp) (C : Addr) (cl : List (Str × Addr)) (fp : List Addr), SE e (X.blk s H scope (compEnvC scope cl C X.env) fp) wSo elt el)
    (hs : ∀ x, foldedSetIterable iter X.env x = pure x := by intro _; rfl) :
    SE e X W (.ListComp elt [⟨tg, iter, ifs, 0⟩] scope pos) (eLc g mi t el (own.map (·.2))) := by
  obtain ⟨ti, i1, i2⟩ := hi.ex
  exact ⟨_, pe_lc hc hN i1 ok (fun s H C cl fp => (hg s H C cl fp).can) (fun s H C cl fp => (ht s H C cl fp).can) (fun s H C cl fp => (he s H C cl fp).fz.can) hs, lc_te i2⟩
/-- name = [..] on one row -/
theorem ss_setLc {i : Nat} {y : Str} {py spos : Pos} {elt tg iter : Expr} {ifs : List Expr} {scope : Scope} {own : List (Str × Nat)} {g : MG} {mi : Rho → Ou (List D)} {t : MT} {el : ME} (hio : i ∉ io) (hc : X.calm = true) (hN : X.N.Nodup) (hy : X.N[i]? = some y) (hyl : X.env.scope.names.lookup y = some .local)
    (hi : SI e X W tg iter mi) (ok : BlkOk X.N X.env.scope scope own)
    (hg : ∀ (s : Shared) (H : Hp) (C : Addr) (cl : List (Str × Addr)) (fp : List Addr), SGv e (X.blk s H scope (compEnvC scope cl C X.env) fp) (own.map (·.2)) tg g)
    (ht : ∀ (s : Shared) (H : Hp) (C : Addr) (cl : List (Str × Addr)) (fp : List Addr), STs e (X.blk s H scope (compEnvC scope cl C X.env) fp) wSo ifs t)
    (he : ∀ (s : Shared) (H : Hp) (C : Addr) (cl : List (Str × Addr)) (fp : List Addr), SE e (X.blk s H scope (compEnvC scope cl C X.env) fp) wSo elt el)
    (hsw : swapsWith (.ListComp elt [⟨tg, iter, ifs, 0⟩] scope pos) (some (.Name y py)) spos.line X.env = pure true := by rfl)
    (hs : ∀ x, foldedSetIterable iter X.env x = pure x := by intro _; rfl) :
    SS e X W io (.Assign [.Name y py] (.ListComp elt [⟨tg, iter, ifs, 0⟩] scope pos) spos) (sSet i (eLc g mi t el (own.map (·.2)))) := by
  obtain ⟨ti, i1, i2⟩ := hi.ex
  exact ⟨_, ps_setLc hc hN hy hyl hsw i1 ok (fun s H C cl fp => (hg s H C cl fp).can) (fun s H C cl fp => (ht s H C cl fp).can) (fun s H C cl fp => (he s H C cl fp).fz.can) hs, tSet_te hio (lc_te i2)⟩
end
end Mi

end
section
/-! Mi11: sorted texts, slices, name += int. -/
namespace Mi
open PySem L2

/-! ### texts in order -/
def leS (a b : Str) : Bool := !Spec.ltCps b.cps.toList a.cps.toList
theorem leS_iff {a b : Str} : leS a b = true ↔ a.cps.toList ≤ b.cps.toList := by
  unfold leS
  rw [PyProof.Rows.ltCps_eq]
  simp
theorem leS_trans {a b c : Str} (h : leS a b = true) (h' : leS b c = true) : leS a c = true := leS_iff.mpr (List.le_trans (leS_iff.mp h) (leS_iff.mp h'))
theorem leS_total (a b : Str) : (leS a b || leS b a) = true := by
  rcases List.le_total a.cps.toList b.cps.toList with h | h
  · rw [leS_iff.mpr h]; rfl
  · rw [leS_iff.mpr h, Bool.or_true]
theorem leS_anti {a b : Str} (h : leS a b = true) (h' : leS b a = true) : a = b := by
  have e := List.le_antisymm (leS_iff.mp h) (leS_iff.mp h')
  cases a; cases b
  simp only [Str.mk.injEq]
  exact Array.toList_inj.mp e
def srtS (l : List Str) : List Str := l.mergeSort leS
theorem srtS_perm (l : List Str) : (srtS l).Perm l := List.mergeSort_perm l leS
theorem srtS_pw (l : List Str) : (srtS l).Pairwise (fun a b => leS a b = true) := List.pairwise_mergeSort (le := leS) (fun _ _ _ h h' => leS_trans h h') leS_total l
theorem rising_pw : ∀ (p : Str) (l : List Str), PyProof.Rows.risingS p l = true → (p :: l).Pairwise (fun a b => leS a b = true)
  | p, [], _ => by simp
  | p, x :: r, h => by
    have h' : (!Spec.ltCps x.cps.toList p.cps.toList && PyProof.Rows.risingS x r) = true := h
    rw [Bool.and_eq_true] at h'
    have ih := rising_pw x r h'.2
    refine List.pairwise_cons.mpr ⟨fun y hy => ?_, ih⟩
    rcases List.mem_cons.mp hy with rfl | hy
    · exact h'.1
    · exact leS_trans h'.1 ((List.pairwise_cons.mp ih).1 y hy)
theorem sorted_pw {l : List Str} (h : PyProof.Rows.sortedS l = true) : l.Pairwise (fun a b => leS a b = true) := by
  cases l with
  | nil => exact .nil
  | cons x r => exact rising_pw x r h
theorem srtS_uniq {ys xs : List Str} (h : ys.Perm xs) (hs : PyProof.Rows.sortedS ys = true) : ys = srtS xs :=
  List.Perm.eq_of_pairwise (le := fun a b => leS a b = true) (fun a b _ _ h h' => leS_anti h h') (sorted_pw hs) (srtS_pw xs) (h.trans (srtS_perm xs).symm)
/-- the texts, if they are all texts -/
def strsD : List D → Option (List Str)
  | [] => some []
  | .str x :: l => (strsD l).map (x :: ·)
  | _ => none
def strsK : List Key → Option (List Str)
  | [] => some []
  | .inr x :: l => (strsK l).map (x :: ·)
  | _ => none
theorem strsD_rep {e : En} {F : Hp} : ∀ {l : List D} {zs : List Str} {vs : List V}, strsD l = some zs → RepL e F l vs → vs = zs.map V.str
  | [], zs, vs, h, r => by cases h; cases r; rfl
  | d :: l, zs, vs, h, ⟨v, w, e1, h1, h2⟩ => by
    subst e1
    cases d <;> first | (cases h; done) | skip
    rename_i x
    have h' : (strsD l).map (x :: ·) = some zs := h
    cases y : strsD l with
    | none => rw [y] at h'; cases h'
    | some us =>
      rw [y] at h'
      cases h'
      cases h1
      rw [strsD_rep y h2]; rfl
theorem strsK_map : ∀ {l : List Key} {zs : List Str}, strsK l = some zs → l = zs.map Sum.inr
  | [], zs, h => by cases h; rfl
  | .inl _ :: l, zs, h => by cases h
  | .inr x :: l, zs, h => by
    have h' : (strsK l).map (x :: ·) = some zs := h
    cases y : strsK l with
    | none => rw [y] at h'; cases h'
    | some us =>
      rw [y] at h'
      cases h'
      rw [strsK_map y]; rfl
/-- sorted(texts), sorted(dict of texts) -/
def srtD : D → Option R0
  | .lst l => match strsD l with
    | some zs => if zs.length < 64 then some (.own (.lst ((srtS zs).map .str))) else none
    | none => none
  | .dK ks _ => match strsK ks with
    | some zs => if zs.length < 64 then some (.own (.lst ((srtS zs).map .str))) else none
    | none => none
  | _ => none
abbrev rSrtD (K : PySem.W.Frag) : List V → Hp → VK → Prop := fun xs H Q => (rSortedS K xs H Q) ∨ ∃ (a : Addr) (kvs : List (Key × V)) (ks : List Str), xs = [.ref a] ∧ Rd H a (.dK kvs) ∧ kvs.map (·.1) = ks.map Sum.inr ∧ ks.length < 64 ∧
    ∀ ys p, ys.Perm ks → PyProof.Rows.sortedS ys = true → H p = none → Q (.ref p) (upd H p (.lst (ys.map V.str)))
section
variable {e : En} {X : Cx} {W : Wi} {io : List Nat} {a b c : Expr} {m n : ME} {pos : Pos} {H F : Hp} {σ : St} {r : Rho} {fm : Fm}
theorem call_srt (hc : X.calm = true) : CallR X (.builtin "sorted") (rSrtD X.K) := cr_sortedS.or (call_sortedD hc)
theorem strs_rep (F : Hp) : ∀ zs : List Str, RepL e F (zs.map D.str) (zs.map V.str)
  | [] => rfl
  | z :: zs => ⟨.str z, _, rfl, rfl, strs_rep F zs⟩
theorem p1_srt : P1L e srtD (rSrtD e.K) := fun d v H F Q h q => by
  cases d <;> first | exact q.elim | skip
  · rename_i l
    obtain ⟨p, vs, rfl, h1, h2⟩ := h
    have q' : PQ e H F (match strsD l with
      | some zs => if zs.length < 64 then some (.own (.lst ((srtS zs).map .str))) else none
      | none => none) Q := q
    cases y : strsD l with
    | none => rw [y] at q'; exact q'.elim
    | some zs =>
      rw [y] at q'
      have q2 : PQ e H F (if zs.length < 64 then some (.own (.lst ((srtS zs).map .str))) else none) Q := q'
      by_cases hz : zs.length < 64
      · rw [if_pos hz] at q2
        refine .inl ⟨p, zs, rfl, by rw [← strsD_rep y h2]; exact sqL_of h1, hz, fun ys p' hp hs hn => ?_⟩
        rw [srtS_uniq hp hs]
        exact q2 p' (.lst ((srtS zs).map V.str)) hn (strs_rep F _)
      · rw [if_neg hz] at q2; exact q2.elim
  · rename_i ks l
    obtain ⟨p, vs, rfl, h1, h2, h3⟩ := h
    have q' : PQ e H F (match strsK ks with
      | some zs => if zs.length < 64 then some (.own (.lst ((srtS zs).map .str))) else none
      | none => none) Q := q
    cases y : strsK ks with
    | none => rw [y] at q'; exact q'.elim
    | some zs =>
      rw [y] at q'
      have q2 : PQ e H F (if zs.length < 64 then some (.own (.lst ((srtS zs).map .str))) else none) Q := q'
      by_cases hz : zs.length < 64
      · rw [if_pos hz] at q2
        refine .inr ⟨p, _, zs, rfl, h1.rd, ?_, hz, fun ys p' hp hs hn => ?_⟩
        · rw [← strsK_map y]
          exact List.map_fst_zip (by omega)
        · rw [srtS_uniq hp hs]
          exact q2 p' (.lst ((srtS zs).map V.str)) hn (strs_rep F _)
      · rw [if_neg hz] at q2; exact q2.elim

/-! ### slices of lists -/
def oNo : Rho → Ou (Option Int) := fun r => .ok none r
def oSo (m : ME) : Rho → Ou (Option Int) := fun r => (fz m r).bd fun d r1 => match d with
  | .int i => .ok (some i) r1
  | _ => .no
def cutD (l : List D) (lo hi : Option Int) : List D := (l.drop (HT.sIx l.length 0 lo)).take (HT.sIx l.length l.length hi - HT.sIx l.length 0 lo)
def eSlL (m : ME) (lo hi : Rho → Ou (Option Int)) : ME := fun r => (stl m r).bd fun x r1 => (lo r1).bd fun l r2 => (hi r2).bd fun u r3 => match look x r3 with
  | some (.lst xs) => .ok (.own (.lst (cutD xs l u))) r3
  | _ => .no
def TeO (e : En) (W : Wi) (t : TO) (m : Rho → Ou (Option Int)) : Prop := ∀ r σ H F fm (Q : Option Int → Hp → Prop), W.c fm → Rl e r σ H F fm → Po e W fm F σ (fun o _ H' _ => Q o H') (m r) → t σ H Q
structure SO (e : En) (X : Cx) (W : Wi) (a : Option Expr) (m : Rho → Ou (Option Int)) : Prop where
  ex : ∃ t, PO X a t ∧ TeO e W t m
theorem so_no : SO e X W none oNo := ⟨_, po_none, fun r σ H F fm Q hC R q => q H F R (Same.refl _)⟩
theorem so_so (h : SE e X W a m) : SO e X W (some a) (oSo m) := by
  obtain ⟨t, h1, h2⟩ := h.fz.ex
  refine ⟨_, po_some h1, fun r σ H F fm Q hC R q => h2 r σ H F fm _ hC R ?_⟩
  refine (Po.bd q).mono fun d r1 H1 F1 R1 s1 q1 v hv => ?_
  cases d with
  | int i => cases hv; exact ⟨i, rfl, q1 H1 F1 R1 (Same.refl _)⟩
  | _ => exact q1.elim
theorem cut_rep {l : List D} {vs : List V} {lo hi : Option Int} (h : RepL e F l vs) : RepL e F (cutD l lo hi) (cutV vs lo hi) := by
  unfold cutD cutV
  rw [h.len]
  exact (h.drop _).take _
theorem se_slL {lo hi : Option Expr} {p2 : Pos} {wl wh : Rho → Ou (Option Int)} (hK : X.K = e.K) (h : SE e X W a m) (hl : SO e X W lo wl) (hu : SO e X W hi wh) : SE e X W (.Subscript a (.Slice lo hi none p2) pos) (eSlL m wl wh) := by
  obtain ⟨t, a1, a2⟩ := h.stl.ex
  obtain ⟨tl, l1, l2⟩ := hl.ex
  obtain ⟨th, h1, h2⟩ := hu.ex
  refine ⟨_, pe_slice sl_list a1 l1 h1, fun r σ H F fm Q hC R q => a2 r σ H F fm _ hC R ?_⟩
  have q1 := Po.bd q
  cases z1 : stl m r with
  | no => rw [z1] at q1; exact q1
  | ex x r1 => rw [z1] at q1; exact q1
  | ok x r1 =>
    rw [z1] at q1
    intro H1 F1 R1 s1 v hv
    refine l2 r1 σ H1 F1 fm _ hC R1 ?_
    refine (Po.bd (q1 H1 F1 R1 s1)).mono fun l r2 H2 F2 R2 s2 q2 => h2 r2 σ H2 F2 fm _ hC R2 ?_
    refine (Po.bd q2).mono fun u r3 H3 F3 R3 s3 q3 => ?_
    have hv3 : RvR e x v r3 σ H3 F3 fm := stay (stl_own z1) (s2.trans s3) hv
    cases y : look x r3 with
    | none => rw [y] at q3; exact q3.elim
    | some d =>
      rw [y] at q3
      cases d with
      | lst xs =>
        obtain ⟨p, vs, rfl, g1, g2⟩ := look_vw R3 hv3 y
        exact ⟨p, vs, rfl, sqL_of g1, fun p' hp => q3 _ F3 (R3.new hp) (Same.refl _) _ ⟨p', rfl, R3.tmp hp (show OR e F3 (.lst (cutV vs l u)) (.lst (cutD xs l u)) from cut_rep g2)⟩⟩
      | _ => exact q3.elim
/-! ### name += int -/
def sAug (i : Nat) (f : Int → Int → Int) (m : ME) : MS := fun r => match r[i]? with
  | some (.val (.int x)) => (fz m r).st fun d r1 => match d with
    | .int y => .nx (r1.set i (.val (.int (f x y))))
    | _ => .no
  | _ => .no
theorem ss_aug {i : Nat} {x : Str} {px : Pos} {op : Operator} {f : Int → Int → Int} (hi : i ∉ io) (ho : PIp X op (ipI f)) (hN : X.N.Nodup) (hx : X.N[i]? = some x) (hl : Loc X.env.scope x) (h : SE e X W a m)
    (hf : X.fn x = true ∨ X.env.scope.names.lookup x = some .local := by first | exact .inl rfl | exact .inr rfl | assumption) : SS e X W io (.AugAssign (.Name x px) op a pos) (sAug i f m) := by
  obtain ⟨t, a1, a2⟩ := h.fz.ex
  refine ⟨_, ps_aug hN hx hl a1 ho hf, fun r σ H F fm D hC hp R q => ?_⟩
  unfold sAug at q
  cases z : r[i]? with
  | none => rw [z] at q; exact q.elim
  | some lv =>
    rw [z] at q
    cases lv with
    | val d =>
      cases d with
      | int k =>
        obtain ⟨v, h1, h2⟩ := R.va i _ z
        refine ⟨v, h1, a2 r σ H F fm _ hC R ?_⟩
        have q' : PoS e W fm F D ((fz m r).st fun d r1 => match d with
          | .int y => .nx (r1.set i (.val (.int (f k y))))
          | _ => .no) := q
        refine (Po.st (σ := σ) q').mono fun d r1 H1 F1 R1 s1 q1 w hw => ?_
        cases d with
        | int y =>
          cases h2; cases hw
          have rp : Rep e F1 (.int (f k y)) (.int (f k y)) := rfl
          exact ⟨k, y, rfl, rfl, q1 _ H1 F1 (R1.setV rp fun q hq z => hi (z ▸ hp q hq)) (Same.refl _)⟩
        | _ => exact q1.elim
      | _ => exact q.elim
    | _ => exact q.elim
end
end Mi

end
section
/-! Mi12: dict comprehensions; enumerate. -/
namespace Mi
open PySem L2

def dcL (g : MG) (t : MT) (ek ev : ME) (vs : List Nat) : List D → Rho → List Key → List D → Ou RV
  | [], r, ks, l => .ok (.own (.dK ks l)) r
  | d :: ds, r, ks, l => match g d r with
    | none => .no
    | some r1 => match t r1 with
      | .ok b r2 => if b = true then (match fz ek r2 with
          | .ok y r3 => (match keyD y with
            | some k => (match fz ev r3 with
              | .ok x r4 => if ks.length < 1000000 then dcL g t ek ev vs ds (wipeR r4 vs) (ptK ks k) (ptL ks l k x) else .no
              | _ => .no)
            | none => .no)
          | _ => .no) else dcL g t ek ev vs ds (wipeR r2 vs) ks l
      | _ => .no
def eDc (g : MG) (mi : Rho → Ou (List D)) (t : MT) (ek ev : ME) (vs : List Nat) : ME := fun r => (mi r).bd fun ds r1 => dcL g t ek ev vs ds (wipeR r1 vs) [] []
section
variable {e : En} {X : Cx} {W : Wi} {io : List Nat} {a b c : Expr} {m n : ME} {pos : Pos} {H F G : Hp} {B : Addr → Prop} {pn : List (Nat × V)} {σ : St} {r : Rho} {fm : Fm}
theorem se_dc {kx vx tg iter : Expr} {ifs : List Expr} {scope : Scope} {own : List (Str × Nat)} {g : MG} {mi : Rho → Ou (List D)} {t : MT} {ek ev : ME} (hc : X.calm = true) (hN : X.N.Nodup) (hi : SI e X W tg iter mi) (ok : BlkOk X.N X.env.scope scope own)
    (hg : ∀ (s : Shared) (H : Hp) (C : Addr) (cl : List (Str × Addr)) (fp : List Addr), SGv e (X.blk s H scope (compEnvC scope cl C X.env) fp) (own.map (·.2)) tg g)
    (ht : ∀ (s : Shared) (H : Hp) (C : Addr) (cl : List (Str × Addr)) (fp : List Addr), STs e (X.blk s H scope (compEnvC scope cl C X.env) fp) wSo ifs t)
    (hk : ∀ (s : Shared) (H : Hp) (C : Addr) (cl : List (Str × Addr)) (fp : List Addr), SE e (X.blk s H scope (compEnvC scope cl C X.env) fp) wSo kx ek)
    (he : ∀ (s : Shared) (H : Hp) (C : Addr) (cl : List (Str × Addr)) (fp : List Addr), SE e (X.blk s H scope (compEnvC scope cl C X.env) fp) wSo vx ev)
    (hs : ∀ x, foldedSetIterable iter X.env x = pure x := by intro _; rfl) :
    SE e X W (.DictComp kx vx [⟨tg, iter, ifs, 0⟩] scope pos) (eDc g mi t ek ev (own.map (·.2))) := by
  obtain ⟨ti, i1, i2⟩ := hi.ex
  refine ⟨_, pe_dc hc hN i1 ok (fun s H C cl fp => (hg s H C cl fp).can) (fun s H C cl fp => (ht s H C cl fp).can) (fun s H C cl fp => (hk s H C cl fp).fz.can) (fun s H C cl fp => (he s H C cl fp).fz.can) hs, fun r σ H F fm Q hC R q => i2 r σ H F fm _ hC R ?_⟩
  obtain ⟨G, B, pn⟩ := fm
  generalize own.map (·.2) = vs at q ⊢
  refine (Po.bd q).mono fun ds r1 H1 F1 R1 s1 q1 J hJ => ?_
  intro D hD
  have fr := R1.free hD
  have hG : G D = none := fr.2.1
  have hB : ¬ B D := fr.2.2
  have o0 : OR e F1 (.dK []) (.dK [] []) := ⟨[], rfl, rfl, rfl⟩
  have T0 := R1.tmp hD o0
  have RN := R1.new (o := .dK []) hD
  refine ⟨fun i m H => m = ds.length - i ∧ ∃ r F ks l vl, Rl e r (L2.wipe σ vs) H F ⟨G, B, []⟩ ∧ Same F1 F ∧ Tmp e r (L2.wipe σ vs) H F ⟨G, B, []⟩ D (.dK ks l) ∧ (H D = some (.dK (ks.zip vl)) ∧ ks.length = vl.length ∧ RepL e F l vl) ∧ Po e W ⟨G, B, pn⟩ F σ (KE' e ⟨G, B, pn⟩ σ Q) (dcL g t ek ev vs (ds.drop i) r ks l),
    ⟨ds.length, rfl, wipeR r1 vs, F1, [], [], [], (RN.unpinned (pn' := []) fun q h => by cases h).wipe, Same.refl _, T0.wipe, ⟨upd_same, rfl, rfl⟩, by rw [List.drop_zero]; exact q1⟩, ?_⟩
  rintro i m H2 ⟨rfl, r2, F2, ks, l, wl, R2, s2, T2, ⟨hv, hlen, rV⟩, q2⟩
  have hJ2 := hJ.mono s2
  have oV : OR e F2 (.dK (ks.zip wl)) (.dK ks l) := ⟨wl, rfl, hlen, rV⟩
  by_cases hlt : i < ds.length
  · refine .inr ⟨hJ2.go i H2 R2.fh (lo_gh R2.gh) hlt, fun H => ∃ r F ks l vl, Rl e r (L2.wipe σ vs) H F ⟨G, B, []⟩ ∧ Same F1 F ∧ Tmp e r (L2.wipe σ vs) H F ⟨G, B, []⟩ D (.dK ks l) ∧ (H D = some (.dK (ks.zip vl)) ∧ ks.length = vl.length ∧ RepL e F l vl) ∧ Po e W ⟨G, B, pn⟩ F σ (KE' e ⟨G, B, pn⟩ σ Q) (dcL g t ek ev vs (ds.drop (i + 1)) r ks l),
      fun H' h => ⟨ds.length - (i + 1), by omega, rfl, h⟩, fun x H' y => ?_⟩
    have hd : ds[i]? = some ds[i] := List.getElem?_eq_getElem hlt
    have R2k := R2.keep T2 hv
    obtain ⟨F3, R3, s3, h3⟩ := hJ2.item R2k (lo_gh R2.gh) y hd
    rw [List.drop_eq_getElem_cons hlt] at q2
    have q3 : Po e W ⟨G, B, pn⟩ F2 σ (KE' e ⟨G, B, pn⟩ σ Q) (match g ds[i] r2 with
      | none => .no
      | some r1 => match t r1 with
        | .ok b r2 => if b = true then (match fz ek r2 with
            | .ok y r3 => (match keyD y with
              | some k => (match fz ev r3 with
                | .ok x r4 => if ks.length < 1000000 then dcL g t ek ev vs (ds.drop (i + 1)) (wipeR r4 vs) (ptK ks k) (ptL ks l k x) else .no
                | _ => .no)
              | none => .no)
            | _ => .no) else dcL g t ek ev vs (ds.drop (i + 1)) (wipeR r2 vs) ks l
        | _ => .no) := q2
    cases z : g ds[i] r2 with
    | none => rw [z] at q3; exact q3.elim
    | some r4 =>
      rw [z] at q3
      have q4 : Po e W ⟨G, B, pn⟩ F2 σ (KE' e ⟨G, B, pn⟩ σ Q) (match t r4 with
        | .ok b r2 => if b = true then (match fz ek r2 with
            | .ok y r3 => (match keyD y with
              | some k => (match fz ev r3 with
                | .ok x r4 => if ks.length < 1000000 then dcL g t ek ev vs (ds.drop (i + 1)) (wipeR r4 vs) (ptK ks k) (ptL ks l k x) else .no
                | _ => .no)
              | none => .no)
            | _ => .no) else dcL g t ek ev vs (ds.drop (i + 1)) (wipeR r2 vs) ks l
        | _ => .no) := q3
      refine ⟨ds[i], r2, r4, F3, fmK G B D (.dK (ks.zip wl)), rfl, R3, h3, z, fun σ5 H5 F5 R5 s5 w5 => ?_⟩
      have w5' : L2.wipe σ5 vs = L2.wipe σ vs := by rw [w5, wipe_idem]
      have sAll : Same F2 F5 := s3.trans s5
      refine ⟨by rw [w5, wipe_idem], r4, F5, fmK G B D (.dK (ks.zip wl)), trivial, R5, ?_⟩
      cases z2 : t r4 with
      | no => rw [z2] at q4; exact q4.elim
      | ex x6 r6 => rw [z2] at q4; exact q4.elim
      | ok b r6 =>
        rw [z2] at q4
        intro H6 F6 R6 s6
        have s26 := sAll.trans s6
        cases b with
        | false =>
          have q5 : Po e W ⟨G, B, pn⟩ F2 σ (KE' e ⟨G, B, pn⟩ σ Q) (dcL g t ek ev vs (ds.drop (i + 1)) (wipeR r6 vs) ks l) := q4
          obtain ⟨R7, T7, hp7⟩ := R6.unkeep hG hB (oV.mono s26)
          exact ⟨wipeR r6 vs, F6, ks, l, wl, by rw [← w5']; exact R7.wipe, s2.trans s26, by rw [← w5']; exact T7.wipe, ⟨hp7, hlen, rV.mono s26⟩, q5.le s26⟩
        | true =>
          have q5 : Po e W ⟨G, B, pn⟩ F2 σ (KE' e ⟨G, B, pn⟩ σ Q) (match fz ek r6 with
            | .ok y r3 => (match keyD y with
              | some k => (match fz ev r3 with
                | .ok x r4 => if ks.length < 1000000 then dcL g t ek ev vs (ds.drop (i + 1)) (wipeR r4 vs) (ptK ks k) (ptL ks l k x) else .no
                | _ => .no)
              | none => .no)
            | _ => .no) := q4
          refine ⟨r6, F6, fmK G B D (.dK (ks.zip wl)), trivial, R6, ?_⟩
          cases z3 : fz ek r6 with
          | no => rw [z3] at q5; exact q5.elim
          | ex x7 r7 => rw [z3] at q5; exact q5.elim
          | ok y7 r7 =>
            rw [z3] at q5
            intro H7 F7 R7 s7 v hv7
            have s27 := s26.trans s7
            have q6 : Po e W ⟨G, B, pn⟩ F2 σ (KE' e ⟨G, B, pn⟩ σ Q) (match keyD y7 with
              | some k => (match fz ev r7 with
                | .ok x r4 => if ks.length < 1000000 then dcL g t ek ev vs (ds.drop (i + 1)) (wipeR r4 vs) (ptK ks k) (ptL ks l k x) else .no
                | _ => .no)
              | none => .no) := q5
            cases z4 : keyD y7 with
            | none => rw [z4] at q6; exact q6.elim
            | some kk =>
              rw [z4] at q6
              have ek7 : v = kV kk := by cases y7 <;> cases z4 <;> exact hv7
              have q7 : Po e W ⟨G, B, pn⟩ F2 σ (KE' e ⟨G, B, pn⟩ σ Q) (match fz ev r7 with
                | .ok x r4 => if ks.length < 1000000 then dcL g t ek ev vs (ds.drop (i + 1)) (wipeR r4 vs) (ptK ks kk) (ptL ks l kk x) else .no
                | _ => .no) := q6
              refine ⟨r7, F7, fmK G B D (.dK (ks.zip wl)), trivial, R7, ?_⟩
              cases z5 : fz ev r7 with
              | no => rw [z5] at q7; exact q7.elim
              | ex x8 r8 => rw [z5] at q7; exact q7.elim
              | ok x8 r8 =>
                rw [z5] at q7
                intro H8 F8 R8 s8 w hw8
                have s28 := s27.trans s8
                have q8 : Po e W ⟨G, B, pn⟩ F2 σ (KE' e ⟨G, B, pn⟩ σ Q) (if ks.length < 1000000 then dcL g t ek ev vs (ds.drop (i + 1)) (wipeR r8 vs) (ptK ks kk) (ptL ks l kk x8) else .no) := q7
                by_cases hl : ks.length < 1000000
                · rw [if_pos hl] at q8
                  obtain ⟨R9, T9, hp9⟩ := R8.unkeep hG hB (oV.mono s28)
                  have r9 : RepL e F8 l wl := rV.mono s28
                  have oN : OR e F8 (.dK ((ptK ks kk).zip (ptL ks wl kk w))) (.dK (ptK ks kk) (ptL ks l kk x8)) := ⟨_, rfl, pt_len ks wl kk w hlen, pt_rep hw8 r9⟩
                  refine ⟨ks.zip wl, kk, ek7, hp9, by rw [List.length_zip, ← hlen, Nat.min_self]; exact Nat.lt_of_lt_of_le hl (by decide), wipeR r8 vs, F8, ptK ks kk, ptL ks l kk x8, ptL ks wl kk w, ?_, s2.trans s28, ?_, ⟨by rw [pt_zip ks wl kk w hlen]; exact upd_same, pt_len ks wl kk w hlen, pt_rep hw8 r9⟩, q8.le s28⟩
                  · rw [← w5']
                    exact (R9.lay T9.2.1 T9.2.2).wipe
                  · rw [← w5', pt_zip ks wl kk w hlen]
                    exact Tmp.wipe ⟨⟨_, upd_same, oN, fun _ z => nomatch z⟩, T9.2⟩
                · rw [if_neg hl] at q8; exact q8.elim
  · refine .inl ⟨hJ2.stop i H2 R2.fh (lo_gh R2.gh) (by omega), ?_⟩
    rw [List.drop_eq_nil_of_le (by omega)] at q2
    have q3 : Po e W ⟨G, B, pn⟩ F2 σ (KE' e ⟨G, B, pn⟩ σ Q) (.ok (.own (.dK ks l)) r2) := q2
    exact q3 H2 F2 (R2.unwipe R.pn) (Same.refl _) _ ⟨D, rfl, Tmp.unwipe R2 T2⟩
/-! ### enumerate(list) -/
def enD (l : List D) : List D := l.mapIdx fun i d => .tup [.int (i : Nat), d]
def iEnM (m : ME) : Rho → Ou (List D) := fun r => (fz m r).bd fun d r1 => match d with
  | .lst l => .ok (enD l) r1
  | _ => .no
theorem itr_enum {G' : Hp} {q : Addr} {vs : List V} {l : List D} (h : SqL e.K F q vs) (r : RepL e F l vs) : ItR e G' (Ite e.K q) (enD l) F where
  go := fun i H u _ hi => by
    have hi' : i < l.length := by simpa [enD] using hi
    exact ⟨vs, vs[i]'(by rw [r.len]; exact hi'), u.sqL h, by simp [r.len, hi']⟩
  stop := fun i H u _ hi => by
    have hi' : l.length ≤ i := by simpa [enD] using hi
    exact ⟨vs, u.sqL h, by rw [r.len]; exact hi'⟩
  yld := fun i H x H' d u _ y hd => by
    obtain ⟨T, v, rfl, hn, rfl, hx⟩ := y
    have hv := hx vs (u.sqL h)
    have hd' : (l[i]?).map (fun d => D.tup [.int (i : Nat), d]) = some d := by simpa [enD] using hd
    cases z : l[i]? with
    | none => rw [z] at hd'; cases hd'
    | some d0 =>
      rw [z] at hd'
      cases hd'
      obtain ⟨v', h1, h2⟩ := r.get z
      rw [hv] at h1; cases h1
      exact .inr (.inl ⟨T, .tup [.int (i : Nat), v], hn, rfl, rfl, ⟨.int (i : Nat), [v], rfl, rfl, v, [], rfl, h2, rfl⟩⟩)
theorem si_enum {elts : List Expr} {kk : Nat} {p tpos : Pos} (hK : X.K = e.K) (hg : Gl X "enumerate") (hm : X.mg "enumerate" = none) (h : SE e X W a m) (hs : starEach [a] X.env = [(false, eval a X.env)] := by rfl) : SI e X W (.Tuple elts kk tpos) (.Call (.Name "enumerate" p) [a] [] pos) (iEnM m) := by
  obtain ⟨t, h1, h2⟩ := h.fz.ex
  refine ⟨_, pi_enum hg hm (pa_cons h1 pa_nil hs) hs, fun r σ H F fm R' hC R q => h2 r σ H F fm _ hC R ?_⟩
  refine (Po.bd q).mono fun d r1 H1 F1 R1 s1 q1 v hv => ?_
  cases d with
  | lst l =>
    obtain ⟨p, vs, rfl, h3, h4⟩ := hv
    refine ⟨p, vs, rfl, sqL_of (R1.fh.lst h3), ?_⟩
    rw [hK]
    exact q1 H1 F1 R1 (Same.refl _) _ (itr_enum (sqL_of h3) h4)
  | _ => exact q1.elim

/-! ### a def that promises nothing: the bottom of a recursion -/
def mNo : MS := fun _ => .no
theorem fn_no {P : Program} {w : World} {K : PySem.W.Frag} {mg : Str → Option Value} {base : Heap} {CX : CXT} {k : Nat} {f : Addr} {fd : FuncData} {ps : List Str} {n : Nat} : FnOk P w K mg base CX k f fd ps (spOf e n mNo) :=
  ⟨fun vs H Q E ⟨_, _, _, _, _, _, z⟩ => z.elim, fun A outer s H args us vs Q E hr he hb hv ⟨_, _, _, _, _, _, z⟩ => z.elim⟩
/-! ### range(i, j) -/
theorem si_range2 {tg : Expr} {p : Pos} (hg : Gl X "range") (hm : X.mg "range" = none) (h : SE e X W a m) (h' : SE e X W b n) (hs : starEach [a, b] X.env = [(false, eval a X.env), (false, eval b X.env)] := by rfl) (hs2 : starEach [b] X.env = [(false, eval b X.env)] := by rfl) :
    SI e X W tg (.Call (.Name "range" p) [a, b] [] pos) (iRg2 m n) := by
  obtain ⟨t, h1, h2⟩ := h.fz.ex
  obtain ⟨t', g1, g2⟩ := h'.fz.ex
  refine ⟨_, pi_range2 hg hm (pa_cons h1 (pa_cons g1 pa_nil (by first | exact hs2 | rw [hs2]; rfl)) (by rw [hs, hs2])) hs hs2, fun r σ H F fm R' hC R q => h2 r σ H F fm _ hC R ?_⟩
  refine (Po.bd q).mono fun d r1 H1 F1 R1 s1 q1 v hv => g2 r1 σ H1 F1 fm _ hC R1 ?_
  refine (Po.bd q1).mono fun d2 r2 H2 F2 R2 s2 q2 v2 hv2 => ?_
  cases d <;> cases d2 <;> first | exact q2.elim | skip
  rename_i i j
  cases hv; cases hv2
  have q3 : Po e W fm F2 σ _ (if i.natAbs < 2 ^ 62 ∧ j.natAbs < 2 ^ 62 then .ok (rgL i (j - i).toNat) r2 else .no) := q2
  by_cases z : i.natAbs < 2 ^ 62 ∧ j.natAbs < 2 ^ 62
  · rw [if_pos z] at q3
    exact ⟨i, j, rfl, ⟨by omega, by omega, by omega, by omega⟩, q3 H2 F2 R2 (Same.refl _) _ itr_range⟩
  · rw [if_neg z] at q3; exact q3.elim
/-! ### xs.pop(), xs.clear(), d.clear() -/
def fPop (d : D) (ds : List D) : Option (D × D) := match d, ds with
  | .lst l, [] => (l.getLast?).map fun x => (x, .lst l.dropLast)
  | _, _ => none
theorem RepL.dropLast' {F : Hp} {l : List D} {vs : List V} (h : RepL e F l vs) : RepL e F l.dropLast vs.dropLast := by
  rw [List.dropLast_eq_take, List.dropLast_eq_take, h.len]
  exact h.take _
theorem mo_pop : MO e "list" kdL fPop rPop where
  ty := fun d u p H F k h o => by
    cases d <;> first | (cases k; done) | skip
    cases u <;> first | exact o.elim | exact .inl ⟨rfl, _, .inl (.inl h)⟩
  ok := fun d u p H F ds vs v d' Q h o rl un q k => by
    cases d <;> first | (cases q; done) | skip
    rename_i l
    match ds, q, rl with
    | _ :: _, q, _ => cases q
    | [], q, rl =>
      cases rl
      have q' : ((l.getLast?).map fun x => (x, D.lst l.dropLast)) = some (v, d') := q
      cases y : l.getLast? with
      | none => rw [y] at q'; cases q'
      | some x =>
        rw [y] at q'
        cases q'
        cases u <;> first | exact o.elim | skip
        rename_i xs
        have ol : RepL e F l xs := o
        rw [List.getLast?_eq_getElem?] at y
        obtain ⟨w, g1, g2⟩ := ol.get y
        exact ⟨p, xs, w, rfl, rfl, h, by rw [ol.len]; exact g1, k (.lst xs.dropLast) w ol.dropLast' (fun l h => nomatch h) g2⟩
def fClear (d : D) (ds : List D) : Option (D × D) := match d, ds with
  | .lst _, [] => some (.non, .lst [])
  | _, _ => none
theorem mo_clear : MO e "list" kdL fClear rClear where
  ty := fun d u p H F k h o => by
    cases d <;> first | (cases k; done) | skip
    cases u <;> first | exact o.elim | exact .inl ⟨rfl, _, .inl (.inl h)⟩
  ok := fun d u p H F ds vs v d' Q h o rl un q k => by
    cases d <;> first | (cases q; done) | skip
    match ds, q, rl with
    | _ :: _, q, _ => cases q
    | [], q, rl =>
      cases rl
      cases q
      cases u <;> first | exact o.elim | skip
      rename_i xs
      exact ⟨p, xs, rfl, rfl, h, k (.lst []) .non rfl (fun l h => nomatch h) rfl⟩
def fClearD (d : D) (ds : List D) : Option (D × D) := match d, ds with
  | .dK _ _, [] => some (.non, .dK [] [])
  | _, _ => none
def rClearD : V → List V → Hp → VK → Prop := fun x vs H Q => ∃ a kvs, x = .ref a ∧ vs = [] ∧ H a = some (.dK kvs) ∧ Q .non (upd H a (.dK []))
theorem mt_clearD : MtR X "dict.clear" rClearD := by
  intro pins s σ H x xs v us Q I ro rs h
  obtain ⟨a, kvs, rfl, rfl, hH, q⟩ := h
  cases ro
  cases rs
  exact d_clear I hH fun s' I' => ⟨.non, _, I', rfl, q⟩
theorem mo_clearD : MO e "dict" kdD fClearD rClearD where
  ty := fun d u p H F k h o => by
    cases d <;> first | (cases k; done) | skip
    cases u <;> first | exact o.elim | exact .inr (.inr (.inl ⟨rfl, .inl ⟨_, h⟩⟩))
  ok := fun d u p H F ds vs v d' Q h o rl un q k => by
    cases d <;> first | (cases q; done) | skip
    match ds, q, rl with
    | _ :: _, q, _ => cases q
    | [], q, rl =>
      cases rl
      cases q
      cases u <;> first | exact o.elim | skip
      obtain ⟨ws, e1, e2, e3⟩ := o
      exact ⟨p, _, rfl, rfl, h, k (.dK []) .non ⟨[], rfl, rfl, rfl⟩ (fun l h => nomatch h) rfl⟩
/-- a method without arguments -/
theorem se_mth0 {i : Nat} {x : Str} {T id : String} {name : Str} {px apos cpos : Pos} {kd : D → Bool} {f : D → List D → Option (D × D)} {rr : V → List V → Hp → VK → Prop} (v : VarOk X.N X.env.scope i x) (M : MO e T kd f rr)
    (pa : PlainAttrs T) (slot : Slot T name id) (hty : typeOf (.builtin id) = pure (.type "method_descriptor")) (hm : MtR X id rr) (hK : X.K = e.K)
    (hbase : attributeBase (.Name x px) name X.env (eval (.Name x px) X.env) = eval (.Name x px) X.env := by rfl) (hline : (apos.endLine == cpos.line) = true := by rfl) :
    SE e X W (.Call (.Attribute (.Name x px) name apos) [] [] cpos) (eMth i kd f aN) := by
  refine ⟨_, pe_bm0 pa slot hty hm (pe_var v.hN v.hv v.hd v.hc) hbase hline, ?_⟩
  rw [hK]
  intro r σ H F fm Q hC R q
  have hA : TeA e W (fun σ H Q => Q [] H) aN := fun r σ H F fm Q hC R q => q H F R (Same.refl _) [] rfl
  obtain ⟨x, h1, h2, h3⟩ := mth_te M hA r σ H F fm Q hC R q
  exact ⟨x, h1, h2, h3⟩
end
end Mi

end
section
/-! Mi13: dict displays. -/
namespace Mi
open PySem L2

def pN : Rho → Ou (List (Key × D)) := fun r => .ok [] r
def pC (mk mv : ME) (n : Rho → Ou (List (Key × D))) : Rho → Ou (List (Key × D)) := fun r => (fz mk r).bd fun y r1 => match keyD y with
  | some k => (fz mv r1).bd fun x r2 => (n r2).bd fun l r3 => .ok ((k, x) :: l) r3
  | none => .no
def dspA : List (Key × D) → List Key → List D → D
  | [], ks, l => .dK ks l
  | p :: r, ks, l => dspA r (ptK ks p.1) (ptL ks l p.1 p.2)
theorem dspA_nt : ∀ (l : List (Key × D)) (ks : List Key) (v : List D), NT (dspA l ks v)
  | [], _, _ => fun _ h => nomatch h
  | p :: r, _, _ => dspA_nt r _ _
def eDsp (n : Rho → Ou (List (Key × D))) : ME := fun r => (n r).bd fun l r1 => if l.length ≤ 15 then .ok (.own (dspA l [] [])) r1 else .no
def PrR (e : En) (F : Hp) : List (Key × D) → List (Key × V) → Prop
  | [], kvs => kvs = []
  | p :: l, kvs => ∃ v r, kvs = (p.1, v) :: r ∧ Rep e F p.2 v ∧ PrR e F l r
def fmP (G : Hp) (B : Addr → Prop) (pn : List (Nat × V)) (p : Addr) (u : HO) : Fm := ⟨L2.upd G p u, fun a => B a ∨ a = p, pn⟩
section
variable {e : En} {X : Cx} {W : Wi} {io : List Nat} {a b c : Expr} {m n : ME} {pos : Pos} {H F F' G : Hp} {B : Addr → Prop} {pn : List (Nat × V)} {σ : St} {r : Rho} {fm : Fm}
theorem Rl.keepP {p : Addr} {d : D} {u : HO} (R : Rl e r σ H F ⟨G, B, pn⟩) (T : Tmp e r σ H F ⟨G, B, pn⟩ p d) (hu : H p = some u) : Rl e r σ H F (fmP G B pn p u) := by
  obtain ⟨⟨u', t1, t2⟩, n, no⟩ := T
  exact {
    fh := R.fh
    bt := fun a xs h => by
      rcases h with h | rfl
      · exact R.bt a xs h
      · rw [hu]; rw [hu] at t1; cases t1; intro z; cases z; exact t2.nt xs rfl
    gh := fun a o q => by
      by_cases ha : a = p
      · subst ha
        have : L2.upd G a u a = some o := q
        rw [upd_same] at this
        cases this
        exact hu
      · have : L2.upd G p u a = some o := q
        rw [upd_ne ha] at this
        exact R.gh a o this
    bf := fun a h => by
      rcases h with h | rfl
      · exact R.bf a h
      · exact n.1
    bh := fun a h => by
      rcases h with h | rfl
      · exact R.bh a h
      · rw [hu]; simp
    ln := R.ln
    va := R.va
    ow := fun i d h => by
      obtain ⟨p', u', h1, h2, h3, h4⟩ := R.ow i d h
      have ne : p' ≠ p := fun z => no i d h (z ▸ h1)
      refine ⟨p', u', h1, h2, h3, h4.1, ?_, fun h => ?_⟩
      · show L2.upd G p u p' = none
        rw [upd_ne ne]; exact h4.2.1
      · rcases h with h | h
        · exact h4.2.2 h
        · exact ne h
    ap := R.ap
    pn := R.pn }
theorem Rl.unkeepP {p : Addr} {d : D} {u : HO} (R : Rl e r σ H F (fmP G B pn p u)) (hG : G p = none) (hB : ¬ B p) (ho : OR e F u d) (nt : NT d := by (intro l h; cases h)) : Rl e r σ H F ⟨G, B, pn⟩ ∧ Tmp e r σ H F ⟨G, B, pn⟩ p d ∧ H p = some u := by
  have hp : H p = some u := R.gh p u (by show L2.upd G p u p = some u; rw [upd_same])
  have hF : F p = none := R.bf p (.inr rfl)
  have own : ∀ (i : Nat) (d : D), r[i]? = some (.own d) → ∃ p' u', σ[i]? = some (some (.ref p')) ∧ H p' = some u' ∧ OM e F u' d ∧ Fre ⟨G, B, pn⟩ F p' ∧ p' ≠ p := fun i d h => by
    obtain ⟨p', u', h1, h2, h3, h4⟩ := R.ow i d h
    have ne : p' ≠ p := fun z => h4.2.2 (.inr z)
    refine ⟨p', u', h1, h2, h3, ⟨h4.1, ?_, fun h => h4.2.2 (.inl h)⟩, ne⟩
    have := h4.2.1
    have t : L2.upd G p u p' = none := this
    rw [upd_ne ne] at t
    exact t
  refine ⟨{
    fh := R.fh
    gh := fun a o q => R.gh a o (by
      show L2.upd G p u a = some o
      have ne : a ≠ p := ne_of_none q hG
      rw [upd_ne ne]; exact q)
    bf := fun a h => R.bf a (.inl h)
    bh := fun a h => R.bh a (.inl h)
    bt := fun a xs h => R.bt a xs (.inl h)
    ln := R.ln
    va := R.va
    ow := fun i d h => by
      obtain ⟨p', u', h1, h2, h3, h4, _⟩ := own i d h
      exact ⟨p', u', h1, h2, h3, h4⟩
    ap := R.ap
    pn := R.pn }, ⟨⟨u, hp, ho, nt⟩, ⟨hF, hG, hB⟩, fun i d' h z => ?_⟩, hp⟩
  obtain ⟨p', u', h1, _, _, _, ne⟩ := own i d' h
  rw [h1] at z
  cases z
  exact ne rfl
theorem PrR.mono (s : Same F F') : ∀ {l : List (Key × D)} {kvs : List (Key × V)}, PrR e F l kvs → PrR e F' l kvs
  | [], _, h => h
  | _ :: _, _, ⟨v, r, h0, h1, h2⟩ => ⟨v, r, h0, h1.mono s, PrR.mono s h2⟩
theorem PrR.len : ∀ {l : List (Key × D)} {kvs : List (Key × V)}, PrR e F l kvs → kvs.length = l.length
  | [], _, h => by cases h; rfl
  | _ :: _, _, ⟨v, r, h0, h1, h2⟩ => by subst h0; simp [PrR.len h2]
theorem dsp_or : ∀ {l : List (Key × D)} {kvs : List (Key × V)} {ks : List Key} {ds : List D} {vs : List V}, PrR e F l kvs → ks.length = vs.length → RepL e F ds vs → OR e F (.dK (mergeK (ks.zip vs) kvs)) (dspA l ks ds)
  | [], _, ks, ds, vs, h, hl, hr => by cases h; exact ⟨vs, rfl, hl, hr⟩
  | p :: l, _, ks, ds, vs, ⟨v, r, h0, h1, h2⟩, hl, hr => by
    subst h0
    show OR e F (.dK (mergeK (putK (ks.zip vs) p.1 v) r)) (dspA l (ptK ks p.1) (ptL ks ds p.1 p.2))
    rw [pt_zip ks vs p.1 v hl]
    exact dsp_or h2 (pt_len ks vs p.1 v hl) (pt_rep h1 hr)
def TeP (e : En) (W : Wi) (t : List (TE × TE)) (m : Rho → Ou (List (Key × D))) : Prop := ∀ r σ H F fm (Q : List (V × V) → Hp → Prop), W.c fm → Rl e r σ H F fm → Po e W fm F σ (fun l _ H' F' => ∀ kvs, PrR e F' l kvs → Q (kvs.map fun kv => (kV kv.1, kv.2)) H') (m r) → tPairs t σ H Q
structure SP' (e : En) (X : Cx) (W : Wi) (pos : Pos) (keys : List (Option Expr)) (vals : List Expr) (m : Rho → Ou (List (Key × D))) : Prop where
  ex : ∃ t, PPs X pos keys vals t ∧ TeP e W t m
theorem sp_nil : SP' e X W pos [] [] pN := ⟨[], pps_nil, fun r σ H F fm Q hC R q => q H F R (Same.refl _) [] rfl⟩
theorem sp_cons {ks : List (Option Expr)} {vs : List Expr} {w : Rho → Ou (List (Key × D))} (h : SE e X W a m) (h' : SE e X W b n) (hr : SP' e X W pos ks vs w) : SP' e X W pos (some a :: ks) (b :: vs) (pC m n w) := by
  obtain ⟨t, a1, a2⟩ := h.fz.ex
  obtain ⟨t', b1, b2⟩ := h'.fz.ex
  obtain ⟨tr, c1, c2⟩ := hr.ex
  refine ⟨_, pps_cons a1 b1 c1, fun r σ H F fm Q hC R q => a2 r σ H F fm _ hC R ?_⟩
  refine (Po.bd q).mono fun y r1 H1 F1 R1 s1 q1 v hv => ?_
  have q1' : Po e W fm F1 σ _ (match keyD y with
    | some k => (fz n r1).bd fun x r2 => (w r2).bd fun l r3 => .ok ((k, x) :: l) r3
    | none => .no) := q1
  cases z : keyD y with
  | none => rw [z] at q1'; exact q1'.elim
  | some k =>
    rw [z] at q1'
    have ek : v = kV k := by cases y <;> cases z <;> exact hv
    refine b2 r1 σ H1 F1 fm _ hC R1 ?_
    have q2 : Po e W fm F1 σ _ ((fz n r1).bd fun x r2 => (w r2).bd fun l r3 => .ok ((k, x) :: l) r3) := q1'
    refine (Po.bd q2).mono fun x r2 H2 F2 R2 s2 q3 v2 hv2 => c2 r2 σ H2 F2 fm _ hC R2 ?_
    refine (Po.bd q3).mono fun l r3 H3 F3 R3 s3 q4 kvs hk => ?_
    have := q4 H3 F3 R3 (Same.refl _) ((k, v2) :: kvs) ⟨v2, kvs, rfl, hv2.mono s3, hk⟩
    rw [ek]; exact this
theorem se_dsp {keys : List (Option Expr)} {vals : List Expr} {w : Rho → Ou (List (Key × D))} (hW : ∀ (fm : Fm) (G : Hp) (B : Addr → Prop), W.c fm → W.c ⟨G, B, fm.pn⟩) (h : SP' e X W pos keys vals w) (hall : keys.all (·.isSome) = true) (hl : keys.length = vals.length) (h0 : keys ≠ []) (h15 : keys.length ≤ 15) :
    SE e X W (.Dict keys vals pos) (eDsp w) := by
  obtain ⟨t, h1, h2⟩ := h.ex
  refine ⟨_, pe_disp h1 hall hl h0 h15, fun r σ H F fm Q hC R q => ?_⟩
  intro p hp
  obtain ⟨G, B, pn⟩ := fm
  have fr := R.free hp
  have o0 : OR e F (.dK []) (.dK [] []) := ⟨[], rfl, rfl, rfl⟩
  have RN := (R.new (o := .dK []) hp).keepP (R.tmp hp o0) upd_same
  refine h2 r σ _ F (fmP G B pn p (.dK [])) _ (hW _ _ _ hC) RN ?_
  have qq := Po.bd q
  cases z : w r with
  | no => rw [z] at qq; exact qq.elim
  | ex x r1 =>
    rw [z] at qq
    intro cls d H' F' R' s' hx
    obtain ⟨R2, T2, hp2⟩ := R'.unkeepP fr.2.1 fr.2.2 (o0.mono s')
    exact qq cls d H' F' R2 s' hx
  | ok l r1 =>
    rw [z] at qq
    intro H' F' R' s' kvs hk
    obtain ⟨R2, T2, hp2⟩ := R'.unkeepP fr.2.1 fr.2.2 (o0.mono s')
    have q3 : Po e W ⟨G, B, pn⟩ F' σ (KE' e ⟨G, B, pn⟩ σ Q) (if l.length ≤ 15 then .ok (.own (dspA l [] [])) r1 else .no) := qq H' F' R2 s'
    by_cases hz : l.length ≤ 15
    · rw [if_pos hz] at q3
      have oN : OR e F' (.dK (mergeK [] kvs)) (dspA l [] []) := dsp_or (ks := []) (vs := []) hk rfl rfl
      exact ⟨hp2, kvs, rfl, by rw [hk.len]; exact hz, q3 _ F' (R2.lay T2.2.1 T2.2.2) (Same.refl _) _ ⟨p, rfl, ⟨_, upd_same, oN, dspA_nt _ _ _⟩, T2.2⟩⟩
    · rw [if_neg hz] at q3; exact q3.elim
end
end Mi

end
section
/-! Mi14: max, min, sum of ints; str of an int or a text. -/
namespace Mi
open PySem L2

/-- two arguments by values -/
theorem se_call2 {e : En} {X : Cx} {W : Wi} {a b : Expr} {m n : ME} {pos : Pos} {x : Str} {id : String} {r : List V → Hp → VK → Prop} {f : D → D → Option R0} {p : Pos} (hc : CallR X (.builtin id) r) (hp : P2 e f fun v w => r [v, w]) (hg : Gl X x) (hm : X.mg x = none) (hv : bootBuiltins x = some (.builtin id)) (ha : SE e X W a m) (hb : SE e X W b n)
    (hn : x ≠ "__name__" := by decide) (hdb : (x == ("__debug__" : Str)) = false := by decide) (hst : starEach [a, b] X.env = (false, eval a X.env) :: starEach [b] X.env := by rfl) (hst2 : starEach [b] X.env = (false, eval b X.env) :: starEach [] X.env := by rfl) (hpl : (backTo pos (starEach [b] X.env)).any (·.1) = false := by rfl) : SE e X W (.Call (.Name x p) [a, b] [] pos) (eOp f m n) := by
  obtain ⟨ta, ha1, ha2⟩ := ha.ex
  obtain ⟨tb, hb1, hb2⟩ := hb.ex
  exact ⟨_, pe_callB hc hg hm hv (pa_cons ha1 (pa_cons hb1 pa_nil hst2) hst) hn hdb hst hpl, fun ρ σ H F fm Q hC R q => tOp_te (r := fun v w => r [v, w]) hp ha2 hb2 ρ σ H F fm Q hC R q⟩
def maxD : D → D → Option R0
  | .int i, .int j => vI (if j > i then j else i)
  | _, _ => none
def minD : D → D → Option R0
  | .int i, .int j => vI (if j < i then j else i)
  | _, _ => none
section
variable {e : En} {X : Cx}
theorem p2_max : P2 e maxD fun v w => (fun xs H Q => ∃ i j, xs = [.int i, .int j] ∧ Q (.int (if j > i then j else i)) H : List V → Hp → VK → Prop) [v, w] := p2_i (fun d1 d2 n => by cases d1 <;> cases d2 <;> first | exact ⟨_, _, rfl, rfl⟩ | exact (n rfl).elim) fun a b H F Q q => ⟨a, b, rfl, q _ rfl⟩
theorem p2_min : P2 e minD fun v w => (fun xs H Q => ∃ i j, xs = [.int i, .int j] ∧ Q (.int (if j < i then j else i)) H : List V → Hp → VK → Prop) [v, w] := p2_i (fun d1 d2 n => by cases d1 <;> cases d2 <;> first | exact ⟨_, _, rfl, rfl⟩ | exact (n rfl).elim) fun a b H F Q q => ⟨a, b, rfl, q _ rfl⟩
/-- ints alone -/
def intsD : List D → Option (List Int)
  | [] => some []
  | .int x :: l => (intsD l).map (x :: ·)
  | _ => none
theorem intsD_rep {F : Hp} : ∀ {l : List D} {zs : List Int} {vs : List V}, intsD l = some zs → RepL e F l vs → vs = zs.map V.int
  | [], zs, vs, h, r => by cases h; cases r; rfl
  | d :: l, zs, vs, h, ⟨v, w, e1, h1, h2⟩ => by
    subst e1
    cases d <;> first | (cases h; done) | skip
    rename_i x
    have h' : (intsD l).map (x :: ·) = some zs := h
    cases y : intsD l with
    | none => rw [y] at h'; cases h'
    | some us =>
      rw [y] at h'
      cases h'
      cases h1
      rw [intsD_rep y h2]; rfl
def mxL : List Int → Int
  | [] => 0
  | [x] => x
  | x :: l => if mxL l > x then mxL l else x
def mnL : List Int → Int
  | [] => 0
  | [x] => x
  | x :: l => if mnL l < x then mnL l else x
theorem mxL_spec : ∀ (l : List Int) (m : Int), m ∈ l → (∀ y ∈ l, y ≤ m) → m = mxL l
  | [x], m, h, _ => by simpa [mxL] using h
  | x :: y :: l, m, h, h' => by
    show m = if mxL (y :: l) > x then mxL (y :: l) else x
    by_cases z : m ∈ y :: l
    · have ih := mxL_spec (y :: l) m z fun w hw => h' w (List.mem_cons_of_mem _ hw)
      have hx := h' x List.mem_cons_self
      rw [← ih]; split <;> omega
    · have e1 : m = x := by
        rcases List.mem_cons.mp h with h | h
        · exact h
        · exact (z h).elim
      subst e1
      have : ∀ (l : List Int), l ≠ [] → mxL l ∈ l := by
        intro l
        induction l with
        | nil => intro h; exact (h rfl).elim
        | cons a r ih =>
          intro _
          cases r with
          | nil => simp [mxL]
          | cons b r =>
            show (if mxL (b :: r) > a then mxL (b :: r) else a) ∈ _
            split
            · exact List.mem_cons_of_mem _ (ih (by simp))
            · exact List.mem_cons_self
      have := h' _ (List.mem_cons_of_mem _ (this (y :: l) (by simp)))
      split <;> omega
theorem mnL_spec : ∀ (l : List Int) (m : Int), m ∈ l → (∀ y ∈ l, m ≤ y) → m = mnL l
  | [x], m, h, _ => by simpa [mnL] using h
  | x :: y :: l, m, h, h' => by
    show m = if mnL (y :: l) < x then mnL (y :: l) else x
    by_cases z : m ∈ y :: l
    · have ih := mnL_spec (y :: l) m z fun w hw => h' w (List.mem_cons_of_mem _ hw)
      have hx := h' x List.mem_cons_self
      rw [← ih]; split <;> omega
    · have e1 : m = x := by
        rcases List.mem_cons.mp h with h | h
        · exact h
        · exact (z h).elim
      subst e1
      have : ∀ (l : List Int), l ≠ [] → mnL l ∈ l := by
        intro l
        induction l with
        | nil => intro h; exact (h rfl).elim
        | cons a r ih =>
          intro _
          cases r with
          | nil => simp [mnL]
          | cons b r =>
            show (if mnL (b :: r) < a then mnL (b :: r) else a) ∈ _
            split
            · exact List.mem_cons_of_mem _ (ih (by simp))
            · exact List.mem_cons_self
      have := h' _ (List.mem_cons_of_mem _ (this (y :: l) (by simp)))
      split <;> omega
def sumD : D → Option R0
  | .lst l => (intsD l).map fun zs => .val (.int zs.sum)
  | _ => none
def maxLD : D → Option R0
  | .lst l => match intsD l with
    | some (z :: zs) => vI (mxL (z :: zs))
    | _ => none
  | _ => none
def minLD : D → Option R0
  | .lst l => match intsD l with
    | some (z :: zs) => vI (mnL (z :: zs))
    | _ => none
  | _ => none
theorem p1_sum : P1L e sumD (rSum e.K) := fun d v H F Q h q => by
  cases d <;> first | exact q.elim | skip
  rename_i l
  obtain ⟨p, vs, rfl, h1, h2⟩ := h
  have q' : PQ e H F ((intsD l).map fun zs => .val (.int zs.sum)) Q := q
  cases y : intsD l with
  | none => rw [y] at q'; exact q'.elim
  | some zs => rw [y] at q'; exact ⟨p, zs, rfl, by rw [← intsD_rep y h2]; exact sqL_of h1, q' _ rfl⟩
theorem p1_maxL : P1L e maxLD (rMax e.K) := fun d v H F Q h q => by
  cases d <;> first | exact q.elim | skip
  rename_i l
  obtain ⟨p, vs, rfl, h1, h2⟩ := h
  have q' : PQ e H F (match intsD l with
    | some (z :: zs) => vI (mxL (z :: zs))
    | _ => none) Q := q
  cases y : intsD l with
  | none => rw [y] at q'; exact q'.elim
  | some zs =>
    rw [y] at q'
    cases zs with
    | nil => exact q'.elim
    | cons z zs => exact ⟨p, z :: zs, rfl, by rw [← intsD_rep y h2]; exact sqL_of h1, by simp, fun m hm hh => by rw [mxL_spec _ m hm hh]; exact q' _ rfl⟩
theorem p1_minL : P1L e minLD (rMin e.K) := fun d v H F Q h q => by
  cases d <;> first | exact q.elim | skip
  rename_i l
  obtain ⟨p, vs, rfl, h1, h2⟩ := h
  have q' : PQ e H F (match intsD l with
    | some (z :: zs) => vI (mnL (z :: zs))
    | _ => none) Q := q
  cases y : intsD l with
  | none => rw [y] at q'; exact q'.elim
  | some zs =>
    rw [y] at q'
    cases zs with
    | nil => exact q'.elim
    | cons z zs => exact ⟨p, z :: zs, rfl, by rw [← intsD_rep y h2]; exact sqL_of h1, by simp, fun m hm hh => by rw [mnL_spec _ m hm hh]; exact q' _ rfl⟩
/-- str(int), str(text) -/
def strD : D → Option R0
  | .int i => if i.natAbs.log2 < 1900 then some (.val (.str (toString i))) else none
  | .str x => some (.val (.str x))
  | _ => none
abbrev rStr : List V → Hp → VK → Prop := fun xs H Q => (∃ i, xs = [.int i] ∧ i.natAbs.log2 < 1920 ∧ Q (.str (toString i)) H) ∨ ∃ a, xs = [.str a] ∧ Q (.str a) H
theorem call_strU : CallR X (.type "str") rStr := call_str_int.or SkE.call_str_str
theorem p1_str : P1L e strD rStr := fun d v H F Q h q => by
  cases d <;> first | exact q.elim | skip
  · rename_i i
    cases h
    have q' : PQ e H F (if i.natAbs.log2 < 1900 then some (.val (.str (toString i))) else none) Q := q
    by_cases z : i.natAbs.log2 < 1900
    · rw [if_pos z] at q'; exact .inl ⟨i, rfl, by omega, q' _ rfl⟩
    · rw [if_neg z] at q'; exact q'.elim
  · cases h; exact .inr ⟨_, rfl, q _ rfl⟩
end
end Mi

end
section
/-! Mi15: o.m(e, ..) of an instance that is read; d.get. -/
namespace Mi
open PySem L2
open PySem.Spec

def tMethS (C : Addr) (m : Str) (sp : Sp) (E : St → XK) (ta : TE) (t : TA) : TE := fun σ H Q => ta σ H fun x H1 => ∃ a dx fs, x = .ref a ∧ H1 a = some (.ins C dx fs) ∧ fs.lookup m = none ∧
  t σ H1 fun vs H2 => sp (x :: vs) H2 Q (E σ)
def eMeth (c : Nat) (g : MS) (mo : ME) (m : Rho → Ou (List RV)) : ME := fun r => (fz mo r).bd fun d r1 => if isIns c d = true then (m r1).bd fun l r2 => if nodupB (borI l) = true then callO (.val d :: l) r2 (g ((RV.val d :: l).map (argL r2))) else .no else .no
section
variable {e : En} {X : Cx} {W : Wi} {o a : Expr} {es : List Expr} {mo : ME} {m : Rho → Ou (List RV)} {k n : Nat} {f : Addr} {fd : FuncData} {ps : List Str} {g : MS} {pos apos : Pos} {c : Nat} {nm : Str}
theorem pe_methS {CX : CXT} {C : Addr} {sp : Sp} {E : St → XK} {ta : TE} {t : TA} {pl : Sem Bool} (he : PE X o ta) (cC : Cls X.K C) (hm : Meth X.K C nm f) (F : FnOk X.prog X.w X.K X.mg X.base CX k f fd ps sp) (hr : Room k X.A) (hb : Binds X.K fd ps []) (hx : ∀ σ, PassesAt CX X σ (E σ)) (ha : PA X (a :: es) t)
    (hst : starEach (a :: es) X.env = (false, eval a X.env) :: starEach es X.env) (hpl : (backTo pos (starEach es X.env)).any (·.1) = false)
    (ht : eval (.Call (.Attribute o nm apos) (a :: es) [] pos) X.env = (do
      let ov ← eval o X.env
      standAt apos.atName
      let (f, first) ← holding [ov] (getMethod ov nm pl)
      callWith pos f first (backTo pos (starEach (a :: es) X.env)) (backToKw pos (keywordEach [] X.env)))) :
    PE X (.Call (.Attribute o nm apos) (a :: es) [] pos) (tMethS C nm sp E ta t) := by
  refine ⟨fun pins s σ H Q I h => ?_⟩
  refine PySem.W.methodCall_KW (pl := pl) (thn (he.run pins s σ H _ I h) fun u s1 ⟨x, H1, I1, rx, aa, dx, fs, ex, ea, l, q⟩ => ?_) ht
  subst ex
  obtain rfl : u = Value.ref aa := rx
  refine getmeth_ok I1 ea cC hm l ?_
  refine PySem.W.callWith_K (first := [.ref aa]) (h₀ := X.base) I.ok.mod.kin hm.kp (thn (ha.run pos pins s1 σ H1 _ I1 q) fun us s2 ⟨vs, H2, I2, r, q2⟩ => ⟨I2.kIn, ?_⟩) hst hpl
  exact run_fnS (us := .ref aa :: us) (vs := .ref aa :: vs) F hr hb (hx σ) I2 (.cons rfl r) q2
theorem se_meth {pl : Sem Bool} (ho : SE e X W o mo) (C : ClO X.K e c) (hK : X.K = e.K) (hm : Meth X.K (e.ct c) nm f) (hnf : nm ∉ e.fl c) (F : FnOk X.prog X.w X.K X.mg X.base (L2.CX X.prog X.w) k f fd ps (spOf e n g)) (hr : Room k X.A) (hb : Binds X.K fd ps []) (tk : Takes X W.w) (hc : SC e X W (a :: es) m) (hn : es.length + 2 = n)
    (hst : starEach (a :: es) X.env = (false, eval a X.env) :: starEach es X.env := by rfl) (hpl : (backTo pos (starEach es X.env)).any (·.1) = false := by rfl)
    (ht : eval (.Call (.Attribute o nm apos) (a :: es) [] pos) X.env = (do
      let ov ← eval o X.env
      standAt apos.atName
      let (f, first) ← holding [ov] (getMethod ov nm pl)
      callWith pos f first (backTo pos (starEach (a :: es) X.env)) (backToKw pos (keywordEach [] X.env))) := by rfl) :
    SE e X W (.Call (.Attribute o nm apos) (a :: es) [] pos) (eMeth c g mo m) := by
  obtain ⟨ta, h1, h2⟩ := ho.fz.ex
  obtain ⟨t, g1, g2⟩ := hc.ex
  refine ⟨_, pe_methS h1 C.cl hm F hr hb (fun σ => passAt tk σ) g1 hst hpl ht, fun r σ H F0 fm Q hC R q => h2 r σ H F0 fm _ hC R ?_⟩
  refine (Po.bd q).mono fun d r1 H1 F1 R1 s1 q1 v hv => ?_
  by_cases z : isIns c d = true
  · rw [if_pos z] at q1
    cases d with
    | ins c' l0 =>
      have ec : c' = c := by simpa [isIns] using z
      subst ec
      obtain ⟨p, dx, vs0, rfl, hp, hl0, rl⟩ := hv
      have hH : H1 p = some (.ins (e.ct c') dx ((e.fl c').zip vs0)) := by
        rcases R1.fh _ _ hp with w | ⟨w, _⟩
        · exact w
        · cases w
      refine ⟨p, dx, _, rfl, hH, lookup_zip_no hnf, g2 r1 σ H1 F1 fm _ hC R1 ?_⟩
      have q2 := Po.bd q1
      cases y : m r1 with
      | no => rw [y] at q2; exact q2
      | ex x r2 => rw [y] at q2; exact q2
      | ok l r2 =>
        rw [y] at q2
        intro H2 F2 R2 s2 vs A
        have q3 := q2 H2 F2 R2 s2
        dsimp only at q3
        by_cases nd : nodupB (borI l) = true
        · rw [if_pos nd] at q3
          have rp : Rep e F2 (.ins c' l0) (.ref p) := Rep.mono s2 ⟨p, dx, vs0, rfl, hp, hl0, rl⟩
          have A' : ArgsR e σ F2 (.val (.ins c' l0) :: l) (.ref p :: vs) := ⟨_, _, rfl, rp, A⟩
          exact call_sp R2 A' (nodupB_ok nd) (by rw [List.length_cons, A.len, hc.len r1 l r2 y, List.length_cons, ← hn]) q3
        · rw [if_neg nd] at q3; exact q3.elim
    | _ => cases z
  · rw [if_neg z] at q1; exact q1.elim
/-! ### d.get(k), d.get(k, x) -/
def isDk : Option D → Bool
  | some (.dK _ _) => true
  | _ => false
def getG (x : RV) (k : D) (z : D) (r2 : Rho) : Ou RV := match look x r2 with
  | some (.dK ks l) => match keyD k with
    | some kk => .ok (.val ((vl ks l kk).getD z)) r2
    | none => .no
  | _ => .no
def eGet1 (mo mk : ME) : ME := fun r => (stl mo r).bd fun x r1 => if isDk (look x r1) = true then (fz mk r1).bd fun k r2 => getG x k .non r2 else .no
def eGet2 (mo mk mx : ME) : ME := fun r => (stl mo r).bd fun x r1 => if isDk (look x r1) = true then (fz mk r1).bd fun k r2 => (fz mx r2).bd fun z r3 => getG x k z r3 else .no
section
variable {H1 H2 F1 F2 : Hp} {σ : St} {fm : Fm} {r1 r2 : Rho} {x : RV} {v vk vz : V} {kd z : D} {Q : VK} {mk mx : ME} {ke xe : Expr} {cpos : Pos}
theorem isD_look (R : Rl e r1 σ H1 F1 fm) (hv : RvR e x v r1 σ H1 F1 fm) (h : isDk (look x r1) = true) : ∃ a, v = .ref a ∧ IsD H1 a := by
  cases y : look x r1 with
  | none => rw [y] at h; cases h
  | some d =>
    rw [y] at h
    cases d <;> first | (cases h; done) | skip
    obtain ⟨a, vs, h1, h2, h3, h4⟩ := look_vw R hv y
    exact ⟨a, h1, .inl ⟨_, h2.rd⟩⟩
theorem getG_ok (R2 : Rl e r2 σ H2 F2 fm) (hx : RvR e x v r2 σ H2 F2 fm) (hk : Rep e F2 kd vk) (hz : Rep e F2 z vz) (q : Po e W fm F2 σ (KE' e fm σ Q) (getG x kd z r2)) : ∃ a o, v = .ref a ∧ DGet H2 a vk o ∧ Q (o.getD vz) H2 := by
  unfold getG at q
  cases y2 : look x r2 with
  | none => rw [y2] at q; exact q.elim
  | some d2 =>
    rw [y2] at q
    cases d2 <;> first | exact q.elim | skip
    rename_i ks l
    have q' : Po e W fm F2 σ (KE' e fm σ Q) (match keyD kd with
      | some kk => .ok (.val ((vl ks l kk).getD z)) r2
      | none => .no) := q
    cases y3 : keyD kd with
    | none => rw [y3] at q'; exact q'.elim
    | some kk =>
      rw [y3] at q'
      obtain ⟨a, vs, rfl, h2, h3, h4⟩ := look_vw R2 hx y2
      have ek : vk = kV kk := by cases kd <;> cases y3 <;> exact hk
      have hv := vl_rep kk h4 h3
      refine ⟨a, valV (ks.zip vs) kk, rfl, .inl ⟨_, kk, h2.rd, ek, rfl⟩, ?_⟩
      have q2 : Po e W fm F2 σ (KE' e fm σ Q) (.ok (.val ((vl ks l kk).getD z)) r2) := q'
      cases w : vl ks l kk with
      | none => rw [w] at hv q2; rw [hv]; exact q2 H2 F2 R2 (Same.refl _) _ hz
      | some d => rw [w] at hv q2; obtain ⟨u, e1, e2⟩ := hv; rw [e1]; exact q2 H2 F2 R2 (Same.refl _) _ e2
theorem se_get1 (hu : X.A.units + 100 < cLine) (ho : SE e X W o mo) (hk : SE e X W ke mk)
    (m1 : M1 X o "get" apos ke cpos) : SE e X W (.Call (.Attribute o "get" apos) [ke] [] cpos) (eGet1 mo mk) := by
  obtain ⟨td, d1, d2⟩ := ho.stl.ex
  obtain ⟨tk, k1, k2⟩ := hk.fz.ex
  refine ⟨_, pe_dget1 (by omega) d1 k1 m1, fun r σ H F fm Q hC R q => d2 r σ H F fm _ hC R ?_⟩
  have q1 := Po.bd q
  cases z1 : stl mo r with
  | no => rw [z1] at q1; exact q1
  | ex x r1 => rw [z1] at q1; exact q1
  | ok x r1 =>
    rw [z1] at q1
    intro H1 F1 R1 s1 v hv
    have q2 := q1 H1 F1 R1 s1
    dsimp only at q2
    by_cases y : isDk (look x r1) = true
    · rw [if_pos y] at q2
      obtain ⟨p, rfl, hI⟩ := isD_look R1 hv y
      refine ⟨p, rfl, hI, k2 r1 σ H1 F1 fm _ hC R1 ?_⟩
      refine (Po.bd q2).mono fun kd r2 H2 F2 R2 s2 q3 vk hvk => ?_
      obtain ⟨a', oo, e1, g, q4⟩ := getG_ok (vz := .non) (z := .non) R2 (stay (stl_own z1) s2 hv) hvk rfl q3
      cases e1
      exact ⟨oo, g, q4⟩
    · rw [if_neg y] at q2; exact q2.elim
theorem se_get2 (hu : X.A.units + 100 < cLine) (ho : SE e X W o mo) (hk : SE e X W ke mk) (hx : SE e X W xe mx)
    (m2 : M2 X o "get" apos ke xe cpos) : SE e X W (.Call (.Attribute o "get" apos) [ke, xe] [] cpos) (eGet2 mo mk mx) := by
  obtain ⟨td, d1, d2⟩ := ho.stl.ex
  obtain ⟨tk, k1, k2⟩ := hk.fz.ex
  obtain ⟨tx, x1, x2⟩ := hx.fz.ex
  refine ⟨_, pe_dget2 (by omega) d1 k1 x1 m2, fun r σ H F fm Q hC R q => d2 r σ H F fm _ hC R ?_⟩
  have q1 := Po.bd q
  cases z1 : stl mo r with
  | no => rw [z1] at q1; exact q1
  | ex x r1 => rw [z1] at q1; exact q1
  | ok x r1 =>
    rw [z1] at q1
    intro H1 F1 R1 s1 v hv
    have q2 := q1 H1 F1 R1 s1
    dsimp only at q2
    by_cases y : isDk (look x r1) = true
    · rw [if_pos y] at q2
      obtain ⟨p, rfl, hI⟩ := isD_look R1 hv y
      refine ⟨p, rfl, hI, k2 r1 σ H1 F1 fm _ hC R1 ?_⟩
      refine (Po.bd q2).mono fun kd r2 H2 F2 R2 s2 q3 vk hvk => x2 r2 σ H2 F2 fm _ hC R2 ?_
      refine (Po.bd q3).mono fun zd r3 H3 F3 R3 s3 q4 vz hvz => ?_
      obtain ⟨a', oo, e1, g, q5⟩ := getG_ok R3 (stay (stl_own z1) (s2.trans s3) hv) (hvk.mono s3) hvz q4
      cases e1
      exact ⟨oo, g, q5⟩
    · rw [if_neg y] at q2; exact q2.elim
end
end
end Mi

end
section
/-! Mi16: dict(d), tuple(list), slices of tuples. -/
namespace Mi
open PySem L2

def dicD : D → Option R0
  | .dK ks l => some (.own (.dK ks l))
  | _ => none
def tupD : D → Option R0
  | .lst l => some (.own (.tup l))
  | _ => none
section
variable {e : En} {X : Cx} {W : Wi} {a : Expr} {m : ME} {pos : Pos}
theorem p1_dict : P1L e dicD (fun xs H Q => ∃ (a : Addr) (kvs : List (Key × V)), xs = [.ref a] ∧ Rd H a (.dK kvs) ∧ ∀ p, H p = none → Q (.ref p) (upd H p (.dK kvs))) := fun d v H F Q h q => by
  cases d <;> first | exact q.elim | skip
  rename_i ks l
  obtain ⟨p, vs, rfl, h1, h2, h3⟩ := h
  exact ⟨p, _, rfl, h1.rd, fun p' hp => q p' (.dK (ks.zip vs)) hp ⟨vs, rfl, h2, h3⟩⟩
theorem p1_tuple : P1L e tupD (fun xs H Q => ∃ p ys, xs = [.ref p] ∧ ((SqL e.K H p ys ∧ ∀ l, H l = none → Q (.ref l) (upd H l (.tup ys))) ∨ (SqT e.K H p ys ∧ Q (.ref p) H))) := fun d v H F Q h q => by
  cases d <;> first | exact q.elim | skip
  rename_i l
  obtain ⟨p, vs, rfl, h1, h2⟩ := h
  exact ⟨p, vs, rfl, .inl ⟨sqL_of h1, fun p' hp => q p' (.tup vs) hp h2⟩⟩
/-- t[lo:hi] of a tuple, a list or a text; the whole of a tuple is the tuple itself -/
def slG (d : D) (lo hi : Option Int) (r : Rho) : Ou RV := match d with
  | .tup l => .ok (.val (.tup (cutD l lo hi))) r
  | _ => .no
def eSlT (m : ME) (lo hi : Rho → Ou (Option Int)) : ME := fun r => (fz m r).bd fun d r1 => (lo r1).bd fun l r2 => (hi r2).bd fun u r3 => slG d l u r3
theorem cut_whole {l : List D} {lo hi : Option Int} (h : HT.sIx l.length 0 lo = 0 ∧ HT.sIx l.length l.length hi = l.length) : cutD l lo hi = l := by
  unfold cutD
  rw [h.1, h.2]; simp
theorem se_slT {lo hi : Option Expr} {p2 : Pos} {wl wh : Rho → Ou (Option Int)} (hK : X.K = e.K) (h : SE e X W a m) (hl : SO e X W lo wl) (hu : SO e X W hi wh) : SE e X W (.Subscript a (.Slice lo hi none p2) pos) (eSlT m wl wh) := by
  obtain ⟨t, a1, a2⟩ := h.fz.ex
  obtain ⟨tl, l1, l2⟩ := hl.ex
  obtain ⟨th, h1, h2⟩ := hu.ex
  refine ⟨_, pe_slice sl_tupA a1 l1 h1, fun r σ H F fm Q hC R q => a2 r σ H F fm _ hC R ?_⟩
  refine (Po.bd q).mono fun d r1 H1 F1 R1 s1 q1 v hv => l2 r1 σ H1 F1 fm _ hC R1 ?_
  refine (Po.bd q1).mono fun l r2 H2 F2 R2 s2 q2 => h2 r2 σ H2 F2 fm _ hC R2 ?_
  refine (Po.bd q2).mono fun u r3 H3 F3 R3 s3 q3 => ?_
  have hv3 := Rep.mono (s2.trans s3) hv
  cases d with
  | tup xs =>
    obtain ⟨p, vs, rfl, g1, g2⟩ := hv3
    have q4 : Po e W fm F3 σ (KE' e fm σ Q) (.ok (.val (.tup (cutD xs l u))) r3) := q3
    refine ⟨p, vs, rfl, by rw [hK]; exact R3.fh.sqT (tupT g1), fun hw => ?_, fun hw p' hp => ?_⟩
    · rw [g2.len] at hw
      exact q4 H3 F3 R3 (Same.refl _) _ (by rw [cut_whole hw]; exact ⟨p, vs, rfl, g1, g2⟩)
    · have oN : OR e F3 (.tup (cutV vs l u)) (.tup (cutD xs l u)) := cut_rep g2
      obtain ⟨F4, R4, s4, rp⟩ := R3.frzN hp oN
      exact q4 _ F4 R4 s4 _ rp
  | _ => exact q3.elim
/-- x[lo:hi], a list, a tuple or a text -/
def eSl (m : ME) (lo hi : Rho → Ou (Option Int)) : ME := fun r => (stl m r).bd fun x r1 => (lo r1).bd fun l r2 => (hi r2).bd fun u r3 => match x with
  | .val (.tup t) => .ok (.val (.tup (cutD t l u))) r3
  | x => match look x r3 with
    | some (.lst xs) => .ok (.own (.lst (cutD xs l u))) r3
    | some (.str z) => if z.length ≤ 1000000 then .ok (.val (.str (cutS z l u))) r3 else .no
    | _ => .no
abbrev rSlU (K : PySem.W.Frag) : V → Option Int → Option Int → Hp → VK → Prop := fun x lo hi H Q => (rSlL K x lo hi H Q ∨ rSlA K x lo hi H Q) ∨ rSlS x lo hi H Q
theorem sl_any : SlR X (rSlU X.K) := (sl_list.or sl_tupA).or sl_str
theorem slL_ok {x : RV} {r3 : Rho} {σ : St} {H3 F3 : Hp} {fm : Fm} {v : V} {l u : Option Int} {Q : VK} (hv3 : RvR e x v r3 σ H3 F3 fm) (R3 : Rl e r3 σ H3 F3 fm) (q3 : Po e W fm F3 σ (KE' e fm σ Q) (match look x r3 with
    | some (.lst xs) => .ok (.own (.lst (cutD xs l u))) r3
    | some (.str z) => if z.length ≤ 1000000 then .ok (.val (.str (cutS z l u))) r3 else .no
    | _ => .no)) : rSlU e.K v l u H3 Q := by
  cases y : look x r3 with
  | none => rw [y] at q3; exact q3.elim
  | some d =>
    rw [y] at q3
    cases d with
    | lst xs =>
      obtain ⟨p, vs, rfl, g1, g2⟩ := look_vw R3 hv3 y
      exact .inl (.inl ⟨p, vs, rfl, sqL_of g1, fun p' hp => q3 _ F3 (R3.new hp) (Same.refl _) _ ⟨p', rfl, R3.tmp hp (show OR e F3 (.lst (cutV vs l u)) (.lst (cutD xs l u)) from cut_rep g2)⟩⟩)
    | str z =>
      have hw : v = .str z := look_vw R3 hv3 y
      have q4 : Po e W fm F3 σ (KE' e fm σ Q) (if z.length ≤ 1000000 then .ok (.val (.str (cutS z l u))) r3 else .no) := q3
      by_cases hz : z.length ≤ 1000000
      · rw [if_pos hz] at q4
        exact .inr ⟨z, hw, big_le hz, q4 H3 F3 R3 (Same.refl _) _ rfl⟩
      · rw [if_neg hz] at q4; exact q4.elim
    | _ => exact q3.elim
theorem se_sl {lo hi : Option Expr} {p2 : Pos} {wl wh : Rho → Ou (Option Int)} (hK : X.K = e.K) (h : SE e X W a m) (hl : SO e X W lo wl) (hu : SO e X W hi wh) : SE e X W (.Subscript a (.Slice lo hi none p2) pos) (eSl m wl wh) := by
  obtain ⟨t, a1, a2⟩ := h.stl.ex
  obtain ⟨tl, l1, l2⟩ := hl.ex
  obtain ⟨th, h1, h2⟩ := hu.ex
  refine ⟨_, pe_slice sl_any a1 l1 h1, fun r σ H F fm Q hC R q => a2 r σ H F fm _ hC R ?_⟩
  have q1 := Po.bd q
  cases z1 : stl m r with
  | no => rw [z1] at q1; exact q1
  | ex x r1 => rw [z1] at q1; exact q1
  | ok x r1 =>
    rw [z1] at q1
    intro H1 F1 R1 s1 v hv
    refine l2 r1 σ H1 F1 fm _ hC R1 ?_
    refine (Po.bd (q1 H1 F1 R1 s1)).mono fun l r2 H2 F2 R2 s2 q2 => h2 r2 σ H2 F2 fm _ hC R2 ?_
    refine (Po.bd q2).mono fun u r3 H3 F3 R3 s3 q3 => ?_
    have hv3 : RvR e x v r3 σ H3 F3 fm := stay (stl_own z1) (s2.trans s3) hv
    rw [hK]
    cases x with
    | own d => exact slL_ok hv3 R3 q3
    | bor i => exact slL_ok hv3 R3 q3
    | val d =>
      cases d with
      | tup xs =>
        obtain ⟨p, vs, rfl, g1, g2⟩ := hv3
        have q4 : Po e W fm F3 σ (KE' e fm σ Q) (.ok (.val (.tup (cutD xs l u))) r3) := q3
        refine .inl (.inr ⟨p, vs, rfl, R3.fh.sqT (tupT g1), fun hw => ?_, fun hw p' hp => ?_⟩)
        · rw [g2.len] at hw
          exact q4 H3 F3 R3 (Same.refl _) _ (by rw [cut_whole hw]; exact ⟨p, vs, rfl, g1, g2⟩)
        · have oN : OR e F3 (.tup (cutV vs l u)) (.tup (cutD xs l u)) := cut_rep g2
          obtain ⟨F4, R4, s4, rp⟩ := R3.frzN hp oN
          exact q4 _ F4 R4 s4 _ rp
      | _ => exact slL_ok hv3 R3 q3
end
end Mi

end
section
set_option maxRecDepth 100000
/-! Mi17: == and != in depth, of what is equal: lists, tuples, dicts, instances with an == of their own. -/
namespace Mi
open PySem PySem.Spec L2 PySem.SeqAt
open AutoSeq1 (wpAny_loadPart')
open MeetsSeq MeetsSeq2 MeetsSeq3 SeqRoads2

/-! ### != of lists and tuples that are equal -/
section
variable {prog : Program} {w : World} {A : Around} {R : Result → Shared → Prop}
theorem neLoop (x y : Addr) (M : Nat) (J : Nat → Shared → Prop) (hJ : GQ.ListI prog w A (fun e s' => R (.error e) s') x y M J) (done : ∀ s, J M s → R (.ok (.ret (.bool false))) s) (k : Nat) :
    ∀ j : Nat, M - j = k → j ≤ M → ∀ s, J j s → wpAny (model prog w) A.in1 (Builtin.«list.__eq__.loop» ⟨[.ref x, .ref y, rawInt j, rawInt 3], []⟩) (GQ.FinOf prog w A R) (fun e s' => R (.error e) s') s := by
  induction k with
  | zero =>
    intro j hk hj s h
    obtain ⟨us, vs, n1, n2, gx, gy, z1, z2, _⟩ := hJ _ _ h
    have ej : j = M := by omega
    have hd : R (.ok (.ret (.bool false))) s := done s (ej ▸ h)
    obtain ⟨hp, g, d, tk, os⟩ := s
    wp_walk using wpAny_loadPart' gx, wpAny_loadPart' gy
    have o1 : us[((j : Nat) : Int).toNat]? = none := by simp; omega
    have o2 : vs[((j : Nat) : Int).toNat]? = none := by simp; omega
    rw [o1, o2]
    wp_walk using wpAny_loadPart' gx, wpAny_loadPart' gy
    show R (.ok (.ret (.bool (us.size != vs.size)))) _
    rw [z1, z2]
    simpa using hd
  | succ k ih =>
    intro j hk hj s h
    obtain ⟨us, vs, n1, n2, gx, gy, z1, z2, turn⟩ := hJ _ _ h
    have lt1 : j < us.size := by omega
    have lt2 : j < vs.size := by omega
    have ht := turn lt1 lt2
    obtain ⟨hp, g, d, tk, os⟩ := s
    wp_walk using wpAny_loadPart' gx, wpAny_loadPart' gy
    have o1 : us[((j : Nat) : Int).toNat]? = some us[j] := by simp [lt1]
    have o2 : vs[((j : Nat) : Int).toNat]? = some vs[j] := by simp [lt2]
    have ec : ((j : Int) + 1) = ((j + 1 : Nat) : Int) := by omega
    rw [o1, o2]
    refine wpAny_bind (wpAny_mono ht (fun r t q => ?_) fun _ _ z => z)
    obtain ⟨er, q⟩ := q
    subst er
    have rec' := ih (j + 1) (by omega) (by omega) t q
    obtain ⟨hp', g', d', tk', os'⟩ := t
    wp_walk
    rw [ec]
    exact ⟨plainId_quiet plain_eq_loop _, codeAny_builtin entry_eq_loop (by rw [Around.under_plainId plain_eq_loop _]; exact rec')⟩
theorem listNe (x y : Addr) (M : Nat) (J : Nat → Shared → Prop) (hJ : GQ.ListI prog w A (fun e s' => R (.error e) s') x y M J) (done : ∀ s, J M s → R (.ok (.ret (.bool false))) s) {s : Shared} (h : J 0 s) :
    wpAny (model prog w) A.in1 (Builtin.«list.__ne__» ⟨[.ref x, .ref y], []⟩) (GQ.FinOf prog w A R) (fun e s' => R (.error e) s') s := by
  obtain ⟨us, vs, n1, n2, gx, gy, z1, z2, _⟩ := hJ _ _ h
  have rec' := neLoop (A := A) (R := R) x y M J hJ done _ 0 rfl (Nat.zero_le _) s h
  obtain ⟨hp, g, d, tk, os⟩ := s
  have sub' := AutoSeq1.sub_list_list
  have same' : ¬ (us.size != vs.size) = true := by simp [z1, z2]
  wp_walk using wpAny_loadPart' gx, wpAny_loadPart' gy
  exact ⟨plainId_quiet plain_eq_loop _, codeAny_builtin entry_eq_loop (by rw [Around.under_plainId plain_eq_loop _]; exact rec')⟩
theorem tupNe (x y : Addr) (us vs : Array Value) (n1 n2 : Nat) (dx dy : Option Addr) (sx sy : Array (Option Value)) (zz : us.size = vs.size) (J : Nat → Shared → Prop)
    (turn : ∀ i (h1 : i < us.size) (h2 : i < vs.size) s, J i s → wpAny (model prog w) A.in1 (eqBool us[i] vs[i]) (fun r s' => r = true ∧ J (i + 1) s') (fun e s' => R (.error e) s') s)
    (done : ∀ s, J us.size s → R (.ok (.ret (.bool false))) s) {s : Shared} (gx : s.heap.get? x = some { cls := .type "tuple", dict := dx, data := .seq us n1, slots := sx }) (gy : s.heap.get? y = some { cls := .type "tuple", dict := dy, data := .seq vs n2, slots := sy }) (h : J 0 s) :
    wpAny (model prog w) A.in1 (Builtin.«tuple.__ne__» ⟨[.ref x, .ref y], []⟩) (GQ.FinOf prog w A R) (fun e s' => R (.error e) s') s := by
  have sub' := AutoSeq1.sub_tuple_tuple
  have zl : (us.toList.zip vs.toList).length = us.size := by simp [zz]
  have h00 := h
  obtain ⟨hp, g, d, tk, os⟩ := s
  wp_walk using wpAny_loadPart' gx, wpAny_loadPart' gy, wpAny_forIn_list _ (fun rest b s' => b.1 = none ∧ ∃ i, rest = (us.toList.zip vs.toList).drop i ∧ i ≤ us.size ∧ J i s') _
  case turn =>
    rintro ⟨p, q⟩ rest b s' ⟨eb, i, ez, le, ji⟩
    have lt : i < (us.toList.zip vs.toList).length := by
      rcases Nat.lt_or_ge i (us.toList.zip vs.toList).length with h' | h'
      · exact h'
      · rw [List.drop_of_length_le h'] at ez; cases ez
    have l1 : i < us.size := zl ▸ lt
    have l2 : i < vs.size := zz ▸ l1
    rw [List.drop_eq_getElem_cons lt] at ez
    injection ez with e1 e2
    have ep : p = us[i] := by have := congrArg Prod.fst e1; simpa using this
    have eq : q = vs[i] := by have := congrArg Prod.snd e1; simpa using this
    subst ep eq
    refine wpAny_bind (wpAny_mono (turn i l1 l2 s' ji) (fun r t z => ?_) fun _ _ z => z)
    obtain ⟨er, z⟩ := z
    subst er
    wp_walk
    exact ⟨rfl, i + 1, e2, l1, z⟩
  case fin =>
    rintro ⟨b1, b2⟩ s' ⟨eb, i, ez, le, ji⟩
    simp only at eb
    subst eb
    have ge : us.size ≤ i := by
      rcases Nat.lt_or_ge i (us.toList.zip vs.toList).length with h' | h'
      · rw [List.drop_eq_getElem_cons h'] at ez; cases ez
      · exact zl ▸ h'
    have ei : i = us.size := by omega
    have hd : R (.ok (.ret (.bool false))) s' := done s' (ei ▸ ji)
    wp_walk
    simpa [Builtin.Tuple.tupleCompareSizes, zz] using hd
  case h =>
    exact ⟨rfl, 0, rfl, Nat.zero_le _, h00⟩
variable {E : Value → Shared → Prop} {s : Shared}
theorem rcNe_list {x y : Addr} {M : Nat} {Q : Value → Shared → Prop} (hu : A.units < cLine) (J : Nat → Shared → Prop) (hJ : GQ.ListI prog w A E x y M J) (done : ∀ s, J M s → Q (.bool false) s) (h : J 0 s) :
    wpAny (model prog w) A (richCompare .NotEq (.ref x) (.ref y)) Q E s := by
  obtain ⟨us, vs, n1, n2, gx, gy, _, _, _⟩ := hJ _ _ h
  refine wpAny_richCompare_same_room (op := .NotEq) ⟨_, gx, rfl⟩ ⟨_, gy, rfl⟩ F.slot_list_ne (GQ.call_here F.slot_list_ne ⟨_, gx, rfl⟩ F.entry_list_ne (F.args_list_ne_2 _ _) ?_) hu
  exact listNe (R := wants (fun v s' => v ≠ .notImplemented ∧ Q v s') E) x y M J hJ (fun s' q => ⟨(fun z => nomatch z), done s' q⟩) h
theorem rcNe_tup {x y : Addr} {us vs : Array Value} {Q : Value → Shared → Prop} (zz : us.size = vs.size) (hu : A.units < cLine) (J : Nat → Shared → Prop) (hx : s.heap.IsTuple x us) (hy : s.heap.IsTuple y vs)
    (turn : ∀ i (h1 : i < us.size) (h2 : i < vs.size) s, J i s → wpAny (model prog w) A.in1 (eqBool us[i] vs[i]) (fun r s' => r = true ∧ J (i + 1) s') E s) (done : ∀ s, J us.size s → Q (.bool false) s) (h : J 0 s) :
    wpAny (model prog w) A (richCompare .NotEq (.ref x) (.ref y)) Q E s := by
  obtain ⟨⟨cx, dx, tx, sx⟩, gx, ex, n1, fx⟩ := id hx
  obtain ⟨⟨cy, dy, ty, sy⟩, gy, ey, n2, fy⟩ := id hy
  simp only at ex fx ey fy
  subst ex fx ey fy
  refine wpAny_richCompare_same_room (op := .NotEq) ⟨_, gx, rfl⟩ ⟨_, gy, rfl⟩ F.slot_tuple_ne (GQ.call_here F.slot_tuple_ne ⟨_, gx, rfl⟩ F.entry_tuple_ne (F.args_tuple_ne_2 _ _) ?_) hu
  exact tupNe (R := wants (fun v s' => v ≠ .notImplemented ∧ Q v s') E) x y us vs n1 n2 dx dy sx sy zz J turn (fun s' q => ⟨(fun z => nomatch z), done s' q⟩) gx gy h
end

/-! ### == and != of dicts that are equal, while the heap grows -/
section
variable {X : Cx} {n : Nat} {D : Eqv} {A : Around} {pins : List (Addr × Obj)} {σ : St} {H : Hp} {s : Shared} {x y : Addr} {ox oy : Obj} {ks ls : List (Key × V)}
theorem pairsG (hD : Mon D) (h : EqG X n D) (sb : Sub X n A) (hx : H x = some (.frz ox (.dK ks))) (hy : H y = some (.frz oy (.dK ls))) (hl : ks.length = ls.length) (hits : ∀ p ∈ ks, ∃ u, valV ls p.1 = some u ∧ D p.2 u H)
    {nm : String} {Q : Bool → Shared → Prop} (I : Inv X pins σ H s) (q : ∀ s', LoopI X pins σ H s' → Q true s') : wpAny (model X.prog X.w) A (Builtin.Dict.samePairs nm x y) Q X.xe s := by
  obtain ⟨gx, _, mx, va, ra, o1, es, ep, g1, _, dx, kx, px, _⟩ := I.hok x _ hx
  rw [gx] at g1; cases g1
  obtain ⟨gy, _, my, vb, rb, o2, fs, fp, g2, _, dy, ky, py, _⟩ := I.hok y _ hy
  rw [gy] at g2; cases g2
  have la : va.length = es.size := by rw [← px.length]; exact Array.length_toList
  have lb : vb.length = fs.size := by rw [← py.length]; exact Array.length_toList
  have zz : es.size = fs.size := by rw [← la, ← lb, ← ra.length, ← rb.length]; exact hl
  have find : ∀ k, findBy (mixKind X.prog X.w).is fs k = valueAt vb k := fun k => by
    rw [← py.find k]
    clear lb py ky dy gy zz hy
    obtain ⟨l⟩ := fs
    simp [findBy]
  unfold Builtin.Dict.samePairs Builtin.Dict.showsAll
  rw [if_neg (show ¬ (x == sysModules) = true by rw [mx]; exact Bool.false_ne_true), if_neg (show ¬ (y == sysModules) = true by rw [my]; exact Bool.false_ne_true)]
  refine wpAny_bind (wpAny_pure (wpAny_bind (wpAny_pure (wpAny_bind (wpAny_dictEntries gx dx ?_)))))
  dsimp only
  refine wpAny_bind (wpAny_dictEntries gy dy ?_)
  rw [if_neg (by rw [zz]; simp)]
  refine wpAny_bind (wpAny_dictEpoch gx dx (wpAny_bind ?_))
  rw [Std.Legacy.Range.forIn_eq_forIn_range']
  simp only [Std.Legacy.Range.size, Nat.sub_zero, Nat.add_sub_cancel, Nat.div_one]
  refine wpAny_forIn_list _ (fun rest b s' => LoopI X pins σ H s' ∧ b = (none, ()) ∧ ∃ i, rest = List.range' i (es.size - i) ∧ i ≤ es.size) _ ?_ ?_ _ _ ⟨⟨H, I, Ext.rfl'⟩, rfl, 0, by simp, Nat.zero_le _⟩
  · rintro j rest b s' ⟨L, rfl, i, er, le⟩
    have lt : i < es.size := by
      rcases Nat.lt_or_ge i es.size with z | z
      · exact z
      · rw [Nat.sub_eq_zero_of_le z] at er; simp at er
    obtain ⟨rfl, er'⟩ : j = i ∧ rest = List.range' (i + 1) (es.size - (i + 1)) := by
      rw [show es.size - i = (es.size - (i + 1)) + 1 by omega, List.range'_succ] at er
      injection er with e1 e2
      exact ⟨e1, e2⟩
    obtain ⟨H1, I1, x1⟩ := L
    have gx1 := (I1.hok x _ (x1 _ _ hx)).1
    have gy1 := (I1.hok y _ (x1 _ _ hy)).1
    refine wpAny_bind (wpAny_dictEntries gx1 dx ?_)
    rw [Array.getElem?_eq_getElem lt]
    have lta : j < va.length := by rw [la]; exact lt
    have ltk : j < ks.length := by rw [ra.length]; exact lta
    obtain ⟨k, v, ekv⟩ : ∃ k v, va[j] = (k, v) := ⟨_, _, rfl⟩
    obtain ⟨hkey, hval⟩ := px.get? (i := j) (e := es[j]) (k := k) (v := v) (by rw [Array.getElem?_toList]; exact Array.getElem?_eq_getElem lt) (by rw [List.getElem?_eq_getElem lta, ekv])
    obtain ⟨k', hk', hh⟩ := kx es[j] (Array.getElem_mem lt)
    have ek : k' = k := (mixKind X.prog X.w).inj _ _ _ hk' hkey
    rw [ek] at hh
    obtain ⟨pr, g3, f1, f2⟩ := paired_get ra (List.getElem?_eq_getElem ltk)
    rw [List.getElem?_eq_getElem lta, ekv] at g3
    cases g3
    simp only at f1 f2
    obtain ⟨u, hu, hd⟩ := hits ks[j] (List.getElem_mem ltk)
    rw [f1] at hu
    have rr : RelO (some u) (valueAt vb k) := by rw [← hu]; exact rb.val k
    obtain ⟨yv, hyv, ry⟩ := rr.some_of
    show wpAny _ _ (holding [es[j].key, es[j].val] _ >>= _) _ _ _
    rw [hh]
    refine wpAny_bind (wpAny_holding (wpAny_bind (wpAny_dictFind_of hkey gy1 dy ky ?_)))
    cases hj : fs.findIdx? fun e => (mixKind X.prog X.w).is k e.key with
    | none =>
      have none' : valueAt vb k = none := by rw [← find k, findBy_of_findIdx?, hj]
      rw [none'] at hyv; cases hyv
    | some m =>
      obtain ⟨ltm, _, _⟩ := Array.findIdx?_eq_some_iff_getElem.mp hj
      have hv' : valueAt vb k = some fs[m].val := by
        rw [← find k, findBy_of_findIdx?, hj]
        simp [Array.getElem?_eq_getElem ltm]
      refine wpAny_bind (wpAny_dictEntries gy1 dy ?_)
      rw [Array.getElem?_eq_getElem ltm]
      have ey : fs[m].val = yv := Option.some.inj (hv'.symm.trans hyv)
      have run := h A pins s' σ H1 _ _ es[j].val fs[m].val sb I1 (by rw [hval]; exact f2) (by rw [ey]; exact ry) (hD _ _ _ _ x1 hd)
      refine wpAny_holding (wpAny_mono run (fun r t z => ?_) fun _ _ z => z)
      obtain ⟨er2, H2, I2, x2⟩ := z
      subst er2
      have gx2 := (I2.hok x _ (x2 _ _ (x1 _ _ hx))).1
      show wpAny _ _ (if (!true) = true then _ else _) _ _ _
      rw [if_neg (by decide)]
      refine wpAny_bind (wpAny_dictEpoch gx2 dx ?_)
      rw [if_neg (by simp)]
      exact wpAny_pure ⟨⟨H2, I2, x1.trans x2⟩, rfl, j + 1, er', lt⟩
  · rintro b s' ⟨L, rfl, i, er, le⟩
    exact wpAny_pure (q s' L)
/-- a rich comparison by op gives r for what D says, and only makes objects -/
def RcO (X : Cx) (n : Nat) (op : CmpOp) (r : Bool) (D : Eqv) : Prop :=
  ∀ (A : Around) (pins : List (Addr × Obj)) (s : Shared) (σ : St) (H : Hp) (x y : V) (u v : Value), Sub X n A → Inv X pins σ H s → RelV x u → RelV y v → D x y H →
    wpAny (model X.prog X.w) A (richCompare op u v) (fun b s' => b = .bool r ∧ ∃ H', Inv X pins σ H' s' ∧ Ext H H') X.xe s
def DLocked (D : Eqv) : Eqv := fun x y H => ∃ a b oa ob ks ls, x = .ref a ∧ y = .ref b ∧ H a = some (.frz oa (.dK ks)) ∧ H b = some (.frz ob (.dK ls)) ∧ ks.length = ls.length ∧ ∀ p ∈ ks, ∃ u, valV ls p.1 = some u ∧ D p.2 u H
theorem dk_type (I : Inv X pins σ H s) (hx : H x = some (.frz ox (.dK ks))) : s.TypeIs (.ref x) "dict" := by
  obtain ⟨_, _, _, _, _, dd⟩ := I.hok x _ hx
  exact dd.typeIs
theorem rcO_eqD (hD : Mon D) (h : EqG X n D) : RcO X (n + 1) .Eq true (DLocked D) := by
  intro A pins s σ H x y u v sb I rx ry d
  obtain ⟨a, b, oa, ob, ks, ls, rfl, rfl, ha, hb, hl, hits⟩ := d
  cases rx
  cases ry
  refine wpAny_richCompare_same_room (op := .Eq) (dk_type I ha) (dk_type I hb) PySem.F.slot_dict_eq (wpAny_call_entry PySem.F.slot_dict_eq (dk_type I ha) PySem.F.entry_dict_eq ?_ (PySem.F.args_dict_eq_2 _ _)) sb.room.units0
  show wpAny _ _ (Builtin.Dict.dictSlotArgs "__eq__" ⟨[.ref a, .ref b], []⟩ >>= _) _ _ s
  refine wpAny_bind ?_
  unfold Builtin.Dict.dictSlotArgs
  refine wpAny_bind (wpAny_notOrdered_dict (dk_type I ha) ?_)
  show wpAny _ _ (pure (Value.ref a, Value.ref b)) _ _ s
  refine wpAny_pure (wpAny_bind (wpAny_isInstance (T := "dict") (dk_type I hb) PySem.F.sub_dict_dict ?_))
  simp only [Bool.not_true, Bool.false_eq_true, if_false]
  refine wpAny_bind (wpAny_pure (wpAny_bind (wpAny_pure (wpAny_bind ?_))))
  exact pairsG hD h sb.in1 ha hb hl hits I fun s' L => wpAny_pure ⟨_, rfl, (fun z => nomatch z), rfl, L⟩
theorem rcO_neD (hD : Mon D) (h : EqG X n D) : RcO X (n + 1) .NotEq false (DLocked D) := by
  intro A pins s σ H x y u v sb I rx ry d
  obtain ⟨a, b, oa, ob, ks, ls, rfl, rfl, ha, hb, hl, hits⟩ := d
  cases rx
  cases ry
  refine wpAny_richCompare_same_room (op := .NotEq) (dk_type I ha) (dk_type I hb) PySem.F.slot_dict_ne (wpAny_call_entry PySem.F.slot_dict_ne (dk_type I ha) PySem.F.entry_dict_ne ?_ (PySem.F.args_dict_ne_2 _ _)) sb.room.units0
  show wpAny _ _ (Builtin.Dict.dictSlotArgs "__ne__" ⟨[.ref a, .ref b], []⟩ >>= _) _ _ s
  refine wpAny_bind ?_
  unfold Builtin.Dict.dictSlotArgs
  refine wpAny_bind (wpAny_notOrdered_dict (dk_type I ha) ?_)
  show wpAny _ _ (pure (Value.ref a, Value.ref b)) _ _ s
  refine wpAny_pure (wpAny_bind (wpAny_isInstance (T := "dict") (dk_type I hb) PySem.F.sub_dict_dict ?_))
  simp only [Bool.not_true, Bool.false_eq_true, if_false]
  refine wpAny_bind (wpAny_pure (wpAny_bind (wpAny_pure (wpAny_bind ?_))))
  exact pairsG hD h sb.in1 ha hb hl hits I fun s' L => wpAny_pure ⟨_, rfl, (fun z => nomatch z), rfl, L⟩
theorem rcO_neL (hD : Mon D) (h : EqG X n D) : RcO X (n + 1) .NotEq false (DList D) := by
  intro A pins s σ H x y u v sb I rx ry d
  obtain ⟨a, b, xs, ys, rfl, rfl, ha, hb, p⟩ := d
  cases rx
  cases ry
  refine rcNe_list (M := xs.length) sb.room.units0 (fun _ s' => LoopI X pins σ H s') (fun i s' q => ?_) (fun s' q => ⟨rfl, q⟩) ⟨H, I, Ext.rfl'⟩
  obtain ⟨H1, I1, x1⟩ := id q
  obtain ⟨_, us, k, r, e⟩ := I1.hok a _ (x1 _ _ ha)
  obtain ⟨_, vs, m, r2, e2⟩ := I1.hok b _ (x1 _ _ hb)
  exact ⟨us.toArray, vs.toArray, k, m, e, e2, by rw [List.size_toArray, ← r.length], by rw [List.size_toArray, ← r2.length, ← p.1], fun h1 h2 => turnG hD h sb p r r2 i h1 h2 s' q⟩
theorem rcO_neT (hD : Mon D) (h : EqG X n D) : RcO X (n + 1) .NotEq false (DTup X.K D) := by
  intro A pins s σ H x y u v sb I rx ry d
  obtain ⟨a, b, xs, ys, rfl, rfl, ha, hb, p⟩ := d
  cases rx
  cases ry
  obtain ⟨us, r, e, _⟩ := I.tuple ha
  obtain ⟨vs, r2, e2, _⟩ := I.tuple hb
  exact rcNe_tup (by rw [List.size_toArray, List.size_toArray, ← r.length, ← r2.length]; exact p.1) sb.room.units0 (fun _ s' => LoopI X pins σ H s') e e2 (fun i h1 h2 s' q => turnG hD h sb p r r2 i h1 h2 s' q) (fun s' q => ⟨rfl, q⟩) ⟨H, I, Ext.rfl'⟩
end
end Mi

end
section
set_option maxRecDepth 100000
/-! Mi18: data that are equal; == and != of them as expressions. -/
namespace Mi
open PySem L2

/-! ### equal data -/
section
variable (E : Nat → List D → List D → Prop)
mutual
def Deq : D → D → Prop
  | .non, .non => True
  | .bl a, .bl b => a = b
  | .int a, .int b => a = b
  | .str a, .str b => a = b
  | .tup l, .tup m => DeqL l m
  | .lst l, .lst m => DeqL l m
  | .dK ks l, .dK ls m => (ks = ls ∧ DeqL l m) ∨ (ks.length = ls.length ∧ DeqK ls m ks l)
  | .ins c l, .ins c' m => c = c' ∧ E c l m
  | _, _ => False
def DeqL : List D → List D → Prop
  | [], [] => True
  | a :: l, b :: m => Deq a b ∧ DeqL l m
  | _, _ => False
def DeqK (ls : List Key) (m : List D) : List Key → List D → Prop
  | _, [] => True
  | k :: ks, d :: l => (∃ d', vl ls m k = some d' ∧ Deq d d') ∧ DeqK ls m ks l
  | [], _ :: _ => False
end
end
mutual
def dep : D → Nat
  | .tup l => depL l + 1
  | .lst l => depL l + 1
  | .dK _ l => depL l + 1
  | .dT _ l => depL l + 1
  | .scr l => depL l + 1
  | _ => 0
def depL : List D → Nat
  | [] => 0
  | d :: l => max (dep d) (depL l)
end
section
variable {E : Nat → List D → List D → Prop}
theorem DeqL.len : ∀ {l m : List D}, DeqL E l m → l.length = m.length
  | [], [], _ => rfl
  | _ :: _, _ :: _, h => by rw [List.length_cons, List.length_cons, DeqL.len h.2]
  | [], _ :: _, h => h.elim
  | _ :: _, [], h => h.elim
/-! data whose instances equal themselves -/
mutual
def Gd (E : Nat → List D → List D → Prop) : D → Prop
  | .tup l => GdL E l
  | .lst l => GdL E l
  | .dK _ l => GdL E l
  | .ins c l => E c l l
  | .dT _ _ => False
  | .scr _ => False
  | _ => True
def GdL (E : Nat → List D → List D → Prop) : List D → Prop
  | [] => True
  | d :: l => Gd E d ∧ GdL E l
end
mutual
theorem Deq.refl : ∀ {d : D}, Gd E d → Deq E d d
  | .non, _ => trivial
  | .bl _, _ => rfl
  | .int _, _ => rfl
  | .str _, _ => rfl
  | .tup _, h => DeqL.refl h
  | .lst _, h => DeqL.refl h
  | .dK _ _, h => .inl ⟨rfl, DeqL.refl h⟩
  | .ins _ _, h => ⟨rfl, h⟩
  | .dT _ _, h => h.elim
  | .scr _, h => h.elim
theorem DeqL.refl : ∀ {l : List D}, GdL E l → DeqL E l l
  | [], _ => trivial
  | _ :: _, h => ⟨Deq.refl h.1, DeqL.refl h.2⟩
end
end

/-! ### locking -/
section
variable {X : Cx} {pins : List (Addr × Obj)} {σ : St} {H : Hp} {s : Shared} {e : En} {F : Hp} {n n0 : Nat}
theorem isDct_mut {u : HO} (h : isDct u = true) : Mut (some u) := by cases u <;> first | (cases h; done) | trivial
theorem Und.lock {a : Addr} {u : HO} {o : Obj} (h : Und F H) (q : H a = some u) (d : isDct u = true) : Und F (upd H a (.frz o u)) := fun c w z => by
  by_cases hc : c = a
  · subst hc
    rcases h c w z with g | ⟨_, o', g⟩
    · rw [q] at g; cases g
      exact .inr ⟨d, o, upd_same⟩
    · rw [q] at g; cases g; cases d
  · unfold Lk
    rw [upd_ne hc]
    exact h c w z
theorem Und.ext {H' : Hp} (h : Und F H) (x : Ext H H') : Und F H' := fun c w z => by
  rcases h c w z with g | ⟨d, o, g⟩
  · exact .inl (x _ _ g)
  · exact .inr ⟨d, o, x _ _ g⟩
/-- D stays true while dicts are locked -/
def Sta (D : Eqv) : Prop := ∀ x y H a u o, H a = some u → isDct u = true → D x y H → D x y (upd H a (.frz o u))
def DDict (D : Eqv) : Eqv := fun x y H => ∃ a b ks ls, x = .ref a ∧ y = .ref b ∧ Lk H a (.dK ks) ∧ Lk H b (.dK ls) ∧ ks.length = ls.length ∧ ∀ p ∈ ks, ∃ u, valV ls p.1 = some u ∧ D p.2 u H
theorem lkB {D : Eqv} {op : CmpOp} {r : Bool} (st : Sta D) (h : RcO X n op r (DLocked D)) {A : Around} (sb : Sub X n A) (I : Inv X pins σ H s) {a b : Addr} {oa : Obj} {ks ls : List (Key × V)} (ha : H a = some (.frz oa (.dK ks))) (hb : Lk H b (.dK ls))
    (hl : ks.length = ls.length) (hits : ∀ p ∈ ks, ∃ u, valV ls p.1 = some u ∧ D p.2 u H) :
    wpAny (model X.prog X.w) A (richCompare op (.ref a) (.ref b)) (fun c s' => c = .bool r ∧ ∃ H', Inv X pins σ H' s' ∧ Ext H H') X.xe s := by
  rcases hb with hb | ⟨_, ob, hb⟩
  · have mu : Mut (some (HO.dK ls)) := trivial
    obtain ⟨ob, I1⟩ := I.lock hb mu
    have nf := I.nofrz hb mu
    have ne : a ≠ b := fun z => by rw [z, hb] at ha; cases ha
    refine wpAny_mono (h A pins s σ _ (.ref a) (.ref b) _ _ sb I1 rfl rfl ⟨a, b, oa, ob, ks, ls, rfl, rfl, by rw [upd_ne ne]; exact ha, upd_same, hl, fun p hp => ?_⟩) (fun c s' q => ?_) fun _ _ z => z
    · obtain ⟨u, h1, h2⟩ := hits p hp
      exact ⟨u, h1, st _ _ _ _ _ _ hb rfl h2⟩
    · obtain ⟨rfl, H', I2, x2⟩ := q
      have l2 := x2 b _ upd_same
      refine ⟨rfl, _, I2.unlock l2 nf, fun c o z => ?_⟩
      by_cases hc : c = b
      · subst hc; rw [hb] at z; cases z; exact upd_same
      · rw [upd_ne hc]; exact x2 c o (by rw [upd_ne hc]; exact z)
  · exact h A pins s σ H (.ref a) (.ref b) _ _ sb I rfl rfl ⟨a, b, oa, ob, ks, ls, rfl, rfl, ha, hb, hl, hits⟩
theorem rcO_dk {D : Eqv} {op : CmpOp} {r : Bool} (st : Sta D) (h : RcO X n op r (DLocked D)) : RcO X n op r (DDict D) := by
  intro A pins s σ H x y u v sb I rx ry d
  obtain ⟨a, b, ks, ls, rfl, rfl, ha, hb, hl, hits⟩ := d
  cases rx
  cases ry
  rcases ha with ha | ⟨_, oa, ha⟩
  · have mu : Mut (some (HO.dK ks)) := trivial
    obtain ⟨oa, I1⟩ := I.lock ha mu
    have nf := I.nofrz ha mu
    have hb' : Lk (upd H a (.frz oa (.dK ks))) b (.dK ls) := by
      by_cases hc : b = a
      · subst hc
        rcases hb with g | ⟨_, o', g⟩
        · rw [ha] at g; cases g; exact .inr ⟨rfl, oa, upd_same⟩
        · rw [ha] at g; cases g
      · unfold Lk; rw [upd_ne hc]; exact hb
    refine wpAny_mono (lkB st h sb I1 (oa := oa) upd_same hb' hl fun p hp => ?_) (fun c s' q => ?_) fun _ _ z => z
    · obtain ⟨u, h1, h2⟩ := hits p hp
      exact ⟨u, h1, st _ _ _ _ _ _ ha rfl h2⟩
    · obtain ⟨rfl, H', I2, x2⟩ := q
      have l2 := x2 a _ upd_same
      refine ⟨rfl, _, I2.unlock l2 nf, fun c o z => ?_⟩
      by_cases hc : c = a
      · subst hc; rw [ha] at z; cases z; exact upd_same
      · rw [upd_ne hc]; exact x2 c o (by rw [upd_ne hc]; exact z)
  · exact lkB st h sb I ha hb hl hits

/-! ### two values that bear equal data -/
def DDn (e : En) (E : Nat → List D → List D → Prop) (n : Nat) : Eqv := fun x y H => ∃ F a b, Und F H ∧ Rep e F a x ∧ Rep e F b y ∧ Deq E a b ∧ dep a ≤ n
def DIe (e : En) (c : Nat) (l m : List D) : Eqv := fun x y H => ∃ F, Und F H ∧ Rep e F (.ins c l) x ∧ Rep e F (.ins c m) y
variable {E : Nat → List D → List D → Prop}
theorem mon_DDn : Mon (DDn e E n) := fun x y H H' ex ⟨F, a, b, h1, h2⟩ => ⟨F, a, b, h1.ext ex, h2⟩
theorem sta_DDn : Sta (DDn e E n) := fun x y H a u o q d ⟨F, c, b, h1, h2⟩ => ⟨F, c, b, h1.lock q d, h2⟩
theorem prs_of (hU : Und F H) : ∀ {l m : List D} {vs ws : List V}, RepL e F l vs → RepL e F m ws → DeqL E l m → depL l ≤ n → Prs (DDn e E n) vs ws H
  | [], [], _, _, h1, h2, _, _ => by cases h1; cases h2; exact Prs.nil
  | a :: l, b :: m, _, _, ⟨v, r, e1, h1, h2⟩, ⟨v', r', e2, g1, g2⟩, q, hd => by
    subst e1; subst e2
    have hd' : max (dep a) (depL l) ≤ n := hd
    exact Prs.cons ⟨F, a, b, hU, h1, g1, q.1, by omega⟩ (prs_of hU h2 g2 q.2 (by omega))
  | [], _ :: _, _, _, _, _, q, _ => q.elim
  | _ :: _, [], _, _, _, _, q, _ => q.elim
theorem valV_nd {κ : Type} [DecidableEq κ] : ∀ {ks : List κ} {ws : List V} {i : Nat} {k : κ} {w : V}, ks.Nodup → ks[i]? = some k → ws[i]? = some w → valV (ks.zip ws) k = some w
  | [], _, _, _, _, _, h, _ => by simp at h
  | _ :: _, [], _, _, _, _, _, h => by simp at h
  | k0 :: ks, w0 :: ws, 0, k, w, nd, h1, h2 => by
    simp at h1 h2; subst h1; subst h2
    exact valV_pos (p := (k0, w0)) rfl
  | k0 :: ks, w0 :: ws, i + 1, k, w, nd, h1, h2 => by
    have h1' : ks[i]? = some k := by simpa using h1
    have ne : ¬ k0 = k := fun z => (List.nodup_cons.mp nd).1 (z ▸ List.mem_of_getElem? h1')
    show valV ((k0, w0) :: ks.zip ws) k = some w
    rw [valV_neg (p := (k0, w0)) ne]
    exact valV_nd (List.nodup_cons.mp nd).2 h1' (by simpa using h2)
theorem hits_same (hU : Und F H) {ks : List Key} {l m : List D} {vs ws : List V} (nd : ks.Nodup) (h1 : RepL e F l vs) (h2 : RepL e F m ws) (q : DeqL E l m) (hd : depL l ≤ n) :
    ∀ p ∈ ks.zip vs, ∃ u, valV (ks.zip ws) p.1 = some u ∧ DDn e E n p.2 u H := fun p hp => by
  have P := prs_of hU h1 h2 q hd
  obtain ⟨i, hi⟩ := List.getElem?_of_mem hp
  rw [List.getElem?_zip_eq_some] at hi
  have hlt : i < ws.length := by rw [← P.1]; exact (List.getElem?_eq_some_iff.mp hi.2).1
  exact ⟨ws[i], valV_nd nd hi.1 (List.getElem?_eq_getElem hlt), P.2 i _ _ hi.2 (List.getElem?_eq_getElem hlt)⟩
theorem hits_keys (hU : Und F H) {ls : List Key} {m : List D} {ws : List V} (h2 : RepL e F m ws) (hl : ls.length = ws.length) : ∀ {ks : List Key} {l : List D} {vs : List V}, RepL e F l vs → DeqK E ls m ks l → depL l ≤ n →
    ∀ p ∈ ks.zip vs, ∃ u, valV (ls.zip ws) p.1 = some u ∧ DDn e E n p.2 u H
  | ks, [], _, h1, _, _, p, hp => by cases h1; simp at hp
  | [], _ :: _, _, _, q, _, _, _ => q.elim
  | k :: ks, d :: l, _, ⟨v, r, e1, h1, h3⟩, q, hd, p, hp => by
    subst e1
    obtain ⟨⟨d', q1, q2⟩, q3⟩ := q
    have hd' : max (dep d) (depL l) ≤ n := hd
    rcases List.mem_cons.mp hp with rfl | hp
    · have hv := vl_rep k h2 hl
      rw [q1] at hv
      obtain ⟨w, g1, g2⟩ := hv
      exact ⟨w, g1, F, d, d', hU, h1, g2, q2, by omega⟩
    · exact hits_keys hU h2 hl h3 q3 (by omega) p hp
theorem dk_nd (I : Inv X pins σ H s) {a : Addr} {ks : List Key} {vs : List V} (h : Lk H a (.dK (ks.zip vs))) (hl : ks.length = vs.length) : ks.Nodup := by
  have go : ∀ {kvs : List (Key × V)}, ObjOk X.prog X.w H s.heap a (.dK kvs) → (kvs.map (·.1)).Nodup := fun {kvs} ⟨_, _, va, ra, _, _, _, _, _, _, _, _, nd⟩ => by rw [ra.keys]; exact nd
  have e1 : (ks.zip vs).map (·.1) = ks := by
    rw [List.map_fst_zip]
    omega
  rcases h with h | ⟨_, o, h⟩
  · have := go (I.hok a _ h); rwa [e1] at this
  · obtain ⟨_, z⟩ := I.hok a _ h
    have := go z; rwa [e1] at this
/-- the pairs of two dicts -/
theorem ddict_of (I : Inv X pins σ H s) (hU : Und F H) {ks ls : List Key} {l m : List D} {x y : V} (h1 : Rep e F (.dK ks l) x) (h2 : Rep e F (.dK ls m) y) (q : Deq E (.dK ks l) (.dK ls m)) (hd : depL l ≤ n) : DDict (DDn e E n) x y H := by
  obtain ⟨a, vs, rfl, f1, g1, r1⟩ := h1
  obtain ⟨b, ws, rfl, f2, g2, r2⟩ := h2
  have k1 := hU a _ f1
  have k2 := hU b _ f2
  rcases q with ⟨rfl, q⟩ | ⟨hl, q⟩
  · refine ⟨a, b, _, _, rfl, rfl, k1, k2, by rw [List.length_zip, List.length_zip, ← g1, ← g2], ?_⟩
    exact hits_same hU (dk_nd I k1 g1) r1 r2 q hd
  · refine ⟨a, b, _, _, rfl, rfl, k1, k2, by rw [List.length_zip, List.length_zip, ← g1, ← g2, hl], ?_⟩
    exact hits_keys hU r2 g2 r1 q hd
theorem und_lst (hU : Und F H) {a : Addr} {vs : List V} (h : F a = some (.lst vs)) : H a = some (.lst vs) := by
  rcases hU a _ h with g | ⟨d, _⟩
  · exact g
  · cases d
theorem eqG_s (hK : X.K = e.K) (hc : ∀ c l m, E c l m → EqG X n0 (DIe e c l m)) (ih : ∀ j, n = j + 1 → EqG X (n0 + j) (DDn e E j)) : EqG X (n0 + n) (DDn e E n) := by
    intro A pins s σ H x y u v sb I rx ry ⟨F, a, b, hU, h1, h2, q, hd⟩
    have flat : DFlat x y H → wpAny (model X.prog X.w) A (eqBool u v) (fun r s' => r = true ∧ ∃ H', Inv X pins σ H' s' ∧ Ext H H') X.xe s := fun z => eqG_flat A pins s σ H x y u v (sb.mono (Nat.zero_le _)) I rx ry z
    cases a <;> cases b <;> first | exact q.elim | skip
    · cases h1; cases h2; exact flat ⟨rfl, rfl, by decide⟩
    · cases h1; cases h2; cases q; exact flat ⟨rfl, rfl, by simp [eqV]⟩
    · cases h1; cases h2; cases q; exact flat ⟨rfl, rfl, by simp [eqV]⟩
    · cases h1; cases h2; cases q; exact flat ⟨rfl, rfl, by simp [eqV]⟩
    · cases n with
      | zero => exact absurd hd (Nat.not_succ_le_zero _)
      | succ n =>
        obtain ⟨p, vs, rfl, f1, r1⟩ := h1
        obtain ⟨p', ws, rfl, f2, r2⟩ := h2
        have P := prs_of (n := n) hU r1 r2 q (Nat.le_of_succ_le_succ hd)
        refine eqG_tup mon_DDn (ih n rfl) A pins s σ H _ _ u v sb I rx ry ⟨p, p', vs, ws, rfl, rfl, ?_, ?_, P⟩
        · rw [hK]; exact hU.sqT (tupT f1)
        · rw [hK]; exact hU.sqT (tupT f2)
    · cases n with
      | zero => exact absurd hd (Nat.not_succ_le_zero _)
      | succ n =>
        obtain ⟨p, vs, rfl, f1, r1⟩ := h1
        obtain ⟨p', ws, rfl, f2, r2⟩ := h2
        have P := prs_of (n := n) hU r1 r2 q (Nat.le_of_succ_le_succ hd)
        exact eqG_list mon_DDn (ih n rfl) A pins s σ H _ _ u v sb I rx ry ⟨p, p', vs, ws, rfl, rfl, und_lst hU f1, und_lst hU f2, P⟩
    · cases n with
      | zero => exact absurd hd (Nat.not_succ_le_zero _)
      | succ n =>
        have dd := ddict_of (n := n) I hU h1 h2 q (Nat.le_of_succ_le_succ hd)
        have rc : RcG X (n0 + n + 1) (DDict (DDn e E n)) := rcO_dk sta_DDn (rcO_eqD mon_DDn (ih n rfl))
        exact rc.eqG (fun _ _ _ ⟨a, b, _, _, ea, eb, _⟩ => ⟨a, b, ea, eb⟩) A pins s σ H x y u v sb I rx ry dd
    · obtain ⟨rfl, q⟩ := q
      exact hc _ _ _ q A pins s σ H x y u v (sb.mono (Nat.le_add_right _ _)) I rx ry ⟨F, hU, h1, h2⟩
theorem eqG_n (hK : X.K = e.K) (hc : ∀ c l m, E c l m → EqG X n0 (DIe e c l m)) : ∀ n, EqG X (n0 + n) (DDn e E n)
  | 0 => eqG_s hK hc fun j h => by cases h
  | n + 1 => eqG_s hK hc fun j h => by cases h; exact eqG_n hK hc n
def isCon : D → Bool
  | .tup _ => true
  | .lst _ => true
  | .dK _ _ => true
  | _ => false
def DDc (e : En) (E : Nat → List D → List D → Prop) (n : Nat) : Eqv := fun x y H => ∃ F a b, Und F H ∧ Rep e F a x ∧ Rep e F b y ∧ Deq E a b ∧ dep a ≤ n + 1 ∧ isCon a = true
theorem rcO_top {k : Nat} {op : CmpOp} {r : Bool} (hT : RcO X k op r (DTup X.K (DDn e E n))) (hL : RcO X k op r (DList (DDn e E n))) (hD : RcO X k op r (DLocked (DDn e E n))) (hK : X.K = e.K) : RcO X k op r (DDc e E n) := by
  intro A pins s σ H x y u v sb I rx ry ⟨F, a, b, hU, h1, h2, q, hd, hi⟩
  cases a <;> first | (cases hi; done) | skip
  · cases b <;> first | exact q.elim | skip
    obtain ⟨p, vs, rfl, f1, r1⟩ := h1
    obtain ⟨p', ws, rfl, f2, r2⟩ := h2
    refine hT A pins s σ H _ _ u v sb I rx ry ⟨p, p', vs, ws, rfl, rfl, ?_, ?_, prs_of hU r1 r2 q (Nat.le_of_succ_le_succ hd)⟩
    · rw [hK]; exact hU.sqT (tupT f1)
    · rw [hK]; exact hU.sqT (tupT f2)
  · cases b <;> first | exact q.elim | skip
    obtain ⟨p, vs, rfl, f1, r1⟩ := h1
    obtain ⟨p', ws, rfl, f2, r2⟩ := h2
    exact hL A pins s σ H _ _ u v sb I rx ry ⟨p, p', vs, ws, rfl, rfl, und_lst hU f1, und_lst hU f2, prs_of hU r1 r2 q (Nat.le_of_succ_le_succ hd)⟩
  · cases b <;> first | exact q.elim | skip
    exact rcO_dk sta_DDn hD A pins s σ H x y u v sb I rx ry (ddict_of I hU h1 h2 q (Nat.le_of_succ_le_succ hd))
end
end Mi

end
section
set_option maxRecDepth 100000
/-! Mi19: == and != in depth as expressions. -/
namespace Mi
open PySem L2

def ul : HO → HO
  | .frz o u => if isDct u = true then u else .frz o u
  | x => x
/-- the frozen part and whatever else the heap holds, nothing locked -/
def full (F H : Hp) : Hp := fun a => match F a with
  | some u => some (ul u)
  | none => (H a).map ul
def noFrz (u : HO) : Prop := ∀ o w, u ≠ .frz o w
theorem ul_no {u : HO} (h : noFrz u) : ul u = u := by cases u <;> first | rfl | exact (h _ _ rfl).elim
theorem ul_frz {o : Obj} {u : HO} (h : isDct u = true) : ul (.frz o u) = u := by
  show (if isDct u = true then u else HO.frz o u) = u
  rw [if_pos h]
theorem ul_frzN {o : Obj} {u : HO} (h : isDct u = false) : ul (.frz o u) = .frz o u := by
  show (if isDct u = true then u else HO.frz o u) = .frz o u
  rw [if_neg (by rw [h]; decide)]
theorem dct_no {u : HO} (h : isDct u = true) : noFrz u := fun o w z => by subst z; cases h
theorem ul_lk {H : Hp} {a : Addr} {w : HO} (h : H a = some w) : Lk H a (ul w) := by
  cases w <;> first | exact .inl h | skip
  rename_i o w
  cases d : isDct w with
  | true => rw [ul_frz d]; exact .inr ⟨d, o, h⟩
  | false => rw [ul_frzN d]; exact .inl h
section
variable {e : En} {F H : Hp}
theorem full_F {a : Addr} {u : HO} (h : F a = some u) : full F H a = some (ul u) := by unfold full; rw [h]
theorem full_N {a : Addr} (h : F a = none) : full F H a = (H a).map ul := by unfold full; rw [h]
theorem und_full (hU : Und F H) : Und (full F H) H := fun a u h => by
  cases z : F a with
  | some w =>
    rw [full_F z] at h; cases h
    rcases hU a _ z with g | ⟨d, o, g⟩
    · exact ul_lk g
    · rw [ul_no (dct_no d)]; exact .inr ⟨d, o, g⟩
  | none =>
    rw [full_N z] at h
    cases y : H a with
    | none => rw [y] at h; cases h
    | some w => rw [y] at h; cases h; exact ul_lk y
theorem full_lk (hU : Und F H) {a : Addr} {u : HO} (n : noFrz u) (h : Lk H a u) : full F H a = some u := by
  cases z : F a with
  | some w =>
    rw [full_F z]
    rcases hU a _ z with g | ⟨d, o, g⟩
    · rcases h with h | ⟨d, o, h⟩
      · rw [h] at g; cases g; rw [ul_no n]
      · rw [h] at g; cases g; rw [ul_frz d]
    · rcases h with h | ⟨d', o', h⟩
      · rw [h] at g; cases g; exact (n _ _ rfl).elim
      · rw [h] at g; cases g; rw [ul_no n]
  | none =>
    rw [full_N z]
    rcases h with h | ⟨d, o, h⟩
    · rw [h]; exact congrArg some (ul_no n)
    · rw [h]; exact congrArg some (ul_frz d)
theorem full_frz (hU : Und F H) {a : Addr} {o : Obj} {u : HO} (d : isDct u = false) (h : H a = some (.frz o u)) : full F H a = some (.frz o u) := by
  cases z : F a with
  | some w =>
    rw [full_F z]
    rcases hU a _ z with g | ⟨d', o', g⟩
    · rw [h] at g; cases g; rw [ul_frzN d]
    · rw [h] at g; cases g; rw [d] at d'; cases d'
  | none => rw [full_N z, h]; exact congrArg some (ul_frzN d)
theorem full_T (hU : Und F H) {a : Addr} {vs : List V} (h : SqT e.K H a vs) : SqT e.K (full F H) a vs := by
  rcases h with (h | ⟨o, h⟩) | h
  · exact .inl (.inl (full_lk hU (fun _ _ z => nomatch z) (.inl h)))
  · exact .inl (.inr ⟨o, full_frz hU rfl h⟩)
  · exact .inr h
theorem full_L (hU : Und F H) {a : Addr} {vs : List V} (h : SqL e.K H a vs) : SqL e.K (full F H) a vs := by
  rcases h with (h | ⟨o, h⟩) | h
  · exact .inl (.inl (full_lk hU (fun _ _ z => nomatch z) (.inl h)))
  · exact .inl (.inr ⟨o, full_frz hU rfl h⟩)
  · exact .inr h
mutual
theorem Rep.full (hU : Und F H) : ∀ {d : D} {v : V}, Rep e F d v → Rep e (Mi.full F H) d v
  | .non, _, h => h
  | .bl _, _, h => h
  | .int _, _, h => h
  | .str _, _, h => h
  | .tup _, _, ⟨a, vs, h0, h1, h2⟩ => ⟨a, vs, h0, full_lk hU (fun _ _ z => nomatch z) (hU a _ h1), RepL.full hU h2⟩
  | .lst _, _, ⟨a, vs, h0, h1, h2⟩ => ⟨a, vs, h0, full_lk hU (fun _ _ z => nomatch z) (hU a _ h1), RepL.full hU h2⟩
  | .scr _, _, ⟨a, vs, h0, h1, h2⟩ => ⟨a, vs, h0, full_L hU (hU.sqL h1), RepL.full hU h2⟩
  | .dK _ _, _, ⟨a, vs, h0, h1, h2, h3⟩ => ⟨a, vs, h0, full_lk hU (fun _ _ z => nomatch z) (hU a _ h1), h2, RepL.full hU h3⟩
  | .dT _ _, _, ⟨a, vs, h0, h1, h2, h3⟩ => ⟨a, vs, h0, full_lk hU (fun _ _ z => nomatch z) (hU a _ h1), h2, RepL.full hU h3⟩
  | .ins _ _, _, ⟨a, dx, vs, h0, h1, h2, h3⟩ => ⟨a, dx, vs, h0, full_lk hU (fun _ _ z => nomatch z) (hU a _ h1), h2, RepL.full hU h3⟩
theorem RepL.full (hU : Und F H) : ∀ {ds : List D} {vs : List V}, RepL e F ds vs → RepL e (Mi.full F H) ds vs
  | [], _, h => h
  | _ :: _, _, ⟨v, r, h0, h1, h2⟩ => ⟨v, r, h0, Rep.full hU h1, RepL.full hU h2⟩
end
theorem Vw.full (hU : Und F H) : ∀ {d : D} {v : V}, Vw e H F d v → Rep e (Mi.full F H) d v
  | .non, _, h => h
  | .bl _, _, h => h
  | .int _, _, h => h
  | .str _, _, h => h
  | .tup _, _, ⟨a, vs, h0, h1, h2⟩ => ⟨a, vs, h0, full_lk hU (fun _ _ z => nomatch z) (.inl h1), RepL.full hU h2⟩
  | .lst _, _, ⟨a, vs, h0, h1, h2⟩ => ⟨a, vs, h0, full_lk hU (fun _ _ z => nomatch z) (.inl h1), RepL.full hU h2⟩
  | .scr _, _, ⟨a, vs, h0, h1, h2⟩ => ⟨a, vs, h0, full_L hU h1, RepL.full hU h2⟩
  | .dK _ _, _, ⟨a, vs, h0, h1, h2, h3⟩ => ⟨a, vs, h0, full_lk hU (fun _ _ z => nomatch z) h1, h2, RepL.full hU h3⟩
  | .dT _ _, _, ⟨a, vs, h0, h1, h2, h3⟩ => ⟨a, vs, h0, full_lk hU (fun _ _ z => nomatch z) h1, h2, RepL.full hU h3⟩
  | .ins _ _, _, ⟨a, dx, vs, h0, h1, h2, h3⟩ => ⟨a, dx, vs, h0, full_lk hU (fun _ _ z => nomatch z) (.inl h1), h2, RepL.full hU h3⟩
end

/-! ### a heap that has grown -/
theorem OR.same {e : En} {F F' : Hp} {u : HO} {d : D} (s : Same F F') (h : OR e F u d) : OR e F' u d := OR.mono s h
theorem Rl.grow {e : En} {r : Rho} {σ : St} {H H' F : Hp} {fm : Fm} (R : Rl e r σ H F fm) (x : Ext H H') : Rl e r σ H' F fm where
  fh := R.fh.ext x
  gh := fun a u q => x a u (R.gh a u q)
  bf := R.bf
  bh := fun a b => by
    cases z : H a with
    | none => exact (R.bh a b z).elim
    | some u => rw [x a u z]; simp
  bt := fun a xs b => by
    cases z : H a with
    | none => exact (R.bh a b z).elim
    | some u => rw [x a u z, ← z]; exact R.bt a xs b
  ln := R.ln
  va := R.va
  ow := fun i d h => by obtain ⟨p, u, h1, h2, h3, h4⟩ := R.ow i d h; exact ⟨p, u, h1, x p u h2, h3, h4⟩
  ap := R.ap
  pn := R.pn

/-! ### the operations -/
/-- instances that equal each other by the == of their class -/
def cE (g : Nat → Option MS) : Nat → List D → List D → Prop := fun c l m => ∃ f, g c = some f ∧ ∃ r', f [.val (.ins c l), .val (.ins c m)] = .rt (.val (.bl true)) r'
open Classical in
noncomputable def eqxD (g : Nat → Option MS) (k : Nat) (a b : D) : Option R0 := match eqS a b with
  | some t => vB t
  | none => if Deq (cE g) a b ∧ dep a ≤ k + 1 ∧ isCon a = true then vB true else none
open Classical in
noncomputable def nexD (g : Nat → Option MS) (k : Nat) (a b : D) : Option R0 := match eqS a b with
  | some t => vB (!t)
  | none => if Deq (cE g) a b ∧ dep a ≤ k + 1 ∧ isCon a = true then vB false else none
/-- the classes' own == -/
structure ClEq (X : Cx) (e : En) (W : Wi) (n0 : Nat) (g : Nat → Option MS) : Prop where
  k : X.K = e.K
  h : ∀ c l m, cE g c l m → EqG X n0 (DIe e c l m)
section
variable {e : En} {X : Cx} {W : Wi} {a b : Expr} {m n : ME} {pos : Pos} {g : Nat → Option MS} {n0 k : Nat}
theorem clEq_none (hK : X.K = e.K) : ClEq X e W n0 fun _ => none := ⟨hK, fun c l m ⟨f, h, _⟩ => by cases h⟩
theorem spEq_of {f : MS} {c : Nat} {l m : List D} (h : ∃ r', f [.val (.ins c l), .val (.ins c m)] = .rt (.val (.bl true)) r') : ∀ vs H Q E, spEq (fun a b H => ∃ F, Und F H ∧ Rep e F (.ins c l) (.ref a) ∧ Rep e F (.ins c m) (.ref b)) vs H Q E → spOf e 2 f vs H Q E := by
  rintro vs H Q E ⟨a, b, rfl, ⟨F, hU, h1, h2⟩, q⟩
  obtain ⟨r', h⟩ := h
  refine ⟨rfl, [.val (.ins c l), .val (.ins c m)], F, H, fun _ => False, ?_, ?_⟩
  · exact {
      fh := hU
      gh := Same.refl _
      bf := fun _ z => z.elim
      bh := fun _ z => z.elim
      bt := fun _ _ z => z.elim
      ln := rfl
      va := fun i d z => by
        match i, z with
        | 0, z => simp at z; subst z; exact ⟨_, rfl, h1⟩
        | 1, z => simp at z; subst z; exact ⟨_, rfl, h2⟩
        | _ + 2, z => simp at z
      ow := fun i d z => by
        match i, z with
        | 0, z => simp at z
        | 1, z => simp at z
        | _ + 2, z => simp at z
      ap := fun i j d d' p z => by
        match i, z with
        | 0, z => simp at z
        | 1, z => simp at z
        | _ + 2, z => simp at z
      pn := fun _ z => by cases z }
  · rw [h]
    intro v H' F' R s hv
    cases hv
    exact q H' R.gh
theorem clEq_of {f0 : MS} {c : Nat} {f : Addr} {fd : FuncData} {ps : List Str} (hK : X.K = e.K) (O : OpO X.K (e.ct c) "__eq__" f) (F : FnOk X.prog X.w X.K X.mg X.base (L2.CX X.prog X.w) n0 f fd ps (spOf e 2 f0)) (hb : Binds X.K fd ps []) (tk : Takes X W.w)
    (hg : ∀ c' f', g c' = some f' → c' = c ∧ f' = f0) : ClEq X e W n0 g where
  k := hK
  h := fun c' l m ⟨f', h1, h2⟩ => by
    obtain ⟨rfl, rfl⟩ := hg c' f' h1
    have F' := F.imp (spEq_of (e := e) h2)
    refine (eqG_ins (E := fun _ _ _ => False) F' O.at_ O.fn hb (passes_call tk fun _ _ _ _ z => z.elim)).imp fun x y H ⟨F0, hU, z1, z2⟩ => ?_
    obtain ⟨a, dx, vs, rfl, f1, g1, r1⟩ := id z1
    obtain ⟨b, dy, ws, rfl, f2, g2, r2⟩ := id z2
    have i1 : H a = some (.ins (e.ct c') dx ((e.fl c').zip vs)) := by
      rcases hU a _ f1 with z | ⟨d, _⟩
      · exact z
      · cases d
    have i2 : H b = some (.ins (e.ct c') dy ((e.fl c').zip ws)) := by
      rcases hU b _ f2 with z | ⟨d, _⟩
      · exact z
      · cases d
    exact ⟨a, b, dx, dy, _, _, rfl, rfl, i1, i2, F0, hU, z1, z2⟩
def rEqX (e : En) (g : Nat → Option MS) (k : Nat) (r : R2) (t : Bool) : R2 := fun x y H Q => r x y H Q ∨ (DDc e (cE g) k x y H ∧ ∀ H', Ext H H' → Q (.bl t) H')
theorem op_rcO {op : CmpOp} {t : Bool} {j : Nat} {D : Eqv} (hs : ∀ u v, compareOp op u v = richCompare op u v) (h : RcO X j op t D) (hr : Room j X.A) : OpR X (compareOp op) (fun x y H Q => D x y H ∧ ∀ H', Ext H H' → Q (.bl t) H') := by
  intro pins s σ H x y v u Q I rx ry hq
  obtain ⟨d, q⟩ := hq
  rw [hs]
  refine wpAny_mono (h X.A pins s σ H x y v u ⟨hr, rfl⟩ I rx ry d) (fun r s' z => ?_) fun _ _ x => x
  obtain ⟨hr', H', I', x⟩ := z
  subst hr'
  exact ⟨.bl t, H', I', rfl, q H' x⟩
theorem op_eqX (C : ClEq X e W n0 g) (hr : Room (n0 + k + 1) X.A) : OpR X (compareOp .Eq) (rEqX e g k rEq true) := by
  have i := eqG_n C.k C.h k
  exact op_eq.or (op_rcO (fun _ _ => rfl) (rcO_top (show RcO X (n0 + k + 1) .Eq true _ from rcG_tup mon_DDn i) (show RcO X (n0 + k + 1) .Eq true _ from rcG_list mon_DDn i) (rcO_eqD mon_DDn i) C.k) hr)
theorem op_neX (C : ClEq X e W n0 g) (hr : Room (n0 + k + 1) X.A) : OpR X (compareOp .NotEq) (rEqX e g k rNe false) := by
  have i := eqG_n C.k C.h k
  exact op_ne.or (op_rcO (fun _ _ => rfl) (rcO_top (rcO_neT mon_DDn i) (rcO_neL mon_DDn i) (rcO_neD mon_DDn i) C.k) hr)
/-- the result of an operation that may lay objects: a truth -/
def PQx (H : Hp) (o : Option R0) (Q : VK) : Prop := match o with
  | some (.val (.bl t)) => ∀ H', Ext H H' → Q (.bl t) H'
  | _ => False
def P2x (e : En) (f : D → D → Option R0) (r : R2) : Prop := ∀ d1 d2 v1 v2 H F Q, Und F H → Vw e H F d1 v1 → Vw e H F d2 v2 → PQx H (f d1 d2) Q → r v1 v2 H Q
def onlyB (f : D → D → Option R0) : Prop := ∀ a b, f a b = none ∨ ∃ t, f a b = vB t
theorem tOpX_te {ta tb : TE} {r : R2} {f : D → D → Option R0} (ho : onlyB f) (hp : P2x e f r) (ha : TeE e W ta m) (hb : TeE e W tb n) : TeE e W (tOp r ta tb) (eOp f m n) := fun ρ σ H F fm Q hC R q => by
  refine TeE.stl ha ρ σ H F fm _ hC R ?_
  have q1 := Po.bd q
  cases z1 : stl m ρ with
  | no => rw [z1] at q1; exact q1
  | ex x r1 => rw [z1] at q1; exact q1
  | ok x r1 =>
    rw [z1] at q1
    intro H1 F1 R1 s1 v1 hv1
    refine TeE.stl hb r1 σ H1 F1 fm _ hC R1 ?_
    refine (Po.bd (q1 H1 F1 R1 s1)).mono fun y r2 H2 F2 R2 s2 q3 v2 hv2 => ?_
    have hv1' : RvR e x v1 r2 σ H2 F2 fm := stay (stl_own z1) s2 hv1
    cases l1 : look x r2 with
    | none => rw [l1] at q3; exact q3.elim
    | some d1 =>
      cases l2 : look y r2 with
      | none => rw [l1, l2] at q3; exact q3.elim
      | some d2 =>
        rw [l1, l2] at q3
        refine hp d1 d2 v1 v2 H2 F2 Q R2.fh (look_vw R2 hv1' l1) (look_vw R2 hv2 l2) ?_
        rcases ho d1 d2 with h | ⟨t, h⟩
        · have q4 : Po e W fm F2 σ (KE' e fm σ Q) (res (f d1 d2) r2) := q3
          rw [h] at q4; exact q4.elim
        · have q4 : Po e W fm F2 σ (KE' e fm σ Q) (res (f d1 d2) r2) := q3
          rw [h] at q4
          rw [h]
          exact fun H' x => q4 H' F2 (R2.grow x) (Same.refl _) (.bl t) rfl
open Classical in
theorem only_eqx : onlyB (eqxD g k) := fun a b => by
  unfold eqxD
  cases eqS a b with
  | some t => exact .inr ⟨t, rfl⟩
  | none =>
    dsimp only
    by_cases z : Deq (cE g) a b ∧ dep a ≤ k + 1 ∧ isCon a = true
    · rw [if_pos z]; exact .inr ⟨true, rfl⟩
    · rw [if_neg z]; exact .inl rfl
open Classical in
theorem only_nex : onlyB (nexD g k) := fun a b => by
  unfold nexD
  cases eqS a b with
  | some t => exact .inr ⟨!t, rfl⟩
  | none =>
    dsimp only
    by_cases z : Deq (cE g) a b ∧ dep a ≤ k + 1 ∧ isCon a = true
    · rw [if_pos z]; exact .inr ⟨false, rfl⟩
    · rw [if_neg z]; exact .inl rfl
open Classical in
theorem p2x_eq : P2x e (eqxD g k) (rEqX e g k rEq true) := fun d1 d2 v1 v2 H F Q hU h1 h2 q => by
  unfold eqxD at q
  cases z : eqS d1 d2 with
  | some t =>
    rw [z] at q
    refine .inl (p2_eq (e := e) d1 d2 v1 v2 H F Q h1 h2 ?_)
    unfold eqD
    rw [z]
    intro v hv
    cases hv
    exact q H Ext.rfl'
  | none =>
    rw [z] at q
    have q' : PQx H (if Deq (cE g) d1 d2 ∧ dep d1 ≤ k + 1 ∧ isCon d1 = true then vB true else none) Q := q
    by_cases y : Deq (cE g) d1 d2 ∧ dep d1 ≤ k + 1 ∧ isCon d1 = true
    · rw [if_pos y] at q'
      exact .inr ⟨⟨full F H, d1, d2, und_full hU, Vw.full hU h1, Vw.full hU h2, y.1, y.2.1, y.2.2⟩, q'⟩
    · rw [if_neg y] at q'; exact q'.elim
open Classical in
theorem p2x_ne : P2x e (nexD g k) (rEqX e g k rNe false) := fun d1 d2 v1 v2 H F Q hU h1 h2 q => by
  unfold nexD at q
  cases z : eqS d1 d2 with
  | some t =>
    rw [z] at q
    refine .inl (p2_ne (e := e) d1 d2 v1 v2 H F Q h1 h2 ?_)
    unfold neD
    rw [z]
    intro v hv
    cases hv
    exact q H Ext.rfl'
  | none =>
    rw [z] at q
    have q' : PQx H (if Deq (cE g) d1 d2 ∧ dep d1 ≤ k + 1 ∧ isCon d1 = true then vB false else none) Q := q
    by_cases y : Deq (cE g) d1 d2 ∧ dep d1 ≤ k + 1 ∧ isCon d1 = true
    · rw [if_pos y] at q'
      exact .inr ⟨⟨full F H, d1, d2, und_full hU, Vw.full hU h1, Vw.full hU h2, y.1, y.2.1, y.2.2⟩, q'⟩
    · rw [if_neg y] at q'; exact q'.elim
theorem se_eqX (C : ClEq X e W n0 g) (hr : Room (n0 + k + 1) X.A) (hm : behindInMarks .Eq b = false) (ha : SE e X W a m) (hb : SE e X W b n) : SE e X W (.Compare a [.Eq] [b] pos) (eOp (eqxD g k) m n) := by
  obtain ⟨ta, a1, a2⟩ := ha.ex
  obtain ⟨tb, b1, b2⟩ := hb.ex
  exact ⟨_, pe_cmpR (op_eqX C hr) a1 b1 hm, tOpX_te only_eqx p2x_eq a2 b2⟩
theorem se_neX (C : ClEq X e W n0 g) (hr : Room (n0 + k + 1) X.A) (hm : behindInMarks .NotEq b = false) (ha : SE e X W a m) (hb : SE e X W b n) : SE e X W (.Compare a [.NotEq] [b] pos) (eOp (nexD g k) m n) := by
  obtain ⟨ta, a1, a2⟩ := ha.ex
  obtain ⟨tb, b1, b2⟩ := hb.ex
  exact ⟨_, pe_cmpR (op_neX C hr) a1 b1 hm, tOpX_te only_nex p2x_ne a2 b2⟩
theorem st_eqX (C : ClEq X e W n0 g) (hr : Room (n0 + k + 1) X.A) (hm : behindInMarks .Eq b = false) (ha : SE e X W a m) (hb : SE e X W b n) : ST e X W (.Compare a [.Eq] [b] pos) (tV (eOp (eqxD g k) m n)) := by
  obtain ⟨ta, a1, a2⟩ := ha.ex
  obtain ⟨tb, b1, b2⟩ := hb.ex
  exact ⟨_, pt_cmpR (op_eqX C hr) a1 b1 hm, tTest_te (tOpX_te only_eqx p2x_eq a2 b2)⟩
theorem st_neX (C : ClEq X e W n0 g) (hr : Room (n0 + k + 1) X.A) (hm : behindInMarks .NotEq b = false) (ha : SE e X W a m) (hb : SE e X W b n) : ST e X W (.Compare a [.NotEq] [b] pos) (tV (eOp (nexD g k) m n)) := by
  obtain ⟨ta, a1, a2⟩ := ha.ex
  obtain ⟨tb, b1, b2⟩ := hb.ex
  exact ⟨_, pt_cmpR (op_neX C hr) a1 b1 hm, tTest_te (tOpX_te only_nex p2x_ne a2 b2)⟩
end
end Mi

end
section
set_option maxRecDepth 100000
/-! Mi20: plain data: equality told either way, membership, sorting, any and all. -/
namespace Mi
open PySem L2

mutual
def encD : D → PyData
  | .non => .none
  | .bl b => .bool b
  | .int i => .int i
  | .str x => .str x
  | .tup l => .tuple (encL l)
  | .lst l => .list (encL l)
  | _ => .dict []
def encL : List D → List PyData
  | [] => []
  | d :: l => encD d :: encL l
end
theorem encL_map : ∀ l : List D, encL l = l.map encD
  | [] => rfl
  | d :: l => by
    show encD d :: encL l = encD d :: l.map encD
    rw [encL_map l]
theorem encL_len (l : List D) : (encL l).length = l.length := by rw [encL_map, List.length_map]
section
variable {e : En} {X : Cx} {pins : List (Addr × Obj)} {σ : St} {H F : Hp} {s : Shared}
mutual
theorem reads_rep (I : Inv X pins σ H s) (hK : X.K = e.K) (hU : Und F H) : ∀ {d : D} {v : V} {u : Value}, (encD d).plain = true → Rep e F d v → RelV v u → ∃ as, Reads s.heap u (encD d) as
  | .non, _, _, _, h, r => by cases h; cases r; exact ⟨[], .none⟩
  | .bl b, _, _, _, h, r => by cases h; cases r; exact ⟨[], .bool b⟩
  | .int i, _, _, _, h, r => by cases h; obtain ⟨t, rfl⟩ := r; exact ⟨[], .int i t⟩
  | .str x, _, _, _, h, r => by cases h; obtain ⟨t, rfl⟩ := r; exact ⟨[], .str x t⟩
  | .tup l, _, _, p, ⟨a, vs, h0, h1, h2⟩, r => by
    subst h0; cases r
    obtain ⟨us, rv, ⟨o, ho, hc, n, hd⟩, _⟩ := I.tuple (show SqT X.K H a vs by rw [hK]; exact hU.sqT (tupT h1))
    have p' : PyData.plainAll (encL l) = true := p
    obtain ⟨as, ra⟩ := reads_repL I hK hU p' h2 rv
    exact ⟨as, .tuple ho hc hd (by simpa using ra)⟩
  | .lst l, _, _, p, ⟨a, vs, h0, h1, h2⟩, r => by
    subst h0; cases r
    obtain ⟨_, us, n, rv, ho⟩ := I.hok a _ (und_lst hU h1)
    have p' : PyData.plainAll (encL l) = true := p
    obtain ⟨as, ra⟩ := reads_repL I hK hU p' h2 rv
    exact ⟨a :: as, .list ho rfl rfl (by simpa using ra)⟩
  | .dK _ _, _, _, p, _, _ => by cases p
  | .dT _ _, _, _, p, _, _ => by cases p
  | .ins _ _, _, _, p, _, _ => by cases p
  | .scr _, _, _, p, _, _ => by cases p
theorem reads_repL (I : Inv X pins σ H s) (hK : X.K = e.K) (hU : Und F H) : ∀ {l : List D} {vs : List V} {us : List Value}, PyData.plainAll (encL l) = true → RepL e F l vs → Vals vs us → ∃ as, ReadsAll s.heap us (encL l) as
  | [], _, _, _, h, r => by cases h; cases r; exact ⟨[], .nil⟩
  | d :: l, _, _, p, ⟨v, w, h0, h1, h2⟩, r => by
    subst h0
    cases r with
    | cons r1 r2 =>
      have p' : ((encD d).plain && PyData.plainAll (encL l)) = true := p
      rw [Bool.and_eq_true] at p'
      obtain ⟨as, ra⟩ := reads_rep I hK hU p'.1 h1 r1
      obtain ⟨bs, rb⟩ := reads_repL I hK hU p'.2 h2 r2
      exact ⟨as ++ bs, .cons ra rb⟩
end
end

/-! ### rules that see what is frozen -/
def P2u (e : En) (f : D → D → Option R0) (r : R2) : Prop := ∀ d1 d2 v1 v2 H F Q, Und F H → Vw e H F d1 v1 → Vw e H F d2 v2 → PQ e H F (f d1 d2) Q → r v1 v2 H Q
def P1u (e : En) (f : D → Option R0) (r : V → Hp → VK → Prop) : Prop := ∀ d v H F Q, Und F H → Vw e H F d v → PQ e H F (f d) Q → r v H Q
section
variable {e : En} {X : Cx} {W : Wi} {a b : Expr} {m n : ME} {pos : Pos}
theorem tOpU_te {ta tb : TE} {r : R2} {f : D → D → Option R0} (hp : P2u e f r) (ha : TeE e W ta m) (hb : TeE e W tb n) : TeE e W (tOp r ta tb) (eOp f m n) := fun ρ σ H F fm Q hC R q => by
  refine TeE.stl ha ρ σ H F fm _ hC R ?_
  have q1 := Po.bd q
  cases z1 : stl m ρ with
  | no => rw [z1] at q1; exact q1
  | ex x r1 => rw [z1] at q1; exact q1
  | ok x r1 =>
    rw [z1] at q1
    intro H1 F1 R1 s1 v1 hv1
    refine TeE.stl hb r1 σ H1 F1 fm _ hC R1 ?_
    refine (Po.bd (q1 H1 F1 R1 s1)).mono fun y r2 H2 F2 R2 s2 q3 v2 hv2 => ?_
    have hv1' : RvR e x v1 r2 σ H2 F2 fm := stay (stl_own z1) s2 hv1
    cases l1 : look x r2 with
    | none => rw [l1] at q3; exact q3.elim
    | some d1 =>
      cases l2 : look y r2 with
      | none => rw [l1, l2] at q3; exact q3.elim
      | some d2 =>
        rw [l1, l2] at q3
        exact hp d1 d2 v1 v2 H2 F2 Q R2.fh (look_vw R2 hv1' l1) (look_vw R2 hv2 l2) (res_ok R2 q3)
theorem tUnU_te {ta : TE} {r : V → Hp → VK → Prop} {f : D → Option R0} (hp : P1u e f r) (ha : TeE e W ta m) : TeE e W (tUn r ta) (eUn f m) := fun ρ σ H F fm Q hC R q => by
  refine TeE.stl ha ρ σ H F fm _ hC R ?_
  refine (Po.bd q).mono fun x r1 H1 F1 R1 s1 q1 v1 hv1 => ?_
  cases l1 : look x r1 with
  | none => rw [l1] at q1; exact q1.elim
  | some d1 =>
    rw [l1] at q1
    exact hp d1 v1 H1 F1 Q R1.fh (look_vw R1 hv1 l1) (res_ok R1 q1)
theorem se_cmpU {op : CmpOp} {r : R2} {f : D → D → Option R0} (ho : OpR X (compareOp op) r) (hp : P2u e f r) (hm : behindInMarks op b = false) (ha : SE e X W a m) (hb : SE e X W b n) : SE e X W (.Compare a [op] [b] pos) (eOp f m n) := by
  obtain ⟨ta, ha1, ha2⟩ := ha.ex
  obtain ⟨tb, hb1, hb2⟩ := hb.ex
  exact ⟨_, pe_cmpR ho ha1 hb1 hm, tOpU_te hp ha2 hb2⟩
theorem st_cmpU {op : CmpOp} {r : R2} {f : D → D → Option R0} (ho : OpR X (compareOp op) r) (hp : P2u e f r) (hm : behindInMarks op b = false) (ha : SE e X W a m) (hb : SE e X W b n) : ST e X W (.Compare a [op] [b] pos) (tV (eOp f m n)) := by
  obtain ⟨ta, ha1, ha2⟩ := ha.ex
  obtain ⟨tb, hb1, hb2⟩ := hb.ex
  exact ⟨_, pt_cmpR ho ha1 hb1 hm, tTest_te (tOpU_te hp ha2 hb2)⟩
theorem se_call1U {x : Str} {id : String} {r : List V → Hp → VK → Prop} {f : D → Option R0} {p : Pos} (hc : CallR X (.builtin id) r) (hp : P1u e f fun v => r [v]) (hg : Gl X x) (hm : X.mg x = none) (hv : bootBuiltins x = some (.builtin id)) (ha : SE e X W a m)
    (hn : x ≠ "__name__" := by decide) (hdb : (x == ("__debug__" : Str)) = false := by decide) (hst : starEach [a] X.env = (false, eval a X.env) :: starEach [] X.env := by rfl) (hpl : (backTo pos (starEach [] X.env)).any (·.1) = false := by rfl) : SE e X W (.Call (.Name x p) [a] [] pos) (eUn f m) := by
  obtain ⟨ta, ha1, ha2⟩ := ha.ex
  exact ⟨_, pe_callB hc hg hm hv (pa_cons ha1 pa_nil hst) hn hdb hst hpl, fun r σ H F fm Q hC R q => tUnU_te hp ha2 r σ H F fm Q hC R q⟩
end
theorem P2.u {e : En} {f : D → D → Option R0} {r : R2} (h : P2 e f r) : P2u e f r := fun d1 d2 v1 v2 H F Q _ => h d1 d2 v1 v2 H F Q
theorem P1.u {e : En} {f : D → Option R0} {r : V → Hp → VK → Prop} (h : P1 e f r) : P1u e f r := fun d v H F Q _ => h d v H F Q
/-- one rule, else the other -/
def els (f g : D → D → Option R0) : D → D → Option R0 := fun a b => match f a b with
  | some z => some z
  | none => g a b
def els1 (f g : D → Option R0) : D → Option R0 := fun a => match f a with
  | some z => some z
  | none => g a
theorem P2u.els {e : En} {f g : D → D → Option R0} {r r' : R2} (h : P2u e f r) (h' : P2u e g r') : P2u e (els f g) (fun x y H Q => r x y H Q ∨ r' x y H Q) := fun d1 d2 v1 v2 H F Q hU h1 h2 q => by
  unfold Mi.els at q
  cases z : f d1 d2 with
  | some w => rw [z] at q; exact .inl (h d1 d2 v1 v2 H F Q hU h1 h2 (by rw [z]; exact q))
  | none => rw [z] at q; exact .inr (h' d1 d2 v1 v2 H F Q hU h1 h2 q)
theorem P1u.els {e : En} {f g : D → Option R0} {r r' : V → Hp → VK → Prop} (h : P1u e f r) (h' : P1u e g r') : P1u e (els1 f g) (fun x H Q => r x H Q ∨ r' x H Q) := fun d v H F Q hU h1 q => by
  unfold Mi.els1 at q
  cases z : f d with
  | some w => rw [z] at q; exact .inl (h d v H F Q hU h1 (by rw [z]; exact q))
  | none => rw [z] at q; exact .inr (h' d v H F Q hU h1 q)

/-! ### == and != of plain data -/
def plB (a b : D) : Bool := (encD a).plain && (encD b).plain && decide ((encD a).depth ≤ 60)
def eqpD (a b : D) : Option R0 := if plB a b = true then vB (PyData.eqv (encD a) (encD b)) else none
def nepD (a b : D) : Option R0 := if plB a b = true then vB (!PyData.eqv (encD a) (encD b)) else none
/-- plain data stands at both -/
def rPl (e : En) (f : D → D → Bool) : R2 := fun x y H Q => ∃ F a b, Und F H ∧ Rep e F a x ∧ Rep e F b y ∧ (encD a).plain = true ∧ (encD b).plain = true ∧ (encD a).depth ≤ 60 ∧ Q (.bl (f a b)) H
section
variable {e : En} {X : Cx}
theorem op_eqP (hK : X.K = e.K) (hu : X.A.units + 100 < cLine) : OpR X (compareOp .Eq) (rPl e fun a b => PyData.eqv (encD a) (encD b)) := by
  intro pins s σ H x y v u Q I rx ry ⟨F, a, b, hU, h1, h2, p1, p2, hd, q⟩
  obtain ⟨as, ra⟩ := reads_rep I hK hU p1 h1 rx
  obtain ⟨bs, rb⟩ := reads_rep I hK hU p2 h2 ry
  have hm : min (encD a).depth (encD b).depth ≤ (encD a).depth := Nat.min_le_left _ _
  exact PySem.SeqAt.eq_plain ra rb p1 p2 (by omega) ⟨.bl _, H, I, rfl, q⟩
theorem op_neP (hK : X.K = e.K) (hu : X.A.units + 100 < cLine) : OpR X (compareOp .NotEq) (rPl e fun a b => !PyData.eqv (encD a) (encD b)) := by
  intro pins s σ H x y v u Q I rx ry ⟨F, a, b, hU, h1, h2, p1, p2, hd, q⟩
  obtain ⟨as, ra⟩ := reads_rep I hK hU p1 h1 rx
  obtain ⟨bs, rb⟩ := reads_rep I hK hU p2 h2 ry
  have hm : min (encD a).depth (encD b).depth ≤ (encD a).depth := Nat.min_le_left _ _
  exact PySem.SeqAt.ne_plain ra rb p1 p2 (by omega) ⟨.bl _, H, I, rfl, q⟩
theorem plB_of {a b : D} (h : plB a b = true) : (encD a).plain = true ∧ (encD b).plain = true ∧ (encD a).depth ≤ 60 := by
  unfold plB at h
  rw [Bool.and_eq_true, Bool.and_eq_true] at h
  exact ⟨h.1.1, h.1.2, of_decide_eq_true h.2⟩
theorem p2u_eqp : P2u e eqpD (rPl e fun a b => PyData.eqv (encD a) (encD b)) := fun d1 d2 v1 v2 H F Q hU h1 h2 q => by
  unfold eqpD at q
  by_cases z : plB d1 d2 = true
  · rw [if_pos z] at q
    obtain ⟨p1, p2, p3⟩ := plB_of z
    exact ⟨full F H, d1, d2, und_full hU, Vw.full hU h1, Vw.full hU h2, p1, p2, p3, q _ rfl⟩
  · rw [if_neg z] at q; exact q.elim
theorem p2u_nep : P2u e nepD (rPl e fun a b => !PyData.eqv (encD a) (encD b)) := fun d1 d2 v1 v2 H F Q hU h1 h2 q => by
  unfold nepD at q
  by_cases z : plB d1 d2 = true
  · rw [if_pos z] at q
    obtain ⟨p1, p2, p3⟩ := plB_of z
    exact ⟨full F H, d1, d2, und_full hU, Vw.full hU h1, Vw.full hU h2, p1, p2, p3, q _ rfl⟩
  · rw [if_neg z] at q; exact q.elim

/-! ### in, not in, of plain data -/
def inpB (x c : D) : Option Bool := match c with
  | .lst l => if plB x (.lst l) = true then some (l.any fun y => PyData.eqv (encD y) (encD x)) else none
  | .tup l => if plB x (.tup l) = true then some (l.any fun y => PyData.eqv (encD y) (encD x)) else none
  | _ => none
def inpD (x c : D) : Option R0 := (inpB x c).map fun b => .val (.bl b)
def nipD (x c : D) : Option R0 := (inpB x c).map fun b => .val (.bl !b)
def rInP (e : En) (neg : Bool) : R2 := fun x y H Q => ∃ F a l, Und F H ∧ Rep e F a x ∧ (Rep e F (.lst l) y ∨ Rep e F (.tup l) y) ∧ (encD a).plain = true ∧ PyData.plainAll (encL l) = true ∧ (encD a).depth ≤ 60 ∧
  Q (.bl (if neg then !(l.any fun y => PyData.eqv (encD y) (encD a)) else l.any fun y => PyData.eqv (encD y) (encD a))) H
theorem any_enc (l : List D) (x : PyData) : ((encL l).any fun y => PyData.eqv y x) = l.any fun y => PyData.eqv (encD y) x := by rw [encL_map, List.any_map]; rfl
theorem op_inP (hK : X.K = e.K) (hu : X.A.units + 100 < cLine) : OpR X (compareOp .In) (rInP e false) := by
  intro pins s σ H x y v u Q I rx ry ⟨F, a, l, hU, h1, h2, p1, p2, hd, q⟩
  obtain ⟨as, ra⟩ := reads_rep I hK hU p1 h1 rx
  have hm : min (PyData.depthAll (encL l)) (encD a).depth ≤ (encD a).depth := Nat.min_le_right _ _
  rcases h2 with h2 | h2
  · obtain ⟨bs, rb⟩ := reads_rep I hK hU (show (encD (.lst l)).plain = true from p2) h2 ry
    exact PySem.SeqAt.in_list_data rb ra p2 p1 (by omega) ⟨.bl _, H, I, rfl, by rw [any_enc]; exact q⟩
  · obtain ⟨bs, rb⟩ := reads_rep I hK hU (show (encD (.tup l)).plain = true from p2) h2 ry
    exact PySem.SeqAt.in_tuple_data rb ra p2 p1 (by omega) ⟨.bl _, H, I, rfl, by rw [any_enc]; exact q⟩
theorem op_niP (hK : X.K = e.K) (hu : X.A.units + 100 < cLine) : OpR X (compareOp .NotIn) (rInP e true) := by
  intro pins s σ H x y v u Q I rx ry ⟨F, a, l, hU, h1, h2, p1, p2, hd, q⟩
  obtain ⟨as, ra⟩ := reads_rep I hK hU p1 h1 rx
  have hm : min (PyData.depthAll (encL l)) (encD a).depth ≤ (encD a).depth := Nat.min_le_right _ _
  rcases h2 with h2 | h2
  · obtain ⟨bs, rb⟩ := reads_rep I hK hU (show (encD (.lst l)).plain = true from p2) h2 ry
    exact PySem.SeqAt.notIn_list_data rb ra p2 p1 (by omega) ⟨.bl _, H, I, rfl, by rw [any_enc]; exact q⟩
  · obtain ⟨bs, rb⟩ := reads_rep I hK hU (show (encD (.tup l)).plain = true from p2) h2 ry
    exact PySem.SeqAt.notIn_tuple_data rb ra p2 p1 (by omega) ⟨.bl _, H, I, rfl, by rw [any_enc]; exact q⟩
theorem inp_ok {neg : Bool} {x c : D} {vx vc : V} {H F : Hp} {b : Bool} {Q : VK} (hU : Und F H) (h : inpB x c = some b) (h1 : Vw e H F x vx) (h2 : Vw e H F c vc) (q : Q (.bl (if neg then !b else b)) H) : rInP e neg vx vc H Q := by
  cases c <;> first | (cases h; done) | skip
  · rename_i l
    have h' : (if plB x (.tup l) = true then some (l.any fun y => PyData.eqv (encD y) (encD x)) else none) = some b := h
    by_cases z : plB x (.tup l) = true
    · rw [if_pos z] at h'; cases h'
      obtain ⟨p1, p2, p3⟩ := plB_of z
      exact ⟨full F H, x, l, und_full hU, Vw.full hU h1, .inr (Vw.full hU h2), p1, p2, p3, q⟩
    · rw [if_neg z] at h'; cases h'
  · rename_i l
    have h' : (if plB x (.lst l) = true then some (l.any fun y => PyData.eqv (encD y) (encD x)) else none) = some b := h
    by_cases z : plB x (.lst l) = true
    · rw [if_pos z] at h'; cases h'
      obtain ⟨p1, p2, p3⟩ := plB_of z
      exact ⟨full F H, x, l, und_full hU, Vw.full hU h1, .inl (Vw.full hU h2), p1, p2, p3, q⟩
    · rw [if_neg z] at h'; cases h'
theorem p2u_inp : P2u e inpD (rInP e false) := fun d1 d2 v1 v2 H F Q hU h1 h2 q => by
  unfold inpD at q
  cases z : inpB d1 d2 with
  | none => rw [z] at q; exact q.elim
  | some b => rw [z] at q; exact inp_ok hU z h1 h2 (q _ rfl)
theorem p2u_nip : P2u e nipD (rInP e true) := fun d1 d2 v1 v2 H F Q hU h1 h2 q => by
  unfold nipD at q
  cases z : inpB d1 d2 with
  | none => rw [z] at q; exact q.elim
  | some b => rw [z] at q; exact inp_ok hU z h1 h2 (q _ rfl)

/-! ### sorted of plain data -/
def leX (a b : D) : Bool := PySem.W.dataLe false encD a b
def SrtOk (l : List D) : Prop := PySem.W.AllAlike (l.map encD) ∧ PySem.W.Sortable (l.map encD) ∧ l.length ≤ 1000000 ∧ PyData.plainAll (encL l) = true ∧ ∀ d ∈ l, (encD d).depth ≤ 60
open Classical in
noncomputable def srtX (d : D) : Option R0 := match d with
  | .lst l => if SrtOk l then some (.own (.lst (l.mergeSort leX))) else none
  | _ => none
def rSrtX (e : En) : List V → Hp → VK → Prop := fun xs H Q => ∃ a vs l F, xs = [.ref a] ∧ SqL e.K H a vs ∧ Und F H ∧ RepL e F l vs ∧ SrtOk l ∧ ∀ ys p, H p = none → RepL e F (l.mergeSort leX) ys → Q (.ref p) (upd H p (.lst ys))
theorem each_zip {F : Hp} : ∀ {l : List D} {vs : List V} {us : List Value}, RepL e F l vs → Vals vs us → PySem.W.EachIs (fun u (p : V × D) => RelV p.1 u) us (vs.zip l)
  | [], _, _, h, r => by cases h; cases r; exact .nil
  | d :: l, _, _, ⟨v, w, h0, h1, h2⟩, r => by
    subst h0
    cases r with
    | cons r1 r2 => exact .cons r1 (each_zip h2 r2)
theorem zip_mem {F : Hp} : ∀ {l : List D} {vs : List V}, RepL e F l vs → ∀ p ∈ vs.zip l, Rep e F p.2 p.1
  | [], _, h, p, hp => by cases h; simp at hp
  | d :: l, _, ⟨v, w, h0, h1, h2⟩, p, hp => by
    subst h0
    rcases List.mem_cons.mp hp with rfl | hp
    · exact h1
    · exact zip_mem h2 p hp
theorem repL_of {F : Hp} : ∀ {l : List (V × D)}, (∀ p ∈ l, Rep e F p.2 p.1) → RepL e F (l.map (·.2)) (l.map (·.1))
  | [], _ => rfl
  | p :: l, h => ⟨p.1, _, rfl, h p List.mem_cons_self, repL_of fun q hq => h q (List.mem_cons_of_mem _ hq)⟩
theorem vals_each : ∀ {l : List (V × D)} {us : List Value}, PySem.W.EachIs (fun u (p : V × D) => RelV p.1 u) us l → Vals (l.map (·.1)) us
  | _, _, .nil => .nil
  | _, _, .cons h t => .cons h (vals_each t)
theorem each_and {α β : Type} {R S : α → β → Prop} : ∀ {as : List α} {bs : List β}, PySem.W.EachIs R as bs → (∀ b ∈ bs, ∀ a, R a b → S a b) → PySem.W.EachIs S as bs
  | _, _, .nil, _ => .nil
  | _, _, .cons h t, k => .cons (k _ List.mem_cons_self _ h) (each_and t fun b hb => k b (List.mem_cons_of_mem _ hb))
theorem cr_srtX (hK : X.K = e.K) (hu : X.A.units + 100 < cLine) : CallR X (.builtin "sorted") (rSrtX e) := by
  intro pins s σ H vs us Q I r ⟨a, xs, l, F, e1, hs, hU, hr, ok, q⟩
  subst e1
  rw [Vals.ref1 r]
  rw [← hK] at hs
  obtain ⟨its, rv, hl, hz⟩ := I.list hs
  obtain ⟨k1, k2, k3, k4, k5⟩ := ok
  have ll := hr.len
  have m2 : (xs.zip l).map (·.2) = l := List.map_snd_zip (by omega)
  have hm : (xs.zip l).map (fun p : V × D => encD p.2) = l.map encD := by
    have := congrArg (List.map encD) m2
    rw [List.map_map] at this
    exact this
  have ez := each_zip hr rv
  have pl : ∀ d ∈ l, (encD d).plain = true := fun d hd => PySem.W.plain_mem k4 (by rw [encL_map]; exact List.mem_map.mpr ⟨d, hd, rfl⟩)
  have mem : ∀ p ∈ xs.zip l, p.2 ∈ l := fun p hp => by
    have z : p.2 ∈ (xs.zip l).map (·.2) := List.mem_map.mpr ⟨p, hp, rfl⟩
    rwa [m2] at z
  have er : PySem.W.EachIs (fun u (p : V × D) => ∃ as, Reads s.heap u (encD p.2) as) its (xs.zip l) := each_and ez fun p hp u ru => reads_rep I hK hU (pl _ (mem p hp)) (zip_mem hr p hp) ru
  have len0 : (xs.zip l).length ≤ sizeLine := by rw [List.length_zip]; have := big_le k3; omega
  refine PySem.W.sorted_data (enc := fun p : V × D => encD p.2) hl.isList ez er (by rw [hm]; exact k1) (by rw [hm]; exact k2) len0 (fun p hp => ?_) fun out ho eo => ?_
  · have := k5 _ (mem p hp)
    show X.A.units + 2 + (encD p.2).depth < cLine
    omega
  · have e2 : ((xs.zip l).mergeSort (PySem.W.dataLe false fun p : V × D => encD p.2)).map (·.2) = l.mergeSort leX := by
      have z := PySem.W.sort_maps (r := PySem.W.dataLe false fun p : V × D => encD p.2) (s := leX) (l := xs.zip l) (fun p : V × D => p.2) (fun a _ b _ => rfl)
      exact z.trans (congrArg (List.mergeSort · leX) m2)
    have pm : ((xs.zip l).mergeSort (PySem.W.dataLe false fun p : V × D => encD p.2)).Perm (xs.zip l) := List.mergeSort_perm _ _
    have rp := repL_of (e := e) (F := F) (l := (xs.zip l).mergeSort (PySem.W.dataLe false fun p : V × D => encD p.2)) fun p hp => zip_mem hr p (pm.mem_iff.mp hp)
    rw [e2] at rp
    have vv := vals_each eo
    obtain ⟨ep, he'⟩ := PyProof.Rows.sortedAll_at s.heap its out.toArray
    have hlen : (((xs.zip l).mergeSort (PySem.W.dataLe false fun p : V × D => encD p.2)).map (·.1)).length ≤ sizeLine := by rw [List.length_map, List.length_mergeSort]; exact len0
    refine ⟨.ref _, upd H (s.heap.objs.size + 1) (.lst (((xs.zip l).mergeSort (PySem.W.dataLe false fun p : V × D => encD p.2)).map (·.1))), I.laid (t' := s.toks) (fun _ _ => PyProof.Rows.sortedAll_old) (Nat.le_succ _) ⟨hlen, out, ep, vv, he'⟩, rfl, q _ _ (I.hok.fresh (Nat.le_succ _)) rp⟩
open Classical in
theorem p1u_srtX : P1u e srtX (fun v => rSrtX e [v]) := fun d v H F Q hU h1 q => by
  cases d <;> first | exact q.elim | skip
  rename_i l
  obtain ⟨p, vs, rfl, f1, r1⟩ := h1
  have q' : PQ e H F (if SrtOk l then some (.own (.lst (l.mergeSort leX))) else none) Q := q
  by_cases z : SrtOk l
  · rw [if_pos z] at q'
    exact ⟨p, vs, l, F, rfl, sqL_of f1, hU, r1, z, fun ys p' hp hr => q' p' (.lst ys) hp hr⟩
  · rw [if_neg z] at q'; exact q'.elim
noncomputable abbrev srtA : D → Option R0 := els1 srtD srtX
theorem call_srtA (hc : X.calm = true) (hK : X.K = e.K) (hu : X.A.units + 100 < cLine) : CallR X (.builtin "sorted") (fun xs H Q => rSrtD e.K xs H Q ∨ rSrtX e xs H Q) := by
  rw [← hK]
  exact (call_srt hc).or (cr_srtX hK hu)
theorem p1u_srtA : P1u e srtA (fun v H Q => rSrtD e.K [v] H Q ∨ rSrtX e [v] H Q) := P1u.els (P1.u p1_srt) p1u_srtX

/-! ### any, all of a list of truths -/
def blsD : List D → Option (List Bool)
  | [] => some []
  | .bl b :: l => (blsD l).map (b :: ·)
  | _ => none
def anyD (d : D) : Option R0 := match d with
  | .lst l => (blsD l).map fun bs => .val (.bl (bs.any id))
  | _ => none
def allD (d : D) : Option R0 := match d with
  | .lst l => (blsD l).map fun bs => .val (.bl (bs.all id))
  | _ => none
theorem blsD_map : ∀ {l : List D} {bs : List Bool}, blsD l = some bs → l = bs.map .bl
  | [], _, h => by cases h; rfl
  | .bl b :: l, bs, h => by
    have h' : (blsD l).map (b :: ·) = some bs := h
    cases z : blsD l with
    | none => rw [z] at h'; cases h'
    | some cs => rw [z] at h'; cases h'; rw [blsD_map z]; rfl
  | .non :: _, _, h => by cases h
  | .int _ :: _, _, h => by cases h
  | .str _ :: _, _, h => by cases h
  | .tup _ :: _, _, h => by cases h
  | .lst _ :: _, _, h => by cases h
  | .dK _ _ :: _, _, h => by cases h
  | .dT _ _ :: _, _, h => by cases h
  | .ins _ _ :: _, _, h => by cases h
  | .scr _ :: _, _, h => by cases h
def rBls (K : PySem.W.Frag) (f : List Bool → Bool) : List V → Hp → VK → Prop := fun xs H Q => ∃ a bs, xs = [.ref a] ∧ SqL K H a (bs.map V.bl) ∧ Q (.bl (f bs)) H
theorem bls_reads {h : Heap} : ∀ {bs : List Bool} {us : List Value}, Vals (bs.map V.bl) us → ReadsAll h us (bs.map PyData.bool) []
  | [], _, r => by cases r; exact .nil
  | b :: bs, _, r => by
    cases r with
    | cons r1 r2 => cases r1; exact .cons (as := []) (.bool b) (bls_reads r2)
theorem bls_plain : ∀ bs : List Bool, PyData.plainAll (bs.map PyData.bool) = true
  | [] => rfl
  | b :: bs => by show (true && PyData.plainAll (bs.map PyData.bool)) = true; rw [bls_plain bs]; rfl
theorem bls_any (bs : List Bool) : (bs.map PyData.bool).any PyData.truthy = bs.any id := by rw [List.any_map]; rfl
theorem bls_all (bs : List Bool) : (bs.map PyData.bool).all PyData.truthy = bs.all id := by rw [List.all_map]; rfl
theorem bls_fits (bs : List Bool) : ∀ x ∈ bs.map PyData.bool, x.fits63 := fun x hx => by
  obtain ⟨b, _, rfl⟩ := List.mem_map.mp hx
  exact True.intro
theorem cr_any (hc : X.calm = true) : CallR X (.builtin "any") (rBls X.K fun bs => bs.any id) := by
  intro pins s σ H vs us Q I r ⟨a, bs, e1, hs, q⟩
  subst e1
  rw [Vals.ref1 r]
  obtain ⟨its, rv, hl, hz⟩ := I.list hs
  refine PySem.W.any_list_data (I.ok.hd hc) hl.isList (by simpa using bls_reads rv) (bls_plain bs) (bls_fits bs) fun h' tk k => ⟨.bl _, H, I.kept k, rfl, ?_⟩
  rw [bls_any]; exact q
theorem cr_all (hc : X.calm = true) : CallR X (.builtin "all") (rBls X.K fun bs => bs.all id) := by
  intro pins s σ H vs us Q I r ⟨a, bs, e1, hs, q⟩
  subst e1
  rw [Vals.ref1 r]
  obtain ⟨its, rv, hl, hz⟩ := I.list hs
  refine PySem.W.all_list_data (I.ok.hd hc) hl.isList (by simpa using bls_reads rv) (bls_plain bs) (bls_fits bs) fun h' tk k => ⟨.bl _, H, I.kept k, rfl, ?_⟩
  rw [bls_all]; exact q
theorem bls_rep {F : Hp} : ∀ {bs : List Bool} {vs : List V}, RepL e F (bs.map D.bl) vs → vs = bs.map V.bl
  | [], _, h => by cases h; rfl
  | b :: bs, _, ⟨v, w, h0, h1, h2⟩ => by subst h0; cases h1; rw [bls_rep h2]; rfl
theorem p1_bls {f : List Bool → Bool} {g : D → Option R0} (hg : ∀ d, g d = match d with
    | .lst l => (blsD l).map fun bs => .val (.bl (f bs))
    | _ => none) : P1L e g (rBls e.K f) := fun d v H F Q h q => by
  rw [hg] at q
  cases d <;> first | exact q.elim | skip
  rename_i l
  obtain ⟨p, vs, rfl, h1, h2⟩ := h
  have q' : PQ e H F ((blsD l).map fun bs => R0.val (.bl (f bs))) Q := q
  cases z : blsD l with
  | none => rw [z] at q'; exact q'.elim
  | some bs =>
    rw [z] at q'
    rw [blsD_map z] at h2
    rw [bls_rep h2] at h1
    exact ⟨p, bs, rfl, sqL_of h1, q' _ rfl⟩
theorem p1_any : P1L e anyD (rBls e.K fun bs => bs.any id) := p1_bls fun d => rfl
theorem p1_all : P1L e allD (rBls e.K fun bs => bs.all id) := p1_bls fun d => rfl
end
end Mi

end
section
set_option maxRecDepth 100000
/-! Mi21: == of scalars, plain data, or equal data, as one. -/
namespace Mi
open PySem L2

section
variable {e : En} {X : Cx} {W : Wi} {a b : Expr} {m n : ME} {pos : Pos} {g : Nat → Option MS} {n0 k : Nat}
theorem P2u.x {f : D → D → Option R0} {r : R2} (ho : onlyB f) (h : P2u e f r) : P2x e f r := fun d1 d2 v1 v2 H F Q hU h1 h2 q => h d1 d2 v1 v2 H F Q hU h1 h2 (by
  rcases ho d1 d2 with z | ⟨t, z⟩
  · rw [z] at q; exact q.elim
  · rw [z] at q ⊢
    intro v hv
    cases hv
    exact q H Ext.rfl')
theorem P2x.els {f g : D → D → Option R0} {r r' : R2} (h : P2x e f r) (h' : P2x e g r') : P2x e (els f g) (fun x y H Q => r x y H Q ∨ r' x y H Q) := fun d1 d2 v1 v2 H F Q hU h1 h2 q => by
  unfold Mi.els at q
  cases z : f d1 d2 with
  | some w => rw [z] at q; exact .inl (h d1 d2 v1 v2 H F Q hU h1 h2 (by rw [z]; exact q))
  | none => rw [z] at q; exact .inr (h' d1 d2 v1 v2 H F Q hU h1 h2 q)
theorem onlyB.els {f g : D → D → Option R0} (h : onlyB f) (h' : onlyB g) : onlyB (els f g) := fun a b => by
  unfold Mi.els
  rcases h a b with z | ⟨t, z⟩
  · rw [z]; exact h' a b
  · rw [z]; exact .inr ⟨t, rfl⟩
theorem only_eqD : onlyB eqD := fun a b => by
  unfold eqD
  cases eqS a b with
  | none => exact .inl rfl
  | some t => exact .inr ⟨t, rfl⟩
theorem only_neD : onlyB neD := fun a b => by
  unfold neD
  cases eqS a b with
  | none => exact .inl rfl
  | some t => exact .inr ⟨!t, rfl⟩
theorem only_eqp : onlyB eqpD := fun a b => by
  unfold eqpD
  split
  · exact .inr ⟨_, rfl⟩
  · exact .inl rfl
theorem only_nep : onlyB nepD := fun a b => by
  unfold nepD
  split
  · exact .inr ⟨_, rfl⟩
  · exact .inl rfl
/-- scalars and plain data -/
def eqzD : D → D → Option R0 := els eqD eqpD
def nezD : D → D → Option R0 := els neD nepD
/-- .. and data that are equal -/
noncomputable def eqyD (g : Nat → Option MS) (k : Nat) : D → D → Option R0 := els eqzD (eqxD g k)
noncomputable def neyD (g : Nat → Option MS) (k : Nat) : D → D → Option R0 := els nezD (nexD g k)
abbrev rEqZ (e : En) : R2 := fun x y H Q => rEq x y H Q ∨ rPl e (fun a b => PyData.eqv (encD a) (encD b)) x y H Q
abbrev rNeZ (e : En) : R2 := fun x y H Q => rNe x y H Q ∨ rPl e (fun a b => !PyData.eqv (encD a) (encD b)) x y H Q
theorem op_eqZ (hK : X.K = e.K) (hu : X.A.units + 100 < cLine) : OpR X (compareOp .Eq) (rEqZ e) := op_eq.or (op_eqP hK hu)
theorem op_neZ (hK : X.K = e.K) (hu : X.A.units + 100 < cLine) : OpR X (compareOp .NotEq) (rNeZ e) := op_ne.or (op_neP hK hu)
theorem p2u_eqz : P2u e eqzD (rEqZ e) := P2u.els (P2.u p2_eq) p2u_eqp
theorem p2u_nez : P2u e nezD (rNeZ e) := P2u.els (P2.u p2_ne) p2u_nep
theorem se_eqY (C : ClEq X e W n0 g) (hr : Room (n0 + k + 1) X.A) (hm : behindInMarks .Eq b = false) (ha : SE e X W a m) (hb : SE e X W b n) : SE e X W (.Compare a [.Eq] [b] pos) (eOp (eqyD g k) m n) := by
  obtain ⟨ta, a1, a2⟩ := ha.ex
  obtain ⟨tb, b1, b2⟩ := hb.ex
  exact ⟨_, pe_cmpR ((op_eqZ C.k (un_of hr)).or (op_eqX C hr)) a1 b1 hm, tOpX_te ((only_eqD.els only_eqp).els only_eqx) (P2x.els (P2u.x (only_eqD.els only_eqp) p2u_eqz) p2x_eq) a2 b2⟩
theorem se_neY (C : ClEq X e W n0 g) (hr : Room (n0 + k + 1) X.A) (hm : behindInMarks .NotEq b = false) (ha : SE e X W a m) (hb : SE e X W b n) : SE e X W (.Compare a [.NotEq] [b] pos) (eOp (neyD g k) m n) := by
  obtain ⟨ta, a1, a2⟩ := ha.ex
  obtain ⟨tb, b1, b2⟩ := hb.ex
  exact ⟨_, pe_cmpR ((op_neZ C.k (un_of hr)).or (op_neX C hr)) a1 b1 hm, tOpX_te ((only_neD.els only_nep).els only_nex) (P2x.els (P2u.x (only_neD.els only_nep) p2u_nez) p2x_ne) a2 b2⟩
theorem st_eqY (C : ClEq X e W n0 g) (hr : Room (n0 + k + 1) X.A) (hm : behindInMarks .Eq b = false) (ha : SE e X W a m) (hb : SE e X W b n) : ST e X W (.Compare a [.Eq] [b] pos) (tV (eOp (eqyD g k) m n)) := by
  obtain ⟨ta, a1, a2⟩ := ha.ex
  obtain ⟨tb, b1, b2⟩ := hb.ex
  exact ⟨_, pt_cmpR ((op_eqZ C.k (un_of hr)).or (op_eqX C hr)) a1 b1 hm, tTest_te (tOpX_te ((only_eqD.els only_eqp).els only_eqx) (P2x.els (P2u.x (only_eqD.els only_eqp) p2u_eqz) p2x_eq) a2 b2)⟩
theorem st_neY (C : ClEq X e W n0 g) (hr : Room (n0 + k + 1) X.A) (hm : behindInMarks .NotEq b = false) (ha : SE e X W a m) (hb : SE e X W b n) : ST e X W (.Compare a [.NotEq] [b] pos) (tV (eOp (neyD g k) m n)) := by
  obtain ⟨ta, a1, a2⟩ := ha.ex
  obtain ⟨tb, b1, b2⟩ := hb.ex
  exact ⟨_, pt_cmpR ((op_neZ C.k (un_of hr)).or (op_neX C hr)) a1 b1 hm, tTest_te (tOpX_te ((only_neD.els only_nep).els only_nex) (P2x.els (P2u.x (only_neD.els only_nep) p2u_nez) p2x_ne) a2 b2)⟩
/-- in, not in: flat items, keys of a dict, plain data -/
def inaD : D → D → Option R0 := els inDD inpD
def niaD : D → D → Option R0 := els niDD nipD
theorem op_inZ (hK : X.K = e.K) (hu : X.A.units + 100 < cLine) : OpR X (compareOp .In) (fun x y H Q => rInA e.K false x y H Q ∨ rInP e false x y H Q) := by
  rw [← hK]; exact (op_inA hu).or (op_inP hK hu)
theorem op_niZ (hK : X.K = e.K) (hu : X.A.units + 100 < cLine) : OpR X (compareOp .NotIn) (fun x y H Q => rInA e.K true x y H Q ∨ rInP e true x y H Q) := by
  rw [← hK]; exact (op_niA hu).or (op_niP hK hu)
theorem p2u_ina : P2u e inaD (fun x y H Q => rInA e.K false x y H Q ∨ rInP e false x y H Q) := P2u.els (P2.u p2_in) p2u_inp
theorem p2u_nia : P2u e niaD (fun x y H Q => rInA e.K true x y H Q ∨ rInP e true x y H Q) := P2u.els (P2.u p2_ni) p2u_nip
end

/-! ### for simp -/
@[simp] theorem els_at (f g : D → D → Option R0) (a b : D) : els f g a b = match f a b with
  | some z => some z
  | none => g a b := rfl
@[simp] theorem els1_at (f g : D → Option R0) (a : D) : els1 f g a = match f a with
  | some z => some z
  | none => g a := rfl
open Classical in
theorem neyD_refl {g : Nat → Option MS} {k : Nat} {d : D} (hc : isCon d = true) (hg : Gd (cE g) d) (hk : dep d ≤ k + 1) : neyD g k d d = vB false := by
  have q := Deq.refl hg
  have s : eqS d d = none := by cases d <;> first | rfl | (cases hc; done)
  show els nezD (nexD g k) d d = _
  unfold nezD
  have e1 : neD d d = none := by unfold neD; rw [s]; rfl
  have e3 : nexD g k d d = vB false := by unfold nexD; rw [s]; exact if_pos ⟨q, hk, hc⟩
  rw [els_at, els_at, e1, e3]
  unfold nepD
  by_cases z : plB d d = true
  · rw [if_pos z, PySem.SeqAt.eqv_refl_plain _ (plB_of z).1]; rfl
  · rw [if_neg z]
open Classical in
theorem eqyD_refl {g : Nat → Option MS} {k : Nat} {d : D} (hc : isCon d = true) (hg : Gd (cE g) d) (hk : dep d ≤ k + 1) : eqyD g k d d = vB true := by
  have q := Deq.refl hg
  have s : eqS d d = none := by cases d <;> first | rfl | (cases hc; done)
  show els eqzD (eqxD g k) d d = _
  unfold eqzD
  have e1 : eqD d d = none := by unfold eqD; rw [s]; rfl
  have e3 : eqxD g k d d = vB true := by unfold eqxD; rw [s]; exact if_pos ⟨q, hk, hc⟩
  rw [els_at, els_at, e1, e3]
  unfold eqpD
  by_cases z : plB d d = true
  · rw [if_pos z, PySem.SeqAt.eqv_refl_plain _ (plB_of z).1]
  · rw [if_neg z]
end Mi

end
section
set_option maxRecDepth 100000
/-! Mi22: what is never reached; max with a default; a for over an empty dict. -/
namespace Mi
open PySem L2

/-! ### never reached -/
def eNo : ME := fun _ => .no
def sNo : MS := fun _ => .no
def tNo : MT := fun _ => .no
section
variable {e : En} {X : Cx} {W : Wi} {io : List Nat} {a b : Expr} {m n : ME} {pos : Pos}
theorem se_dead : SE e X W a eNo := ⟨fun _ _ _ => False, ⟨fun _ _ _ _ _ _ h => h.elim⟩, fun _ _ _ _ _ _ _ _ q => q⟩
theorem st_dead : ST e X W a tNo := ⟨fun _ _ _ => False, ⟨fun _ _ _ _ _ _ h => h.elim⟩, fun _ _ _ _ _ _ _ _ q => q⟩
theorem ss_dead {s : Stmt} : SS e X W io s sNo := ⟨fun _ _ _ => False, ⟨fun _ _ _ _ _ _ h => h.elim⟩, fun _ _ _ _ _ _ _ _ _ q => q⟩
theorem sb_dead {s : List Stmt} : SB e X W io s sNo := ⟨fun _ _ _ => False, ⟨fun _ _ _ _ _ _ h => h.elim⟩, fun _ _ _ _ _ _ _ _ _ q => q⟩

/-! ### a tuple of the module -/
def GTup (K : PySem.W.Frag) (mg : Str → Option Value) (x : Str) (ds : List D) : Prop := ∃ (p : Addr) (vs : List V), mg x = some (.ref p) ∧ (∃ (o : Obj) (its : Array Value) (k : Nat), K.lookup p = some o ∧ o.cls = .type "tuple" ∧ o.data = .seq its k ∧ its.size ≤ sizeLine ∧ Vals vs its.toList) ∧
  ∀ (e : En) (F : Hp), RepL e F ds vs
/-- x in that tuple (flat items) -/
def inGD (neg : Bool) (ds : List D) (d : D) : Option R0 := (inS d ds).map fun b => .val (.bl (if neg then !b else b))
theorem p1u_inG {p : Addr} {ds : List D} {vs : List V} {neg : Bool} (h : ∃ (o : Obj) (its : Array Value) (k : Nat), e.K.lookup p = some o ∧ o.cls = .type "tuple" ∧ o.data = .seq its k ∧ its.size ≤ sizeLine ∧ Vals vs its.toList) (hr : ∀ (e : En) (F : Hp), RepL e F ds vs) :
    P1u e (inGD neg ds) (fun v H Q => rInA e.K neg v (.ref p) H Q) := fun d v H F Q hU h1 q => by
  unfold inGD at q
  cases z : inS d ds with
  | none => rw [z] at q; exact q.elim
  | some b =>
    rw [z] at q
    obtain ⟨f1, f2, f3⟩ := inS_ok z h1 (hr e F)
    exact .inl ⟨p, vs, rfl, .inr (.inr h), f1, f2, by rw [f3]; exact q _ rfl⟩
theorem se_inG {x : Str} {xp : Pos} {ds : List D} (h : GTup X.K X.mg x ds) (hK : X.K = e.K) (hg : Gl X x) (hu : X.A.units + 100 < cLine) (hm : behindInMarks .In (.Name x xp) = false) (ha : SE e X W a m) (hd : (x == ("__debug__" : Str)) = false := by decide) : SE e X W (.Compare a [.In] [.Name x xp] pos) (eUn (inGD false ds) m) := by
  obtain ⟨p, vs, h1, h2, h3⟩ := h
  obtain ⟨ta, a1, a2⟩ := ha.ex
  have ho := op_inA (X := X) hu
  rw [hK] at h2 ho
  exact ⟨_, pe_cmpR ho a1 (pe_glob (v := .ref p) hg h1 rfl hd) hm, tUnU_te (p1u_inG (neg := false) h2 h3) a2⟩
theorem se_niG {x : Str} {xp : Pos} {ds : List D} (h : GTup X.K X.mg x ds) (hK : X.K = e.K) (hg : Gl X x) (hu : X.A.units + 100 < cLine) (hm : behindInMarks .NotIn (.Name x xp) = false) (ha : SE e X W a m) (hd : (x == ("__debug__" : Str)) = false := by decide) : SE e X W (.Compare a [.NotIn] [.Name x xp] pos) (eUn (inGD true ds) m) := by
  obtain ⟨p, vs, h1, h2, h3⟩ := h
  obtain ⟨ta, a1, a2⟩ := ha.ex
  have ho := op_niA (X := X) hu
  rw [hK] at h2 ho
  exact ⟨_, pe_cmpR ho a1 (pe_glob (v := .ref p) hg h1 rfl hd) hm, tUnU_te (p1u_inG (neg := true) h2 h3) a2⟩
theorem st_inG {x : Str} {xp : Pos} {ds : List D} (h : GTup X.K X.mg x ds) (hK : X.K = e.K) (hg : Gl X x) (hu : X.A.units + 100 < cLine) (hm : behindInMarks .In (.Name x xp) = false) (ha : SE e X W a m) (hd : (x == ("__debug__" : Str)) = false := by decide) : ST e X W (.Compare a [.In] [.Name x xp] pos) (tV (eUn (inGD false ds) m)) := by
  obtain ⟨p, vs, h1, h2, h3⟩ := h
  obtain ⟨ta, a1, a2⟩ := ha.ex
  have ho := op_inA (X := X) hu
  rw [hK] at h2 ho
  exact ⟨_, pt_cmpR ho a1 (pe_glob (v := .ref p) hg h1 rfl hd) hm, tTest_te (tUnU_te (p1u_inG (neg := false) h2 h3) a2)⟩
theorem st_niG {x : Str} {xp : Pos} {ds : List D} (h : GTup X.K X.mg x ds) (hK : X.K = e.K) (hg : Gl X x) (hu : X.A.units + 100 < cLine) (hm : behindInMarks .NotIn (.Name x xp) = false) (ha : SE e X W a m) (hd : (x == ("__debug__" : Str)) = false := by decide) : ST e X W (.Compare a [.NotIn] [.Name x xp] pos) (tV (eUn (inGD true ds) m)) := by
  obtain ⟨p, vs, h1, h2, h3⟩ := h
  obtain ⟨ta, a1, a2⟩ := ha.ex
  have ho := op_niA (X := X) hu
  rw [hK] at h2 ho
  exact ⟨_, pt_cmpR ho a1 (pe_glob (v := .ref p) hg h1 rfl hd) hm, tTest_te (tUnU_te (p1u_inG (neg := true) h2 h3) a2)⟩

/-! ### for x in d, d empty -/
def sForE (i : Nat) : MS := fun r => match r[i]? with
  | some (.val (.dK [] [])) => .nx r
  | _ => .no
theorem ss_forE {i : Nat} {x : Str} {px : Pos} {tg : Expr} {body : List Stmt} {g : MG} (v : VarOk X.N X.env.scope i x) (hp : PassesOwn (model X.prog X.w) X.A X.env X.xe) (hc : X.calm = true) (hg : SG e X io tg g)
    (hs : ∀ y, foldedSetIterable (.Name x px) X.env y = pure y := by intro _; rfl) : SS e X W io (.For tg (.Name x px) body [] pos) (sForE i) := by
  obtain ⟨tg', g1, g2⟩ := hg.ex
  have pb : PSs X body (fun _ _ _ => False) := ⟨fun _ _ _ _ _ _ h => h.elim⟩
  have pf := ps_for (pos := pos) hp hc (pi_keys (pe_var (i := i) v.hN v.hv v.hd v.hc)) g1 pb hs
  refine ⟨fun D σ H => tLock (tFor (iKeys (tVar i)) tg' fun _ _ _ => False) D σ H ∨ tFor (iKeys (tVar i)) tg' (fun _ _ _ => False) D σ H, ⟨fun pins s σ H D I h => ?_⟩, fun r σ H F fm D hC hpn R q => ?_⟩
  · rcases h with h | h
    · exact (ps_lock pf).run pins s σ H D I h
    · exact pf.run pins s σ H D I h
  · have go : ∀ (p : Addr) (o : Obj) (H1 : Hp) (D1 : Ends), σ[i]? = some (some (.ref p)) → H1 p = some (.frz o (.dK [])) → D1.nx σ H1 → tFor (iKeys (tVar i)) tg' (fun _ _ _ => False) D1 σ H1 := fun p o H1 D1 h1 h2 h3 => by
      refine ⟨.ref p, h1, p, o, rfl, .inl ⟨[], h2, ?_⟩⟩
      exact ⟨fun i m σ' H' => i = 0 ∧ σ' = σ ∧ H' = H1, ⟨0, rfl, rfl, rfl⟩, fun i m σ' H' ⟨hi, hσ, hH⟩ => by
        subst hi; subst hσ; subst hH
        exact .inl ⟨⟨h2, Nat.zero_le _⟩, h3⟩⟩
    unfold sForE at q
    cases z : r[i]? with
    | none => rw [z] at q; exact q.elim
    | some lv =>
      rw [z] at q
      cases lv with
      | un => exact q.elim
      | own d => exact q.elim
      | val d =>
        cases d <;> first | exact q.elim | skip
        rename_i ks l
        cases ks with
        | cons _ _ => exact q.elim
        | nil =>
          cases l with
          | cons _ _ => exact q.elim
          | nil =>
            have q' : PoS e W fm F D (.nx r) := q
            obtain ⟨w, h1, p, vs, rfl, h2, h3, h4⟩ := R.va i _ z
            have h2' : F p = some (.dK []) := h2
            rcases R.fh p _ h2' with k | ⟨_, o, k⟩
            · refine .inl ⟨p, .dK [], k, trivial, fun od => ?_⟩
              refine go p od _ _ h1 upd_same ⟨upd_same, ?_⟩
              have : upd (upd H p (.frz od (.dK []))) p (.dK []) = H := by
                rw [upd_upd]
                funext a
                by_cases ha : a = p
                · subst ha; rw [upd_same, k]
                · rw [upd_ne ha]
              rw [this]
              exact q' σ H F R (Same.refl _)
            · exact .inr (go p o H D h1 k (q' σ H F R (Same.refl _)))

/-! ### max(xs, default=z) -/
def mxK (z : Int) : List Int → Int
  | [] => z
  | x :: l => l.foldl max x
def rMaxK (K : PySem.W.Frag) : List V → List V → Hp → VK → Prop := fun vs zs H Q => ∃ (a : Addr) (ns : List Int) (z : Int), vs = [.ref a] ∧ zs = [.int z] ∧ SqL K H a (ns.map V.int) ∧ Q (.int (mxK z ns)) H
theorem ints_reads {h : Heap} : ∀ {ns : List Int} {us : List Value}, Vals (ns.map V.int) us → ReadsAll h us (ns.map PyData.int) []
  | [], _, r => by cases r; exact .nil
  | n :: ns, _, r => by
    cases r with
    | cons r1 r2 => obtain ⟨t, rfl⟩ := r1; exact .cons (as := []) (.int n t) (ints_reads r2)
theorem cr_maxK (hc : X.calm = true) (hu : X.A.units + 100 < cLine) : CallRK X (.builtin "max") [Str.ofString "default"] (rMaxK X.K) := by
  intro pins s σ H xs zs us ws Q I r rz ⟨a, ns, z, e1, e2, hs, q⟩
  subst e1; subst e2
  rw [Vals.ref1 r]
  obtain ⟨w1, rfl, t, rfl⟩ : ∃ w1, ws = [w1] ∧ ∃ t, w1 = .int z t := by
    cases rz with
    | cons r1 r2 => cases r2; exact ⟨_, rfl, r1⟩
  obtain ⟨its, rv, hl, hz⟩ := I.list hs
  have hd : PyData.depthAll (ns.map PyData.int) = 0 := PySem.W.depth_ints ns
  show wpAny _ _ (call (.builtin "max") [.ref a] [(Str.ofString "default", .int z t)]) _ _ _
  refine PySem.W.max_list_default (xs := ns.map .int) (as := []) (I.ok.hd hc) hl.isList (by simpa using ints_reads rv) ⟨fun x hx y hy => ?_, fun x hx => ?_⟩ (by rw [hd]; omega) (fun h0 h' tk k => ?_) fun y ys i v h' tk bs h0 hv hr k => ?_
  · obtain ⟨n, _, rfl⟩ := List.mem_map.mp hx
    obtain ⟨m, _, rfl⟩ := List.mem_map.mp hy
    rfl
  · obtain ⟨n, _, rfl⟩ := List.mem_map.mp hx
    intro h; cases h
  · have e0 : ns = [] := by simpa using h0
    subst e0
    exact ⟨.int z, H, I.kept k, ⟨t, rfl⟩, q⟩
  · cases ns with
    | nil => cases h0
    | cons n ns =>
      rw [List.map_cons] at h0
      cases h0
      rw [PySem.W.maxD_ints] at hr
      cases hr
      exact ⟨.int _, H, I.kept k, ⟨_, rfl⟩, q⟩
def eMaxK (z : Int) (m : ME) : ME := fun r => (stl m r).bd fun x r1 => match look x r1 with
  | some (.lst l) => match intsD l with
    | some ns => .ok (.val (.int (mxK z ns))) r1
    | none => .no
  | _ => .no
theorem se_maxK {z : Int} {p kp cp : Pos} {j : _} (hK : X.K = e.K) (hc : X.calm = true) (hu : X.A.units + 100 < cLine) (hg : Gl X "max") (hm : X.mg "max" = none) (h : SE e X W a m) (hst : starEach [a] X.env = (false, eval a X.env) :: starEach [] X.env := by rfl)
    (he : backTo pos (starEach [a] X.env) = (false, eval a X.env) :: backTo pos (starEach [] X.env) := by rfl) (hpl : (backTo pos (starEach [a] X.env)).any (·.1) = false := by rfl) :
    SE e X W (.Call (.Name "max" p) [a] [⟨some "default", .Constant (.int z) j cp, kp⟩] pos) (eMaxK z m) := by
  obtain ⟨t, a1, a2⟩ := h.ex
  refine ⟨_, pe_callBK (cr_maxK hc hu) hg hm (by decide +kernel) (pa_cons a1 pa_nil hst) (pk_cons pe_int pk_nil) (by decide) (by decide) he hpl, fun r σ H F fm Q hC R q => ?_⟩
  refine TeE.stl a2 r σ H F fm _ hC R ?_
  refine (Po.bd q).mono fun x r1 H1 F1 R1 s1 q1 v hv => ?_
  cases y : look x r1 with
  | none => rw [y] at q1; exact q1.elim
  | some d =>
    rw [y] at q1
    cases d <;> first | exact q1.elim | skip
    rename_i l
    have q2 : Po e W fm F1 σ (KE' e fm σ Q) (match intsD l with
      | some ns => .ok (.val (.int (mxK z ns))) r1
      | none => .no) := q1
    cases w : intsD l with
    | none => rw [w] at q2; exact q2.elim
    | some ns =>
      rw [w] at q2
      obtain ⟨p, vs, rfl, g1, g2⟩ := look_vw R1 hv y
      rw [intsD_rep w g2] at g1
      exact ⟨p, ns, z, rfl, rfl, by rw [hK]; exact sqL_of g1, q2 H1 F1 R1 (Same.refl _) _ rfl⟩
end
end Mi

end
section
set_option maxRecDepth 100000
/-! Mi23: list comprehensions whose element may raise. -/
namespace Mi
open PySem L2

/-- the block's context, exceptions going on in the def's own frame -/
abbrev blkX (X : Cx) (s : Shared) (H : Hp) (scope : Scope) (ce : Env) (fp : List Addr) : Cx :=
  { X.blk s H scope ce fp with xe := notedBy (model X.prog X.w) X.A ce (CompFails (model X.prog X.w) X.A X.xe ce) }
section
variable {X : Cx} {pins : List (Addr × Obj)} {σ : St} {H : Hp} {s : Shared}
theorem inv_toX {sb : Shared} {Hb : Hp} {scope : Scope} {ce : Env} {fp : List Addr} (I : Inv (X.blk sb Hb scope ce fp) pins σ H s) : Inv (blkX X sb Hb scope ce fp) pins σ H s :=
  ⟨⟨I.ok.mod, I.ok.kind, I.ok.glob, I.ok.blt, I.ok.above, I.ok.inj, I.ok.has, I.ok.cab, I.ok.hd, I.ok.frames, I.ok.stk, I.ok.exf, I.ok.bs, I.ok.bsz, I.ok.noex, I.ok.exfs, I.ok.funs, I.ok.frf⟩, I.os, I.bare, I.base, I.loc, I.cell, I.free, I.freeC, I.pin, I.hok, I.len⟩
end
section
variable {M : Model} {A : Around} {E : Value → Shared → Prop} {s : Shared} {Z : Obj → Prop} {G : Heap} {env : Env} {outer : List Env} {L e : Addr} {fl : Value}
/-- noted by this frame, whatever frame's flight it bore -/
theorem look_otherZ {Q : Unit → Shared → Prop} (hZ : HandSPX.Steady Z) (fr : A.frames = some (env :: outer)) (ef : env.frame = some L) (k0 : G.StaysIn s.heap) (k1 : G.get? e = none) (k2 : s.heap.FunFrames G (env :: outer)) (k3 : HandSPX.TracedZ s.heap G e Z fl) (hne : (fl == rawInt L) = false)
    (hQ : ∀ h', HandSPX.HeldZ G (env :: outer) e Z L h' → s.heap.UpToSlots h' → Q () { s with heap := h' }) : wpAny M A (noteFrame (.ref e) env) Q E s := by
  obtain ⟨x, fx, T, y, fy, gx, zx, dx, x1, nT, Te, gy, dy, y3⟩ := k3
  have away : ∀ b, b ≠ T → (s.heap.update T (Obj.mapFields (·.setIfInBounds 3 Value.none))).get? b = s.heap.get? b := fun b hb => Heap.get?_update_other _ _ fun q => hb q.symm
  have plain : ∀ b u, s.heap.get? b = some u → (∀ vs, u.data ≠ .fields vs) → b ≠ T := fun b u q nf z => by
    rw [z, gy] at q
    cases q
    exact nf _ dy
  unfold noteFrame
  simp only [ef]
  refine wpAny_bind (wpAny_field gx dx x1 ?_)
  rw [if_pos (by simp : (Value.ref T != Value.none) = true)]
  refine wpAny_bind (wpAny_field gy dy y3 ?_)
  rw [if_neg (by rw [hne]; decide)]
  refine wpAny_bind (wpAny_setField gy dy (Array.getElem?_eq_some_iff.mp y3).1 ?_)
  refine HandSPX.wpAny_entryZ hZ fr (k2.of_keeps fun b u q nf => ⟨u, (away b (plain b u q nf)).trans q, rfl⟩) ef ((away e fun q => Te q.symm).trans gx) (fun b u q => (away b fun z => by rw [z, nT] at q; cases q).trans (k0 b u q)) k1 dx (Array.getElem?_eq_some_iff.mp x1).1 zx fun h' hn => ?_
  exact hQ h' ⟨hn.1, k1, hn.2.1, hn.2.2.1⟩ fun b u q nf => hn.2.2.2 b u ((away b (plain b u q nf)).trans q) nf
end
theorem sub_same {C b : Addr} {h h' : Heap} {o : Obj} (sb : Heap.SameBut C h h') (e : h.get? b = some o) (n : b ≠ C) : h'.get? b = some o := (sb.2 b n).trans e
/-- what is raised in the block is raised in the def -/
theorem takes_blk {X : Cx} {w : WX} {scope : Scope} {cl : List (Str × Addr)} {fp : List Addr} {pins : List (Addr × Obj)} {σ : St} {H0 : Hp} {s0 : Shared} (hs : X.stack = X.env :: X.outer) (hf : X.env.frame = some X.env.locals) (tk : Takes X w) (I0 : Inv X pins σ H0 s0) (f0 : ∀ b ∈ fp, FpOk X pins H0 b ∧ b < s0.heap.objs.size) :
    Takes (blkX X s0 H0 scope (compEnvC scope cl s0.heap.objs.size X.env) fp) (fun cls d _ H' => w cls d σ H') := by
  intro u s' hx
  obtain ⟨a, B, sI, pins', σ', H', cls, d, rfl, I, nb, up, sky, na, os, ag, hw⟩ := hx
  have hC : (compEnvC scope cl s0.heap.objs.size X.env).locals = s0.heap.objs.size := rfl
  have hcf : (compEnvC scope cl s0.heap.objs.size X.env).frame = X.env.frame := rfl
  generalize compEnvC scope cl s0.heap.objs.size X.env = ce at I sky hC hcf ⊢
  have sky' : Sky B (X.env :: X.outer) a (Zc cls d) s0.heap.objs.size s'.heap := by
    have z : Sky B X.stack a (Zc cls d) ce.locals s'.heap := sky
    rw [hs, hC] at z
    exact z
  have nb' : ∀ b o, sI.heap.get? b = some o → b ∉ frs X.stack → B.get? b = some o := nb
  have hfr : X.A.frames = some (X.env :: X.outer) := by rw [I0.ok.frames, hs]
  have nCL : X.env.locals ≠ s0.heap.objs.size := by
    obtain ⟨m, hn, _⟩ := I0.loc
    obtain ⟨oL, _, _, e1, _⟩ := hn
    exact Nat.ne_of_lt (Heap.lt_size e1)
  obtain ⟨m, hnI, _⟩ := I.loc
  have hnI : sI.heap.Ns s0.heap.objs.size m := by rw [← hC]; exact hnI
  have nHC : H' s0.heap.objs.size = none := by rw [← hC]; exact I.free
  have nfC : s0.heap.objs.size ∉ frs X.stack := fun h => by
    obtain ⟨_, o, e1, _⟩ := I0.stack.mem h
    exact absurd (Heap.lt_size e1) (Nat.lt_irrefl _)
  show wpAny (model X.prog X.w) X.A (noteFrame (.ref a) ce) _ _ s'
  rw [noteFrame_env _ hcf]
  have fin : ∀ h1, HandSPX.HeldZ B (X.env :: X.outer) a (Zc cls d) X.env.locals h1 → s'.heap.UpToSlots h1 → CompFails (model X.prog X.w) X.A X.xe ce (.ref a) { s' with heap := h1 } := by
    intro h1 held up1
    have hn1 : h1.Ns s0.heap.objs.size m := (hnI.upToSlots up).upToSlots up1
    refine ⟨m, by rw [hC]; exact hn1, fun h2 m2 hn2 sb => ?_⟩
    rw [hC] at sb hn2
    -- the ground without the block's names
    generalize hGd : PySem.W.hideAll B [s0.heap.objs.size] = G
    have gB : ∀ b o, G.get? b = some o → B.get? b = some o ∧ b ≠ s0.heap.objs.size := fun b o e => by
      rw [← hGd] at e
      refine ⟨PySem.W.of_hideAll _ e, fun z => ?_⟩
      rw [PySem.W.hideAll_none _ (by rw [z]; exact List.mem_cons_self)] at e
      cases e
    obtain ⟨b1, b0, b2, oe, vs, T, oT, ts, he, hz, hd, e1, nT, Te, hT, hdT, t3⟩ := held
    have notC : ∀ {b : Addr} {o : Obj} {fs : Array Value}, h1.get? b = some o → o.data = .fields fs → b ≠ s0.heap.objs.size := fun {b o fs} e q z => by
      obtain ⟨oC, _, _, c1, c2, _⟩ := hn1
      rw [z, c1] at e
      cases e
      rw [c2] at q
      cases q
    have he2 := sub_same sb he (notC he hd)
    have hT2 := sub_same sb hT (notC hT hdT)
    have gN : ∀ b, B.get? b = none → G.get? b = none := fun b z => by
      cases q : G.get? b with
      | none => rfl
      | some o => rw [(gB b o q).1] at z; cases z
    have held2 : HandSPX.HeldZ G (X.env :: X.outer) a (Zc cls d) X.env.locals h2 :=
      ⟨fun b o e => sub_same sb (b1 b o (gB b o e).1) (gB b o e).2, gN a b0, funFrames_none (Heap.FunFrames.sameBut sb hn2 b2) fun b hb => gN b (b2.mem hb).1, oe, vs, T, oT, ts, he2, hz, hd, e1, gN T nT, Te, hT2, hdT, t3⟩
    unfold passOn
    refine wpAny_bind (wpAny_field he2 hd e1 ?_)
    rw [if_neg (by simp : ¬ ((Value.ref T == Value.none) = true)), hcf, hf]
    have goes : wpAny (model X.prog X.w) X.A (setFlight (.ref a) (some X.env.locals)) (fun _ s4 => wpAny (model X.prog X.w) X.A (throw (.ref a) : Sem Value) (fun _ _ => False) X.xe s4) X.xe { s' with heap := h2 } := by
      refine HandSPX.setFlight_onZ held2 fun h4 held4 up4 => wpAny_throw (tk _ _ ?_)
      generalize hSd : PySem.W.hideAll sI.heap [s0.heap.objs.size] = S
      have gS : ∀ b o, S.get? b = some o → sI.heap.get? b = some o ∧ b ≠ s0.heap.objs.size := fun b o e => by
        rw [← hSd] at e
        refine ⟨PySem.W.of_hideAll _ e, fun z => ?_⟩
        rw [PySem.W.hideAll_none _ (by rw [z]; exact List.mem_cons_self)] at e
        cases e
      have sG : ∀ b o, sI.heap.get? b = some o → b ≠ s0.heap.objs.size → S.get? b = some o := fun b o e n => by
        rw [← hSd]
        exact PySem.W.hideAll_get _ e fun z => by
          rcases List.mem_cons.mp z with z | z
          · exact n z
          · cases z
      have old : ∀ b o, s0.heap.get? b = some o → b ≠ s0.heap.objs.size := fun b o e => Nat.ne_of_lt (Heap.lt_size e)
      have ub : Un (frs X.stack) fp H0 H' s0.heap sI.heap := I.base
      have J : Inv X pins σ H' { sI with heap := S } := by
        refine I0.call' (ch := fp) (s' := { sI with heap := S }) I.os ⟨fun b o e n z1 z2 => sG b o (ub.keep b o e n z1 z2) (old b o e), fun b o e n z1 z2 => ?_, ub.free, fun b o e z => ?_, ub.tups, ub.frzs, ub.tbls⟩ ?_ I.bare fun b hb => ⟨(f0 b hb).1.2.2.2.1, (f0 b hb).1.2.1, (f0 b hb).1.2.2.2.2.1, (f0 b hb).1.2.2.2.2.2⟩
        · obtain ⟨sl, q⟩ := ub.slot b o e n z1 z2
          exact ⟨sl, sG b _ q (old b o e)⟩
        · obtain ⟨o', q⟩ := ub.there b o e z
          exact ⟨o', sG b _ q (old b o e)⟩
        · intro b o q
          refine (I.hok b o q).stay (fun c u hc r => sG c u r fun z => ?_) (fun _ r => r) fun _ _ r => r
          rw [z] at hc
          rcases hc with hc | hc
          · rw [← hc, nHC] at q; cases q
          · rw [nHC] at hc; cases hc
      refine ⟨a, G, { sI with heap := S }, pins, σ, H', cls, d, rfl, J, fun b o e hb => ?_, fun b o e nf => ?_, .inr (.inr ?_), na, os, ag, hw⟩
      · obtain ⟨g1, g2⟩ := gS b o e
        rw [← hGd]
        exact PySem.W.hideAll_get _ (nb' b o g1 hb) fun z => by
          rcases List.mem_cons.mp z with z | z
          · exact g2 z
          · cases z
      · obtain ⟨g1, g2⟩ := gS b o e
        obtain ⟨l1, q1⟩ := up b o g1 nf
        obtain ⟨l2, q2⟩ := up1 b _ q1 nf
        obtain ⟨l3, q3⟩ := up4 b _ (sub_same sb q2 g2) nf
        exact ⟨l3, q3⟩
      · rw [hs]
        exact held4
    first
      | exact wpAny_bind (wpAny_pure (wpAny_bind goes))
      | exact wpAny_bind goes
  rcases sky' with ⟨y1, y2, y3, oe, vs, y4, y5, y6, y7⟩ | fl | hd
  · exact HandSPX.look_newZ Zc.steady hfr y3 hf y4 y1 y2 y6 y7 y5 fin
  · exact HandSPX.looks_onZ Zc.steady hfr hf fl fin
  · exact look_otherZ Zc.steady hfr hf hd.1 hd.2.1 hd.2.2.1 hd.2.2.2 (by
      cases q : (rawInt s0.heap.objs.size == rawInt X.env.locals) with
      | false => rfl
      | true =>
        have z := eq_of_beq q
        unfold rawInt at z
        have z2 := (Value.int.inj z).1
        exact (nCL (Int.ofNat.inj z2).symm).elim) fin

/-- [elt for ..], the element may raise: te by what an exception must meet -/
def tLcX (w : WX) (wi : TI) (g : TG) (tt : TT) (te : WX → TE) (vs : List Nat) : TE := fun σ H Q => tLc wi g tt (te fun cls d _ H' => w cls d σ H') vs σ H Q
theorem pe_lcX {X : Cx} {w : WX} {elt tg iter : Expr} {ifs : List Expr} {scope : Scope} {own : List (Str × Nat)} {pos : Pos} {wi : TI} {g : TG} {tt : TT} {te : WX → TE} (hs : X.stack = X.env :: X.outer) (hf : X.env.frame = some X.env.locals) (tk : Takes X w) (calm : X.calm = true) (nd : X.N.Nodup) (hi : PI X tg iter wi) (ok : BlkOk X.N X.env.scope scope own)
    (hg : ∀ (s : Shared) (H : Hp) (C : Addr) (cl : List (Str × Addr)) (fp : List Addr), PG (blkX X s H scope (compEnvC scope cl C X.env) fp) tg g)
    (ht : ∀ (s : Shared) (H : Hp) (C : Addr) (cl : List (Str × Addr)) (fp : List Addr), PTs (blkX X s H scope (compEnvC scope cl C X.env) fp) ifs tt)
    (he : ∀ (s : Shared) (H : Hp) (C : Addr) (cl : List (Str × Addr)) (fp : List Addr) (w' : WX), Takes (blkX X s H scope (compEnvC scope cl C X.env) fp) w' → PE (blkX X s H scope (compEnvC scope cl C X.env) fp) elt (te w'))
    (hfs : ∀ x, foldedSetIterable iter X.env x = pure x := by intro _; rfl) : PE X (.ListComp elt [⟨tg, iter, ifs, 0⟩] scope pos) (tLcX w wi g tt te (own.map (·.2))) := by
  refine ⟨fun pins s σ H Q I h => ?_⟩
  have frees : ∀ y ∈ scope.names, y.2 = .free → ∃ c, X.env.cells.lookup y.1 = some c := fun y hy e => I.ok.has _ (ok.free y hy e)
  rw [eval_ListComp]
  refine comprehension_at (use := none) rfl hfs (closure_ok frees) ok.kind (fun y hy e => (ok.uniq y hy).trans (congrArg some e)) (thn (hi.run pins s σ H _ I h) fun xv s1 h1 => thn h1 fun itv s2 h2 => ?_)
  obtain ⟨it, fp, tn, J, H2, rfl, I2, T, t2, f2, q⟩ := h2
  refine wpAny_newObj_type (newEnv_comp ?_) (Nat.zero_le _)
  obtain ⟨inv, ⟨m0, w0⟩, turn⟩ := q s2.heap.objs.size (I2.hok.fresh (Nat.le_refl _))
  generalize e3 : ({ s2 with heap := s2.heap.push { cls := .type "list", data := .seq ([] : List Value).toArray } } : Shared) = s3
  have k3 : ∀ b o, s2.heap.get? b = some o → s3.heap.get? b = some o := fun b o e => by
    rw [← e3]
    exact Heap.get?_push_of_some _ e
  have I3 : Inv X pins σ (upd H2 s2.heap.objs.size (.lst [])) s3 := by
    rw [← e3]
    exact I2.laid (t' := s2.toks) (fun b o e => Heap.get?_push_of_some _ e) (Nat.le_refl _) ⟨Nat.zero_le _, [], 0, .nil, Heap.get?_push_size _ rfl⟩
  have size3 : s3.heap.objs.size = s2.heap.objs.size + 1 := by
    rw [← e3]
    exact Heap.size_push ..
  have f3 : ∀ b ∈ fp, FpOk X pins (upd H2 s2.heap.objs.size (.lst [])) b ∧ b < s3.heap.objs.size := fun b hb => by
    obtain ⟨o, e, _⟩ := T.obj _ _ t2 b hb
    have lt := Heap.lt_size e
    refine ⟨⟨?_, (f2 b hb).2⟩, by rw [size3]; exact Nat.lt_succ_of_lt lt⟩
    rw [upd_ne (Nat.ne_of_lt lt)]
    exact (f2 b hb).1
  have t3 : tn 0 s3.heap := T.keep _ _ _ t2 fun b _ o e => k3 b o e
  have I4 := inv_toX (block_start I3 ok nd f3)
  have tkb := takes_blk (scope := scope) (cl := cellsFrom (s3.heap.objs.size + 1) scope.names (cloFrom X.env.cells scope.names [])) hs hf tk I3 f3
  have pg := hg s3 (upd H2 s2.heap.objs.size (.lst [])) s3.heap.objs.size (cellsFrom (s3.heap.objs.size + 1) scope.names (cloFrom X.env.cells scope.names [])) fp
  have pt := ht s3 (upd H2 s2.heap.objs.size (.lst [])) s3.heap.objs.size (cellsFrom (s3.heap.objs.size + 1) scope.names (cloFrom X.env.cells scope.names [])) fp
  have pe := he s3 (upd H2 s2.heap.objs.size (.lst [])) s3.heap.objs.size (cellsFrom (s3.heap.objs.size + 1) scope.names (cloFrom X.env.cells scope.names [])) fp _ tkb
  show codeAny _ _ (.compStart (.ListComp elt [⟨tg, iter, ifs, 0⟩] scope pos) 0 (.ref it) (.ref s2.heap.objs.size) (compEnvC scope (cellsFrom (s3.heap.objs.size + 1) scope.names (cloFrom X.env.cells scope.names [])) s3.heap.objs.size X.env)) (compEnds (model X.prog X.w) X.A X.xe none _ (.ref s2.heap.objs.size) (compEnvC scope (cellsFrom (s3.heap.objs.size + 1) scope.names (cloFrom X.env.cells scope.names [])) s3.heap.objs.size X.env)) { s3 with heap := pushCells (s3.heap.push { cls := .type "dict", data := .dict #[] }) scope.names }
  have cL : (compEnvC scope (cellsFrom (s3.heap.objs.size + 1) scope.names (cloFrom X.env.cells scope.names [])) s3.heap.objs.size X.env).locals = s3.heap.objs.size := rfl
  generalize compEnvC scope (cellsFrom (s3.heap.objs.size + 1) scope.names (cloFrom X.env.cells scope.names [])) s3.heap.objs.size X.env = ce at I4 pg pt pe cL ⊢
  generalize s2.heap.objs.size = D at w0 turn I3 I4 pg pt pe f3 ⊢
  generalize upd H2 D (.lst []) = H3 at I3 I4 pg pt pe w0 f3
  generalize e4 : ({ s3 with heap := pushCells (s3.heap.push { cls := .type "dict", data := .dict #[] }) scope.names } : Shared) = s4 at I4 ⊢
  have t4 : tn 0 s4.heap := T.keep _ _ _ t3 fun b _ o e => by
    rw [← e4]
    exact pushCells_keeps _ _ _ _ (Heap.get?_push_of_some _ e)
  have fpb : ∀ {σ' : St} {H' : Hp} {s' : Shared}, Inv (blkX X s3 H3 scope ce fp) [] σ' H' s' → (∀ b ∈ fp, H' b = none) → ∀ b ∈ fp, FpOk (blkX X s3 H3 scope ce fp) [] H' b := fun {σ' H' s'} I' n b hb =>
    ⟨n b hb, (I'.ok.exf b hb).1, I'.ok.exfs b hb, .inl hb, (I'.ok.exf b hb).2, fun p hp => nomatch (show p ∈ ([] : List (Addr × Obj)) from hp)⟩
  have loop : codeAny (model X.prog X.w) X.A (.compLoop (.ListComp elt [⟨tg, iter, ifs, 0⟩] scope pos) 0 (.ref it) (.ref D) ce) (compEnds (model X.prog X.w) X.A X.xe none (EP X pins σ Q) (.ref D) ce) s4 := by
    refine compLoop_any (fun n s' => ∃ i H', Inv (blkX X s3 H3 scope ce fp) [] (L2.wipe σ (own.map (·.2))) H' s' ∧ tn i s'.heap ∧ (∀ b ∈ fp, H' b = none) ∧ inv i n H') ?_ m0 ⟨0, H3, I4, t4, fun b hb => (f3 b hb).1.1, w0⟩
    rintro n s5 ⟨i, H5, I5, t5, n5, w5⟩
    rcases turn i n H5 w5 with ⟨stop, end5⟩ | ⟨go, Nx, down, step⟩
    · refine thnF (T.done (blkX X s3 H3 scope ce fp) rfl rfl rfl calm i [] s5 _ H5 (fun _ _ => False) I5 (fpb I5 n5) t5 stop) fun r s6 hr => ?_
      obtain ⟨rfl, I6⟩ := hr
      have I7 : Inv X pins σ H5 s6 := I3.call' (ch := fp) I6.os I6.base I6.hok I6.bare fun b hb => (f3 b hb).1.2.2.2 |> fun z => ⟨z.1, (f3 b hb).1.2.1, z.2.1, z.2.2⟩
      have noC : H5 s3.heap.objs.size = none := by
        rw [← cL]
        exact I6.free
      obtain ⟨m, hn, _⟩ := I6.loc
      have hn : s6.heap.Ns ce.locals m := hn
      obtain ⟨g0, g1, _, g3, g4, g5⟩ := I3.fpOk (H' := H5) (Nat.le_refl _) noC
      refine ⟨m, hn, fun h'' sb => ?_⟩
      rw [cL] at sb
      exact ⟨.ref D, H5, I7.turned (t' := s6.toks) (fun b o hb e => (sb.2 b hb).trans e) g0 g1 g3 g4 g5, rfl, end5⟩
    · refine thnF (T.item (blkX X s3 H3 scope ce fp) rfl rfl rfl calm i [] s5 _ H5 (fun _ _ => False) I5 (fpb I5 n5) t5 go) fun r s6 hr => ?_
      obtain ⟨u, rfl, h6⟩ := hr
      refine thnF h6 fun _ s7 h7 => ?_
      obtain ⟨x, H7, I7, r7, y7, t7, n7⟩ := h7
      have P7 := I7.pinned (fpb I7 n7) (T.obj _ _ t7)
      refine thn (pg.run _ s7 _ H7 x u _ P7 r7 (step x H7 y7)) fun _ s8 h8 => ?_
      obtain ⟨σ8, H8, I8, w8, q8⟩ := h8
      refine thn (pt.run _ s8 σ8 H8 _ I8 q8) fun b s9 h9 => ?_
      obtain ⟨H9, I9, q9⟩ := h9
      have next : ∀ {s' : Shared} {H' : Hp}, Inv (blkX X s3 H3 scope ce fp) ([] ++ pinsAt fp s7.heap) σ8 H' s' → Nx H' → ∃ m, m < n ∧ ∃ i H', Inv (blkX X s3 H3 scope ce fp) [] (L2.wipe σ (own.map (·.2))) H' s' ∧ tn i s'.heap ∧ (∀ b ∈ fp, H' b = none) ∧ inv i m H' := fun {s' H'} I' nx => by
        obtain ⟨m', lt, w'⟩ := down H' nx
        have stands : ∀ b ∈ fp, ∀ o, s7.heap.get? b = some o → s'.heap.get? b = some o ∧ H' b = none := fun b hb o e => by
          have z := I'.pin (b, o) (List.mem_append_right _ (List.mem_append_right _ (mem_pinsAt hb e)))
          exact ⟨z.1, z.2.1⟩
        refine ⟨m', lt, i + 1, H', (I'.unpinned (pins := [])).weak ?_ (fun j v e => ?_), T.keep _ _ _ t7 fun b hb o e => (stands b hb o e).1, fun b hb => ?_, w'⟩
        · rw [← w8, wipe_length]
        · rw [← w8] at e
          exact (wipe_some e).1
        · obtain ⟨o, e, _⟩ := T.obj _ _ t7 b hb
          exact (stands b hb o e).2
      cases b with
      | false => exact next I9 (by simpa using q9)
      | true =>
        refine thn (pe.run _ s9 σ8 H9 _ I9 (by simpa using q9)) fun z s10 h10 => ?_
        obtain ⟨yv, H10, I10, r10, acc, d10, l10, nx⟩ := h10
        exact app_ok (X := blkX X s3 H3 scope ce fp) I10 d10 l10 r10 fun s11 I11 => next I11 nx
  exact codeAny_compStart_list loop (T.self X.A 0 _ _ _ t4 loop)

/-! ### the mirror -/
def lcX (g : MG) (t : MT) (el : ME) (vs : List Nat) : List D → Rho → List D → Ou RV
  | [], r, acc => .ok (.own (.lst acc)) r
  | d :: ds, r, acc => match g d r with
    | none => .no
    | some r1 => match t r1 with
      | .ok b r2 => if b = true then (match fz el r2 with
          | .ok x r3 => if acc.length < 1000000 then lcX g t el vs ds (wipeR r3 vs) (acc ++ [x]) else .no
          | .ex x r3 => .ex x (wipeR r3 vs)
          | .no => .no) else lcX g t el vs ds (wipeR r2 vs) acc
      | _ => .no
/-- [elt for target in ..], elt may raise -/
def eLcX (g : MG) (mi : Rho → Ou (List D)) (t : MT) (el : ME) (vs : List Nat) : ME := fun r => (mi r).bd fun ds r1 => lcX g t el vs ds (wipeR r1 vs) []
section
variable {e : En} {X : Cx} {W : Wi} {io : List Nat} {a b c : Expr} {m n : ME} {pos : Pos} {H F G : Hp} {B : Addr → Prop} {pn : List (Nat × V)} {σ : St} {r : Rho} {fm : Fm}
theorem lcX_te {ti : TI} {g : MG} {mi : Rho → Ou (List D)} {t : MT} {el : ME} {vs : List Nat} (i2 : TeI e W ti mi) : TeE e W (tLcX W.w ti (canG e vs g) (canT e wSo t) (fun w' => canD e ⟨w', fun _ => True⟩ (fz el)) vs) (eLcX g mi t el vs) := by
  intro r σ H F fm Q hC R q
  refine i2 r σ H F fm _ hC R ?_
  obtain ⟨G, B, pn⟩ := fm
  refine (Po.bd q).mono fun ds r1 H1 F1 R1 s1 q1 J hJ => ?_
  intro D hD
  have fr := R1.free hD
  have hG : G D = none := fr.2.1
  have hB : ¬ B D := fr.2.2
  have o0 : OR e F1 (.lst []) (.lst []) := rfl
  have T0 := R1.tmp hD o0
  have RN := R1.new (o := .lst []) hD
  refine ⟨fun i m H => m = ds.length - i ∧ ∃ r F acc vacc, Rl e r (L2.wipe σ vs) H F ⟨G, B, []⟩ ∧ Same F1 F ∧ Tmp e r (L2.wipe σ vs) H F ⟨G, B, []⟩ D (.lst acc) ∧ H D = some (.lst vacc) ∧ Po e W ⟨G, B, pn⟩ F σ (KE' e ⟨G, B, pn⟩ σ Q) (lcX g t el vs (ds.drop i) r acc),
    ⟨ds.length, rfl, wipeR r1 vs, F1, [], [], (RN.unpinned (pn' := []) fun q h => by cases h).wipe, Same.refl _, T0.wipe, upd_same, by rw [List.drop_zero]; exact q1⟩, ?_⟩
  rintro i m H2 ⟨rfl, r2, F2, acc, vacc, R2, s2, T2, hv, q2⟩
  have hJ2 := hJ.mono s2
  have oV : OR e F2 (.lst vacc) (.lst acc) := by
    obtain ⟨⟨u, h1, h2⟩, _⟩ := T2
    rw [hv] at h1; cases h1; exact h2.1
  by_cases hlt : i < ds.length
  · refine .inr ⟨hJ2.go i H2 R2.fh (lo_gh R2.gh) hlt, fun H => ∃ r F acc vacc, Rl e r (L2.wipe σ vs) H F ⟨G, B, []⟩ ∧ Same F1 F ∧ Tmp e r (L2.wipe σ vs) H F ⟨G, B, []⟩ D (.lst acc) ∧ H D = some (.lst vacc) ∧ Po e W ⟨G, B, pn⟩ F σ (KE' e ⟨G, B, pn⟩ σ Q) (lcX g t el vs (ds.drop (i + 1)) r acc),
      fun H' h => ⟨ds.length - (i + 1), by omega, rfl, h⟩, fun x H' y => ?_⟩
    have hd : ds[i]? = some ds[i] := List.getElem?_eq_getElem hlt
    have R2k := R2.keep T2 hv
    obtain ⟨F3, R3, s3, h3⟩ := hJ2.item R2k (lo_gh R2.gh) y hd
    rw [List.drop_eq_getElem_cons hlt] at q2
    have q3 : Po e W ⟨G, B, pn⟩ F2 σ (KE' e ⟨G, B, pn⟩ σ Q) (match g ds[i] r2 with
      | none => .no
      | some r1 => match t r1 with
        | .ok b r2 => if b = true then (match fz el r2 with
            | .ok x r3 => if acc.length < 1000000 then lcX g t el vs (ds.drop (i + 1)) (wipeR r3 vs) (acc ++ [x]) else .no
            | .ex x r3 => .ex x (wipeR r3 vs)
            | .no => .no) else lcX g t el vs (ds.drop (i + 1)) (wipeR r2 vs) acc
        | _ => .no) := q2
    cases z : g ds[i] r2 with
    | none => rw [z] at q3; exact q3.elim
    | some r4 =>
      rw [z] at q3
      have q4 : Po e W ⟨G, B, pn⟩ F2 σ (KE' e ⟨G, B, pn⟩ σ Q) (match t r4 with
        | .ok b r2 => if b = true then (match fz el r2 with
            | .ok x r3 => if acc.length < 1000000 then lcX g t el vs (ds.drop (i + 1)) (wipeR r3 vs) (acc ++ [x]) else .no
            | .ex x r3 => .ex x (wipeR r3 vs)
            | .no => .no) else lcX g t el vs (ds.drop (i + 1)) (wipeR r2 vs) acc
        | _ => .no) := q3
      refine ⟨ds[i], r2, r4, F3, fmK G B D (.lst vacc), rfl, R3, h3, z, fun σ5 H5 F5 R5 s5 w5 => ?_⟩
      have w5' : L2.wipe σ5 vs = L2.wipe σ vs := by rw [w5, wipe_idem]
      have sAll : Same F2 F5 := s3.trans s5
      refine ⟨by rw [w5, wipe_idem], r4, F5, fmK G B D (.lst vacc), trivial, R5, ?_⟩
      cases z2 : t r4 with
      | no => rw [z2] at q4; exact q4.elim
      | ex x6 r6 => rw [z2] at q4; exact q4.elim
      | ok b r6 =>
        rw [z2] at q4
        intro H6 F6 R6 s6
        have s26 := sAll.trans s6
        cases b with
        | false =>
          have q5 : Po e W ⟨G, B, pn⟩ F2 σ (KE' e ⟨G, B, pn⟩ σ Q) (lcX g t el vs (ds.drop (i + 1)) (wipeR r6 vs) acc) := q4
          obtain ⟨R7, T7, hp7⟩ := R6.unkeep hG hB (or_lst s26 oV)
          exact ⟨wipeR r6 vs, F6, acc, vacc, by rw [← w5']; exact R7.wipe, s2.trans s26, by rw [← w5']; exact T7.wipe, hp7, q5.le s26⟩
        | true =>
          have q5 : Po e W ⟨G, B, pn⟩ F2 σ (KE' e ⟨G, B, pn⟩ σ Q) (match fz el r6 with
            | .ok x r3 => if acc.length < 1000000 then lcX g t el vs (ds.drop (i + 1)) (wipeR r3 vs) (acc ++ [x]) else .no
            | .ex x r3 => .ex x (wipeR r3 vs)
            | .no => .no) := q4
          refine ⟨r6, F6, fmK G B D (.lst vacc), trivial, R6, ?_⟩
          cases z3 : fz el r6 with
          | no => rw [z3] at q5; exact q5.elim
          | ex x7 r7 =>
            rw [z3] at q5
            intro cls d H7 F7 R7 s7 hx
            have s27 := s26.trans s7
            have o7 : RepL e F7 acc vacc := or_lst s27 oV
            obtain ⟨R8, T8, hp8⟩ := R7.unkeep hG hB (d := .lst acc) (show OR e F7 (.lst vacc) (.lst acc) from o7)
            have R9 := R8.wipe (vs := vs)
            rw [w5'] at R9
            exact q5 cls d H7 F7 (R9.unwipe R.pn) s27 hx
          | ok x7 r7 =>
            rw [z3] at q5
            intro H7 F7 R7 s7 v hv7
            have s27 := s26.trans s7
            have q6 : Po e W ⟨G, B, pn⟩ F2 σ (KE' e ⟨G, B, pn⟩ σ Q) (if acc.length < 1000000 then lcX g t el vs (ds.drop (i + 1)) (wipeR r7 vs) (acc ++ [x7]) else .no) := q5
            by_cases hl : acc.length < 1000000
            · rw [if_pos hl] at q6
              have o7 : RepL e F7 acc vacc := or_lst s27 oV
              obtain ⟨R8, T8, hp8⟩ := R7.unkeep hG hB (d := .lst acc) (show OR e F7 (.lst vacc) (.lst acc) from o7)
              have oN : OR e F7 (.lst (vacc ++ [v])) (.lst (acc ++ [x7])) := o7.app (RepL.one hv7)
              refine ⟨vacc, hp8, by rw [o7.len]; exact Nat.lt_of_lt_of_le hl (by decide), wipeR r7 vs, F7, acc ++ [x7], vacc ++ [v], ?_, s2.trans s27, ?_, upd_same, q6.le s27⟩
              · rw [← w5']
                exact (R8.lay T8.2.1 T8.2.2).wipe
              · rw [← w5']
                exact Tmp.wipe ⟨⟨_, upd_same, oN, fun _ z => nomatch z⟩, T8.2⟩
            · rw [if_neg hl] at q6; exact q6.elim
  · refine .inl ⟨hJ2.stop i H2 R2.fh (lo_gh R2.gh) (by omega), ?_⟩
    rw [List.drop_eq_nil_of_le (by omega)] at q2
    have q3 : Po e W ⟨G, B, pn⟩ F2 σ (KE' e ⟨G, B, pn⟩ σ Q) (.ok (.own (.lst acc)) r2) := q2
    exact q3 H2 F2 (R2.unwipe R.pn) (Same.refl _) _ ⟨D, rfl, Tmp.unwipe R2 T2⟩
theorem se_lcX {elt tg iter : Expr} {ifs : List Expr} {scope : Scope} {own : List (Str × Nat)} {g : MG} {mi : Rho → Ou (List D)} {t : MT} {el : ME} (hs : X.stack = X.env :: X.outer) (hf : X.env.frame = some X.env.locals) (tk : Takes X W.w) (hc : X.calm = true) (hN : X.N.Nodup) (hi : SI e X W tg iter mi) (ok : BlkOk X.N X.env.scope scope own)
    (hg : ∀ (s : Shared) (H : Hp) (C : Addr) (cl : List (Str × Addr)) (fp : List Addr), SGv e (blkX X s H scope (compEnvC scope cl C X.env) fp) (own.map (·.2)) tg g)
    (ht : ∀ (s : Shared) (H : Hp) (C : Addr) (cl : List (Str × Addr)) (fp : List Addr), STs e (blkX X s H scope (compEnvC scope cl C X.env) fp) wSo ifs t)
    (he : ∀ (s : Shared) (H : Hp) (C : Addr) (cl : List (Str × Addr)) (fp : List Addr) (w' : WX), Takes (blkX X s H scope (compEnvC scope cl C X.env) fp) w' → SE e (blkX X s H scope (compEnvC scope cl C X.env) fp) ⟨w', fun _ => True⟩ elt el)
    (hfs : ∀ x, foldedSetIterable iter X.env x = pure x := by intro _; rfl) :
    SE e X W (.ListComp elt [⟨tg, iter, ifs, 0⟩] scope pos) (eLcX g mi t el (own.map (·.2))) := by
  obtain ⟨ti, i1, i2⟩ := hi.ex
  exact ⟨_, pe_lcX (te := fun w' => canD e ⟨w', fun _ => True⟩ (fz el)) hs hf tk hc hN i1 ok (fun s H C cl fp => (hg s H C cl fp).can) (fun s H C cl fp => (ht s H C cl fp).can) (fun s H C cl fp w' k => (he s H C cl fp w' k).fz.can) hfs, lcX_te i2⟩
end
/-! ### for simp -/
@[simp] theorem eLcX_e (g : MG) (mi : Rho → Ou (List D)) (t : MT) (el : ME) (vs : List Nat) (r : Rho) : eLcX g mi t el vs r = (mi r).bd fun ds r1 => lcX g t el vs ds (wipeR r1 vs) [] := rfl
@[simp] theorem lcX_n (g : MG) (t : MT) (el : ME) (vs : List Nat) (r : Rho) (acc : List D) : lcX g t el vs [] r acc = .ok (.own (.lst acc)) r := rfl
@[simp] theorem lcX_c (g : MG) (t : MT) (el : ME) (vs : List Nat) (d : D) (ds : List D) (r : Rho) (acc : List D) : lcX g t el vs (d :: ds) r acc = match g d r with
    | none => .no
    | some r1 => match t r1 with
      | .ok b r2 => if b = true then (match fz el r2 with
          | .ok x r3 => if acc.length < 1000000 then lcX g t el vs ds (wipeR r3 vs) (acc ++ [x]) else .no
          | .ex x r3 => .ex x (wipeR r3 vs)
          | .no => .no) else lcX g t el vs ds (wipeR r2 vs) acc
      | _ => .no := rfl
end Mi

end
section
set_option maxRecDepth 100000
/-! Mi24: a, b = a list. -/
namespace Mi
open PySem L2
theorem un_su {k : Nat} {A A' : Around} (hr : Room k A) (h : A'.units = A.units) : A'.units + 100 < cLine := by
  have := hr.un
  omega
/-- a, b, .. = a list of n items -/
def gLstM (n : Nat) (gs : List D → Rho → Option Rho) : MG := fun d r => match d with
  | .lst l => if l.length = n then gs l r else none
  | _ => none
section
variable {e : En} {X : Cx} {io : List Nat} {pos : Pos}
theorem sg_lst {es : List Expr} {k : Nat} {gs : List D → Rho → Option Rho} {n : Nat} (hK : X.K = e.K) (hc : X.calm = true) (h : SGs e X io es gs)
    (hn : (assignEach es X.env).length = n := by rfl) (hst : (assignEach es X.env).findIdx? (·.1) = none := by rfl) : SG e X io (.Tuple es k pos) (gLstM n gs) := by
  obtain ⟨t, a1, a2⟩ := h.ex
  refine ⟨_, pg_lst hc a1 hn hst, fun d v r r' σ H F fm Q hp R hv h q => ?_⟩
  cases d with
  | lst l =>
    have h' : (if l.length = n then gs l r else none) = some r' := h
    obtain ⟨p, vs, rfl, h1, h2⟩ := hv
    by_cases z : l.length = n
    · rw [if_pos z] at h'
      exact ⟨p, vs, rfl, by rw [hK]; exact R.fh.sqL (.inl (.inl h1)), by rw [h2.len]; exact z, a2 l vs r r' σ H F fm Q hp R h2 h' q⟩
    · rw [if_neg z] at h'; cases h'
  | _ => cases h
end
@[simp] theorem gLstM_e (n : Nat) (gs : List D → Rho → Option Rho) (l : List D) (r : Rho) : gLstM n gs (.lst l) r = if l.length = n then gs l r else none := rfl

/-! ### == of two dicts that hold the same flat data (needs no room: an except suite may ask it) -/
def rDkF (t : Bool) : R2 := fun x y H Q => ∃ a b kvs, x = .ref a ∧ y = .ref b ∧ Rd H a (.dK kvs) ∧ Rd H b (.dK kvs) ∧ (kvs.map (·.1)).Nodup ∧ (∀ p ∈ kvs, flatB p.2 = true) ∧ Q (.bl t) H
section
variable {X : Cx} {e : En}
theorem op_eqF (hu : X.A.units + 100 < cLine) : OpR X (compareOp .Eq) (rDkF true) := fun pins s σ H x y v u Q I rx ry h => by
  obtain ⟨a, b, kvs, rfl, rfl, r1, r2, nd, fl, q⟩ := h
  cases rx
  cases ry
  obtain ⟨_, n1, v1, k1, g1⟩ := r1.ok I.hok
  obtain ⟨_, n2, v2, k2, g2⟩ := r2.ok I.hok
  refine PySem.W.keq_eq (knd := mixKind X.prog X.w) (r := true) n1 n2 g1 g2 (by omega) (fun _ => hits_all k2 k1 fun p hp => ⟨val_nodup nd p hp, fl p hp⟩) (fin_bl I q ?_)
  have : v1.length = v2.length := k1.length.symm.trans k2.length
  simp [this]
theorem op_neF (hu : X.A.units + 100 < cLine) : OpR X (compareOp .NotEq) (rDkF false) := fun pins s σ H x y v u Q I rx ry h => by
  obtain ⟨a, b, kvs, rfl, rfl, r1, r2, nd, fl, q⟩ := h
  cases rx
  cases ry
  obtain ⟨_, n1, v1, k1, g1⟩ := r1.ok I.hok
  obtain ⟨_, n2, v2, k2, g2⟩ := r2.ok I.hok
  refine PySem.W.keq_ne (knd := mixKind X.prog X.w) (r := true) n1 n2 g1 g2 (by omega) (fun _ => hits_all k2 k1 fun p hp => ⟨val_nodup nd p hp, fl p hp⟩) (fin_bl I q ?_)
  have : v1.length = v2.length := k1.length.symm.trans k2.length
  simp [this]
theorem rep_fl {F : Hp} {d : D} {v : V} (f : flD d = true) (h : Rep e F d v) : v = dV d ∧ flatB v = true := by
  cases d <;> first
    | (cases h; exact ⟨rfl, rfl⟩)
    | (cases f; done)
theorem repL_fl {F : Hp} : ∀ {l : List D} {vs : List V}, l.all flD = true → RepL e F l vs → vs = l.map dV ∧ ∀ v ∈ vs, flatB v = true
  | [], _, _, h => by cases h; exact ⟨rfl, fun _ z => by cases z⟩
  | d :: l, _, f, h => by
    obtain ⟨v, r, rfl, h1, h2⟩ := h
    rw [List.all_cons, Bool.and_eq_true] at f
    obtain ⟨e1, b1⟩ := rep_fl f.1 h1
    obtain ⟨e2, b2⟩ := repL_fl f.2 h2
    refine ⟨by rw [e1, e2]; rfl, fun w hw => ?_⟩
    rcases List.mem_cons.mp hw with rfl | hw
    · exact b1
    · exact b2 w hw
end
open Classical in
/-- both dicts the same, flat -/
noncomputable def smD (t : Bool) (a b : D) : Option R0 := match a, b with
  | .dK ks l, .dK ks' l' => if ks = ks' ∧ l = l' ∧ ks.Nodup ∧ l.all flD = true then vB t else none
  | _, _ => none
open Classical in
theorem p2u_sm {e : En} {t : Bool} : P2u e (smD t) (rDkF t) := fun d1 d2 v1 v2 H F Q hU h1 h2 q => by
  cases d1 <;> cases d2 <;> first
    | exact q.elim
    | skip
  rename_i ks l ks' l'
  unfold smD at q
  dsimp only at q
  by_cases z : ks = ks' ∧ l = l' ∧ ks.Nodup ∧ l.all flD = true
  · rw [if_pos z] at q
    obtain ⟨rfl, rfl, nd, fl⟩ := z
    obtain ⟨a, vs, rfl, k1, n1, r1⟩ := h1
    obtain ⟨b, ws, rfl, k2, n2, r2⟩ := h2
    obtain ⟨rfl, f1⟩ := repL_fl fl r1
    obtain ⟨rfl, _⟩ := repL_fl fl r2
    refine ⟨a, b, _, rfl, rfl, k1.rd, k2.rd, ?_, fun p hp => f1 _ (List.of_mem_zip hp).2, q _ rfl⟩
    rw [List.map_fst_zip (Nat.le_of_eq n1)]
    exact nd
  · rw [if_neg z] at q; exact q.elim
noncomputable def eqwD : D → D → Option R0 := els eqzD (smD true)
noncomputable def newD : D → D → Option R0 := els nezD (smD false)
theorem op_eqW {X : Cx} {e : En} (hK : X.K = e.K) (hu : X.A.units + 100 < cLine) : OpR X (compareOp .Eq) (fun x y H Q => rEqZ e x y H Q ∨ rDkF true x y H Q) := (op_eqZ hK hu).or (op_eqF hu)
theorem op_neW {X : Cx} {e : En} (hK : X.K = e.K) (hu : X.A.units + 100 < cLine) : OpR X (compareOp .NotEq) (fun x y H Q => rNeZ e x y H Q ∨ rDkF false x y H Q) := (op_neZ hK hu).or (op_neF hu)
theorem p2u_eqw {e : En} : P2u e eqwD (fun x y H Q => rEqZ e x y H Q ∨ rDkF true x y H Q) := P2u.els p2u_eqz p2u_sm
theorem p2u_new {e : En} : P2u e newD (fun x y H Q => rNeZ e x y H Q ∨ rDkF false x y H Q) := P2u.els p2u_nez p2u_sm
open Classical in
theorem eqwD_same {ks : List Key} {l : List D} (nd : ks.Nodup) (fl : l.all flD = true) : eqwD (.dK ks l) (.dK ks l) = vB true := by
  show els (els eqD eqpD) (smD true) _ _ = _
  have e2 : eqpD (.dK ks l) (.dK ks l) = none := by
    unfold eqpD
    exact if_neg (by
      intro h
      have := (plB_of h).1
      cases this)
  rw [els_at, els_at, e2]
  show smD true _ _ = _
  unfold smD
  exact if_pos ⟨rfl, rfl, nd, fl⟩
end Mi

end
section
set_option maxRecDepth 100000
/-! Mi25: str of a list or a tuple, in a def that is called where no repr is under way (the law's own def). -/
namespace Mi
open PySem L2
open PySem.Spec PyProof.Rows

/-- a def's promise to callers of which it is known that no guard is on the stack -/
def FnG (P : Program) (w : World) (K : PySem.W.Frag) (mg : Str → Option Value) (base : Heap) (CX : CXT) (k : Nat) (f : Addr) (fd : FuncData) (ps : List Str) (sp : Sp) : Prop :=
  ∀ (A : Around) (outer : List Env) (s : Shared) (H : Hp) (args : Args) (us : List Value) (vs : List V) (Q : VK) (E : XK), A.guards = some [] → Room k A → Env0 P w K mg base A outer s H → BindsTo s fd args (ps.zip us) → Vals vs us → sp vs H Q E →
    codeAny (model P w) A (.call (.ref f) args) (CR CX outer P w H s Q E) s
theorem fnG_of {CX : CXT} {P : Program} {w : World} {K : PySem.W.Frag} {mg : Str → Option Value} {base : Heap} {k : Nat} {f : Addr} {fd : FuncData} {x qual : Str} {st : Stmt} {N ps : List Str} {sp : Sp} (F : Fun K x qual st f fd) (S : FnScope N ps (defScope st)) (len : ∀ vs H Q E, sp vs H Q E → vs.length = ps.length)
    (hb : ∀ (cdv : Value) (A : Around) (outer : List Env) (s : Shared) (H : Hp) (vs : List V) (Q : VK) (E : XK), A.guards = some [] → Room k (A.deeper (envOfC qual (defScope st) s.heap.objs.size f cdv)) → sp vs H Q E →
      ∃ t, PSs (cxOf CX P w K mg base N qual (defScope st) f cdv A outer s H E) (defBody st) t ∧ t { nx := fun _ H' => Q .non H', rt := Q } (L2.start N vs) H) : FnG P w K mg base CX (k + 1) f fd ps sp := by
  obtain ⟨oc, od, kV, doc, pm, an, cdv, ct, osl, rfl, lk, hcd⟩ := F.ex
  intro A outer s H args us vs Q E hg hr e0 bd rv hsp
  have ln := len _ _ _ _ hsp
  have kin : K.In s.heap := e0.mod.kin.keeps fun b o e => (e0.bs b o e).1
  have nol : s.heap.NoLimit := e0.mod.nolimit.keeps fun b o e => (e0.bs b o e).1
  have kinds : ∀ y ∈ ps.zip us, (defScope st).names.lookup y.1 = some .local ∨ ((defScope st).names.lookup y.1 = some .cell ∧ ((cellsFrom (s.heap.objs.size + 1) (defScope st).names []).lookup y.1).isSome = true) := by
    intro y hy
    refine (S.par y.1 (List.of_mem_zip (a := y.1) (b := y.2) hy).1).imp id fun q => ⟨q, ?_⟩
    exact PySem.W.cellsFrom_some _ _ _ (.inl q)
  refine codeAny_call_function hr.depth (kin _ _ lk) rfl S.co S.gen rfl (PySem.W.codeRec_of kin hcd) (bd _ _ _ _ (wpAny_newFunctionEnv_cells S.kind kinds fun env he s1 ic => ?_))
  subst he
  refine ⟨nol.keeps ic.toInCall.keep, codeAny_func ?_⟩
  obtain ⟨t, ht, hq⟩ := hb cdv A outer s H vs Q E hg (hr.deeper _) hsp
  have I := inv_start (CX := CX) (N := N) (E := E) S hr.hd e0 ln rv ic
  refine wpAny_mono (ht.run [] s1 (L2.start N vs) H _ I hq) (fun fl s' z => ?_) fun _ _ z => z
  cases fl with
  | next =>
    obtain ⟨σ', H', J, q⟩ := z
    exact ⟨V.non, H', J.os, J.bare, J.base, J.hok, rfl, q⟩
  | ret u =>
    obtain ⟨v, σ', H', J, r, q⟩ := z
    exact ⟨v, H', J.os, J.bare, J.base, J.hok, r, q⟩
  | brk => exact (Exists.elim z fun _ z => Exists.elim z fun _ z => z.2).elim
  | cont => exact (Exists.elim z fun _ z => Exists.elim z fun _ z => z.2).elim
theorem fnG_ok {P : Program} {w : World} {K : PySem.W.Frag} {mg : Str → Option Value} {base : Heap} {e : En} {x qual : Str} {st : Stmt} {f : Addr} {fd : FuncData} {N ps : List Str} {k m : Nat} {io : List Nat} {body : MS} (F : Fun K x qual st f fd) (S : FnScope N ps (defScope st)) (hm : N.length = ps.length + m)
    (hb : ∀ (cdv : Value) (A : Around) (outer : List Env) (s : Shared) (H : Hp) (E : XK), A.guards = some [] → Room k (A.deeper (envOfC qual (defScope st) s.heap.objs.size f cdv)) →
      SB e (cxOf (L2.CX P w) P w K mg base N qual (defScope st) f cdv A outer s H E) (WofE E) io (defBody st) body) :
    FnG P w K mg base (L2.CX P w) (k + 1) f fd ps (spOf e ps.length (mkFn ps.length m io body)) :=
  fn_okP (G := fun sp => FnG P w K mg base (L2.CX P w) (k + 1) f fd ps sp) (PA := fun A => A.guards = some []) (fun sp len h => fnG_of F S len h) hm hb

/-! ### the end of a law whose def is of that kind -/
section
variable {P : Program} {w : World} {K : PySem.W.Frag} {mg mb : Str → Option Value} {CX : CXT} {k : Nat} {fa a : Addr} {fd : FuncData} {x : Str} {sp : Sp} {s1 : Shared} {vs : List Value} {ns : List Int}
theorem lawG_at {H : Hp} (KX : K.In s1.heap) (n1 : s1.heap.Ns mainGlobals mg) (n2 : s1.heap.Ns builtinsNs mb) (bb : ∀ x : Str, x ≠ "__name__" → mb x = bootBuiltins x) (lim : s1.heap.NoLimit) (gs : s1.gens = #[]) (ha : s1.heap.get? a = some { cls := .type "list", data := .seq vs.toArray }) (hr : Room k callerA)
    (F : ∀ base : Heap, K.In base → base.Ns mainGlobals mg → FnG P w K mg base CX k fa fd [x] sp) (bind : ∀ (s : Shared) (u : Value), BindsTo s fd ⟨[u], []⟩ [(x, u)]) (q : sp [.ref a] H (fun v _ => v = .bl true) fun _ _ _ => False) (noX : ∀ H e s', CX [] H s1 (fun _ _ _ => False) e s' → False)
    (only : ∀ b, H b = none ∨ ∃ o xs, H b = some (.frz o (.lst xs))) (ok : HOk P w H s1.heap) (one : ∀ b, H b ≠ none → b = a) (new : H a ≠ none → K.lookup a = none) :
    codeAny (model P w) callerA (.call (.ref fa) ⟨[.ref a], []⟩) (fun r s' => r = .ok (.ret (.bool true)) ∧ OldK s1.heap s'.heap ∧ s'.os = s1.os ∧ AllBare s'.gens) s1 := by
  -- what is no list of the script is not tracked
  have un : ∀ {b : Addr} {o : Obj}, s1.heap.get? b = some o → (b = a → o.data = .seq vs.toArray 0 → False) → H b = none := fun {b o} e no => by
    cases z : H b with
    | none => rfl
    | some u =>
      have eb := one b (by rw [z]; exact fun y => nomatch y)
      subst eb
      rw [ha] at e
      cases e
      exact (no rfl rfl).elim
  have keepNs : ∀ {b : Addr} {m : Str → Option Value}, s1.heap.Ns b m → (hidT s1.heap H).Ns b m := fun {b m} h => by
    obtain ⟨o, es, ep, e, d, r⟩ := h
    exact ⟨o, es, ep, hidT_get e (un e fun _ z => by rw [d] at z; cases z), d, r⟩
  have kb : K.In (hidT s1.heap H) := fun b o e => hidT_get (KX b o e) (by
    cases z : H b with
    | none => rfl
    | some u =>
      have eb := one b (by rw [z]; exact fun y => nomatch y)
      subst eb
      rw [new (by rw [z]; exact fun y => nomatch y)] at e
      cases e)
  have e0 : Env0 P w K mg (hidT s1.heap H) callerA [] s1 H := {
    frames := rfl
    mod := ⟨kb, keepNs n1, ⟨mb, keepNs n2, bb⟩, by obtain ⟨mc, h1, h2⟩ := lim; exact ⟨mc, keepNs h1, h2⟩⟩
    bs := fun b o e => of_hidT e
    bsz := Nat.le_of_eq (hidT_size _ _)
    funs := trivial
    frf := fun b hb => nomatch (show b ∈ ([] : List Addr) from hb)
    hok := ok
    bare := .of_eq gs }
  refine codeAny_mono (F _ kb (keepNs n1) callerA [] s1 H ⟨[.ref a], []⟩ [.ref a] [.ref a] _ _ rfl hr e0 (bind s1 (.ref a)) (.cons rfl .nil) q) fun r s' z => ?_
  cases r with
  | error y => exact (noX H y s' z).elim
  | ok fl =>
    cases fl with
    | ret u =>
      obtain ⟨v, H', os, bare, un', ok', rv, hv⟩ := z
      have hv' : v = .bl true := hv
      subst hv'
      obtain rfl : u = Value.bool true := rv
      refine ⟨rfl, OldK.of_keep fun b o e => ?_, os, bare⟩
      rcases only b with h | ⟨ob, xs, h⟩
      · exact un'.keep b o e h (fun y => nomatch (show b ∈ ([] : List Addr) from y)) fun y => nomatch y
      · have h2 := un'.frzs b ob _ h
        have g1 := (ok b _ h).1
        have g2 := (ok' b _ h2).1
        rw [e] at g1
        cases g1
        exact g2
    | next => exact z.elim
    | brk => exact z.elim
    | cont => exact z.elim
theorem lawG_call (KX : K.In s1.heap) (n1 : s1.heap.Ns mainGlobals mg) (n2 : s1.heap.Ns builtinsNs mb) (bb : ∀ x : Str, x ≠ "__name__" → mb x = bootBuiltins x) (lim : s1.heap.NoLimit) (gs : s1.gens = #[]) (ha : s1.heap.get? a = some { cls := .type "list", data := .seq vs.toArray }) (hi : IntsAre vs ns) (hl : ns.length ≤ sizeLine) (hr : Room k callerA)
    (F : ∀ base : Heap, K.In base → base.Ns mainGlobals mg → FnG P w K mg base CX k fa fd [x] sp) (bind : ∀ (s : Shared) (u : Value), BindsTo s fd ⟨[u], []⟩ [(x, u)]) (q : ∀ H : Hp, SqL K H a (ns.map V.int) → sp [.ref a] H (fun v _ => v = .bl true) fun _ _ _ => False) (noX : ∀ H e s', CX [] H s1 (fun _ _ _ => False) e s' → False) :
    codeAny (model P w) callerA (.call (.ref fa) ⟨[.ref a], []⟩) (fun r s' => r = .ok (.ret (.bool true)) ∧ OldK s1.heap s'.heap ∧ s'.os = s1.os ∧ AllBare s'.gens) s1 := by
  have rv := vals_ints hi
  cases z : K.lookup a with
  | some o =>
    have e := KX a o z
    rw [ha] at e
    cases e
    exact lawG_at (H := fun _ => none) KX n1 n2 bb lim gs ha hr F bind (q _ (.inr ⟨_, vs.toArray, _, z, rfl, rfl, rfl, by rw [List.size_toArray, hi.length]; exact hl, rv⟩)) noX (fun _ => .inl rfl) (fun b u y => nomatch y) (fun b y => (y rfl).elim) fun y => (y rfl).elim
  | none =>
    have at_ : ∀ b u, (if b = a then some (HO.frz { cls := .type "list", data := .seq vs.toArray } (.lst (ns.map V.int))) else none) = some u → b = a ∧ u = .frz { cls := .type "list", data := .seq vs.toArray } (.lst (ns.map V.int)) := fun b u y => by
      by_cases hb : b = a
      · rw [if_pos hb] at y; cases y; exact ⟨hb, rfl⟩
      · rw [if_neg hb] at y; cases y
    refine lawG_at (H := fun b => if b = a then some (HO.frz { cls := .type "list", data := .seq vs.toArray } (.lst (ns.map V.int))) else none) KX n1 n2 bb lim gs ha hr F bind (q _ (.inl (.inr ⟨_, if_pos rfl⟩))) noX (fun b => ?_) (fun b u y => ?_) (fun b y => ?_) fun _ => z
    · by_cases hb : b = a
      · exact .inr ⟨_, _, if_pos hb⟩
      · exact .inl (if_neg hb)
    · obtain ⟨rfl, rfl⟩ := at_ b u y
      exact ⟨ha, by rw [List.length_map]; exact hl, vs, _, rv, ha⟩
    · by_cases hb : b = a
      · exact hb
      · exact (y (if_neg hb)).elim
end
theorem lawG_walk {l : PySem.W.OpenLaw} {k : Nat} {q : Program} {loose : List Str} {XP : (Str → Option Value) → Heap → Prop} {YP : World → Heap → Prop} {d : DefRec} {K : Params → PySem.W.Frag} {f : MS} {x : Str} (hn : l.most = some 63) (hdf : d.params.defaults = []) (hr : Room k callerA)
    (hY : ∀ (w : World) (h : Heap), YP w h → (K w.params).In h)
    (hlaw : ∀ ns : List Int, ns.length ≤ 63 → ∃ r', f [.val (.scr (ns.map .int))] = .rt (.val (.bl true)) r')
    (F : ∀ (w : World) (mg : Str → Option Value) (fa : Addr) (h : Heap), (K w.params).In h → h.Ns mainGlobals mg → mg d.name = some (.ref fa) →
      ∃ (e : En) (fd : FuncData), e.K = K w.params ∧ (∀ (s : Shared) (u : Value), BindsTo s fd ⟨[u], []⟩ [(x, u)]) ∧
        ∀ base : Heap, (K w.params).In base → base.Ns mainGlobals mg → FnG l.prog w (K w.params) mg base (L2.CX l.prog w) k fa fd [x] (spOf e 1 f)) :
    PySem.W.WalkO q loose XP YP l.row.toRowW d [] (fun f vs => PySem.call f vs) := by
  refine Att.attach_call hn hdf fun w s0 s1 mg mb fa o pm cd doc a vs ns G Y ho hd hcd hmg hobj hints hlen hg => ?_
  have KX := hY w _ Y
  obtain ⟨e, fd, he, hb, hF⟩ := F w mg fa _ KX G.T.g hmg
  refine lawG_call KX G.T.g G.T.b G.T.builtins G.T.nolimit hg hobj hints (Nat.le_trans hlen (by decide)) hr hF hb (fun H hS => law_sp he hlaw H a ns hlen hS) fun H y s' z => ?_
  obtain ⟨_, _, _, _, _, _, _, _, _, _, _, _, z⟩ := z
  exact z

/-! ### str of plain data -/
def strP (d : D) : Option R0 := match d with
  | .lst l => if (encD (.lst l)).plain = true ∧ PyData.showable (encD (.lst l)) = true ∧ (encD (.lst l)).depth ≤ 60 ∧ (encD (.lst l)).shown.length ≤ 1000000 ∧ (encD (.lst l)).hasDict = false then some (.val (.str (encD (.lst l)).shown)) else none
  | .tup l => if (encD (.tup l)).plain = true ∧ PyData.showable (encD (.tup l)) = true ∧ (encD (.tup l)).depth ≤ 60 ∧ (encD (.tup l)).shown.length ≤ 1000000 ∧ (encD (.tup l)).hasDict = false then some (.val (.str (encD (.tup l)).shown)) else none
  | _ => none
def rStrP (e : En) : List V → Hp → VK → Prop := fun xs H Q => ∃ d v F, xs = [v] ∧ Und F H ∧ Rep e F d v ∧ (∃ a, v = .ref a) ∧ (encD d).plain = true ∧ PyData.showable (encD d) = true ∧ (encD d).depth ≤ 60 ∧ (encD d).shown.length ≤ 1000000 ∧ (encD d).hasDict = false ∧ Q (.str (encD d).shown) H
section
variable {e : En} {X : Cx}
theorem cr_strP (hK : X.K = e.K) (hg : X.A.guards = some []) (hu : X.A.units + 100 < cLine) : CallR X (.type "str") (rStrP e) := by
  intro pins s σ H xs us Q I r h
  obtain ⟨d, v, F, rfl, hU, hd, ⟨a, rfl⟩, p1, p2, p3, p4, p5, q⟩ := h
  obtain ⟨u, rfl, rx⟩ := vals1 r
  obtain ⟨as, ra⟩ := reads_rep I hK hU p1 hd rx
  cases rx
  exact str_of_reads ra p2 (fun z => by rw [p5] at z; cases z) hg (by omega) (fun _ _ z => z) (fun h' u tk k => ⟨.str _, H, I.kept k, ⟨_, rfl⟩, q⟩) (Nat.le_trans p4 (by decide))
theorem p1u_strP : P1u e strP (fun v => rStrP e [v]) := fun d v H F Q hU h q => by
  cases d <;> first | exact q.elim | skip
  · rename_i l
    unfold strP at q
    dsimp only at q
    split at q
    · rename_i z
      obtain ⟨a, vs, h0, _⟩ := id h
      exact ⟨.tup l, v, full F H, rfl, und_full hU, Vw.full hU h, ⟨a, h0⟩, z.1, z.2.1, z.2.2.1, z.2.2.2.1, z.2.2.2.2, q _ rfl⟩
    · exact q.elim
  · rename_i l
    unfold strP at q
    dsimp only at q
    split at q
    · rename_i z
      obtain ⟨a, vs, h0, _⟩ := id h
      exact ⟨.lst l, v, full F H, rfl, und_full hU, Vw.full hU h, ⟨a, h0⟩, z.1, z.2.1, z.2.2.1, z.2.2.2.1, z.2.2.2.2, q _ rfl⟩
    · exact q.elim
def strQ : D → Option R0 := els1 strD strP
theorem p1u_strQ : P1u e strQ (fun v H Q => rStr [v] H Q ∨ rStrP e [v] H Q) := P1u.els (P1.u p1_str) p1u_strP
theorem se_strQ {W : Wi} {a : Expr} {m : ME} {p pos : Pos} (hK : X.K = e.K) (hg : X.A.guards = some []) (hu : X.A.units + 100 < cLine) (gl : Gl X "str") (hm : X.mg "str" = none) (ha : SE e X W a m)
    (hst : starEach [a] X.env = (false, eval a X.env) :: starEach [] X.env := by rfl) (hpl : (backTo pos (starEach [] X.env)).any (·.1) = false := by rfl) : SE e X W (.Call (.Name "str" p) [a] [] pos) (eUn strQ m) := by
  obtain ⟨ta, ha1, ha2⟩ := ha.ex
  exact ⟨_, pe_callTy (T := "str") (call_strU.or (cr_strP hK hg hu)) gl hm (by rfl) (pa_cons ha1 pa_nil hst) (by decide) (by decide) hst hpl, fun r σ H F fm Q hC R q => tUnU_te p1u_strQ ha2 r σ H F fm Q hC R q⟩
end
end Mi

end
section
set_option maxRecDepth 100000
/-! Mi26: list comprehensions of two clauses. -/
namespace Mi
open PySem L2
abbrev KI (e : En) (G : Hp) (R' : It → Hp → Prop) : List D → Rho → Hp → Hp → Prop := fun ds _ H' F' => ∀ J, ItR e (Lo G) J ds F' → R' J H'
def canI (e : En) (W : Wi) (mi : Rho → Ou (List D)) : TI := fun σ H R' => ∃ r F fm, W.c fm ∧ Rl e r σ H F fm ∧ Po e W fm F σ (KI e fm.G R') (mi r)
def lcI (g : MG) (t : MT) (el : ME) (vs : List Nat) : List D → Rho → List D → Ou (List D)
  | [], r, acc => .ok acc r
  | d :: ds, r, acc => match g d r with
    | none => .no
    | some r1 => match t r1 with
      | .ok b r2 => if b = true then (match fz el r2 with
          | .ok x r3 => if acc.length < 1000000 then lcI g t el vs ds (wipeR r3 vs) (acc ++ [x]) else .no
          | _ => .no) else lcI g t el vs ds (wipeR r2 vs) acc
      | _ => .no
def lc2 (g : MG) (t : MT) (mi1 : Rho → Ou (List D)) (g1 : MG) (t1 : MT) (el : ME) (vs vs1 : List Nat) : List D → Rho → List D → Ou RV
  | [], r, acc => .ok (.own (.lst acc)) r
  | d :: ds, r, acc => match g d r with
    | none => .no
    | some r1 => match t r1 with
      | .ok b r2 => if b = true then (match mi1 r2 with
          | .ok ds1 r3 => (lcI g1 t1 el vs1 ds1 (wipeR r3 vs1) acc).bd fun acc' r4 => lc2 g t mi1 g1 t1 el vs vs1 ds (wipeR r4 vs) acc'
          | _ => .no) else lc2 g t mi1 g1 t1 el vs vs1 ds (wipeR r2 vs) acc
      | _ => .no
/-- [elt for target in .. for target1 in ..] -/
def eLc2 (g : MG) (mi : Rho → Ou (List D)) (t : MT) (g1 : MG) (mi1 : Rho → Ou (List D)) (t1 : MT) (el : ME) (vs vs1 : List Nat) : ME := fun r => (mi r).bd fun ds r1 => lc2 g t mi1 g1 t1 el vs vs1 ds (wipeR r1 vs) []
theorem wipe_sub (σ : St) {vs1 vs : List Nat} (h : ∀ i ∈ vs1, i ∈ vs) : L2.wipe (L2.wipe σ vs1) vs = L2.wipe σ vs := by
  apply List.ext_getElem?
  intro j
  rw [wipe_get (L2.wipe σ vs1), wipe_get σ, wipe_get σ]
  by_cases z : j ∈ vs
  · rw [if_pos z, if_pos z]
    split
    · simp [Function.comp_def]
    · rfl
  · rw [if_neg z, if_neg z, if_neg fun y => z (h j y)]
section
variable {e : En} {X : Cx} {W : Wi} {io : List Nat} {a b c : Expr} {m n : ME} {pos : Pos} {H F G : Hp} {B : Addr → Prop} {pn : List (Nat × V)} {σ : St} {r : Rho} {fm : Fm}
theorem SI.can {tg iter : Expr} {mi : Rho → Ou (List D)} (h : SI e X W tg iter mi) : PI X tg iter (canI e W mi) := by
  obtain ⟨t, h1, h2⟩ := h.ex
  exact ⟨fun pins s σ H R I ⟨r, F, fm, hC, R', q⟩ => h1.run pins s σ H R I (h2 r σ H F fm R hC R' q)⟩
theorem lc2_te {ti : TI} {g g1 : MG} {mi mi1 : Rho → Ou (List D)} {t t1 : MT} {el : ME} {vs vs1 : List Nat} (sub : ∀ i ∈ vs1, i ∈ vs) (i2 : TeI e W ti mi) :
    TeE e W (tLc2 ti (canG e vs g) (canT e wSo t) (canI e wSo mi1) (canG e vs1 g1) (canT e wSo t1) (canD e wSo (fz el)) vs vs1) (eLc2 g mi t g1 mi1 t1 el vs vs1) := by
  intro r σ H F fm Q hC R q
  refine i2 r σ H F fm _ hC R ?_
  obtain ⟨G, B, pn⟩ := fm
  refine (Po.bd q).mono fun ds r1 H1 F1 R1 s1 q1 J hJ => ?_
  intro D hD
  have fr := R1.free hD
  have hG : G D = none := fr.2.1
  have hB : ¬ B D := fr.2.2
  have o0 : OR e F1 (.lst []) (.lst []) := rfl
  have T0 := R1.tmp hD o0
  have RN := R1.new (o := .lst []) hD
  refine ⟨fun i m H => m = ds.length - i ∧ ∃ r F acc vacc, Rl e r (L2.wipe σ vs) H F ⟨G, B, []⟩ ∧ Same F1 F ∧ Tmp e r (L2.wipe σ vs) H F ⟨G, B, []⟩ D (.lst acc) ∧ H D = some (.lst vacc) ∧ Po e W ⟨G, B, pn⟩ F σ (KE' e ⟨G, B, pn⟩ σ Q) (lc2 g t mi1 g1 t1 el vs vs1 (ds.drop i) r acc),
    ⟨ds.length, rfl, wipeR r1 vs, F1, [], [], (RN.unpinned (pn' := []) fun q h => by cases h).wipe, Same.refl _, T0.wipe, upd_same, by rw [List.drop_zero]; exact q1⟩, ?_⟩
  rintro i m H2 ⟨rfl, r2, F2, acc, vacc, R2, s2, T2, hv, q2⟩
  have hJ2 := hJ.mono s2
  have oV : OR e F2 (.lst vacc) (.lst acc) := by
    obtain ⟨⟨u, h1, h2⟩, _⟩ := T2
    rw [hv] at h1; cases h1; exact h2.1
  by_cases hlt : i < ds.length
  · refine .inr ⟨hJ2.go i H2 R2.fh (lo_gh R2.gh) hlt, fun H => ∃ r F acc vacc, Rl e r (L2.wipe σ vs) H F ⟨G, B, []⟩ ∧ Same F1 F ∧ Tmp e r (L2.wipe σ vs) H F ⟨G, B, []⟩ D (.lst acc) ∧ H D = some (.lst vacc) ∧ Po e W ⟨G, B, pn⟩ F σ (KE' e ⟨G, B, pn⟩ σ Q) (lc2 g t mi1 g1 t1 el vs vs1 (ds.drop (i + 1)) r acc),
      fun H' h => ⟨ds.length - (i + 1), by omega, rfl, h⟩, fun x H' y => ?_⟩
    have hd : ds[i]? = some ds[i] := List.getElem?_eq_getElem hlt
    have R2k := R2.keep T2 hv
    obtain ⟨F3, R3, s3, h3⟩ := hJ2.item R2k (lo_gh R2.gh) y hd
    rw [List.drop_eq_getElem_cons hlt] at q2
    have q3 : Po e W ⟨G, B, pn⟩ F2 σ (KE' e ⟨G, B, pn⟩ σ Q) (match g ds[i] r2 with
      | none => .no
      | some r1 => match t r1 with
        | .ok b r2 => if b = true then (match mi1 r2 with
            | .ok ds1 r3 => (lcI g1 t1 el vs1 ds1 (wipeR r3 vs1) acc).bd fun acc' r4 => lc2 g t mi1 g1 t1 el vs vs1 (ds.drop (i + 1)) (wipeR r4 vs) acc'
            | _ => .no) else lc2 g t mi1 g1 t1 el vs vs1 (ds.drop (i + 1)) (wipeR r2 vs) acc
        | _ => .no) := q2
    cases z : g ds[i] r2 with
    | none => rw [z] at q3; exact q3.elim
    | some r4 =>
      rw [z] at q3
      have q4 : Po e W ⟨G, B, pn⟩ F2 σ (KE' e ⟨G, B, pn⟩ σ Q) (match t r4 with
        | .ok b r2 => if b = true then (match mi1 r2 with
            | .ok ds1 r3 => (lcI g1 t1 el vs1 ds1 (wipeR r3 vs1) acc).bd fun acc' r4 => lc2 g t mi1 g1 t1 el vs vs1 (ds.drop (i + 1)) (wipeR r4 vs) acc'
            | _ => .no) else lc2 g t mi1 g1 t1 el vs vs1 (ds.drop (i + 1)) (wipeR r2 vs) acc
        | _ => .no) := q3
      refine ⟨ds[i], r2, r4, F3, fmK G B D (.lst vacc), rfl, R3, h3, z, fun σ5 H5 F5 R5 s5 w5 => ?_⟩
      have w5' : L2.wipe σ5 vs = L2.wipe σ vs := by rw [w5, wipe_idem]
      have sAll : Same F2 F5 := s3.trans s5
      refine ⟨by rw [w5, wipe_idem], r4, F5, fmK G B D (.lst vacc), trivial, R5, ?_⟩
      cases z2 : t r4 with
      | no => rw [z2] at q4; exact q4.elim
      | ex x6 r6 => rw [z2] at q4; exact q4.elim
      | ok b r6 =>
        rw [z2] at q4
        intro H6 F6 R6 s6
        have s26 := sAll.trans s6
        cases b with
        | false =>
          have q5 : Po e W ⟨G, B, pn⟩ F2 σ (KE' e ⟨G, B, pn⟩ σ Q) (lc2 g t mi1 g1 t1 el vs vs1 (ds.drop (i + 1)) (wipeR r6 vs) acc) := q4
          obtain ⟨R7, T7, hp7⟩ := R6.unkeep hG hB (or_lst s26 oV)
          exact ⟨wipeR r6 vs, F6, acc, vacc, by rw [← w5']; exact R7.wipe, s2.trans s26, by rw [← w5']; exact T7.wipe, hp7, q5.le s26⟩
        | true =>
          have q5 : Po e W ⟨G, B, pn⟩ F2 σ (KE' e ⟨G, B, pn⟩ σ Q) (match mi1 r6 with
            | .ok ds1 r3 => (lcI g1 t1 el vs1 ds1 (wipeR r3 vs1) acc).bd fun acc' r4 => lc2 g t mi1 g1 t1 el vs vs1 (ds.drop (i + 1)) (wipeR r4 vs) acc'
            | _ => .no) := q4
          refine ⟨r6, F6, fmK G B D (.lst vacc), trivial, R6, ?_⟩
          cases z3 : mi1 r6 with
          | no => rw [z3] at q5; exact q5.elim
          | ex x7 r7 => rw [z3] at q5; exact q5.elim
          | ok ds1 r7 =>
            rw [z3] at q5
            intro H7 F7 R7 s7 J1 hJ1
            have eL : Lo (fmK G B D (.lst vacc)).G = Lo G := lo_upd hG (fun _ _ z => nomatch z)
            rw [eL] at hJ1
            have s27 := s26.trans s7
            obtain ⟨R8, T8, hp8⟩ := R7.unkeep hG hB (or_lst s27 oV)
            have q6 : Po e W ⟨G, B, pn⟩ F7 σ (KE' e ⟨G, B, pn⟩ σ Q) ((lcI g1 t1 el vs1 ds1 (wipeR r7 vs1) acc).bd fun acc' r4 => lc2 g t mi1 g1 t1 el vs vs1 (ds.drop (i + 1)) (wipeR r4 vs) acc') := Po.le s27 q5
            refine ⟨fun j k H => k = ds1.length - j ∧ ∃ r F acc vacc, Rl e r (L2.wipe σ5 vs1) H F ⟨G, B, []⟩ ∧ Same F7 F ∧ Tmp e r (L2.wipe σ5 vs1) H F ⟨G, B, []⟩ D (.lst acc) ∧ H D = some (.lst vacc) ∧ Po e W ⟨G, B, pn⟩ F σ (KE' e ⟨G, B, pn⟩ σ Q) ((lcI g1 t1 el vs1 (ds1.drop j) r acc).bd fun acc' r4 => lc2 g t mi1 g1 t1 el vs vs1 (ds.drop (i + 1)) (wipeR r4 vs) acc'),
              ⟨ds1.length, rfl, wipeR r7 vs1, F7, acc, vacc, R8.wipe, Same.refl _, T8.wipe, hp8, by rw [List.drop_zero]; exact q6⟩, ?_⟩
            rintro j k H9 ⟨rfl, r9, F9, acc9, vacc9, R9, s9, T9, hv9, q9⟩
            have hJ9 := hJ1.mono s9
            have o9 : OR e F9 (.lst vacc9) (.lst acc9) := by
              obtain ⟨⟨u, h1, h2⟩, _⟩ := T9
              rw [hv9] at h1; cases h1; exact h2.1
            by_cases hlt1 : j < ds1.length
            · refine .inr ⟨hJ9.go j H9 R9.fh (lo_gh R9.gh) hlt1, fun H => ∃ r F acc vacc, Rl e r (L2.wipe σ5 vs1) H F ⟨G, B, []⟩ ∧ Same F7 F ∧ Tmp e r (L2.wipe σ5 vs1) H F ⟨G, B, []⟩ D (.lst acc) ∧ H D = some (.lst vacc) ∧ Po e W ⟨G, B, pn⟩ F σ (KE' e ⟨G, B, pn⟩ σ Q) ((lcI g1 t1 el vs1 (ds1.drop (j + 1)) r acc).bd fun acc' r4 => lc2 g t mi1 g1 t1 el vs vs1 (ds.drop (i + 1)) (wipeR r4 vs) acc'),
                fun H' h => ⟨ds1.length - (j + 1), by omega, rfl, h⟩, fun x1 H1' y1 => ?_⟩
              have hd1 : ds1[j]? = some ds1[j] := List.getElem?_eq_getElem hlt1
              have R9k := R9.keep T9 hv9
              obtain ⟨F10, R10, s10, h10⟩ := hJ9.item R9k (lo_gh R9.gh) y1 hd1
              rw [List.drop_eq_getElem_cons hlt1] at q9
              have q10 : Po e W ⟨G, B, pn⟩ F9 σ (KE' e ⟨G, B, pn⟩ σ Q) (Ou.bd (match g1 ds1[j] r9 with
                | none => .no
                | some r1 => match t1 r1 with
                  | .ok b r2 => if b = true then (match fz el r2 with
                      | .ok x r3 => if acc9.length < 1000000 then lcI g1 t1 el vs1 (ds1.drop (j + 1)) (wipeR r3 vs1) (acc9 ++ [x]) else .no
                      | _ => .no) else lcI g1 t1 el vs1 (ds1.drop (j + 1)) (wipeR r2 vs1) acc9
                  | _ => .no) fun acc' r4 => lc2 g t mi1 g1 t1 el vs vs1 (ds.drop (i + 1)) (wipeR r4 vs) acc') := q9
              cases y2 : g1 ds1[j] r9 with
              | none => rw [y2] at q10; exact q10.elim
              | some r11 =>
                rw [y2] at q10
                refine ⟨ds1[j], r9, r11, F10, fmK G B D (.lst vacc9), rfl, R10, h10, y2, fun σ11 H11 F11 R11 s11 w11 => ?_⟩
                have w11' : L2.wipe σ11 vs1 = L2.wipe σ5 vs1 := by rw [w11, wipe_idem]
                refine ⟨w11', r11, F11, fmK G B D (.lst vacc9), trivial, R11, ?_⟩
                have s911 : Same F9 F11 := s10.trans s11
                dsimp only at q10
                cases y3 : t1 r11 with
                | no => rw [y3] at q10; exact q10.elim
                | ex x6 r6 => rw [y3] at q10; exact q10.elim
                | ok b1 r12 =>
                  rw [y3] at q10
                  intro H12 F12 R12 s12
                  have s912 := s911.trans s12
                  cases b1 with
                  | false =>
                    obtain ⟨R13, T13, hp13⟩ := R12.unkeep hG hB (or_lst s912 o9)
                    exact ⟨wipeR r12 vs1, F12, acc9, vacc9, by rw [← w11']; exact R13.wipe, s9.trans s912, by rw [← w11']; exact T13.wipe, hp13, Po.le s912 q10⟩
                  | true =>
                    refine ⟨r12, F12, fmK G B D (.lst vacc9), trivial, R12, ?_⟩
                    dsimp only at q10
                    rw [if_pos rfl] at q10
                    cases y4 : fz el r12 with
                    | no => rw [y4] at q10; exact q10.elim
                    | ex x7 r7 => rw [y4] at q10; exact q10.elim
                    | ok x13 r13 =>
                      rw [y4] at q10
                      intro H13 F13 R13 s13 v hv13
                      have s913 := s912.trans s13
                      dsimp only at q10
                      by_cases hl : acc9.length < 1000000
                      · rw [if_pos hl] at q10
                        have o13 : RepL e F13 acc9 vacc9 := or_lst s913 o9
                        obtain ⟨R14, T14, hp14⟩ := R13.unkeep hG hB (d := .lst acc9) (show OR e F13 (.lst vacc9) (.lst acc9) from o13)
                        have oN : OR e F13 (.lst (vacc9 ++ [v])) (.lst (acc9 ++ [x13])) := o13.app (RepL.one hv13)
                        refine ⟨vacc9, hp14, by rw [o13.len]; exact Nat.lt_of_lt_of_le hl (by decide), wipeR r13 vs1, F13, acc9 ++ [x13], vacc9 ++ [v], ?_, s9.trans s913, ?_, upd_same, Po.le s913 q10⟩
                        · rw [← w11']
                          exact (R14.lay T14.2.1 T14.2.2).wipe
                        · rw [← w11']
                          exact Tmp.wipe ⟨⟨_, upd_same, oN, fun _ z => nomatch z⟩, T14.2⟩
                      · rw [if_neg hl] at q10; exact q10.elim
            · refine .inl ⟨hJ9.stop j H9 R9.fh (lo_gh R9.gh) (by omega), ?_⟩
              rw [List.drop_eq_nil_of_le (by omega)] at q9
              have ww : L2.wipe (L2.wipe σ5 vs1) vs = L2.wipe σ vs := by rw [wipe_sub σ5 sub, w5']
              exact ⟨wipeR r9 vs, F9, acc9, vacc9, by rw [← ww]; exact R9.wipe, s2.trans (s27.trans s9), by rw [← ww]; exact T9.wipe, hv9, q9⟩
  · refine .inl ⟨hJ2.stop i H2 R2.fh (lo_gh R2.gh) (by omega), ?_⟩
    rw [List.drop_eq_nil_of_le (by omega)] at q2
    have q3 : Po e W ⟨G, B, pn⟩ F2 σ (KE' e ⟨G, B, pn⟩ σ Q) (.ok (.own (.lst acc)) r2) := q2
    exact q3 H2 F2 (R2.unwipe R.pn) (Same.refl _) _ ⟨D, rfl, Tmp.unwipe R2 T2⟩
theorem se_lc2 {elt tg iter tg1 iter1 : Expr} {ifs ifs1 : List Expr} {scope : Scope} {own own1 : List (Str × Nat)} {g g1 : MG} {mi mi1 : Rho → Ou (List D)} {t t1 : MT} {el : ME} (hc : X.calm = true) (hN : X.N.Nodup) (hi : SI e X W tg iter mi) (ok : BlkOk X.N X.env.scope scope own) (sub : ∀ i ∈ own1.map (·.2), i ∈ own.map (·.2))
    (hg : ∀ (s : Shared) (H : Hp) (C : Addr) (cl : List (Str × Addr)) (fp : List Addr), SGv e (X.blk s H scope (compEnvC scope cl C X.env) fp) (own.map (·.2)) tg g)
    (ht : ∀ (s : Shared) (H : Hp) (C : Addr) (cl : List (Str × Addr)) (fp : List Addr), STs e (X.blk s H scope (compEnvC scope cl C X.env) fp) wSo ifs t)
    (hi1 : ∀ (s : Shared) (H : Hp) (C : Addr) (cl : List (Str × Addr)) (fp : List Addr), SI e (X.blk s H scope (compEnvC scope cl C X.env) fp) wSo tg1 iter1 mi1)
    (hg1 : ∀ (s : Shared) (H : Hp) (C : Addr) (cl : List (Str × Addr)) (fp : List Addr), SGv e (X.blk s H scope (compEnvC scope cl C X.env) fp) (own1.map (·.2)) tg1 g1)
    (ht1 : ∀ (s : Shared) (H : Hp) (C : Addr) (cl : List (Str × Addr)) (fp : List Addr), STs e (X.blk s H scope (compEnvC scope cl C X.env) fp) wSo ifs1 t1)
    (he : ∀ (s : Shared) (H : Hp) (C : Addr) (cl : List (Str × Addr)) (fp : List Addr), SE e (X.blk s H scope (compEnvC scope cl C X.env) fp) wSo elt el)
    (hs : ∀ x, foldedSetIterable iter X.env x = pure x := by intro _; rfl) (hs1 : ∀ env x, foldedSetIterable iter1 env x = pure x := by intro _ _; rfl) :
    SE e X W (.ListComp elt [⟨tg, iter, ifs, 0⟩, ⟨tg1, iter1, ifs1, 0⟩] scope pos) (eLc2 g mi t g1 mi1 t1 el (own.map (·.2)) (own1.map (·.2))) := by
  obtain ⟨ti, i1, i2⟩ := hi.ex
  exact ⟨_, pe_lc2 hc hN i1 ok sub (fun s H C cl fp => (hg s H C cl fp).can) (fun s H C cl fp => (ht s H C cl fp).can) (fun s H C cl fp => (hi1 s H C cl fp).can) (fun s H C cl fp => (hg1 s H C cl fp).can) (fun s H C cl fp => (ht1 s H C cl fp).can) (fun s H C cl fp => (he s H C cl fp).fz.can) hs hs1, lc2_te sub i2⟩
end
end Mi

end
section
set_option maxRecDepth 100000
/-! Mi27: xs[::1], xs[::-1]; list.extend; several except clauses; a < b < c. -/
namespace Mi
open PySem PySem.Spec L2 PyProof.Rows

/-! ### slices with a step -/
def rStp (K : PySem.W.Frag) : V → Option Int → Hp → VK → Prop := fun x o H Q => ∃ a xs, x = .ref a ∧ SqL K H a xs ∧
  ((o = some 1 ∧ ∀ p, H p = none → Q (.ref p) (upd H p (.lst xs))) ∨ (o = some (-1) ∧ ∀ p, H p = none → Q (.ref p) (upd H p (.lst xs.reverse))))
def tSlS (K : PySem.W.Frag) (te ts : TE) : TE := fun σ H Q => te σ H fun x H1 => tPart ts σ H1 fun o H2 => rStp K x o H2 Q
theorem pick_one (its : Array Value) : slicePick its none none (some 1) = slicePick its none none none := by
  unfold slicePick
  rfl
theorem pe_sliceS {X : Cx} {e st : Expr} {te ts : TE} {p2 pos : Pos} (he : PE X e te) (hs : PE X st ts) : PE X (.Subscript e (.Slice none none (some st) p2) pos) (tSlS X.K te ts) := by
  refine ⟨fun pins s σ H Q I h => ?_⟩
  refine Subscript_ (thn (he.run pins s σ H _ I h) fun v s1 ⟨x, H1, I1, r1, q1⟩ => ?_)
  refine wpAny_Slice ?_
  rw [evalPart_none]
  refine wpAny_pure (wpAny_pure ?_)
  refine thn ((po_some hs).run pins s1 σ H1 _ I1 q1) fun vs s3 ⟨o, H3, I3, ps, q3⟩ => ?_
  have I4 : Inv X pins σ H3 { s3 with heap := s3.heap.push { cls := .type "slice", data := .fields #[.none, .none, vs] } } := I3.kept (t' := s3.toks) fun b ob q => Heap.get?_push_of_some _ q
  obtain ⟨a, xs, rfl, hx, hq⟩ := q3
  cases r1
  obtain ⟨its, r, ht, hz⟩ := I4.list hx
  have hlen := r.length
  have sl : ({ s3 with heap := s3.heap.push { cls := .type "slice", data := .fields #[.none, .none, vs] } } : Shared).heap.IsSliceOf s3.heap.objs.size .none .none vs := Heap.IsSliceOf.new ..
  have hg : wpAny (model X.prog X.w) X.A (getItem (.ref a) (.ref s3.heap.objs.size)) (EP X pins σ Q) X.xe { s3 with heap := s3.heap.push { cls := .type "slice", data := .fields #[.none, .none, vs] } } := by
    rcases hq with ⟨rfl, q⟩ | ⟨rfl, q⟩
    · refine wpAny_getItem_list_slice ht.isList sl .none .none ps (by simp) ?_ (by rw [List.size_toArray] <;> omega)
      rw [pick_one, slicePick_cut]
      have e1 : (its.drop (HT.sIx its.length 0 none)).take (HT.sIx its.length its.length none - HT.sIx its.length 0 none) = its := by
        simp [HT.sIx]
      rw [e1]
      refine ⟨.ref _, _, I4.laid (t' := s3.toks) (o := .lst xs) (fun b ob q => Heap.get?_push_of_some _ q) (Nat.le_refl _) ?_, rfl, q _ (I4.hok.fresh (Nat.le_refl _))⟩
      exact ⟨hz, _, 0, r, Heap.get?_push_size _ rfl⟩
    · refine wpAny_getItem_list_slice ht.isList sl .none .none ps (by simp) ?_ (by rw [List.size_toArray] <;> omega)
      rw [PySem.W.krv_pick]
      refine ⟨.ref _, _, I4.laid (t' := s3.toks) (o := .lst xs.reverse) (fun b ob q => Heap.get?_push_of_some _ q) (Nat.le_refl _) ?_, rfl, q _ (I4.hok.fresh (Nat.le_refl _))⟩
      exact ⟨by rw [List.length_reverse]; exact hz, _, 0, r.reverse, Heap.get?_push_size _ rfl⟩
  show wpAny (model X.prog X.w) X.A (subscriptTail e (.Slice none none (some st) p2) (.ref a) (.ref s3.heap.objs.size)) (EP X pins σ Q) X.xe { s3 with heap := s3.heap.push { cls := .type "slice", data := .fields #[.none, .none, vs] } }
  exact tail_any (ops := [.ref a, .ref s3.heap.objs.size]) ht.isList.typeIs PySem.F.slot_list_getitem.lookup hg (by with_unfolding_all rfl)
end Mi

end
section
set_option maxRecDepth 100000
/-! Mi28: slices by a step, list.extend, a new container as the last argument, d.pop of a tuple key. -/
namespace Mi
open PySem PySem.Spec L2 PyProof.Rows

theorem un1 {n : Nat} (h : n + 100 < cLine) : n + 1 < cLine := Nat.lt_of_le_of_lt (Nat.add_le_add_left (by decide) n) h
/-! ### xs[::1], xs[::-1] -/
def stpD (d s : D) : Option (List D) := match d, s with
  | .lst l, .int i => if i = 1 then some l else if i = -1 then some l.reverse else none
  | _, _ => none
def eSlS (m ms : ME) : ME := fun r => (stl m r).bd fun x r1 => (fz ms r1).bd fun s r2 => match look x r2 with
  | some d => match stpD d s with
    | some l => .ok (.own (.lst l)) r2
    | none => .no
  | none => .no
theorem RepL.rev {e : En} {F : Hp} : ∀ {l : List D} {vs : List V}, RepL e F l vs → RepL e F l.reverse vs.reverse
  | [], _, h => by cases h; exact rfl
  | d :: l, _, ⟨v, w, h0, h1, h2⟩ => by
    subst h0
    rw [List.reverse_cons, List.reverse_cons]
    exact (RepL.rev h2).app (RepL.one h1)
section
variable {e : En} {X : Cx} {W : Wi} {a b st : Expr} {m n ms : ME} {pos p2 : Pos}
theorem se_slS (hK : X.K = e.K) (h : SE e X W a m) (hs : SE e X W st ms) : SE e X W (.Subscript a (.Slice none none (some st) p2) pos) (eSlS m ms) := by
  obtain ⟨t, a1, a2⟩ := h.stl.ex
  obtain ⟨u, b1, b2⟩ := hs.fz.ex
  refine ⟨_, pe_sliceS a1 b1, fun r σ H F fm Q hC R q => a2 r σ H F fm _ hC R ?_⟩
  have q1 := Po.bd q
  cases z1 : stl m r with
  | no => rw [z1] at q1; exact q1
  | ex x r1 => rw [z1] at q1; exact q1
  | ok x r1 =>
    rw [z1] at q1
    intro H1 F1 R1 s1 v hv
    refine b2 r1 σ H1 F1 fm _ hC R1 ?_
    refine (Po.bd (q1 H1 F1 R1 s1)).mono fun s r2 H2 F2 R2 s2 q2 w hw => ?_
    have hv2 : RvR e x v r2 σ H2 F2 fm := stay (stl_own z1) s2 hv
    cases y : look x r2 with
    | none => rw [y] at q2; exact q2.elim
    | some d =>
      rw [y] at q2
      have vw := look_vw R2 hv2 y
      have q3 : Po e W fm F2 σ (KE' e fm σ Q) (match stpD d s with
        | some l => .ok (.own (.lst l)) r2
        | none => .no) := q2
      cases d <;> first | exact q3.elim | skip
      cases s <;> first | exact q3.elim | skip
      rename_i l i
      cases hw
      obtain ⟨p, vs, rfl, g1, g2⟩ := vw
      have es : stpD (.lst l) (.int i) = if i = 1 then some l else if i = -1 then some l.reverse else none := rfl
      rw [es] at q3
      refine ⟨i, rfl, p, vs, rfl, sqL_of g1, ?_⟩
      by_cases i1 : i = 1
      · rw [if_pos i1] at q3
        exact .inl ⟨by rw [i1], fun p' hp => q3 _ F2 (R2.new hp) (Same.refl _) _ ⟨p', rfl, R2.tmp hp (show OR e F2 (.lst vs) (.lst l) from g2)⟩⟩
      · rw [if_neg i1] at q3
        by_cases i2 : i = -1
        · rw [if_pos i2] at q3
          exact .inr ⟨by rw [i2], fun p' hp => q3 _ F2 (R2.new hp) (Same.refl _) _ ⟨p', rfl, R2.tmp hp (show OR e F2 (.lst vs.reverse) (.lst l.reverse) from g2.rev)⟩⟩
        · rw [if_neg i2] at q3; exact q3.elim

/-! ### xs.extend(ys) -/
def fExtend (d : D) (ds : List D) : Option (D × D) := match d, ds with
  | .lst l, [.lst x] => if l.length + x.length < 1000000 then some (.non, .lst (l ++ x)) else none
  | _, _ => none
theorem mo_extend : MO e "list" kdL fExtend rExtend where
  ty := fun d u p H F k h o => by
    cases d <;> first | (cases k; done) | skip
    cases u <;> first | exact o.elim | exact .inl ⟨rfl, _, .inl (.inl h)⟩
  ok := fun d u p H F ds vs v d' Q h o rl un q k => by
    cases d <;> first | (cases q; done) | skip
    rename_i l
    match ds, q, rl with
    | [], q, _ => cases q
    | y :: _ :: _, q, _ => cases y <;> cases q
    | [y], q, rl =>
      cases y <;> first | (cases q; done) | skip
      rename_i x
      obtain ⟨vx, _, rfl, r1, rfl⟩ := rl
      obtain ⟨b, zs, rfl, f1, r2⟩ := r1
      have q' : (if l.length + x.length < 1000000 then some (D.non, D.lst (l ++ x)) else none) = some (v, d') := q
      by_cases z : l.length + x.length < 1000000
      · rw [if_pos z] at q'
        cases q'
        cases u <;> first | exact o.elim | skip
        rename_i xs
        have ol : RepL e F l xs := o
        exact ⟨p, b, xs, zs, rfl, rfl, h, un.lst f1, by rw [ol.len, r2.len]; exact Nat.le_of_lt (Nat.lt_of_lt_of_le z (by decide)), k (.lst (xs ++ zs)) .non (ol.app r2) (fun l h => nomatch h) rfl⟩
      · rw [if_neg z] at q'; cases q'

end
/-! ### d.pop(k) of a tuple key -/
section
variable {prog : Program} {w : World} {κ : Type} [DecidableEq κ] {kd : HeapKind prog w κ}
theorem pop1_meets {d b : Addr} {k : κ} (hd : (d == sysModules) = false) :
    MeetsIn prog w (Builtin.«dict.pop» ⟨[.ref d, .ref b], []⟩) (fun A R s => ∃ xs p, kd.room A.in1 ∧ kd.is s.heap k b ∧ s.heap.DictOfH kd d xs ∧ xs.length ≤ sizeLine ∧ atKey xs k = some p ∧
      ∀ h2 tk, h2.DictOfH kd d (DT.dropH xs k) → Heap.SameBut d s.heap h2 → R (.ok (.ret p.2)) { s with heap := h2, toks := tk }) :=
  .of_wp fun A R s ⟨xs, p, room, key, dd, hz, at1, fin⟩ => by
    obtain ⟨o, es, ep, h1, h2, h3, h4, h5, h6⟩ := id dd
    have kp : (keyPart (Value.ref b)).isSome = false := rfl
    have ne : es.isEmpty = false := by
      cases z : es.isEmpty with
      | false => rfl
      | true =>
        have z0 : es.size = 0 := by simpa using z
        have z1 : es.size = xs.length := size_of_entries h4
        have z2 : xs = [] := List.length_eq_zero_iff.mp (by omega)
        subst z2; cases at1
    unfold Builtin.«dict.pop»
    refine wpAny_bind ?_
    unfold Builtin.Dict.keyAndDefault
    refine wpAny_bind (wpAny_notOrdered_dict dd.typeIs ?_)
    show wpAny _ _ (pure (d, Value.ref b, none)) _ _ s
    refine wpAny_pure ?_
    simp only [kp, Bool.false_eq_true, if_false]
    refine wpAny_bind (wpAny_dictEntries h1 h3 (wpAny_bind (wpAny_pure ?_)))
    simp only [ne, Bool.false_eq_true, if_false]
    refine wpAny_bind (DT.takeH room key dd hz (fun hno => by rw [hno] at at1; cases at1) fun p2 en hp hev h' hm' hs' => ?_)
    rw [at1] at hp
    cases hp
    simp only [Option.isNone_some, Bool.false_eq_true, if_false]
    exact wpAny_bind (wpAny_letGo (wpAny_pure ⟨en.val, rfl, by rw [hev]; exact fin h' _ hm' hs'⟩))
end
section
variable {e : En} {X : Cx} {W : Wi}
def rPopT1 : V → List V → Hp → VK → Prop := fun x xs H Q => ∃ (a : Addr) (kvs : List (List Key × V)) (k : List Key) (b : Addr) (v : V), x = .ref a ∧ xs = [.ref b] ∧ H a = some (.dT kvs) ∧ H b = some (.tup (k.map kV)) ∧ valV kvs k = some v ∧ Q v (upd H a (.dT (dropK kvs k)))
theorem mt_popT1 (hu : X.A.units + 1 < cLine) : MtR X "dict.pop" rPopT1 := by
  intro pins s σ H x xs v us Q I rx rxs ⟨a, kvs, k, b, v1, e1, e2, ha, hb, hv, q⟩
  subst e1 e2
  cases rx
  obtain ⟨u1, eu, r1⟩ := Vals.one rxs
  subst eu
  cases r1
  obtain ⟨z, hd, ys, rel, dd⟩ := dt_of I.hok ha
  have hz : ys.length ≤ sizeLine := by rw [← Paired.length rel]; exact z
  have r := rel.val k
  rw [hv] at r
  obtain ⟨p, hp, rv⟩ : ∃ p, atKey ys k = some p ∧ RelV v1 p.2 := by
    cases w : atKey ys k with
    | none => rw [w] at r; exact (show False from r).elim
    | some p => rw [w] at r; exact ⟨p, rfl, r⟩
  refine call_meetsIn PySem.F.slot_dict_pop dd.typeIs PySem.F.entry_dict_pop (PySem.F.args_dict_pop_2 _ _) (pop1_meets (kd := tupleKind (mixKind X.prog X.w)) (k := k) hd)
    ⟨ys, p, tupleKind_room_in1 hu, key_of I.hok hb, dd, hz, hp, fun h' tk dd' hs => ?_⟩
  obtain ⟨o, es, ep, hq, h2, h3, h4, _, h5⟩ := dd'
  have I2 : Inv X pins σ (upd H a (.dT (dropK kvs k))) { s with heap := h', toks := tk } :=
    d_write I (by rw [ha]; exact True.intro) hs ⟨o, hq⟩ ⟨Nat.le_trans (dropK_le kvs k) z, hd, _, (L2.DX.KT_drop k rel).keeps (fun c zs ec => (by rw [upd_ne (ne_of ec ha (fun z => nomatch z))]; exact ec)), o, es, ep, hq, h2, h3, h4, h5⟩
  exact ⟨v1, _, I2, rv, q⟩
def kdT : D → Bool
  | .dT _ _ => true
  | _ => false
def fPopT (d : D) (ds : List D) : Option (D × D) := match d, ds with
  | .dT ks l, [x] => match keyT x with
    | some k => (vl ks l k).map fun v => (v, .dT (dlK ks k) (dlL ks l k))
    | none => none
  | _, _ => none
theorem mo_popT : MO e "dict" kdT fPopT rPopT1 where
  ty := fun d u p H F k h o => by
    cases d <;> first | (cases k; done) | skip
    cases u <;> first | exact o.elim | exact .inr (.inr (.inl ⟨rfl, .inr ⟨_, h⟩⟩))
  ok := fun d u p H F ds vs v d' Q h o rl un q kk => by
    cases d <;> first | (cases q; done) | skip
    rename_i ks l
    match ds, q, rl with
    | [], q, _ => cases q
    | _ :: _ :: _, q, _ => cases q
    | [x], q, rl =>
      obtain ⟨vx, _, rfl, r1, rfl⟩ := rl
      have q' : (match keyT x with
        | some k => (vl ks l k).map fun v => (v, D.dT (dlK ks k) (dlL ks l k))
        | none => none) = some (v, d') := q
      cases y : keyT x with
      | none => rw [y] at q'; cases q'
      | some k =>
        rw [y] at q'
        have q2 : ((vl ks l k).map fun v => (v, D.dT (dlK ks k) (dlL ks l k))) = some (v, d') := q'
        cases u <;> first | exact o.elim | skip
        obtain ⟨ws, e1, e2, e3⟩ := o
        subst e1
        have hv := vl_rep k e3 e2
        cases w : vl ks l k with
        | none => rw [w] at q2; cases q2
        | some d =>
          rw [w] at q2 hv
          cases q2
          obtain ⟨v', f1, f2⟩ := hv
          obtain ⟨b, eb, hb⟩ := keyT_v y (r1.vw un)
          refine ⟨p, _, k, b, v', rfl, by rw [eb], h, hb, f1, ?_⟩
          rw [(dl_zip ks ws k e2).1]
          exact kk _ v' ⟨_, rfl, (dl_zip ks ws k e2).2, dl_rep e3⟩ (fun l h => nomatch h) f2
end

/-! ### f(a, .., {}): a new container as the last argument -/
def TeCo (e : En) (W : Wi) (t : TA) (m : Rho → Ou (List RV × D)) : Prop := ∀ r σ H F fm Q, W.c fm → Rl e r σ H F fm →
  Po e W fm F σ (fun ld r' H' F' => ∀ vs p, ArgsR e σ F' ld.1 vs → Tmp e r' σ H' F' fm p ld.2 → Q (vs ++ [.ref p]) H') (m r) → t σ H Q
structure SCo (e : En) (X : Cx) (W : Wi) (es : List Expr) (m : Rho → Ou (List RV × D)) : Prop where
  ex : ∃ t, PA X es t ∧ TeCo e W t m
  len : ∀ r l r', m r = .ok l r' → l.1.length + 1 = es.length
def oL (m : ME) : Rho → Ou (List RV × D) := fun r => (m r).bd fun x r1 => match x with
  | .own d => .ok ([], d) r1
  | _ => .no
def oV (m : ME) (n : Rho → Ou (List RV × D)) : Rho → Ou (List RV × D) := fun r => (fz m r).bd fun d r1 => (n r1).bd fun l r2 => .ok (.val d :: l.1, l.2) r2
def oB (m : ME) (n : Rho → Ou (List RV × D)) : Rho → Ou (List RV × D) := fun r => (stl m r).bd fun rv r1 => (n r1).bd fun l r2 => .ok (rv :: l.1, l.2) r2
section
variable {e : En} {X : Cx} {W : Wi} {a : Expr} {es : List Expr} {m : ME} {n : Rho → Ou (List RV × D)}
theorem so_last (h : SE e X W a m) (hs : starEach [a] X.env = (false, eval a X.env) :: starEach [] X.env := by rfl) : SCo e X W [a] (oL m) := by
  obtain ⟨t, a1, a2⟩ := h.ex
  refine ⟨⟨_, pa_cons a1 pa_nil hs, fun r σ H F fm Q hC R q => a2 r σ H F fm _ hC R ?_⟩, fun r l r' q => ?_⟩
  · refine (Po.bd q).mono fun x r1 H1 F1 R1 s1 q1 v hv => ?_
    cases x with
    | own d =>
      obtain ⟨p, rfl, T⟩ := hv
      exact q1 H1 F1 R1 (Same.refl _) [] p rfl T
    | _ => exact q1.elim
  · obtain ⟨x, r1, _, q1⟩ := bd_inv' q
    cases x <;> first | (cases q1; done) | (cases q1; rfl)
theorem so_val (h : SE e X W a m) (hr : SCo e X W es n) (hs : starEach (a :: es) X.env = (false, eval a X.env) :: starEach es X.env := by rfl) : SCo e X W (a :: es) (oV m n) := by
  obtain ⟨t, a1, a2⟩ := h.fz.ex
  obtain ⟨u, b1, b2⟩ := hr.ex
  refine ⟨⟨_, pa_cons a1 b1 hs, fun r σ H F fm Q hC R q => a2 r σ H F fm _ hC R ?_⟩, fun r l r' q => ?_⟩
  · refine (Po.bd q).mono fun d r1 H1 F1 R1 s1 q1 v hv => b2 r1 σ H1 F1 fm _ hC R1 ?_
    refine (Po.bd q1).mono fun l r2 H2 F2 R2 s2 q2 vs p hvs T => ?_
    exact q2 H2 F2 R2 (Same.refl _) (v :: vs) p ⟨v, vs, rfl, hv.mono s2, hvs⟩ T
  · obtain ⟨d, r1, _, q1⟩ := bd_inv' q
    obtain ⟨l2, r2, e2, q2⟩ := bd_inv' q1
    cases q2
    show (_ :: l2.1).length + 1 = _
    rw [List.length_cons, List.length_cons, hr.len _ _ _ e2]
theorem so_bor (h : SE e X W a m) (hr : SCo e X W es n) (hs : starEach (a :: es) X.env = (false, eval a X.env) :: starEach es X.env := by rfl) : SCo e X W (a :: es) (oB m n) := by
  obtain ⟨t, a1, a2⟩ := h.stl.ex
  obtain ⟨u, b1, b2⟩ := hr.ex
  refine ⟨⟨_, pa_cons a1 b1 hs, fun r σ H F fm Q hC R q => a2 r σ H F fm _ hC R ?_⟩, fun r l r' q => ?_⟩
  · have q' := Po.bd q
    cases z : stl m r with
    | no => rw [z] at q'; exact q'
    | ex x r1 => rw [z] at q'; exact q'
    | ok rv r1 =>
      rw [z] at q'
      intro H1 F1 R1 s1 v hv
      refine b2 r1 σ H1 F1 fm _ hC R1 ?_
      refine (Po.bd (q' H1 F1 R1 s1)).mono fun l r2 H2 F2 R2 s2 q2 vs p hvs T => ?_
      refine q2 H2 F2 R2 (Same.refl _) (v :: vs) p ⟨v, vs, rfl, ?_, hvs⟩ T
      cases rv with
      | val d => exact Rep.mono s2 hv
      | bor i => exact hv
      | own d => exact stl_own z d rfl
  · obtain ⟨d, r1, _, q1⟩ := bd_inv' q
    obtain ⟨l2, r2, e2, q2⟩ := bd_inv' q1
    cases q2
    show (_ :: l2.1).length + 1 = _
    rw [List.length_cons, List.length_cons, hr.len _ _ _ e2]
end
def cutO (n : Nat) : Ou RV → Ou RV
  | .ok a r => .ok a (r.take n)
  | .ex x r => .ex x (r.take n)
  | .no => .no
def eCallO (f : MS) (m : Rho → Ou (List RV × D)) : ME := fun r => (m r).bd fun l r1 => if nodupB (borI (l.1 ++ [RV.bor r1.length])) = true then
  cutO r1.length (callO (l.1 ++ [RV.bor r1.length]) (r1 ++ [LV.own l.2]) (f ((l.1 ++ [RV.bor r1.length]).map (argL (r1 ++ [LV.own l.2]))))) else .no
section
variable {e : En} {X : Cx} {W : Wi} {F F' H H' : Hp} {σ : L2.St} {r : Rho} {fm : Fm} {l : List RV} {vs : List V}
theorem pn_lt {fm : Fm} (R : Rl e r σ H F fm) : ∀ q ∈ fm.pn, q.1 < σ.length := fun q hq => (List.getElem?_eq_some_iff.mp (R.pn q hq)).1
theorem ArgsR.snocX {x : Option V} : ∀ {l : List RV} {vs : List V}, ArgsR e σ F l vs → ArgsR e (σ ++ [x]) F l vs
  | [], _, h => h
  | rv :: l, _, ⟨v, w, h0, h1, h2⟩ => ⟨v, w, h0, by
      cases rv with
      | val d => exact h1
      | bor i =>
        have h1' : σ[i]? = some (some v) := h1
        show (σ ++ [x])[i]? = some (some v)
        rw [List.getElem?_append_left (List.getElem?_eq_some_iff.mp h1').1]; exact h1'
      | own d => exact h1, ArgsR.snocX h2⟩
theorem ArgsR.app : ∀ {l m : List RV} {vs ws : List V}, ArgsR e σ F l vs → ArgsR e σ F m ws → ArgsR e σ F (l ++ m) (vs ++ ws)
  | [], _, _, _, h, q => by cases h; exact q
  | _ :: _, _, _, _, ⟨v, w, h0, h1, h2⟩, q => by subst h0; exact ⟨v, w ++ _, rfl, h1, ArgsR.app h2 q⟩
theorem take_snoc {w r : Rho} (h : w.length = r.length + 1) : ∃ lv, w = w.take r.length ++ [lv] := by
  have h1 : r.length < w.length := by omega
  refine ⟨w[r.length], ?_⟩
  have := (List.take_append_drop r.length w).symm
  rw [List.drop_eq_getElem_cons h1, List.drop_eq_nil_of_le (by omega)] at this
  exact this
theorem Tmp.cut {lv : LV} {x : Option V} {p : Addr} {d : D} (ln : σ.length = r.length) (T : Tmp e (r ++ [lv]) (σ ++ [x]) H F fm p d) : Tmp e r σ H F fm p d := by
  obtain ⟨t1, t2, t3⟩ := T
  refine ⟨t1, t2, fun i d' h z => t3 i d' ?_ ?_⟩
  · rw [List.getElem?_append_left (List.getElem?_eq_some_iff.mp h).1]; exact h
  · rw [List.getElem?_append_left (List.getElem?_eq_some_iff.mp z).1]; exact z
theorem callO_len {l : List RV} {r : Rho} {o : So} {a : RV} {w : Rho} (h : callO l r o = .ok a w) : w.length = r.length ∧ ∃ a0, a = rvOf a0 := by
  cases o <;> first | (cases h; done) | skip
  cases h
  exact ⟨wback_len _ _ _, _, rfl⟩
theorem callO_lenX {l : List RV} {r : Rho} {o : So} {x : Ex} {w : Rho} (h : callO l r o = .ex x w) : w.length = r.length := by
  cases o <;> first | (cases h; done) | skip
  cases h
  exact wback_len _ _ _
theorem tCallO_te {t : TA} {n : Nat} {g : MS} {m : Rho → Ou (List RV × D)} (h : TeCo e W t m) (ha : ∀ r l r', m r = .ok l r' → l.1.length + 1 = n) : TeE e W (tCallS (spOf e n g) (WE W.w) t) (eCallO g m) := fun r σ H F fm Q hC R q => by
  refine h r σ H F fm _ hC R ?_
  have q' := Po.bd q
  cases z : m r with
  | no => rw [z] at q'; exact q'
  | ex x r1 => rw [z] at q'; exact q'
  | ok l r1 =>
    rw [z] at q'
    intro H1 F1 R1 s1 vs p A T
    have q1 := q' H1 F1 R1 s1
    dsimp only at q1
    by_cases nd : nodupB (borI (l.1 ++ [RV.bor r1.length])) = true
    · rw [if_pos nd] at q1
      have R2 := R1.snoc T
      have ln := R1.ln
      have hl : (σ ++ [some (V.ref p)])[r1.length]? = some (some (.ref p)) := by
        rw [← ln, List.getElem?_append_right (Nat.le_refl _), Nat.sub_self]; rfl
      have A2 : ArgsR e (σ ++ [some (.ref p)]) F1 (l.1 ++ [RV.bor r1.length]) (vs ++ [.ref p]) := A.snocX.app ⟨.ref p, [], rfl, hl, rfl⟩
      refine call_sp (W := ⟨fun cls d _ H => W.w cls d σ H, W.c⟩) R2 A2 (nodupB_ok nd) (by rw [List.length_append, A.len]; exact ha r l r1 z) ?_
      cases y : callO (l.1 ++ [RV.bor r1.length]) (r1 ++ [LV.own l.2]) (g ((l.1 ++ [RV.bor r1.length]).map (argL (r1 ++ [LV.own l.2])))) with
      | no => rw [y] at q1; exact q1.elim
      | ex x w =>
        rw [y] at q1
        intro cls d H' F' R' s' hx
        have lw := callO_lenX y
        rw [List.length_append, List.length_singleton] at lw
        obtain ⟨lv, ew⟩ := take_snoc (r := r1) lw
        rw [ew] at R'
        exact q1 cls d H' F' (R'.cut (pn_lt R1)) s' hx
      | ok a w =>
        rw [y] at q1
        intro H' F' R' s' v hv
        obtain ⟨lw, a0, ea⟩ := callO_len y
        rw [List.length_append, List.length_singleton] at lw
        obtain ⟨lv, ew⟩ := take_snoc (r := r1) lw
        rw [ew] at R'
        have Rc := R'.cut (pn_lt R1)
        refine q1 H' F' Rc s' v ?_
        subst ea
        cases a0 with
        | val d => exact hv
        | own d =>
          obtain ⟨p', e', T'⟩ := hv
          rw [ew] at T'
          exact ⟨p', e', Tmp.cut Rc.ln T'⟩
    · rw [if_neg nd] at q1; exact q1.elim
end
section
variable {e : En} {X : Cx} {W : Wi} {x : Str} {p pos : Pos} {a : Expr} {es : List Expr} {m : Rho → Ou (List RV × D)} {k n : Nat} {f : Addr} {fd : FuncData} {ps : List Str} {g : MS}
theorem se_callO (F : FnOk X.prog X.w X.K X.mg X.base (L2.CX X.prog X.w) k f fd ps (spOf e n g)) (hr : Room k X.A) (hg : Gl X x) (hm : X.mg x = some (.ref f)) (hk : PySem.W.keepIn X.K (.ref f) = true) (hb : Binds X.K fd ps []) (tk : Takes X W.w) (hc : SCo e X W (a :: es) m) (hn : es.length + 1 = n)
    (hdb : (x == ("__debug__" : Str)) = false := by decide) (he : starEach (a :: es) X.env = (false, eval a X.env) :: starEach es X.env := by rfl) (hpl : (backTo pos (starEach es X.env)).any (·.1) = false := by rfl) : SE e X W (.Call (.Name x p) (a :: es) [] pos) (eCallO g m) := by
  obtain ⟨t, h1, h2⟩ := hc.ex
  exact ⟨_, pe_callS F hr hg hm hk hb (fun σ => passAt tk σ) h1 hdb he hpl, tCallO_te h2 fun r l r' q => (hc.len r l r' q).trans hn⟩
end
end Mi

end
section
set_option maxRecDepth 100000
/-! Mi29: a < b < c, texts walked, one sign in a text, ranges by steps, dicts of the module, repetitions, several except clauses. -/
namespace Mi
open PySem L2

section
variable {e : En} {X : Cx} {W : Wi} {io : List Nat} {a b c tg : Expr} {m n k : ME} {pos : Pos}
/-! ### chains -/
def eChn (f g : D → D → Option R0) (m n k : ME) : ME := fun r => (fz m r).bd fun d1 r1 => (fz n r1).bd fun d2 r2 => match f d1 d2 with
  | some (.val (.bl b)) => if b = true then (fz k r2).bd fun d3 r3 => res (g d2 d3) r3 else .ok (.val (.bl false)) r2
  | _ => .no
theorem chn_te {ta tb tc : TE} {r r' : R2} {f g : D → D → Option R0} (hp : P2 e f r) (hp' : P2 e g r') (ha : TeD e W ta (fz m)) (hb : TeD e W tb (fz n)) (hc : TeD e W tc (fz k)) : TeE e W (tChain r r' ta tb tc) (eChn f g m n k) := fun ρ σ H F fm Q hC R q => by
  refine ha ρ σ H F fm _ hC R ?_
  refine (Po.bd q).mono fun d1 r1 H1 F1 R1 s1 q1 v1 h1 => hb r1 σ H1 F1 fm _ hC R1 ?_
  refine (Po.bd q1).mono fun d2 r2 H2 F2 R2 s2 q2 v2 h2 => ?_
  have w1 := (h1.mono s2).vw R2.fh
  have w2 := h2.vw R2.fh
  cases z : f d1 d2 with
  | none => rw [z] at q2; exact q2.elim
  | some x =>
    rw [z] at q2
    cases x with
    | own d => exact q2.elim
    | val d =>
      cases d <;> first | exact q2.elim | skip
      rename_i bb
      refine hp d1 d2 v1 v2 H2 F2 _ w1 w2 ?_
      rw [z]
      intro v hv
      cases hv
      refine ⟨bb, rfl, ?_⟩
      have q3 : Po e W fm F2 σ (KE' e fm σ Q) (if bb = true then (fz k r2).bd fun d3 r3 => res (g d2 d3) r3 else .ok (.val (.bl false)) r2) := q2
      cases bb with
      | false => exact q3 H2 F2 R2 (Same.refl _) _ rfl
      | true =>
        rw [if_pos rfl]
        rw [if_pos rfl] at q3
        refine hc r2 σ H2 F2 fm _ hC R2 ?_
        refine (Po.bd q3).mono fun d3 r3 H3 F3 R3 s3 q4 v3 h3 => ?_
        exact hp' d2 d3 v2 v3 H3 F3 Q ((h2.mono s3).vw R3.fh) (h3.vw R3.fh) (res_ok R3 q4)
theorem se_chn {op op' : CmpOp} {r r' : R2} {f g : D → D → Option R0} (ho : OpR X (compareOp op) r) (hp : P2 e f r) (ho' : OpR X (compareOp op') r') (hp' : P2 e g r') (ha : SE e X W a m) (hb : SE e X W b n) (hc : SE e X W c k)
    (hm : lastMarks [op, op'] [b, c] = false := by with_unfolding_all rfl) : SE e X W (.Compare a [op, op'] [b, c] pos) (eChn f g m n k) := by
  obtain ⟨ta, a1, a2⟩ := ha.fz.ex
  obtain ⟨tb, b1, b2⟩ := hb.fz.ex
  obtain ⟨tc, c1, c2⟩ := hc.fz.ex
  exact ⟨_, pe_chain ho ho' a1 b1 c1 hm, chn_te hp hp' a2 b2 c2⟩
theorem st_chn {op op' : CmpOp} {r r' : R2} {f g : D → D → Option R0} (ho : OpR X (compareOp op) r) (hp : P2 e f r) (ho' : OpR X (compareOp op') r') (hp' : P2 e g r') (ha : SE e X W a m) (hb : SE e X W b n) (hc : SE e X W c k)
    (hm : lastMarks [op, op'] [b, c] = false := by with_unfolding_all rfl) : ST e X W (.Compare a [op, op'] [b, c] pos) (tV (eChn f g m n k)) := by
  obtain ⟨ta, a1, a2⟩ := ha.fz.ex
  obtain ⟨tb, b1, b2⟩ := hb.fz.ex
  obtain ⟨tc, c1, c2⟩ := hc.fz.ex
  exact ⟨_, pt_chain ho ho' a1 b1 c1 hm, tTest_te (chn_te hp hp' a2 b2 c2)⟩

/-! ### for c in a text -/
def sgnD (x : Str) : List D := x.cps.toList.map fun c => .str ⟨#[c]⟩
def iStrM (m : ME) : Rho → Ou (List D) := fun r => (fz m r).bd fun d r1 => match d with
  | .str x => .ok (sgnD x) r1
  | _ => .no
theorem itr_str {G F : Hp} {x : Str} : ItR e G (Its x) (sgnD x) F where
  go := fun i H _ _ hi => by
    have : i < x.cps.toList.length := by simpa [sgnD] using hi
    show i < x.cps.size
    simpa using this
  stop := fun i H _ _ hi => by
    have : x.cps.toList.length ≤ i := by simpa [sgnD] using hi
    show x.cps.size ≤ i
    simpa using this
  yld := fun i H v H' d _ _ y hd => by
    obtain ⟨rfl, c, hc, rfl⟩ := y
    have hd' : (x.cps.toList[i]?).map (fun c => D.str ⟨#[c]⟩) = some d := by simpa [sgnD] using hd
    have hc' : x.cps.toList[i]? = some c := by rw [Array.getElem?_toList]; exact hc
    rw [hc'] at hd'
    cases hd'
    exact .inl ⟨rfl, rfl⟩
theorem si_str (h : SE e X W a m) : SI e X W tg a (iStrM m) := by
  obtain ⟨t, h1, h2⟩ := h.fz.ex
  refine ⟨_, pi_str h1, fun r σ H F fm R' hC R q => h2 r σ H F fm _ hC R ?_⟩
  refine (Po.bd q).mono fun d r1 H1 F1 R1 s1 q1 v hv => ?_
  cases d <;> first | exact q1.elim | skip
  cases hv
  exact ⟨_, rfl, q1 H1 F1 R1 (Same.refl _) _ itr_str⟩

/-! ### one sign in a text -/
def sg1D (neg : Bool) (d c : D) : Option R0 := match d, c with
  | .str x, .str z => match x.cps.toList with
    | [s] => vB (if neg then !decide (s ∈ z.cps.toList) else decide (s ∈ z.cps.toList))
    | _ => none
  | _, _ => none
def rSg1 (neg : Bool) : R2 := fun x y H Q => ∃ (c : Nat) (z : Str), x = .str ⟨#[c]⟩ ∧ y = .str z ∧ Q (.bl (if neg then !decide (c ∈ z.cps.toList) else decide (c ∈ z.cps.toList))) H
theorem op_sg1 : OpR X (compareOp .In) (rSg1 false) := fun pins s σ H x y v u Q I rx ry h => op_in_sign pins s σ H x y v u Q I rx ry h
theorem op_nsg1 : OpR X (compareOp .NotIn) (rSg1 true) := fun pins s σ H x y v u Q I rx ry h => op_notIn_sign pins s σ H x y v u Q I rx ry h
theorem p2_sg1 {neg : Bool} : P2 e (sg1D neg) (rSg1 neg) := fun d1 d2 v1 v2 H F Q h1 h2 q => by
  cases d1 <;> cases d2 <;> first | exact q.elim | skip
  rename_i x z
  cases h1; cases h2
  have q0 : PQ e H F (match x.cps.toList with
    | [s] => vB (if neg then !decide (s ∈ z.cps.toList) else decide (s ∈ z.cps.toList))
    | _ => none) Q := q
  revert q0; clear q; intro q
  cases w : x.cps.toList with
  | nil => rw [w] at q; exact q.elim
  | cons s l =>
    rw [w] at q
    cases l with
    | cons _ _ => exact q.elim
    | nil =>
      refine ⟨s, z, ?_, rfl, q _ rfl⟩
      obtain ⟨cps⟩ := x
      have : cps = #[s] := by rw [← Array.toList_inj]; exact w
      rw [this]

/-! ### range(i, j, c) -/
def iRg3 (m n k : ME) : Rho → Ou (List D) := fun r => (fz m r).bd fun d1 r1 => (fz n r1).bd fun d2 r2 => (fz k r2).bd fun d3 r3 => match d1, d2, d3 with
  | .int i, .int j, .int c => if c ≠ 0 ∧ c.natAbs < 1073741824 ∧ Builtin.Range.small i j c = true ∧ 0 ≤ Builtin.Range.rangeSize i j c then .ok ((List.range (Builtin.Range.rangeSize i j c).toNat).map fun t => .int (i + (t : Nat) * c)) r3 else .no
  | _, _, _ => .no
theorem itr_rgC {G F : Hp} {i c : Int} {n : Nat} : ItR e G (Itc i c n) ((List.range n).map fun t => .int (i + (t : Nat) * c)) F where
  go := fun j H _ _ hj => by (show j < n); simpa using hj
  stop := fun j H _ _ hj => by (show n ≤ j); simpa using hj
  yld := fun j H v H' d _ _ y hd => by
    obtain ⟨rfl, rfl⟩ := y
    by_cases h : j < n
    · have hd' : some (D.int (i + (j : Nat) * c)) = some d := by simpa [h] using hd
      cases hd'
      exact .inl ⟨rfl, rfl⟩
    · rw [List.getElem?_eq_none (by simp; omega)] at hd; cases hd
theorem si_range3 {p : Pos} (hg : Gl X "range") (hm : X.mg "range" = none) (h : SE e X W a m) (h' : SE e X W b n) (h'' : SE e X W c k)
    (hs : starEach [a, b, c] X.env = (false, eval a X.env) :: starEach [b, c] X.env := by rfl) (hs2 : starEach [b, c] X.env = (false, eval b X.env) :: starEach [c] X.env := by rfl) (hs3 : starEach [c] X.env = (false, eval c X.env) :: starEach [] X.env := by rfl) (hpl : (backTo pos (starEach [b, c] X.env)).any (·.1) = false := by rfl) :
    SI e X W tg (.Call (.Name "range" p) [a, b, c] [] pos) (iRg3 m n k) := by
  obtain ⟨t, h1, h2⟩ := h.fz.ex
  obtain ⟨t', g1, g2⟩ := h'.fz.ex
  obtain ⟨t'', k1, k2⟩ := h''.fz.ex
  refine ⟨_, pi_range3 hg hm (pa_cons h1 (pa_cons g1 (pa_cons k1 pa_nil hs3) hs2) hs) hs hpl, fun r σ H F fm R' hC R q => h2 r σ H F fm _ hC R ?_⟩
  refine (Po.bd q).mono fun d1 r1 H1 F1 R1 s1 q1 v hv => g2 r1 σ H1 F1 fm _ hC R1 ?_
  refine (Po.bd q1).mono fun d2 r2 H2 F2 R2 s2 q2 v2 hv2 => k2 r2 σ H2 F2 fm _ hC R2 ?_
  refine (Po.bd q2).mono fun d3 r3 H3 F3 R3 s3 q3 v3 hv3 => ?_
  cases d1 <;> first | exact q3.elim | skip
  cases d2 <;> first | exact q3.elim | skip
  cases d3 <;> first | exact q3.elim | skip
  rename_i i j c
  cases hv; cases hv2; cases hv3
  have q4 : Po e W fm F3 σ (fun ds _ H' F' => ∀ J, ItR e (Lo fm.G) J ds F' → R' J H') (if c ≠ 0 ∧ c.natAbs < 1073741824 ∧ Builtin.Range.small i j c = true ∧ 0 ≤ Builtin.Range.rangeSize i j c then .ok ((List.range (Builtin.Range.rangeSize i j c).toNat).map fun t => .int (i + (t : Nat) * c)) r3 else .no) := q3
  by_cases z : c ≠ 0 ∧ c.natAbs < 1073741824 ∧ Builtin.Range.small i j c = true ∧ 0 ≤ Builtin.Range.rangeSize i j c
  · rw [if_pos z] at q4
    exact ⟨i, j, c, _, rfl, ⟨z.1, z.2.1, z.2.2.1, (Int.toNat_of_nonneg z.2.2.2).symm⟩, q4 H3 F3 R3 (Same.refl _) _ itr_rgC⟩
  · rw [if_neg z] at q4; exact q4.elim

/-! ### a dict of the module, texts to ints -/
inductive EntsI (P : Params) : List DictEntry → List (Str × Int) → Prop
  | nil : EntsI P [] []
  | cons {en : DictEntry} {x : Str} {i : Int} {l : List DictEntry} {kvs : List (Str × Int)} (hk : ∃ t, en.key = .str x t) (hh : en.hash = PyData.keyHash P x) (hv : ∃ t, en.val = .int i t) (r : EntsI P l kvs) : EntsI P (en :: l) ((x, i) :: kvs)
def GDic (K : PySem.W.Frag) (w : World) (mg : Str → Option Value) (x : Str) (kvs : List (Str × Int)) : Prop := ∃ d es n, mg x = some (.ref d) ∧ KDict K w d es n ∧ EntsI w.params es.toList kvs
theorem EntsI.lit {P : Params} : ∀ {l : List DictEntry} {kvs : List (Str × Int)}, EntsI P l kvs → PySem.W.KeysLit P l
  | _, _, .nil => trivial
  | _, _, .cons hk hh _ r => ⟨(by obtain ⟨t, h⟩ := hk; exact ⟨_, t, h, hh⟩), r.lit⟩
def lkI (kvs : List (Str × Int)) (z : Str) : Option Int := match kvs with
  | [] => none
  | p :: r => if p.1 == z then some p.2 else lkI r z
theorem EntsI.find {P : Params} {z : Str} : ∀ {l : List DictEntry} {kvs : List (Str × Int)}, EntsI P l kvs → (∀ i, lkI kvs z = some i → ∃ en t, l.find? (·.key.isStr z) = some en ∧ en.val = .int i t) ∧ (lkI kvs z = none → l.find? (·.key.isStr z) = none ∧ l.any (·.refKey) = false)
  | _, _, .nil => ⟨fun _ h => (nomatch h), fun _ => ⟨rfl, rfl⟩⟩
  | _, _, .cons (en := en) (x := x) (i := j) (l := l) (kvs := kvs) ⟨t, hk⟩ hh ⟨t', hv⟩ r => by
    obtain ⟨r1, r2⟩ := r.find (z := z)
    have e1 : en.key.isStr z = (x == z) := by rw [hk]; rfl
    have e2 : en.refKey = false := by unfold DictEntry.refKey; rw [hk]
    cases b : (x == z) with
    | true =>
      have e3 : lkI ((x, j) :: kvs) z = some j := by show (if (x == z) = true then some j else lkI kvs z) = _; rw [b]; rfl
      rw [e3]
      refine ⟨fun i h => ?_, fun h => nomatch h⟩
      cases h
      exact ⟨en, t', List.find?_cons_of_pos (by rw [e1, b]), hv⟩
    | false =>
      have e3 : lkI ((x, j) :: kvs) z = lkI kvs z := by show (if (x == z) = true then some j else lkI kvs z) = _; rw [b]; rfl
      rw [e3]
      refine ⟨fun i h => ?_, fun h => ?_⟩
      · obtain ⟨en', u, h1, h2⟩ := r1 i h
        exact ⟨en', u, by rw [List.find?_cons_of_neg (by rw [e1, b]; simp)]; exact h1, h2⟩
      · obtain ⟨h1, h2⟩ := r2 h
        exact ⟨by rw [List.find?_cons_of_neg (by rw [e1, b]; simp)]; exact h1, by rw [List.any_cons, e2, h2]; rfl⟩
theorem gd_ns {K : PySem.W.Frag} {w : World} {d : Addr} {es : Array DictEntry} {n : Nat} {kvs : List (Str × Int)} (D : KDict K w d es n) (E : EntsI w.params es.toList kvs) (z : Str) :
    (∀ i, lkI kvs z = some i → ∃ t, PySem.W.nsIn K d z = some (some (.int i t))) ∧ (lkI kvs z = none → PySem.W.nsIn K d z = some none) := by
  obtain ⟨h1, h2⟩ := E.find (z := z)
  have e0 : PySem.W.nsIn K d z = (match es.toList.find? (·.key.isStr z) with
      | some e => some (some e.val)
      | none => if es.toList.any (·.refKey) then none else some none) := by
    unfold PySem.W.nsIn
    rw [D.at_] <;> rfl
  refine ⟨fun i h => ?_, fun h => ?_⟩
  · obtain ⟨en, t, f1, f2⟩ := h1 i h
    exact ⟨t, by rw [e0, f1, ← f2]⟩
  · obtain ⟨f1, f2⟩ := h2 h
    rw [e0, f1, f2]; rfl
def inKI (neg : Bool) (kvs : List (Str × Int)) (d : D) : Option R0 := match d with
  | .str z => vB (if neg then !(lkI kvs z).isSome else (lkI kvs z).isSome)
  | _ => none
def ixKI (kvs : List (Str × Int)) (d : D) : Option R0 := match d with
  | .str z => (lkI kvs z).map fun i => .val (.int i)
  | _ => none
def rInK (X : Cx) (d : Addr) (neg : Bool) : R2 := fun x y H Q => ∃ (z : Str) (r : Option Value), x = .str z ∧ y = .ref d ∧ PySem.W.nsIn X.K d z = some r ∧ Q (.bl (if neg then !r.isSome else r.isSome)) H
theorem p1_inKI {d : Addr} {es : Array DictEntry} {n : Nat} {kvs : List (Str × Int)} {neg : Bool} (D : KDict X.K X.w d es n) (E : EntsI X.w.params es.toList kvs) : P1 e (inKI neg kvs) (fun v H Q => rInK X d neg v (.ref d) H Q) := fun x v H F Q h q => by
  cases x <;> first | exact q.elim | skip
  rename_i z
  cases h
  obtain ⟨h1, h2⟩ := gd_ns D E z
  have q0 : PQ e H F (vB (if neg then !(lkI kvs z).isSome else (lkI kvs z).isSome)) Q := q
  revert q0; clear q; intro q
  cases y : lkI kvs z with
  | none => rw [y] at q; exact ⟨z, none, rfl, rfl, h2 y, q _ rfl⟩
  | some i =>
    rw [y] at q
    obtain ⟨t, ht⟩ := h1 i y
    exact ⟨z, _, rfl, rfl, ht, q _ rfl⟩
theorem se_inK {x : Str} {xp : Pos} {kvs : List (Str × Int)} (h : GDic X.K X.w X.mg x kvs) (hg : Gl X x) (hm : behindInMarks .In (.Name x xp) = false) (ha : SE e X W a m) (hd : (x == ("__debug__" : Str)) = false := by decide) : SE e X W (.Compare a [.In] [.Name x xp] pos) (eUn (inKI false kvs) m) := by
  obtain ⟨d, es, n, h1, h2, h3⟩ := h
  obtain ⟨ta, a1, a2⟩ := ha.ex
  exact ⟨_, pe_cmpR (r := rInK X d false) (op_in_kd h2) a1 (pe_glob (v := .ref d) hg h1 rfl hd) hm, tUn_te (p1_inKI (neg := false) h2 h3) a2⟩
theorem se_niK {x : Str} {xp : Pos} {kvs : List (Str × Int)} (h : GDic X.K X.w X.mg x kvs) (hg : Gl X x) (hm : behindInMarks .NotIn (.Name x xp) = false) (ha : SE e X W a m) (hd : (x == ("__debug__" : Str)) = false := by decide) : SE e X W (.Compare a [.NotIn] [.Name x xp] pos) (eUn (inKI true kvs) m) := by
  obtain ⟨d, es, n, h1, h2, h3⟩ := h
  obtain ⟨ta, a1, a2⟩ := ha.ex
  exact ⟨_, pe_cmpR (r := rInK X d true) (op_notIn_kd h2) a1 (pe_glob (v := .ref d) hg h1 rfl hd) hm, tUn_te (p1_inKI (neg := true) h2 h3) a2⟩
theorem st_inK {x : Str} {xp : Pos} {kvs : List (Str × Int)} (h : GDic X.K X.w X.mg x kvs) (hg : Gl X x) (hm : behindInMarks .In (.Name x xp) = false) (ha : SE e X W a m) (hd : (x == ("__debug__" : Str)) = false := by decide) : ST e X W (.Compare a [.In] [.Name x xp] pos) (tV (eUn (inKI false kvs) m)) := by
  obtain ⟨d, es, n, h1, h2, h3⟩ := h
  obtain ⟨ta, a1, a2⟩ := ha.ex
  exact ⟨_, pt_cmpR (r := rInK X d false) (op_in_kd h2) a1 (pe_glob (v := .ref d) hg h1 rfl hd) hm, tTest_te (tUn_te (p1_inKI (neg := false) h2 h3) a2)⟩
theorem st_niK {x : Str} {xp : Pos} {kvs : List (Str × Int)} (h : GDic X.K X.w X.mg x kvs) (hg : Gl X x) (hm : behindInMarks .NotIn (.Name x xp) = false) (ha : SE e X W a m) (hd : (x == ("__debug__" : Str)) = false := by decide) : ST e X W (.Compare a [.NotIn] [.Name x xp] pos) (tV (eUn (inKI true kvs) m)) := by
  obtain ⟨d, es, n, h1, h2, h3⟩ := h
  obtain ⟨ta, a1, a2⟩ := ha.ex
  exact ⟨_, pt_cmpR (r := rInK X d true) (op_notIn_kd h2) a1 (pe_glob (v := .ref d) hg h1 rfl hd) hm, tTest_te (tUn_te (p1_inKI (neg := true) h2 h3) a2)⟩
theorem se_ixK {x : Str} {xp : Pos} {kvs : List (Str × Int)} (h : GDic X.K X.w X.mg x kvs) (hg : Gl X x) (ha : SE e X W a m) (hs : PlainIx a) (hd : (x == ("__debug__" : Str)) = false := by decide) : SE e X W (.Subscript (.Name x xp) a pos) (eUn (ixKI kvs) m) := by
  obtain ⟨d, es, n, h1, h2, h3⟩ := h
  obtain ⟨ta, a1, a2⟩ := ha.ex
  refine ⟨_, pe_ix ix_kdict (pe_glob (v := .ref d) hg h1 rfl hd) a1 hs, fun r σ H F fm Q hC R q => ?_⟩
  refine tUn_te (e := e) (W := W) (m := m) (f := ixKI kvs) (r := fun v H Q => rIxD X.K X.w (.ref d) v H Q) (fun y v H F Q hv q => ?_) a2 r σ H F fm Q hC R q
  cases y <;> first | exact q.elim | skip
  rename_i z
  cases hv
  obtain ⟨g1, g2⟩ := gd_ns h2 h3 z
  have q0 : PQ e H F ((lkI kvs z).map fun i => .val (.int i)) Q := q
  revert q0; clear q; intro q
  cases w : lkI kvs z with
  | none => rw [w] at q; exact q.elim
  | some i =>
    rw [w] at q
    obtain ⟨t, ht⟩ := g1 i w
    exact ⟨d, z, .int i, rfl, rfl, ⟨es, n, _, h2.at_, h2.lit, ht, ⟨t, rfl⟩⟩, q _ rfl⟩

/-! ### repetitions -/
def repD : D → D → Option R0
  | .lst l, .int k => if k.natAbs < 1000000 ∧ l.length * k.toNat ≤ 1000000 then some (.own (.lst (List.replicate k.toNat l).flatten)) else none
  | _, _ => none
def mulA : D → D → Option R0 := els mulD repD
theorem rep_rl {F : Hp} {l : List D} {vs : List V} (h : RepL e F l vs) : ∀ n : Nat, RepL e F (List.replicate n l).flatten (List.replicate n vs).flatten
  | 0 => rfl
  | n + 1 => by
    rw [List.replicate_succ, List.replicate_succ, List.flatten_cons, List.flatten_cons]
    exact h.app (rep_rl h n)
theorem p2_rep : P2 e repD rRep := fun d1 d2 v1 v2 H F Q h1 h2 q => by
  cases d1 <;> cases d2 <;> first | exact q.elim | skip
  rename_i l k
  cases h2
  obtain ⟨p, vs, rfl, g1, g2⟩ := h1
  have q' : PQ e H F (if k.natAbs < 1000000 ∧ l.length * k.toNat ≤ 1000000 then some (.own (.lst (List.replicate k.toNat l).flatten)) else none) Q := q
  by_cases z : k.natAbs < 1000000 ∧ l.length * k.toNat ≤ 1000000
  · rw [if_pos z] at q'
    exact ⟨p, k, vs, rfl, rfl, g1, by omega, by omega, by rw [g2.len]; exact big_le z.2, fun p' hp => q' p' (.lst _) hp (rep_rl g2 _)⟩
  · rw [if_neg z] at q'; exact q'.elim
end
end Mi
namespace Mi
open PySem L2
section
variable {e : En} {X : Cx} {W : Wi} {io : List Nat} {a b c tg : Expr} {m n k : ME} {pos : Pos}
/-! ### a text repeated -/
def rpS (x : Str) (k : Int) : Str := if k < 1 then Str.empty else if (k == 1 || x.length == 0) = true then x else ⟨(List.replicate k.toNat x.cps).foldl (· ++ ·) #[]⟩
def repS : D → D → Option R0
  | .str x, .int k => if k.natAbs < 100000 ∧ x.length ≤ 10 then some (.val (.str (rpS x k))) else none
  | _, _ => none
def rRepS : R2 := fun x y H Q => ∃ (z : Str) (k : Int), x = .str z ∧ y = .int k ∧ k.natAbs < 100000 ∧ z.length ≤ 10 ∧ Q (.str (rpS z k)) H
theorem fold_size (a : Array Nat) : ∀ (n : Nat) (b : Array Nat), ((List.replicate n a).foldl (· ++ ·) b).size = b.size + n * a.size
  | 0, b => by simp
  | n + 1, b => by
    rw [List.replicate_succ, List.foldl_cons, fold_size a n, Array.size_append, Nat.succ_mul]
    omega
theorem op_repS : OpR X (binaryOp .Mult) rRepS := by
  intro pins s σ H x y v u Q I rx ry h
  obtain ⟨z, k, rfl, rfl, hk, hz, q⟩ := h
  obtain ⟨t, rfl⟩ := rx
  obtain ⟨t', rfl⟩ := ry
  refine PySem.P.mul_str (by
    have h1 : ¬ k < -(2 ^ 63 : Int) := by omega
    have h2 : ¬ k ≥ (2 ^ 63 : Int) := by omega
    rw [decide_eq_false h1, decide_eq_false h2]; rfl) (fun h1 _ => ?_) (fun h1 _ => ?_) ?_
  · have hp : 0 < k := by omega
    have : (10 : Int) ≤ (2 ^ 63 - 1) / k := (Int.le_ediv_iff_mul_le hp).mpr (by omega)
    omega
  · have h3 : z.length * k.toNat ≤ 1000000 := Nat.le_trans (Nat.mul_le_mul hz (show k.toNat ≤ 100000 by omega)) (by decide)
    exact decide_eq_false (by have := big_le h3; omega)
  · unfold rpS at q
    by_cases h1 : k < 1
    · rw [if_pos h1] at q ⊢
      exact ⟨by decide, ⟨.str Str.empty, H, I.tok _, ⟨_, rfl⟩, q⟩⟩
    · rw [if_neg h1] at q ⊢
      by_cases h2 : (k == 1 || z.length == 0) = true
      · rw [if_pos h2] at q ⊢
        exact ⟨.str z, H, I, ⟨_, rfl⟩, q⟩
      · rw [if_neg h2] at q ⊢
        have h3 : z.length * k.toNat ≤ 1000000 := Nat.le_trans (Nat.mul_le_mul hz (show k.toNat ≤ 100000 by omega)) (by decide)
        refine ⟨?_, ⟨.str _, H, I.tok _, ⟨_, rfl⟩, q⟩⟩
        show ((List.replicate k.toNat z.cps).foldl (· ++ ·) #[]).size ≤ sizeLine
        rw [fold_size]
        refine big_le (Nat.le_trans ?_ h3)
        rw [Nat.mul_comm]
        show 0 + z.cps.size * k.toNat ≤ z.cps.size * k.toNat
        omega
theorem p2_repS : P2 e repS rRepS := fun d1 d2 v1 v2 H F Q h1 h2 q => by
  cases d1 <;> cases d2 <;> first | exact q.elim | skip
  rename_i x k
  cases h1; cases h2
  have q' : PQ e H F (if k.natAbs < 100000 ∧ x.length ≤ 10 then some (.val (.str (rpS x k))) else none) Q := q
  by_cases z : k.natAbs < 100000 ∧ x.length ≤ 10
  · rw [if_pos z] at q'
    exact ⟨x, k, rfl, rfl, z.1, z.2, q' _ rfl⟩
  · rw [if_neg z] at q'; exact q'.elim
end
end Mi
namespace Mi
open PySem L2
/-! ### f() of a def that raises nothing -/
def noXO {α : Type} : Ou α → Ou α
  | .ok a r => .ok a r
  | _ => .no
def eCall0 (g : MS) : ME := fun r => noXO (callO [] r (g []))
section
variable {e : En} {X : Cx} {W : Wi} {x : Str} {p pos : Pos} {k : Nat} {f : Addr} {fd : FuncData} {g : MS}
theorem se_call0 (F : FnOk X.prog X.w X.K X.mg X.base (L2.CX X.prog X.w) k f fd [] (spOf e 0 g)) (hr : Room k X.A) (hg : Gl X x) (hm : X.mg x = some (.ref f)) (hk : PySem.W.keepIn X.K (.ref f) = true) (hb : Binds X.K fd [] []) (tk : Takes X W.w)
    (hdb : (x == ("__debug__" : Str)) = false := by decide) : SE e X W (.Call (.Name x p) [] [] pos) (eCall0 g) := by
  refine ⟨_, pe_call0 (E := fun _ _ _ => False) F hr hg hm hk hb .nil (passes_call tk fun _ _ _ _ z => z.elim) hdb, fun r σ H F' fm Q hC R q => ?_⟩
  refine call_sp (W := ⟨fun _ _ _ _ => False, fun _ => True⟩) (l := []) R (show ArgsR e σ F' [] [] from rfl) List.nodup_nil rfl ?_
  have q' : Po e W fm F' σ (KE' e fm σ Q) (noXO (callO [] r (g []))) := q
  show Po e _ fm F' σ (KE' e fm σ Q) (callO [] r (g []))
  cases z : callO [] r (g []) with
  | ok a w => rw [z] at q'; exact q'
  | ex y w => rw [z] at q'; exact q'.elim
  | no => rw [z] at q'; exact q'
end
end Mi
namespace Mi
open PySem L2
/-! ### tuple + tuple, any of them empty -/
def eAddT (m n : ME) : ME := fun r => (fz m r).bd fun d1 r1 => (fz n r1).bd fun d2 r2 => match d1, d2 with
  | .tup a, .tup b => if a.length + b.length ≤ 1000000 then .ok (.val (.tup (a ++ b))) r2 else .no
  | _, _ => .no
section
variable {e : En} {X : Cx} {W : Wi} {a b : Expr} {m n : ME} {pos : Pos}
theorem se_addT (hK : X.K = e.K) (ha : SE e X W a m) (hb : SE e X W b n) : SE e X W (.BinOp a .Add b pos) (eAddT m n) := by
  obtain ⟨ta, a1, a2⟩ := ha.fz.ex
  obtain ⟨tb, b1, b2⟩ := hb.fz.ex
  refine ⟨_, pe_op op_catA a1 b1, fun r σ H F fm Q hC R q => a2 r σ H F fm _ hC R ?_⟩
  refine (Po.bd q).mono fun d1 r1 H1 F1 R1 s1 q1 v1 h1 => b2 r1 σ H1 F1 fm _ hC R1 ?_
  refine (Po.bd q1).mono fun d2 r2 H2 F2 R2 s2 q2 v2 h2 => ?_
  cases d1 <;> cases d2 <;> first | exact q2.elim | skip
  rename_i l1 l2
  have q3 : Po e W fm F2 σ (KE' e fm σ Q) (if l1.length + l2.length ≤ 1000000 then .ok (.val (.tup (l1 ++ l2))) r2 else .no) := q2
  by_cases z : l1.length + l2.length ≤ 1000000
  · rw [if_pos z] at q3
    have h1' := h1.mono s2
    obtain ⟨p, vs, rfl, f1, g1⟩ := id h1'
    obtain ⟨p', ws, rfl, f2, g2⟩ := id h2
    refine ⟨p, p', vs, ws, rfl, rfl, by rw [hK]; exact R2.fh.sqT (tupT f1), by rw [hK]; exact R2.fh.sqT (tupT f2), by rw [g1.len, g2.len]; exact big_le z, fun ev => ?_, fun _ ew => ?_, fun _ _ p2 hp => ?_⟩
    · have : l1 = [] := List.eq_nil_of_length_eq_zero (by rw [← g1.len, ev]; rfl)
      subst this
      exact q3 H2 F2 R2 (Same.refl _) _ h2
    · have : l2 = [] := List.eq_nil_of_length_eq_zero (by rw [← g2.len, ew]; rfl)
      subst this
      rw [List.append_nil] at q3
      exact q3 H2 F2 R2 (Same.refl _) _ h1'
    · obtain ⟨F3, R3, s3, rp⟩ := R2.frzN (o := .tup (vs ++ ws)) (d := .tup (l1 ++ l2)) hp (g1.app g2)
      exact q3 _ F3 R3 s3 _ rp
  · rw [if_neg z] at q3; exact q3.elim
end
end Mi

end
section
/-! Mi30: mirrors computed: the equations by which simp runs a mirror; the drawing of scripts. -/
namespace Mi
open PySem L2

def rgO (d : D) (r1 : Rho) : Ou (List D) := match d with
  | .int n => if n.natAbs < 2 ^ 62 then .ok (rgL 0 n.toNat) r1 else .no
  | _ => .no
def rgP (d d2 : D) (r2 : Rho) : Ou (List D) := match d, d2 with
  | .int i, .int j => if i.natAbs < 2 ^ 62 ∧ j.natAbs < 2 ^ 62 then .ok (rgL i (j - i).toNat) r2 else .no
  | _, _ => .no
section
variable (r : Rho) (m n : ME) (d d1 d2 : D) (i j k : Nat) (t u : MT) (s s' : MS) (f : D → D → Option R0) (g : D → Option R0) (io : List Nat)
@[simp] theorem eC_e : eC d r = .ok (.val d) r := rfl
@[simp] theorem eVar_v (h : r[i]? = some (.val d)) : eVar i r = .ok (.val d) r := by unfold eVar; rw [h]
@[simp] theorem eVar_o (h : r[i]? = some (.own d)) : eVar i r = .ok (.bor i) r := by unfold eVar; rw [h]
@[simp] theorem look_b (h : r[i]? = some (.own d)) : look (.bor i) r = some d := by rw [look_bor, h]
@[simp] theorem frz_b (h : r[i]? = some (.own d)) : frz (.bor i) r = .ok d (r.set i (.val d)) := by rw [frz_bor, h]
@[simp] theorem ownB_o (h : r[i]? = some (.own d)) : ownB r i = true := by unfold ownB; rw [h]
@[simp] theorem setI_o {l : List D} {z : Int} (h : r[i]? = some (.own (.lst l))) : setI i (.int z) d r = match ixN l.length z with
      | some j => .nx (r.set i (.own (.lst (l.set j d))))
      | none => .no := by unfold setI; rw [h] <;> rfl
@[simp] theorem setI_d {ks : List Key} {l : List D} {k : D} {kk : Key} (h : r[i]? = some (.own (.dK ks l))) (hk : keyD k = some kk) (hl : ks.length < 1000000) : setI i k d r = .nx (r.set i (.own (.dK (ptK ks kk) (ptL ks l kk d)))) := by
  unfold setI; rw [h]
  show (match keyD k with | some k => if ks.length < 1000000 then So.nx (r.set i (.own (.dK (ptK ks k) (ptL ks l k d)))) else .no | none => .no) = _
  rw [hk]
  show (if ks.length < 1000000 then _ else _) = _
  rw [if_pos hl]
@[simp] theorem keyD_i (i : Int) : keyD (.int i) = some (.inl i) := rfl
@[simp] theorem keyD_s (x : Str) : keyD (.str x) = some (.inr x) := rfl
@[simp] theorem setF_o {c : Nat} {l : List D} (h : r[i]? = some (.own (.ins c l))) (hj : j = l.length) : setF i c j d r = .nx (r.set i (.own (.ins c (l ++ [d])))) := by unfold setF; rw [h]; simp [hj]
@[simp] theorem retR_v : retR io (.val d) r = .rt (.val d) r := rfl
@[simp] theorem retR_o : retR io (.own d) r = .rt (.own d) r := rfl
@[simp] theorem retR_b (h : r[i]? = some (.own d)) : retR io (.bor i) r = if io.contains i = true then .rt (.val d) (r.set i (.val d)) else .rt (.own d) (r.set i .un) := by show (match r[i]? with | some (.own d) => _ | some (.val d) => _ | _ => _) = _; rw [h]
@[simp] theorem gN_e : gN i d r = some (r.set i (.val d)) := rfl
@[simp] theorem fin_e (r' : Rho) (f : Rho → So) (h : r.length ≤ r'.length) : fin io r r' f = f (back io 0 r r') := by unfold fin; rw [if_pos h]
@[simp] theorem back_0 (r' : Rho) : back io i [] r' = [] := by unfold back; cases r' <;> rfl
@[simp] theorem back_1 (a b : LV) (r' : Rho) : back io i (a :: r) (b :: r') = (if io.contains i = true then b else a) :: back io (i + 1) r r' := rfl
@[simp] theorem okA_0 : okA io i [] = true := rfl
@[simp] theorem okA_v : okA io i (.val d :: r) = okA io (i + 1) r := rfl
@[simp] theorem okA_o : okA io i (.own d :: r) = (io.contains i && okA io (i + 1) r) := rfl
@[simp] theorem argL_v : argL r (.val d) = .val d := rfl
@[simp] theorem argL_b (h : r[i]? = some (.own d)) : argL r (.bor i) = .own d := by show (r[i]?).getD .un = _; rw [h]; rfl
@[simp] theorem borI_0 : borI [] = [] := rfl
@[simp] theorem borI_v (l : List RV) : borI (.val d :: l) = borI l := rfl
@[simp] theorem borI_b (l : List RV) : borI (.bor i :: l) = i :: borI l := rfl
@[simp] theorem nodupB_0 : nodupB [] = true := rfl
@[simp] theorem nodupB_1 (l : List Nat) : nodupB (i :: l) = (!(l.contains i) && nodupB l) := rfl
@[simp] theorem wback_0 (w : Rho) : wback [] w r = r := by cases w <;> rfl
@[simp] theorem wback_v (l : List RV) (lv : LV) (w : Rho) : wback (.val d :: l) (lv :: w) r = wback l w r := rfl
@[simp] theorem wback_b (l : List RV) (lv : LV) (w : Rho) : wback (.bor i :: l) (lv :: w) r = wback l w (r.set i lv) := rfl
@[simp] theorem sNil_e : sNil r = .nx r := rfl
@[simp] theorem sSeq_e : sSeq s s' r = (s r).bd s' := rfl
@[simp] theorem sIf_e : sIf t s s' r = (t r).st fun b r1 => if b = true then s r1 else s' r1 := rfl
@[simp] theorem sBk_e : sBk r = .bk r := rfl
@[simp] theorem sCt_e : sCt r = .ct r := rfl
@[simp] theorem sSet_e : sSet i m r = (m r).st fun rv r1 => match rv with
  | .val d => .nx (r1.set i (.val d))
  | .own d => .nx (r1.set i (.own d))
  | .bor j => (frz (.bor j) r1).st fun d r2 => .nx (r2.set i (.val d)) := rfl
@[simp] theorem sRet_e : sRet io m r = (m r).st (retR io) := rfl
@[simp] theorem sRetN_e : sRetN r = .rt (.val .non) r := rfl
@[simp] theorem stl_e : stl m r = (m r).bd fun rv r' => .ok (stR rv) r' := rfl
@[simp] theorem fz_e : fz m r = (m r).bd frz := rfl
@[simp] theorem ofD_e (m : Rho → Ou D) : ofD m r = (m r).bd fun d r' => .ok (.val d) r' := rfl
@[simp] theorem stR_v : stR (.val d) = .val d := rfl
@[simp] theorem stR_o : stR (.own d) = .val d := rfl
@[simp] theorem stR_b : stR (.bor i) = .bor i := rfl
@[simp] theorem look_v : look (.val d) r = some d := rfl
@[simp] theorem frz_v : frz (.val d) r = .ok d r := rfl
@[simp] theorem frz_o : frz (.own d) r = .ok d r := rfl
@[simp] theorem res_v : res (some (.val d)) r = .ok (.val d) r := rfl
@[simp] theorem res_ol (l : List D) : res (some (.own (.lst l))) r = .ok (.own (.lst l)) r := rfl
@[simp] theorem res_ot (l : List D) : res (some (.own (.tup l))) r = .ok (.val (.tup l)) r := rfl
@[simp] theorem res_oi (c : Nat) (l : List D) : res (some (.own (.ins c l))) r = .ok (.own (.ins c l)) r := rfl
@[simp] theorem eOp_e : eOp f m n r = (stl m r).bd fun x r1 => (stl n r1).bd fun y r2 => match look x r2, look y r2 with
  | some d1, some d2 => res (f d1 d2) r2
  | _, _ => .no := rfl
@[simp] theorem eUn_e : eUn g m r = (stl m r).bd fun x r1 => match look x r1 with
  | some d => res (g d) r1
  | none => .no := rfl
@[simp] theorem tV_e : tV m r = (m r).bd fun rv r' => match rv with
  | .val (.bl b) => .ok b r'
  | _ => .no := rfl
@[simp] theorem tAnd_e : tAndM t u r = (t r).bd fun b r1 => if b = true then u r1 else .ok false r1 := rfl
@[simp] theorem tOr_e : tOrM t u r = (t r).bd fun b r1 => if b = true then .ok true r1 else u r1 := rfl
@[simp] theorem tNot_e : tNotM t r = (t r).bd fun b r1 => .ok (!b) r1 := rfl
@[simp] theorem tTru_e : tTru m r = (stl m r).bd fun rv r1 => match look rv r1 with
  | some d => match truD d with
    | some b => .ok b r1
    | none => .no
  | none => .no := rfl
@[simp] theorem eAnd_e : eAnd m n r = (m r).bd fun rv r1 => match rv with
  | .val (.bl b) => if b = true then n r1 else .ok (.val (.bl false)) r1
  | _ => .no := rfl
@[simp] theorem eOr_e : eOr m n r = (m r).bd fun rv r1 => match rv with
  | .val (.bl b) => if b = true then .ok (.val (.bl true)) r1 else n r1
  | _ => .no := rfl
@[simp] theorem eNot_e : eNot m r = (m r).bd fun rv r1 => match rv with
  | .val (.bl b) => .ok (.val (.bl !b)) r1
  | _ => .no := rfl
@[simp] theorem eIf_e : eIf t m n r = (t r).bd fun b r1 => if b = true then m r1 else n r1 := rfl
@[simp] theorem cN_e : cN r = .ok [] r := rfl
@[simp] theorem cV_e (w : Rho → Ou (List RV)) : cV m w r = (fz m r).bd fun d r1 => (w r1).bd fun l r2 => .ok (.val d :: l) r2 := rfl
@[simp] theorem cB_e (w : Rho → Ou (List RV)) : cB m w r = (stl m r).bd fun rv r1 => (w r1).bd fun l r2 => .ok (rv :: l) r2 := rfl
@[simp] theorem aN_e : aN r = .ok [] r := rfl
@[simp] theorem aC_e (w : Rho → Ou (List D)) : aC m w r = (fz m r).bd fun d r1 => (w r1).bd fun l r2 => .ok (d :: l) r2 := rfl
@[simp] theorem eTup_e (w : Rho → Ou (List D)) : eTup w r = (w r).bd fun l r1 => .ok (.val (.tup l)) r1 := rfl
@[simp] theorem eLst_e (w : Rho → Ou (List D)) : eLst w r = (w r).bd fun l r1 => .ok (.own (.lst l)) r1 := rfl
@[simp] theorem eCall_e (f : MS) (w : Rho → Ou (List RV)) : eCall f w r = (w r).bd fun l r1 => if nodupB (borI l) = true then callO l r1 (f (l.map (argL r1))) else .no := by
  unfold eCall
  cases w r with
  | ok a r1 => simp only [bd_ok]; split <;> first | rfl | (cases f (a.map (argL r1)) <;> rfl)
  | _ => rfl
@[simp] theorem callO_r (l : List RV) (a : R0) (w : Rho) : callO l r (.rt a w) = .ok (rvOf a) (wback l w r) := rfl
@[simp] theorem callO_x (l : List RV) (x : Ex) (w : Rho) : callO l r (.ex x w) = .ex x (wback l w r) := rfl
@[simp] theorem rvOf_v : rvOf (.val d) = .val d := rfl
@[simp] theorem rvOf_o : rvOf (.own d) = .own d := rfl
@[simp] theorem mkFn_e (n k : Nat) (body : MS) : mkFn n k io body r = if r.length = n ∧ okA io 0 r = true then match body (r ++ List.replicate k .un) with
  | .nx r' => fin io r r' (.rt (.val .non))
  | .rt a r' => fin io r r' (.rt a)
  | .ex x r' => fin io r r' (.ex x)
  | _ => .no else .no := rfl
@[simp] theorem iLst_e : iLst m r = (fz m r).bd fun d r1 => match d with
  | .lst l => .ok l r1
  | .scr l => .ok l r1
  | _ => .no := rfl
@[simp] theorem iTupM_e : iTupM m r = (fz m r).bd fun d r1 => match d with
  | .tup l => .ok l r1
  | _ => .no := rfl
@[simp] theorem iRg1_e : iRg1 m r = (fz m r).bd rgO := by
  unfold iRg1
  rfl
@[simp] theorem iRg2_e : iRg2 m n r = (fz m r).bd fun d r1 => (fz n r1).bd fun d2 r2 => rgP d d2 r2 := by
  unfold iRg2
  rfl
@[simp] theorem sFor_e (g : MG) (w : Rho → Ou (List D)) : sFor g w s r = (w r).st fun ds r1 => forL g s ds r1 := rfl
@[simp] theorem sStL_e : sStL i m n r = (fz n r).st fun d r1 => if ownB r1 i = true then (fz m r1).st fun k r2 => setI i k d r2 else .no := rfl
@[simp] theorem sPar_e (w : Rho → Ou (List D)) : sPar i j w r = (w r).st fun l r1 => match l with
  | [x, y] => .nx ((r1.set i (.val x)).set j (.val y))
  | _ => .no := rfl
@[simp] theorem sFldM_e (c : Nat) : sFldM i c j m r = (fz m r).st fun d r1 => setF i c j d r1 := rfl
@[simp] theorem eMake_e (c : Nat) (g : MS) (dds : List D) (w : Rho → Ou (List RV)) : eMake c g dds w r = (w r).bd fun l r1 => if nodupB (borI l) = true then makeO (l ++ dds.map RV.val) r1 (g (.own (.ins c []) :: (l ++ dds.map RV.val).map (argL r1))) else .no := rfl
@[simp] theorem makeO_r (l : List RV) (w : Rho) : makeO l r (.rt (.val .non) (.own d :: w)) = .ok (.own d) (wback l w r) := rfl
@[simp] theorem makeO_x (l : List RV) (x : Ex) (lv : LV) (w : Rho) : makeO l r (.ex x (lv :: w)) = .ex x (wback l w r) := rfl
@[simp] theorem eBin_e (c : Nat) (g : MS) : eBin c g m n r = (fz m r).bd fun d1 r1 => (fz n r1).bd fun d2 r2 => if isIns c d1 && isIns c d2 then callO [.val d1, .val d2] r2 (g [.val d1, .val d2]) else .no := rfl
@[simp] theorem eNegO_e (c : Nat) (g : MS) : eNegO c g m r = (fz m r).bd fun d1 r1 => if isIns c d1 = true then callO [.val d1] r1 (g [.val d1]) else .no := rfl
@[simp] theorem sRaise_e (x : Ex) : sRaise x r = .ex x r := rfl
@[simp] theorem sTryA_e (tb : Nat → Option Bool) (w : Ex → MS) : sTryA i tb s w r = match s r with
  | .ex x r1 => match tb x.c with
    | some true => if i < r1.length then aft i (w x (r1.set i .un)) else .no
    | some false => .ex x r1
    | none => .no
  | o => o := by unfold sTryA sTry; rfl
@[simp] theorem sTryO_e (tb : Nat → Option Bool) (w : Ex → MS) : sTryO tb s w r = match s r with
  | .ex x r1 => match tb x.c with
    | some true => noX (w x r1)
    | some false => .ex x r1
    | none => .no
  | o => o := by unfold sTryO sTry; rfl
@[simp] theorem eIsE_e (b : Bool) : eIsE i b r = .ok (.val (.bl b)) r := rfl
@[simp] theorem eFld_e (c : Nat) : eFld c j m r = eUn (fldD c j) m r := rfl
end
/-- behind a body of a for -/
def So.lp (o : So) (k : MS) : So := match o with
  | .nx r => k r
  | .ct r => k r
  | .bk r => .nx r
  | o => o
@[simp] theorem lp_nx (r : Rho) (k : MS) : (So.nx r).lp k = k r := rfl
@[simp] theorem lp_ct (r : Rho) (k : MS) : (So.ct r).lp k = k r := rfl
@[simp] theorem lp_bk (r : Rho) (k : MS) : (So.bk r).lp k = .nx r := rfl
@[simp] theorem lp_rt (a : R0) (r : Rho) (k : MS) : (So.rt a r).lp k = .rt a r := rfl
@[simp] theorem lp_ex (x : Ex) (r : Rho) (k : MS) : (So.ex x r).lp k = .ex x r := rfl
@[simp] theorem lp_no (k : MS) : So.no.lp k = .no := rfl
theorem lp_if {c : Prop} [Decidable c] (a b : So) (k : MS) : (if c then a else b).lp k = if c then a.lp k else b.lp k := by split <;> rfl
@[simp] theorem forL_0 (g : MG) (b : MS) (r : Rho) : forL g b [] r = .nx r := rfl
@[simp] theorem forL_n (i : Nat) (b : MS) (d : D) (ds : List D) (r : Rho) : forL (gN i) b (d :: ds) r = (b (r.set i (.val d))).lp (forL (gN i) b ds) := by
  show (match b (r.set i (.val d)) with | .nx r2 => _ | .ct r2 => _ | .bk r2 => _ | o => _) = _
  cases b (r.set i (.val d)) <;> rfl
theorem forL_g (g : MG) (b : MS) (d : D) (ds : List D) (r r1 : Rho) (h : g d r = some r1) : forL g b (d :: ds) r = (b r1).lp (forL g b ds) := by
  show (match g d r with | none => _ | some r1 => _) = _
  rw [h]
  show (match b r1 with | .nx r2 => forL g b ds r2 | .ct r2 => forL g b ds r2 | .bk r2 => .nx r2 | o => o) = _
  cases b r1 <;> rfl
/-- int operations on data -/
@[simp] theorem addD_i (a b : Int) : addD (.int a) (.int b) = some (.val (.int (a + b))) := rfl
@[simp] theorem subD_i (a b : Int) : subD (.int a) (.int b) = some (.val (.int (a - b))) := rfl
/-- small enough for what the machine's ints are asked -/
def Sm (a : Int) : Prop := a.natAbs.log2 < 9000
def Rg (n : Int) : Prop := n.natAbs < 2 ^ 62
theorem log2_lt {n k : Nat} (h : n < 2 ^ k) (hk : 0 < k) : n.log2 < k := by
  by_cases z : n = 0
  · subst z; simpa using hk
  · exact (Nat.log2_lt z).mpr h
theorem Sm.le {a b : Int} (h : a.natAbs ≤ b.natAbs) (hb : Sm b) : Sm a := by
  by_cases z : a.natAbs = 0
  · show a.natAbs.log2 < 9000
    rw [z]; decide
  · refine Nat.lt_of_le_of_lt ?_ hb
    by_cases y : b.natAbs = 0
    · omega
    · exact (Nat.le_log2 y).mpr (Nat.le_trans (Nat.log2_self_le z) h)
@[simp] theorem Sm_lit (n : Nat) (h : n < 10715086071862673209484250490600018105614048117055336074437503883703510511249361224931983788156958581275946729175531468251871452856923140435984577574698574803934567774824230985421074605062371141877954182153046474983581941267398767559165543946077062914571196477686542167660429831652624386837205668069376) : Sm (no_index (OfNat.ofNat n) : Int) := by
  refine Nat.lt_of_lt_of_le (log2_lt (k := 1000) (n := n) (Nat.lt_of_lt_of_le h (by decide +kernel)) (by decide)) (by decide)
@[simp] theorem Sm_neg (a : Int) : Sm (-a) ↔ Sm a := by unfold Sm; rw [Int.natAbs_neg]
theorem Sm_bd {a B : Int} (h : Sm B) (h1 : -B ≤ a) (h2 : a ≤ B) : Sm a := Sm.le (by omega) h
@[simp] theorem Rg_lit (n : Nat) (h : n < 4611686018427387904) : Rg (no_index (OfNat.ofNat n) : Int) := h
@[simp] theorem mulD_i (a b : Int) (ha : Sm a) (hb : Sm b) : mulD (.int a) (.int b) = some (.val (.int (a * b))) := by
  have : a.natAbs.log2 + b.natAbs.log2 < 1000000 := by unfold Sm at ha hb; omega
  show (if a.natAbs.log2 + b.natAbs.log2 < 1000000 then _ else _) = _
  rw [if_pos this]
@[simp] theorem fdivD_i (a b : Int) (h0 : b ≠ 0) (hb : Sm b) : fdivD (.int a) (.int b) = some (.val (.int (a.fdiv b))) := by
  show (if b ≠ 0 ∧ b.natAbs.log2 < 9000 then _ else _) = _
  rw [if_pos ⟨h0, hb⟩]
@[simp] theorem modD_i (a b : Int) (h0 : b ≠ 0) : modD (.int a) (.int b) = some (.val (.int (a.fmod b))) := by
  show (if b ≠ 0 then _ else _) = _
  rw [if_pos h0]
@[simp] theorem powD_i (a b : Int) : powD (.int a) (.int b) = if 0 ≤ b ∧ b ≤ 1000000 ∧ a.natAbs < 18446744073709551616 then some (.val (.int (a ^ b.toNat))) else none := rfl
@[simp] theorem rgO_i (n : Int) (r : Rho) (h : Rg n) : rgO (.int n) r = .ok (rgL 0 n.toNat) r := by
  show (if n.natAbs < 2 ^ 62 then _ else _) = _
  rw [if_pos (show n.natAbs < 2 ^ 62 from h)]
@[simp] theorem rgP_i (i j : Int) (r : Rho) (h : Rg i) (h' : Rg j) : rgP (.int i) (.int j) r = .ok (rgL i (j - i).toNat) r := by
  show (if i.natAbs < 2 ^ 62 ∧ j.natAbs < 2 ^ 62 then _ else _) = _
  rw [if_pos ⟨h, h'⟩]
@[simp] theorem negD_i (a : Int) : negD (.int a) = some (.val (.int (-a))) := rfl
@[simp] theorem absD_i (a : Int) : absD (.int a) = some (.val (.int (a.natAbs : Int))) := by
  show some (R0.val (D.int (if a < 0 then -a else a))) = _
  congr 3; split <;> omega
@[simp] theorem intD_i (a : Int) : intD (.int a) = some (.val (.int a)) := rfl
@[simp] theorem ltD_i (a b : Int) : ltD (.int a) (.int b) = some (.val (.bl (decide (a < b)))) := rfl
@[simp] theorem leD_i (a b : Int) : leD (.int a) (.int b) = some (.val (.bl (decide (a ≤ b)))) := rfl
@[simp] theorem gtD_i (a b : Int) : gtD (.int a) (.int b) = some (.val (.bl (decide (b < a)))) := rfl
@[simp] theorem geD_i (a b : Int) : geD (.int a) (.int b) = some (.val (.bl (decide (b ≤ a)))) := rfl
@[simp] theorem eqD_i (a b : Int) : eqD (.int a) (.int b) = some (.val (.bl (decide (a = b)))) := rfl
@[simp] theorem neD_i (a b : Int) : neD (.int a) (.int b) = some (.val (.bl (!decide (a = b)))) := rfl
@[simp] theorem eqD_s (a b : Str) : eqD (.str a) (.str b) = some (.val (.bl (decide (a = b)))) := rfl
@[simp] theorem neD_s (a b : Str) : neD (.str a) (.str b) = some (.val (.bl (!decide (a = b)))) := rfl
@[simp] theorem neD_b (a b : Bool) : neD (.bl a) (.bl b) = some (.val (.bl (!decide (a = b)))) := rfl
@[simp] theorem eqD_nn : eqD .non .non = some (.val (.bl true)) := rfl
@[simp] theorem eqD_is (a : Int) (b : Str) : eqD (.int a) (.str b) = some (.val (.bl false)) := rfl
@[simp] theorem eqD_si (a : Str) (b : Int) : eqD (.str a) (.int b) = some (.val (.bl false)) := rfl
@[simp] theorem isN_n : isN .non .non = some (.val (.bl true)) := rfl
@[simp] theorem isN_i (a : Int) : isN (.int a) .non = some (.val (.bl false)) := rfl
@[simp] theorem isN_s (a : Str) : isN (.str a) .non = some (.val (.bl false)) := rfl
@[simp] theorem isN_t (l : List D) : isN (.tup l) .non = some (.val (.bl false)) := rfl
@[simp] theorem isN_l (l : List D) : isN (.lst l) .non = some (.val (.bl false)) := rfl
@[simp] theorem isN_o (c : Nat) (l : List D) : isN (.ins c l) .non = some (.val (.bl false)) := rfl
@[simp] theorem isNN_n : isNN .non .non = some (.val (.bl false)) := rfl
@[simp] theorem isNN_i (a : Int) : isNN (.int a) .non = some (.val (.bl true)) := rfl
@[simp] theorem isNN_s (a : Str) : isNN (.str a) .non = some (.val (.bl true)) := rfl
@[simp] theorem isNN_t (l : List D) : isNN (.tup l) .non = some (.val (.bl true)) := rfl
@[simp] theorem isNN_l (l : List D) : isNN (.lst l) .non = some (.val (.bl true)) := rfl
@[simp] theorem isNN_o (c : Nat) (l : List D) : isNN (.ins c l) .non = some (.val (.bl true)) := rfl
@[simp] theorem eqD_b (a b : Bool) : eqD (.bl a) (.bl b) = some (.val (.bl (decide (a = b)))) := rfl
@[simp] theorem lenD_l (l : List D) : lenD (.lst l) = some (.val (.int l.length)) := rfl
@[simp] theorem lenD_t (l : List D) : lenD (.tup l) = some (.val (.int l.length)) := rfl
@[simp] theorem listD_l (l : List D) : listD (.lst l) = some (.own (.lst l)) := rfl
@[simp] theorem listD_s (l : List D) : listD (.scr l) = some (.own (.lst l)) := rfl
@[simp] theorem listD_t (l : List D) : listD (.tup l) = some (.own (.lst l)) := rfl

@[simp] theorem atI_0 {α : Type} (a : α) (l : List α) : atI (a :: l) 0 = some a := by simp [atI, ixN]
@[simp] theorem atI_1 {α : Type} (a b : α) (l : List α) : atI (a :: b :: l) 1 = some b := by
  have : (1 : Int) < (l.length : Int) + 1 + 1 := by omega
  simp [atI, ixN, this]
@[simp] theorem atI_2 {α : Type} (a b c : α) (l : List α) : atI (a :: b :: c :: l) 2 = some c := by
  have : (2 : Int) < (l.length : Int) + 1 + 1 + 1 := by omega
  simp [atI, ixN, this]
@[simp] theorem atI_3 {α : Type} (a b c d : α) (l : List α) : atI (a :: b :: c :: d :: l) 3 = some d := by
  have : (3 : Int) < (l.length : Int) + 1 + 1 + 1 + 1 := by omega
  simp [atI, ixN, this]
theorem atI_nat {α : Type} {l : List α} {i : Int} {x : α} (h0 : 0 ≤ i) (h : l[i.toNat]? = some x) : atI l i = some x := by
  obtain ⟨h1, h2⟩ := List.getElem?_eq_some_iff.mp h
  have : i < (l.length : Int) := by omega
  simp [atI, ixN, h0, this, h1, h2]
@[simp] theorem ixD_l (l : List D) (i : Int) : ixD (.lst l) (.int i) = (atI l i).map .val := rfl
@[simp] theorem ixD_d (ks : List Key) (l : List D) (k : D) (kk : Key) (h : keyD k = some kk) : ixD (.dK ks l) k = (vl ks l kk).map .val := by
  show (match keyD k with | some k => (vl ks l k).map R0.val | none => none) = _
  rw [h]
@[simp] theorem lenD_d (ks : List Key) (l : List D) : lenD (.dK ks l) = some (.val (.int ks.length)) := rfl
@[simp] theorem ixD_t (l : List D) (i : Int) : ixD (.tup l) (.int i) = (atI l i).map .val := rfl

/-! ### the script's stream, a draw: the texts that all laws share -/
def g_stream : MS := mkFn 1 2 [] (sSeq (sSet 1 (eC (.int 17)))
    (sSeq (sFor (gN 2) (iLst (eVar 0))
    (sSet 1 (eOp modD (eUn intD (eOp addD (eOp addD (eOp mulD (eVar 1) (eC (.int 48271))) (eOp modD (eUn intD (eVar 2)) (eC (.int 65521)))) (eC (.int 1)))) (eC (.int 2147483647)))))
    (sRet [] (eLst (aC (eUn listD (eVar 0)) (aC (eC (.int 0)) (aC (eC (.int 0)) (aC (eVar 1) aN))))))))
def g_draw : MS := mkFn 2 1 [0] (sSeq (sIf (tAndM (tV (eOp eqD (eOp ixD (eVar 0) (eC (.int 1))) (eC (.int 0)))) (tV (eOp ltD (eOp ixD (eVar 0) (eC (.int 2))) (eUn lenD (eOp ixD (eVar 0) (eC (.int 0)))))))
    (sSeq (sStL 0 (eC (.int 1)) (eUn absD (eUn intD (eOp ixD (eOp ixD (eVar 0) (eC (.int 0))) (eOp ixD (eVar 0) (eC (.int 2)))))))
    (sStL 0 (eC (.int 2)) (eOp addD (eOp ixD (eVar 0) (eC (.int 2))) (eC (.int 1)))))
    sNil)
    (sSeq (sIf (tV (eOp eqD (eOp ixD (eVar 0) (eC (.int 1))) (eC (.int 0))))
    (sSeq (sStL 0 (eC (.int 3)) (eOp modD (eUn intD (eOp addD (eOp mulD (eOp ixD (eVar 0) (eC (.int 3))) (eC (.int 48271))) (eC (.int 11)))) (eC (.int 2147483647))))
    (sRet [0] (eOp modD (eUn intD (eOp fdivD (eOp ixD (eVar 0) (eC (.int 3))) (eC (.int 97)))) (eVar 1))))
    sNil)
    (sSeq (sSet 2 (eOp modD (eUn intD (eOp ixD (eVar 0) (eC (.int 1)))) (eVar 1)))
    (sSeq (sStL 0 (eC (.int 1)) (eOp fdivD (eOp ixD (eVar 0) (eC (.int 1))) (eVar 1)))
    (sRet [0] (eVar 2))))))
/-- a stream: what the script's numbers have become -/
structure Stm where
  ns : List Int
  a : Int
  b : Int
  c : Int
namespace Stm
def d (s : Stm) : D := .lst [.lst (s.ns.map .int), .int s.a, .int s.b, .int s.c]
structure Ok (s : Stm) : Prop where
  a0 : 0 ≤ s.a
  b0 : 0 ≤ s.b
  c0 : 0 ≤ s.c
  c1 : s.c < 2147483647
def fed (s : Stm) : Stm := if s.a = 0 ∧ s.b < s.ns.length then { s with a := (s.ns.getD s.b.toNat 0).natAbs, b := s.b + 1 } else s
def nc (s : Stm) : Int := (s.c * 48271 + 11).fmod 2147483647
def dv (s : Stm) (m : Int) : Int := if s.fed.a = 0 then (s.fed.nc.fdiv 97).fmod m else s.fed.a.fmod m
def dr (s : Stm) (m : Int) : Stm := if s.fed.a = 0 then { s.fed with c := s.fed.nc } else { s.fed with a := s.fed.a.fdiv m }
end Stm
def Dm (m : Int) : Prop := 1 ≤ m ∧ Sm m
@[simp] theorem Dm_lit (n : Nat) (h0 : n ≠ 0) (h : n < 10715086071862673209484250490600018105614048117055336074437503883703510511249361224931983788156958581275946729175531468251871452856923140435984577574698574803934567774824230985421074605062371141877954182153046474983581941267398767559165543946077062914571196477686542167660429831652624386837205668069376) : Dm (no_index (OfNat.ofNat n) : Int) := ⟨by
  show (1 : Int) ≤ ((n : Nat) : Int)
  omega, Sm_lit n h⟩
theorem Stm.Ok.fed {s : Stm} (h : s.Ok) : s.fed.Ok := by
  unfold Stm.fed
  split
  · exact ⟨by simp, by have := h.b0; simp; omega, h.c0, h.c1⟩
  · exact h
theorem Stm.Ok.dr {s : Stm} {m : Int} (h : s.Ok) (hm : Dm m) : (s.dr m).Ok := by
  have m1 := hm.1
  have := h.fed
  unfold Stm.dr
  split
  · exact ⟨this.a0, this.b0, Int.fmod_nonneg_of_pos _ (by omega), Int.fmod_lt_of_pos _ (by omega)⟩
  · exact ⟨Int.fdiv_nonneg this.a0 (by omega), this.b0, this.c0, this.c1⟩
theorem Stm.dv_0 (s : Stm) {m : Int} (hm : Dm m) : 0 ≤ s.dv m := by
  have := hm.1
  unfold Stm.dv
  split <;> exact Int.fmod_nonneg_of_pos _ (by omega)
theorem Stm.dv_1 (s : Stm) {m : Int} (hm : Dm m) : s.dv m < m := by
  have := hm.1
  unfold Stm.dv
  split <;> exact Int.fmod_lt_of_pos _ (by omega)
theorem g_tail {s : Stm} {m : Int} (hm : Dm m) (hs : s.Ok) : (sSeq (sIf (tV (eOp eqD (eOp ixD (eVar 0) (eC (.int 1))) (eC (.int 0))))
    (sSeq (sStL 0 (eC (.int 3)) (eOp modD (eUn intD (eOp addD (eOp mulD (eOp ixD (eVar 0) (eC (.int 3))) (eC (.int 48271))) (eC (.int 11)))) (eC (.int 2147483647))))
    (sRet [0] (eOp modD (eUn intD (eOp fdivD (eOp ixD (eVar 0) (eC (.int 3))) (eC (.int 97)))) (eVar 1))))
    sNil)
    (sSeq (sSet 2 (eOp modD (eUn intD (eOp ixD (eVar 0) (eC (.int 1)))) (eVar 1)))
    (sSeq (sStL 0 (eC (.int 1)) (eOp fdivD (eOp ixD (eVar 0) (eC (.int 1))) (eVar 1)))
    (sRet [0] (eVar 2))))) [.own s.d, .val (.int m), .un] = if s.a = 0 then .rt (.val (.int ((s.nc.fdiv 97).fmod m))) [.own { s with c := s.nc }.d, .val (.int m), .un] else .rt (.val (.int (s.a.fmod m))) [.own { s with a := s.a.fdiv m }.d, .val (.int m), .val (.int (s.a.fmod m))] := by
  obtain ⟨ns, a, b, c⟩ := s
  have hm0 : m ≠ 0 := by have := hm.1; omega
  have hml := hm.2
  have hc : Sm c := Sm_bd (Sm_lit 2147483647 (by decide)) (by have := hs.c0; simp at this; show -2147483647 ≤ _; omega) (Int.le_of_lt hs.c1)
  by_cases z : a = 0
  · subst z
    simp [Stm.d, Stm.nc, ixN, hm0, hc]
  · simp [Stm.d, ixN, hm0, hml, z]
theorem g_draw_e {s : Stm} {m : Int} (hm : Dm m) (hs : s.Ok) : g_draw [.own s.d, .val (.int m)] = .rt (.val (.int (s.dv m))) [.own (s.dr m).d, .val (.int m)] := by
  have H := g_tail hm hs.fed
  have E : g_draw [.own s.d, .val (.int m)] = match (sSeq (sIf (tV (eOp eqD (eOp ixD (eVar 0) (eC (.int 1))) (eC (.int 0))))
    (sSeq (sStL 0 (eC (.int 3)) (eOp modD (eUn intD (eOp addD (eOp mulD (eOp ixD (eVar 0) (eC (.int 3))) (eC (.int 48271))) (eC (.int 11)))) (eC (.int 2147483647))))
    (sRet [0] (eOp modD (eUn intD (eOp fdivD (eOp ixD (eVar 0) (eC (.int 3))) (eC (.int 97)))) (eVar 1))))
    sNil)
    (sSeq (sSet 2 (eOp modD (eUn intD (eOp ixD (eVar 0) (eC (.int 1)))) (eVar 1)))
    (sSeq (sStL 0 (eC (.int 1)) (eOp fdivD (eOp ixD (eVar 0) (eC (.int 1))) (eVar 1)))
    (sRet [0] (eVar 2))))) [.own s.fed.d, .val (.int m), .un] with
      | .nx r' => fin [0] [.own s.d, .val (.int m)] r' (.rt (.val .non))
      | .rt a r' => fin [0] [.own s.d, .val (.int m)] r' (.rt a)
      | .ex x r' => fin [0] [.own s.d, .val (.int m)] r' (.ex x)
      | _ => .no := by
    unfold g_draw
    rw [mkFn_e, if_pos (by simp)]
    congr 1
    rw [sSeq_e]
    obtain ⟨ns, a, b, c⟩ := s
    unfold Stm.fed
    by_cases z : a = 0
    · subst z
      by_cases y : b < ns.length
      · have b0 : 0 ≤ b := hs.b0
        have hb : b.toNat < ns.length := by omega
        have : atI (List.map D.int ns) b = some (.int (ns.getD b.toNat 0)) := atI_nat b0 (by simp [hb])
        simp [Stm.d, ixN, y, this]
      · simp [Stm.d, ixN, y]
    · simp [Stm.d, ixN, z]
  rw [E, H]
  unfold Stm.dv Stm.dr
  by_cases z : s.fed.a = 0
  · simp [z]
  · simp [z]
def Cg (c : Int) : Prop := 0 ≤ c ∧ c < 2147483647
theorem Cg.sm {c : Int} (h : Cg c) : Sm c := Sm_bd (Sm_lit 2147483647 (by decide)) (by have := h.1; show -2147483647 ≤ _; omega) (Int.le_of_lt h.2)
theorem Cg_mod (c : Int) : Cg (c.fmod 2147483647) := ⟨Int.fmod_nonneg_of_pos _ (by omega), Int.fmod_lt_of_pos _ (by omega)⟩
theorem g_loop (l : D) : ∀ (ns : List Int) (c : Int) (x : LV), Cg c → ∃ c' x', Cg c' ∧ forL (gN 2) (sSet 1 (eOp modD (eUn intD (eOp addD (eOp addD (eOp mulD (eVar 1) (eC (.int 48271))) (eOp modD (eUn intD (eVar 2)) (eC (.int 65521)))) (eC (.int 1)))) (eC (.int 2147483647)))) (ns.map .int) [.val l, .val (.int c), x] = .nx [.val l, .val (.int c'), x']
  | [], c, x, h => ⟨c, x, h, rfl⟩
  | n :: ns, c, x, h => by
    obtain ⟨c', x', h', e⟩ := g_loop l ns ((c * 48271 + n.fmod 65521 + 1).fmod 2147483647) (.val (.int n)) (Cg_mod _)
    refine ⟨c', x', h', ?_⟩
    have := h.sm
    rw [← e]
    simp [this]
theorem g_stream_e (ns : List Int) : ∃ s : Stm, s.Ok ∧ s.ns = ns ∧ g_stream [.val (.scr (ns.map .int))] = .rt (.own s.d) [.val (.scr (ns.map .int))] := by
  obtain ⟨c, x, h, e⟩ := g_loop (.scr (ns.map .int)) ns 17 .un ⟨by omega, by omega⟩
  refine ⟨⟨ns, 0, 0, c⟩, ⟨Int.le_refl _, Int.le_refl _, h.1, h.2⟩, rfl, ?_⟩
  unfold g_stream
  simp [e, Stm.d]
theorem gcd_step (a b : Int) : Int.gcd b (a.fmod b) = Int.gcd a b := by
  rw [Int.fmod_def, Int.gcd_sub_mul_left_right, Int.gcd_comm]
theorem fm_neg {a b : Int} (h : b < 0) : b < a.fmod b ∧ a.fmod b ≤ 0 := by
  have e := Int.neg_fmod_neg a b
  have h1 := Int.fmod_nonneg_of_pos (-a) (b := -b) (by omega)
  have h2 := Int.fmod_lt_of_pos (-a) (b := -b) (by omega)
  omega
theorem fm_pos {a b : Int} (h : 0 < b) : 0 ≤ a.fmod b ∧ a.fmod b < b := ⟨Int.fmod_nonneg_of_pos a h, Int.fmod_lt_of_pos a h⟩
theorem fm_half0 {b r : Int} (h0 : 0 < r) (h : r < b) : 2 * b.fmod r < b := by
  have e := Int.fmod_def b r
  have h1 := fm_pos (a := b) h0
  have q : 1 ≤ b.fdiv r := by
    rcases Int.lt_or_le (b.fdiv r) 1 with z | z
    · exfalso
      have := Int.mul_le_mul_of_nonneg_left (c := r) (show b.fdiv r ≤ 0 by omega) (by omega)
      rw [Int.mul_zero] at this
      omega
    · exact z
  have := Int.mul_le_mul_of_nonneg_left (c := r) q (by omega)
  rw [Int.mul_one] at this
  omega
theorem fm_half {b r : Int} (h : (0 < r ∧ r < b) ∨ (b < r ∧ r < 0)) : 2 * (b.fmod r).natAbs < b.natAbs := by
  rcases h with ⟨h1, h2⟩ | ⟨h1, h2⟩
  · have := fm_half0 h1 h2
    have := fm_pos (a := b) h1
    omega
  · have e := fm_half0 (b := -b) (r := -r) (by omega) (by omega)
    have := fm_neg (a := b) h2
    rw [Int.neg_fmod_neg] at e
    omega
/-- Euclid's loop, whatever the rest of the state: a test and a body that go as they should -/
theorem euclid {t : MT} {bd : MS} {st : Int → Int → Rho} (P : Int → Int → Prop) (ht : ∀ a b, P a b → t (st a b) = .ok (decide (b ≠ 0)) (st a b)) (hb : ∀ a b, P a b → b ≠ 0 → bd (st a b) = .nx (st b (a.fmod b))) (hP : ∀ a b, P a b → b ≠ 0 → P b (a.fmod b)) :
    ∀ (n k : Nat) (a b : Int), P a b → b.natAbs < 2 ^ n → 2 * n + 1 ≤ k → ∃ g : Int, P g 0 ∧ g.natAbs = Int.gcd a b ∧ whL k t bd (st a b) = .nx (st g 0)
  | 0, k + 1, a, b, p, h, hk => by
    have : b = 0 := by omega
    subst this
    refine ⟨a, p, by simp, ?_⟩
    simp [whL, ht _ _ p]
  | n + 1, k + 2, a, b, p, h, hk => by
    by_cases z : b = 0
    · subst z
      refine ⟨a, p, by simp, ?_⟩
      simp [whL, ht _ _ p]
    have p1 := hP a b p z
    by_cases y : a.fmod b = 0
    · rw [y] at p1
      refine ⟨b, p1, by rw [← gcd_step, y]; simp, ?_⟩
      simp [whL, ht _ _ p, hb _ _ p z, ht _ _ p1, z, y]
    have p2 := hP _ _ p1 y
    have hh : 2 * (b.fmod (a.fmod b)).natAbs < b.natAbs := by
      refine fm_half ?_
      rcases Int.lt_or_gt_of_ne z with c | c
      · have := fm_neg (a := a) c; right; omega
      · have := fm_pos (a := a) c; left; omega
    obtain ⟨g, h1, h2, h3⟩ := euclid P ht hb hP n k (a.fmod b) (b.fmod (a.fmod b)) p2 (by rw [Nat.pow_succ] at h; omega) (by omega)
    refine ⟨g, h1, by rw [h2, gcd_step, gcd_step], ?_⟩
    rw [← h3]
    simp [whL, ht _ _ p, hb _ _ p z, ht _ _ p1, hb _ _ p1 y, z, y]
end Mi

end
section
set_option exponentiation.threshold 20000
/-! Mi31: fractions: the mirrors of Ratio's text, whatever the numbers of the classes; drawn numbers. -/
namespace Mi
open PySem L2

@[simp] theorem str_inj (a b : String) : (Str.ofString a = Str.ofString b) ↔ a = b := by
  refine ⟨fun h => ?_, fun h => by rw [h]⟩
  rw [Str.ofString_eq_toList, Str.ofString_eq_toList] at h
  injection h with h
  have h2 : a.toList.map Char.toNat = b.toList.map Char.toNat := by simpa using h
  have inj : ∀ x y : Char, x.toNat = y.toNat → x = y := fun x y e => Char.ext (UInt32.toNat_inj.mp e)
  have h3 : ∀ l m : List Char, l.map Char.toNat = m.map Char.toNat → l = m := by
    intro l
    induction l with
    | nil => intro m e; cases m with
      | nil => rfl
      | cons _ _ => cases e
    | cons x l ih => intro m e; cases m with
      | nil => cases e
      | cons y m =>
        simp only [List.map_cons, List.cons.injEq] at e
        rw [inj x y e.1, ih m e.2]
  exact String.toList_inj.mp (h3 _ _ h2)
/-! ### sizes -/
def Bn (k : Nat) (a : Int) : Prop := a.natAbs < 2 ^ k
theorem Bn.le {k l : Nat} {a : Int} (h : Bn k a) (hkl : k ≤ l) : Bn l a := Nat.lt_of_lt_of_le h (Nat.pow_le_pow_right (by decide) hkl)
theorem Bn.sm {k : Nat} {a : Int} (h : Bn k a) (hk : k ≤ 9000) : Sm a := log2_lt (Nat.lt_of_lt_of_le h (Nat.pow_le_pow_right (by decide) hk)) (by decide)
theorem Bn.mul {k l : Nat} {a b : Int} (h : Bn k a) (h' : Bn l b) : Bn (k + l) (a * b) := by
  unfold Bn at *
  rw [Int.natAbs_mul, Nat.pow_add]
  exact Nat.mul_lt_mul'' h h'
theorem Bn.add {k : Nat} {a b : Int} (h : Bn k a) (h' : Bn k b) : Bn (k + 1) (a + b) := by
  unfold Bn at *
  rw [Nat.pow_succ]
  omega
theorem Bn.neg {k : Nat} {a : Int} (h : Bn k a) : Bn k (-a) := by
  unfold Bn at *
  omega
theorem Bn.sub {k : Nat} {a b : Int} (h : Bn k a) (h' : Bn k b) : Bn (k + 1) (a - b) := by
  rw [Int.sub_eq_add_neg]
  exact h.add h'.neg
theorem Bn.of_le {k : Nat} {a b : Int} (h : Bn k b) (hab : a.natAbs ≤ b.natAbs) : Bn k a := Nat.lt_of_le_of_lt hab h

/-! ### the greatest divisor, lowest terms -/
def g_gcd : MS := mkFn 2 0 [] (sSeq (whL 100000 (tV (eOp neD (eVar 1) (eC (.int 0)))) (sPar 0 1 (aC (eVar 1) (aC (eOp modD (eVar 0) (eVar 1)) aN))))
    (sRet [] (eUn absD (eVar 0))))
theorem g_gcd_e (a b : Int) (hb : Bn 9000 b) : g_gcd [.val (.int a), .val (.int b)] = .rt (.val (.int (Int.gcd a b))) [.val (.int a), .val (.int b)] := by
  obtain ⟨g, _, h2, h3⟩ := euclid (t := tV (eOp neD (eVar 1) (eC (.int 0)))) (bd := sPar 0 1 (aC (eVar 1) (aC (eOp modD (eVar 0) (eVar 1)) aN))) (st := fun a b => [.val (.int a), .val (.int b)]) (fun _ _ => True) (fun a b _ => by simp) (fun a b _ h => by simp [h]) (fun _ _ _ _ => trivial) 9000 100000 a b trivial hb (by decide)
  unfold g_gcd
  simp [h3, h2]
def sg (n d : Int) : Int := if d < 0 then -(Int.gcd n d : Int) else Int.gcd n d
/-- the lowest terms -/
def nt (n d : Int) : Int := n.fdiv (sg n d)
def nb (n d : Int) : Int := d.fdiv (sg n d)
structure Low (n d : Int) : Prop where
  co : Int.gcd n d = 1
  pos : 0 < d
theorem Low.ne {n d : Int} (h : Low n d) : d ≠ 0 := by have := h.pos; omega
theorem Low.sg {n d : Int} (h : Low n d) : Mi.sg n d = 1 := by
  have := h.pos
  unfold Mi.sg
  rw [h.co, if_neg (by omega)]; rfl
theorem Low.nt {n d : Int} (h : Low n d) : Mi.nt n d = n := by unfold Mi.nt; rw [h.sg]; simp
theorem Low.nb {n d : Int} (h : Low n d) : Mi.nb n d = d := by unfold Mi.nb; rw [h.sg]; simp
theorem sg_ne {n d : Int} (h : d ≠ 0) : sg n d ≠ 0 := by
  have : Int.gcd n d ≠ 0 := fun z => h (Int.gcd_eq_zero_iff.mp z).2
  unfold sg; split <;> omega
theorem sg_dn (n d : Int) : sg n d ∣ n := by
  have := Int.gcd_dvd_left n d
  unfold sg; split
  · exact Int.neg_dvd.mpr this
  · exact this
theorem sg_dd (n d : Int) : sg n d ∣ d := by
  have := Int.gcd_dvd_right n d
  unfold sg; split
  · exact Int.neg_dvd.mpr this
  · exact this
theorem nt_mul (n d : Int) : sg n d * nt n d = n := Int.mul_fdiv_cancel' (sg_dn n d)
theorem nb_mul (n d : Int) : sg n d * nb n d = d := Int.mul_fdiv_cancel' (sg_dd n d)
theorem sg_abs (n d : Int) : (sg n d).natAbs = Int.gcd n d := by unfold sg; split <;> simp
theorem low_of {n d : Int} (h : d ≠ 0) : Low (nt n d) (nb n d) := by
  have g0 : 0 < Int.gcd n d := Nat.pos_of_ne_zero fun z => h (Int.gcd_eq_zero_iff.mp z).2
  refine ⟨?_, ?_⟩
  · have e : Int.gcd n d = (sg n d).natAbs * Int.gcd (nt n d) (nb n d) := by
      have := Int.gcd_mul_left (sg n d) (nt n d) (nb n d)
      rw [nt_mul, nb_mul] at this
      exact this
    rw [sg_abs] at e
    exact Nat.eq_of_mul_eq_mul_left g0 (by omega)
  · have e := nb_mul n d
    rcases Int.lt_trichotomy (nb n d) 0 with z | z | z
    · exfalso
      unfold sg at e
      by_cases y : d < 0
      · rw [if_pos y] at e
        have := Int.mul_nonneg_of_nonpos_of_nonpos (a := -(Int.gcd n d : Int)) (b := nb n d) (by omega) (by omega)
        omega
      · rw [if_neg y] at e
        have := Int.mul_neg_of_pos_of_neg (a := (Int.gcd n d : Int)) (b := nb n d) (by omega) z
        omega
    · exfalso
      rw [z, Int.mul_zero] at e
      omega
    · exact z
theorem nt_le (n d : Int) : (nt n d).natAbs ≤ n.natAbs := Int.natAbs_fdiv_le_natAbs _ _
theorem nb_le (n d : Int) : (nb n d).natAbs ≤ d.natAbs := Int.natAbs_fdiv_le_natAbs _ _
theorem Bn.nt {k : Nat} {n d : Int} (h : Bn k n) : Bn k (nt n d) := h.of_le (nt_le n d)
theorem Bn.nb {k : Nat} {n d : Int} (h : Bn k d) : Bn k (nb n d) := h.of_le (nb_le n d)
theorem gcd_sm {n d : Int} (h : d ≠ 0) (hd : Bn 9000 d) : Sm (Int.gcd n d : Int) := by
  have : Int.gcd n d ≤ d.natAbs := Nat.le_of_dvd (by omega) (Int.gcd_dvd_natAbs_right n d)
  exact (Bn.of_le hd (by rw [Int.natAbs_natCast]; exact this)).sm (Nat.le_refl _)

/-! ### Ratio: its class's number c, ByZero's number x -/
section
variable (x c : Nat)
def g_init : MS := mkFn 3 1 [0] (sSeq (sIf (tV (eOp eqD (eVar 2) (eC (.int 0))))
    (sRaise ⟨x, []⟩)
    sNil)
    (sSeq (sSet 3 (eCall g_gcd (cV (eVar 1) (cV (eVar 2) cN))))
    (sSeq (sIf (tV (eOp ltD (eVar 2) (eC (.int 0))))
    (sSet 3 (eUn negD (eVar 3)))
    sNil)
    (sSeq (sFldM 0 c 0 (eOp fdivD (eVar 1) (eVar 3)))
    (sFldM 0 c 1 (eOp fdivD (eVar 2) (eVar 3)))))))
abbrev rt (t b : Int) : D := .ins c [.int t, .int b]
@[simp] theorem g_init_e (n d : Int) (h : d ≠ 0) (hd : Bn 9000 d) : g_init x c [.own (.ins c []), .val (.int n), .val (.int d)] = .rt (.val .non) [.own (rt c (nt n d) (nb n d)), .val (.int n), .val (.int d)] := by
  have s0 := gcd_sm (n := n) h hd
  have s1 : Int.gcd n d ≠ 0 := fun z => h (Int.gcd_eq_zero_iff.mp z).2
  unfold g_init nt nb sg
  by_cases z : d < 0
  · simp [h, g_gcd_e n d hd, z, s0, s1]
  · simp [h, g_gcd_e n d hd, z, s0, s1]
@[simp] theorem g_init_x (n : Int) : g_init x c [.own (.ins c []), .val (.int n), .val (.int 0)] = .ex ⟨x, []⟩ [.own (.ins c []), .val (.int n), .val (.int 0)] := by
  unfold g_init
  simp
@[simp] theorem fldD_0 (l : List D) (d : D) : fldD c 0 (.ins c (d :: l)) = some (.val d) := by simp [fldD]
@[simp] theorem fldD_1 (l : List D) (d d' : D) : fldD c 1 (.ins c (d :: d' :: l)) = some (.val d') := by simp [fldD]
@[simp] theorem isIns_s (l : List D) : isIns c (.ins c l) = true := by simp [isIns]
def g_add : MS := mkFn 2 1 [] (sSeq (sSet 2 (eOp addD (eOp mulD (eFld c 0 (eVar 0)) (eFld c 1 (eVar 1))) (eOp mulD (eFld c 0 (eVar 1)) (eFld c 1 (eVar 0)))))
    (sRet [] (eMake c (g_init x c) [] (cV (eVar 2) (cV (eOp mulD (eFld c 1 (eVar 0)) (eFld c 1 (eVar 1))) cN)))))
def g_mul : MS := mkFn 2 0 [] (sRet [] (eMake c (g_init x c) [] (cV (eOp mulD (eFld c 0 (eVar 0)) (eFld c 0 (eVar 1))) (cV (eOp mulD (eFld c 1 (eVar 0)) (eFld c 1 (eVar 1))) cN))))
def g_sub : MS := mkFn 2 1 [] (sSeq (sSet 2 (eOp subD (eOp mulD (eFld c 0 (eVar 0)) (eFld c 1 (eVar 1))) (eOp mulD (eFld c 0 (eVar 1)) (eFld c 1 (eVar 0)))))
    (sRet [] (eMake c (g_init x c) [] (cV (eVar 2) (cV (eOp mulD (eFld c 1 (eVar 0)) (eFld c 1 (eVar 1))) cN)))))
def g_quo : MS := mkFn 2 0 [] (sRet [] (eMake c (g_init x c) [] (cV (eOp mulD (eFld c 0 (eVar 0)) (eFld c 1 (eVar 1))) (cV (eOp mulD (eFld c 1 (eVar 0)) (eFld c 0 (eVar 1))) cN))))
def g_neg : MS := mkFn 1 0 [] (sRet [] (eMake c (g_init x c) [] (cV (eUn negD (eFld c 0 (eVar 0))) (cV (eFld c 1 (eVar 0)) cN))))
variable {a b a' b' : Int}
/-- the operators on fractions: the lowest terms of the products -/
theorem g_add_e (ha : Bn 4000 a) (hb : Bn 4000 b) (ha' : Bn 4000 a') (hb' : Bn 4000 b') (h : b ≠ 0) (h' : b' ≠ 0) : g_add x c [.val (rt c a b), .val (rt c a' b')] = .rt (.own (rt c (nt (a * b' + a' * b) (b * b')) (nb (a * b' + a' * b) (b * b')))) [.val (rt c a b), .val (rt c a' b')] := by
  have s1 := ha.sm (by decide); have s2 := hb.sm (by decide); have s3 := ha'.sm (by decide); have s4 := hb'.sm (by decide)
  have s5 : Bn 9000 (b * b') := (hb.mul hb').le (by decide)
  have s6 : b * b' ≠ 0 := Int.mul_ne_zero h h'
  unfold g_add
  simp [s1, s2, s3, s4, s5, h, h']
theorem g_sub_e (ha : Bn 4000 a) (hb : Bn 4000 b) (ha' : Bn 4000 a') (hb' : Bn 4000 b') (h : b ≠ 0) (h' : b' ≠ 0) : g_sub x c [.val (rt c a b), .val (rt c a' b')] = .rt (.own (rt c (nt (a * b' - a' * b) (b * b')) (nb (a * b' - a' * b) (b * b')))) [.val (rt c a b), .val (rt c a' b')] := by
  have s1 := ha.sm (by decide); have s2 := hb.sm (by decide); have s3 := ha'.sm (by decide); have s4 := hb'.sm (by decide)
  have s5 : Bn 9000 (b * b') := (hb.mul hb').le (by decide)
  unfold g_sub
  simp [s1, s2, s3, s4, s5, h, h']
theorem g_mul_e (ha : Bn 4000 a) (hb : Bn 4000 b) (ha' : Bn 4000 a') (hb' : Bn 4000 b') (h : b ≠ 0) (h' : b' ≠ 0) : g_mul x c [.val (rt c a b), .val (rt c a' b')] = .rt (.own (rt c (nt (a * a') (b * b')) (nb (a * a') (b * b')))) [.val (rt c a b), .val (rt c a' b')] := by
  have s1 := ha.sm (by decide); have s2 := hb.sm (by decide); have s3 := ha'.sm (by decide); have s4 := hb'.sm (by decide)
  have s5 : Bn 9000 (b * b') := (hb.mul hb').le (by decide)
  unfold g_mul
  simp [s1, s2, s3, s4, s5, h, h']
theorem g_quo_e (ha : Bn 4000 a) (hb : Bn 4000 b) (ha' : Bn 4000 a') (hb' : Bn 4000 b') (h : b ≠ 0) (h' : a' ≠ 0) : g_quo x c [.val (rt c a b), .val (rt c a' b')] = .rt (.own (rt c (nt (a * b') (b * a')) (nb (a * b') (b * a')))) [.val (rt c a b), .val (rt c a' b')] := by
  have s1 := ha.sm (by decide); have s2 := hb.sm (by decide); have s3 := ha'.sm (by decide); have s4 := hb'.sm (by decide)
  have s5 : Bn 9000 (b * a') := (hb.mul ha').le (by decide)
  unfold g_quo
  simp [s1, s2, s3, s4, s5, h, h']
theorem g_quo_x (ha : Bn 4000 a) (hb : Bn 4000 b) (hb' : Bn 4000 b') : g_quo x c [.val (rt c a b), .val (rt c 0 b')] = .ex ⟨x, []⟩ [.val (rt c a b), .val (rt c 0 b')] := by
  have s1 := ha.sm (by decide); have s2 := hb.sm (by decide); have s4 := hb'.sm (by decide)
  have s3 : Sm 0 := by simp
  unfold g_quo
  simp [s1, s2, s3, s4]
theorem g_neg_e (hb : Bn 9000 b) (h : b ≠ 0) : g_neg x c [.val (rt c a b)] = .rt (.own (rt c (nt (-a) b) (nb (-a) b))) [.val (rt c a b)] := by
  unfold g_neg
  simp [hb, h]
def g_is (tR tB : Ty → Option Bool) : MS := mkFn 2 0 [] (sSeq (sIf (tOrM (tNotM (tTru (eUn (isiD tR) (eVar 0)))) (tOrM (tTru (eUn (isiD tB) (eFld c 0 (eVar 0)))) (tTru (eUn (isiD tB) (eFld c 1 (eVar 0))))))
    (sRet [] (eC (.bl false)))
    sNil)
    (sRet [] (eAnd (eOp eqD (eFld c 0 (eVar 0)) (eOp ixD (eVar 1) (eC (.int 0)))) (eOp eqD (eFld c 1 (eVar 0)) (eOp ixD (eVar 1) (eC (.int 1)))))))
@[simp] theorem truD_b (b : Bool) : truD (.bl b) = some b := rfl
@[simp] theorem addD_l (a b : List D) (h : a.length + b.length ≤ 1000000) : addD (.lst a) (.lst b) = some (.own (.lst (a ++ b))) := by
  show (if a.length + b.length ≤ 1000000 then _ else _) = _
  rw [if_pos h]
@[simp] theorem addD_t (a b : List D) (h : a.length + b.length ≤ 1000000) (ha : a ≠ []) (hb : b ≠ []) : addD (.tup a) (.tup b) = some (.own (.tup (a ++ b))) := by
  show (if a.length + b.length ≤ 1000000 ∧ a ≠ [] ∧ b ≠ [] then _ else _) = _
  rw [if_pos ⟨h, ha, hb⟩]
@[simp] theorem intD_b (b : Bool) : intD (.bl b) = some (.val (.int (if b = true then 1 else 0))) := rfl
@[simp] theorem truD_i (i : Int) : truD (.int i) = some (i != 0) := rfl
@[simp] theorem truD_n : truD .non = some false := rfl
theorem g_is_e (tR tB : Ty → Option Bool) (h1 : tR (.own c) = some true) (h2 : tB .int = some false) (t b : Int) : g_is c tR tB [.val (rt c t b), .val (.tup [.int t, .int b])] = .rt (.val (.bl true)) [.val (rt c t b), .val (.tup [.int t, .int b])] := by
  unfold g_is
  simp [isiD, tyD, h1, h2]
end
def g_pair : MS := mkFn 2 2 [] (sSeq (sSet 2 (eUn absD (eVar 0)))
    (sSeq (sSet 3 (eUn absD (eVar 1)))
    (sSeq (whL 100000 (tV (eOp gtD (eVar 3) (eC (.int 0)))) (sPar 2 3 (aC (eVar 3) (aC (eOp modD (eUn intD (eVar 2)) (eUn intD (eVar 3))) aN))))
    (sSeq (sIf (tV (eOp ltD (eVar 1) (eC (.int 0))))
    (sSet 2 (eOp subD (eC (.int 0)) (eVar 2)))
    sNil)
    (sRet [] (eTup (aC (eOp fdivD (eVar 0) (eVar 2)) (aC (eOp fdivD (eVar 1) (eVar 2)) aN))))))))
theorem g_pair_e (n d : Int) (h : d ≠ 0) (hd : Bn 9000 d) : g_pair [.val (.int n), .val (.int d)] = .rt (.val (.tup [.int (nt n d), .int (nb n d)])) [.val (.int n), .val (.int d)] := by
  have s0 := gcd_sm (n := n) h hd
  have s1 : Int.gcd n d ≠ 0 := fun z => h (Int.gcd_eq_zero_iff.mp z).2
  obtain ⟨g, h1, h2, h3⟩ := euclid (t := tV (eOp gtD (eVar 3) (eC (.int 0)))) (bd := sPar 2 3 (aC (eVar 3) (aC (eOp modD (eUn intD (eVar 2)) (eUn intD (eVar 3))) aN))) (st := fun a b => [.val (.int n), .val (.int d), .val (.int a), .val (.int b)]) (fun a b => 0 ≤ a ∧ 0 ≤ b) (fun a b p => by
      have : (0 < b) ↔ ¬ (b = 0) := by omega
      simp [this]) (fun a b _ h => by simp [h]) (fun a b p h => ⟨p.2, Int.fmod_nonneg_of_pos a (by omega)⟩) 9000 100000 n.natAbs d.natAbs ⟨by omega, by omega⟩ (by rw [Int.natAbs_natCast]; exact hd) (by decide)
  have e : g = (Int.gcd n d : Int) := by
    have : Int.gcd (n.natAbs : Int) (d.natAbs : Int) = Int.gcd n d := rfl
    omega
  subst e
  unfold g_pair nt nb sg
  by_cases z : d < 0
  · simp [h3, z, s0, s1]
  · simp [h3, z, s0, s1]

/-! ### drawn numbers of up to 130 digits -/
def g_far : MS := mkFn 1 2 [0] (sSeq (sSet 1 (eC (.int 0)))
    (sSeq (sFor (gN 2) (iRg1 (eOp addD (eC (.int 1)) (eCall g_draw (cB (eVar 0) (cV (eC (.int 13)) cN)))))
    (sSet 1 (eOp addD (eOp mulD (eVar 1) (eOp powD (eC (.int 10)) (eC (.int 10)))) (eCall g_draw (cB (eVar 0) (cV (eOp powD (eC (.int 10)) (eC (.int 10))) cN))))))
    (sRet [0] (eVar 1))))
def g_whole : MS := mkFn 1 1 [0] (sSeq (sSet 1 (eCall g_draw (cB (eVar 0) (cV (eC (.int 6)) cN))))
    (sSeq (sIf (tV (eOp ltD (eVar 1) (eC (.int 4))))
    (sRet [0] (eOp subD (eCall g_draw (cB (eVar 0) (cV (eC (.int 25)) cN))) (eC (.int 12))))
    sNil)
    (sSeq (sIf (tV (eOp eqD (eVar 1) (eC (.int 4))))
    (sRet [0] (eOp addD (eOp subD (eOp mulD (eOp powD (eC (.int 10)) (eC (.int 60))) (eOp powD (eC (.int 10)) (eC (.int 60)))) (eC (.int 2))) (eCall g_draw (cB (eVar 0) (cV (eC (.int 4)) cN)))))
    sNil)
    (sRet [0] (eOp mulD (eCall g_far (cB (eVar 0) cN)) (eOp subD (eC (.int 1)) (eOp mulD (eC (.int 2)) (eCall g_draw (cB (eVar 0) (cV (eC (.int 2)) cN))))))))))
def g_dpair : MS := mkFn 1 1 [0] (sSeq (sSet 1 (eCall g_whole (cB (eVar 0) cN)))
    (sSeq (sIf (tV (eOp eqD (eVar 1) (eC (.int 0))))
    (sSet 1 (eC (.int 7)))
    sNil)
    (sRet [0] (eCall g_pair (cV (eCall g_whole (cB (eVar 0) cN)) (cV (eVar 1) cN))))))
@[simp] theorem g_draw_s {s : Stm} {m : Int} (hm : Dm m) (hs : s.Ok) : g_draw [.own s.d, .val (.int m)] = .rt (.val (.int (s.dv m))) [.own (s.dr m).d, .val (.int m)] := g_draw_e hm hs
@[simp] theorem Stm.dr_ok {s : Stm} {m : Int} (hm : Dm m) (h : s.Ok) : (s.dr m).Ok := h.dr hm
def Big (a : Int) : Prop := a.natAbs < 10 ^ 130
theorem Big.bn {a : Int} (h : Big a) : Bn 432 a := Nat.lt_trans h (by decide +kernel)
theorem ipow_le {i j : Nat} (h : i ≤ j) : (10 : Int) ^ i ≤ 10 ^ j := by
  have := Nat.pow_le_pow_right (n := 10) (by decide) h
  exact_mod_cast this
theorem lt_pow (j : Nat) : ((10 : Int) ^ 10) ^ j = 10 ^ (10 * j) := by rw [Int.pow_mul]
theorem far_loop : ∀ (ds : List D) (j : Nat) (s : Stm) (f : Int) (x : LV), s.Ok → 0 ≤ f → f < (10000000000 : Int) ^ j → j + ds.length ≤ 13 → ∃ (s' : Stm) (f' : Int) (x' : LV), s'.Ok ∧ 0 ≤ f' ∧ f' < 10 ^ 130 ∧
    forL (gN 2) (sSet 1 (eOp addD (eOp mulD (eVar 1) (eOp powD (eC (.int 10)) (eC (.int 10)))) (eCall g_draw (cB (eVar 0) (cV (eOp powD (eC (.int 10)) (eC (.int 10))) cN))))) ds [.own s.d, .val (.int f), x] = .nx [.own s'.d, .val (.int f'), x']
  | [], j, s, f, x, hs, h0, h1, hl => by
    refine ⟨s, f, x, hs, h0, Int.lt_of_lt_of_le h1 ?_, rfl⟩
    simp at hl
    have : (10000000000 : Int) ^ j = 10 ^ (10 * j) := lt_pow j
    rw [this]
    exact ipow_le (by omega)
  | d :: ds, j, s, f, x, hs, h0, h1, hl => by
    simp at hl
    have dm : Dm 10000000000 := by simp
    have v0 := s.dv_0 dm
    have v1 := s.dv_1 dm
    have g1 : f * 10000000000 + s.dv 10000000000 < (10000000000 : Int) ^ (j + 1) := by
      rw [Int.pow_succ]
      have : f + 1 ≤ (10000000000 : Int) ^ j := h1
      omega
    obtain ⟨s', f', x', i1, i2, i3, i4⟩ := far_loop ds (j + 1) (s.dr 10000000000) (f * 10000000000 + s.dv 10000000000) (.val d) (hs.dr dm) (by omega) g1 (by omega)
    refine ⟨s', f', x', i1, i2, i3, ?_⟩
    have sf : Sm f := by
      refine Sm_bd (B := 10 ^ 130) (by simp) (by have : (0:Int) ≤ 10 ^ 130 := by decide
                                                 omega) (Int.le_of_lt (Int.lt_of_lt_of_le h1 ?_))
      have : (10000000000 : Int) ^ j = 10 ^ (10 * j) := lt_pow j
      rw [this]
      exact ipow_le (by omega)
    rw [← i4]
    simp [hs, sf]
theorem far_e (s : Stm) (hs : s.Ok) : ∃ (s' : Stm) (f : Int), s'.Ok ∧ 0 ≤ f ∧ f < 10 ^ 130 ∧ g_far [.own s.d] = .rt (.val (.int f)) [.own s'.d] := by
  have dm : Dm 13 := by simp
  have v0 := s.dv_0 dm
  have v1 := s.dv_1 dm
  have rg : Rg (1 + s.dv 13) := by unfold Rg; omega
  obtain ⟨s', f', x', i1, i2, i3, i4⟩ := far_loop (rgL 0 (1 + s.dv 13).toNat) 0 (s.dr 13) 0 .un (hs.dr dm) (by omega) (by simp) (by simp [rgL]; omega)
  refine ⟨s', f', i1, i2, i3, ?_⟩
  unfold g_far
  simp [hs, rg, i4]
theorem whole_e (s : Stm) (hs : s.Ok) : ∃ (s' : Stm) (f : Int), s'.Ok ∧ Big f ∧ g_whole [.own s.d] = .rt (.val (.int f)) [.own s'.d] := by
  have dm : ∀ s : Stm, 0 ≤ s.dv 6 ∧ s.dv 6 < 6 := fun s => ⟨s.dv_0 (by simp), s.dv_1 (by simp)⟩
  have dm2 : ∀ s : Stm, 0 ≤ s.dv 25 ∧ s.dv 25 < 25 := fun s => ⟨s.dv_0 (by simp), s.dv_1 (by simp)⟩
  have dm3 : ∀ s : Stm, 0 ≤ s.dv 4 ∧ s.dv 4 < 4 := fun s => ⟨s.dv_0 (by simp), s.dv_1 (by simp)⟩
  have dm4 : ∀ s : Stm, 0 ≤ s.dv 2 ∧ s.dv 2 < 2 := fun s => ⟨s.dv_0 (by simp), s.dv_1 (by simp)⟩
  have o1 : (s.dr 6).Ok := hs.dr (by simp)
  unfold g_whole
  by_cases z : s.dv 6 < 4
  · refine ⟨(s.dr 6).dr 25, (s.dr 6).dv 25 - 12, o1.dr (by simp), ?_, ?_⟩
    · have := dm2 (s.dr 6); unfold Big; omega
    · simp [hs, z, o1]
  · by_cases y : s.dv 6 = 4
    · refine ⟨(s.dr 6).dr 4, 10 ^ 120 - 2 + (s.dr 6).dv 4, o1.dr (by simp), ?_, ?_⟩
      · have := dm3 (s.dr 6); unfold Big; omega
      · simp [hs, y, o1]
    · obtain ⟨s', f, h1, h2, h3, h4⟩ := far_e (s.dr 6) o1
      refine ⟨s'.dr 2, f * (1 - 2 * s'.dv 2), h1.dr (by simp), ?_, ?_⟩
      · have := dm4 s'
        rcases (show s'.dv 2 = 0 ∨ s'.dv 2 = 1 by omega) with e | e <;> rw [e] <;> unfold Big <;> omega
      · have sf : Sm f := Sm_bd (B := 10 ^ 130) (by simp) (by omega) (by omega)
        have sg : Sm (s'.dv 2) := Sm_bd (B := 2) (by simp) (by have := dm4 s'; omega) (by have := dm4 s'; omega)
        have sh : Sm (1 - 2 * s'.dv 2) := Sm_bd (B := 4) (by simp) (by have := dm4 s'; omega) (by have := dm4 s'; omega)
        simp [hs, y, z, o1, h4, h1, sf, sg, sh]
theorem dpair_e (s : Stm) (hs : s.Ok) : ∃ (s' : Stm) (n d : Int), s'.Ok ∧ Bn 432 n ∧ Bn 432 d ∧ Low n d ∧ g_dpair [.own s.d] = .rt (.val (.tup [.int n, .int d])) [.own s'.d] := by
  obtain ⟨s1, d, o1, b1, e1⟩ := whole_e s hs
  obtain ⟨s2, n, o2, b2, e2⟩ := whole_e s1 o1
  unfold g_dpair
  by_cases z : d = 0
  · subst z
    have b7 : Bn 432 7 := by unfold Bn; decide +kernel
    have := g_pair_e n 7 (by decide) (b7.le (by decide))
    refine ⟨s2, nt n 7, nb n 7, o2, b2.bn.nt, b7.nb, low_of (by decide), ?_⟩
    simp [e1, e2, this]
  · have := g_pair_e n d z (b1.bn.le (by decide))
    refine ⟨s2, nt n d, nb n d, o2, b2.bn.nt, b1.bn.nb, low_of z, ?_⟩
    simp [e1, e2, this, z]
end Mi

end
section
set_option maxRecDepth 100000
/-! Mi32: equations for simp of the later operations. -/
namespace Mi
open PySem L2

section
variable (r : Rho) (m n : ME) (d d1 d2 : D) (i j k : Nat) (t u : MT) (s s' : MS)
@[simp] theorem truD_l (l : List D) : truD (.lst l) = some (!l.isEmpty) := rfl
@[simp] theorem truD_t (l : List D) : truD (.tup l) = some (!l.isEmpty) := rfl
@[simp] theorem eDct_e : eDct r = .ok (.own (.dK [] [])) r := rfl
@[simp] theorem eLc_e (g : MG) (w : Rho → Ou (List D)) (vs : List Nat) : eLc g w t m vs r = (w r).bd fun ds r1 => lcL g t m vs ds (wipeR r1 vs) [] := rfl
@[simp] theorem pN_e : pN r = .ok [] r := rfl
@[simp] theorem pC_e (mk mv : ME) (n : Rho → Ou (List (Key × D))) : pC mk mv n r = (fz mk r).bd fun y r1 => match keyD y with
  | some k => (fz mv r1).bd fun x r2 => (n r2).bd fun l r3 => .ok ((k, x) :: l) r3
  | none => .no := rfl
@[simp] theorem eDsp_e (n : Rho → Ou (List (Key × D))) : eDsp n r = (n r).bd fun l r1 => if l.length ≤ 15 then .ok (.own (dspA l [] [])) r1 else .no := rfl
@[simp] theorem dspA_n (ks : List Key) (l : List D) : dspA [] ks l = .dK ks l := rfl
@[simp] theorem dspA_c (p : Key × D) (q : List (Key × D)) (ks : List Key) (l : List D) : dspA (p :: q) ks l = dspA q (ptK ks p.1) (ptL ks l p.1 p.2) := rfl
@[simp] theorem isN_b (a : Bool) : isN (.bl a) .non = some (.val (.bl false)) := rfl
@[simp] theorem isNN_b (a : Bool) : isNN (.bl a) .non = some (.val (.bl true)) := rfl
@[simp] theorem eGet1_e (mo mk : ME) : eGet1 mo mk r = (stl mo r).bd fun x r1 => if isDk (look x r1) = true then (fz mk r1).bd fun k r2 => getG x k .non r2 else .no := rfl
@[simp] theorem eGet2_e (mo mk mx : ME) : eGet2 mo mk mx r = (stl mo r).bd fun x r1 => if isDk (look x r1) = true then (fz mk r1).bd fun k r2 => (fz mx r2).bd fun z r3 => getG x k z r3 else .no := rfl
@[simp] theorem isDk_K (ks : List Key) (l : List D) : isDk (some (.dK ks l)) = true := rfl
@[simp] theorem getG_s (ks : List Key) (l : List D) (x : Str) (z : D) : getG (.val (.dK ks l)) (.str x) z r = .ok (.val ((vl ks l (.inr x)).getD z)) r := rfl
@[simp] theorem eMeth_e (c : Nat) (g : MS) (mo : ME) (w : Rho → Ou (List RV)) : eMeth c g mo w r = (fz mo r).bd fun d r1 => if isIns c d = true then (w r1).bd fun l r2 => if nodupB (borI l) = true then callO (.val d :: l) r2 (g ((RV.val d :: l).map (argL r2))) else .no else .no := rfl
@[simp] theorem isIns_e (c : Nat) (l : List D) : isIns c (.ins c l) = true := by simp [isIns]
@[simp] theorem eDc_e (g : MG) (w : Rho → Ou (List D)) (vs : List Nat) : eDc g w t m n vs r = (w r).bd fun ds r1 => dcL g t m n vs ds (wipeR r1 vs) [] [] := rfl
@[simp] theorem wipeR_0 : wipeR r [] = r := rfl
@[simp] theorem wipeR_1 (v : Nat) (vs : List Nat) : wipeR r (v :: vs) = (wipeR r vs).set v .un := rfl
@[simp] theorem tYes_e : tYesM r = .ok true r := rfl
@[simp] theorem lcL_0 (g : MG) (vs : List Nat) (acc : List D) : lcL g t m vs [] r acc = .ok (.own (.lst acc)) r := rfl
theorem lcL_g (g : MG) (vs : List Nat) (ds acc : List D) (r1 r2 r3 : Rho) (x : D) (h1 : g d r = some r1) (h2 : t r1 = .ok true r2) (h3 : fz m r2 = .ok x r3) (hl : acc.length < 1000000) : lcL g t m vs (d :: ds) r acc = lcL g t m vs ds (wipeR r3 vs) (acc ++ [x]) := by
  show (match g d r with | none => _ | some r1 => _) = _
  rw [h1]
  show (match t r1 with | .ok b r2 => _ | _ => _) = _
  rw [h2]
  show (match fz m r2 with | .ok x r3 => if acc.length < 1000000 then lcL g t m vs ds (wipeR r3 vs) (acc ++ [x]) else .no | _ => .no) = _
  rw [h3]
  show (if acc.length < 1000000 then _ else _) = _
  rw [if_pos hl]
theorem lcL_f (g : MG) (vs : List Nat) (ds acc : List D) (r1 r2 : Rho) (h1 : g d r = some r1) (h2 : t r1 = .ok false r2) : lcL g t m vs (d :: ds) r acc = lcL g t m vs ds (wipeR r2 vs) acc := by
  show (match g d r with | none => _ | some r1 => _) = _
  rw [h1]
  show (match t r1 with | .ok b r2 => _ | _ => _) = _
  rw [h2]
  rfl
/-- a comprehension that keeps the state is a map -/
theorem lcL_map {α : Type} {g : MG} {vs : List Nat} (en : α → D) (F : α → D) (r0 : Rho) : ∀ (ds : List α) (acc : List D), (∀ x ∈ ds, ∃ r1 r2 r3, g (en x) r0 = some r1 ∧ t r1 = .ok true r2 ∧ fz m r2 = .ok (F x) r3 ∧ wipeR r3 vs = r0) → acc.length + ds.length ≤ 1000000 →
    lcL g t m vs (ds.map en) r0 acc = .ok (.own (.lst (acc ++ ds.map F))) r0
  | [], acc, _, _ => by rw [List.map_nil, lcL_0, List.map_nil, List.append_nil]
  | x :: ds, acc, h, hl => by
    obtain ⟨r1, r2, r3, h1, h2, h3, h4⟩ := h x List.mem_cons_self
    have hl' : acc.length < 1000000 := by rw [List.length_cons] at hl; omega
    rw [List.map_cons, lcL_g r0 m _ t g vs _ acc r1 r2 r3 _ h1 h2 h3 hl', h4, lcL_map en F r0 ds (acc ++ [F x]) (fun y hy => h y (List.mem_cons_of_mem _ hy)) (by rw [List.length_append, List.length_singleton]; rw [List.length_cons] at hl; omega)]
    simp
/-- .. with a test: a filter and a map -/
theorem lcL_flt {α : Type} {g : MG} {vs : List Nat} (en : α → D) (F : α → D) (p : α → Bool) (r0 : Rho) : ∀ (ds : List α) (acc : List D), (∀ x ∈ ds, ∃ r1 r2, g (en x) r0 = some r1 ∧ t r1 = .ok (p x) r2 ∧ (p x = true → ∃ r3, fz m r2 = .ok (F x) r3 ∧ wipeR r3 vs = r0) ∧ (p x = false → wipeR r2 vs = r0)) → acc.length + ds.length ≤ 1000000 →
    lcL g t m vs (ds.map en) r0 acc = .ok (.own (.lst (acc ++ (ds.filter p).map F))) r0
  | [], acc, _, _ => by rw [List.map_nil, lcL_0]; simp
  | x :: ds, acc, h, hl => by
    obtain ⟨r1, r2, h1, h2, h3, h4⟩ := h x List.mem_cons_self
    have hl' : acc.length < 1000000 := by rw [List.length_cons] at hl; omega
    cases z : p x with
    | true =>
      rw [z] at h2
      obtain ⟨r3, h5, h6⟩ := h3 z
      rw [List.map_cons, lcL_g r0 m _ t g vs _ acc r1 r2 r3 _ h1 h2 h5 hl', h6, lcL_flt en F p r0 ds (acc ++ [F x]) (fun y hy => h y (List.mem_cons_of_mem _ hy)) (by rw [List.length_append, List.length_singleton]; rw [List.length_cons] at hl; omega)]
      simp [List.filter_cons, z]
    | false =>
      rw [z] at h2
      rw [List.map_cons, lcL_f r0 m _ t g vs _ acc r1 r2 h1 h2, h4 z, lcL_flt en F p r0 ds acc (fun y hy => h y (List.mem_cons_of_mem _ hy)) (by rw [List.length_cons] at hl; omega)]
      simp [List.filter_cons, z]
@[simp] theorem eMth_e (kd : D → Bool) (f : D → List D → Option (D × D)) (w : Rho → Ou (List D)) (h : r[i]? = some (.own d)) : eMth i kd f w r = if kd d = true then (w r).bd (mthG i f) else .no := by
  unfold eMth; rw [h]
@[simp] theorem mthG_e (f : D → List D → Option (D × D)) (ds : List D) (h : r[i]? = some (.own d)) : mthG i f ds r = match f d ds with
    | some (v, d') => .ok (.val v) (r.set i (.own d'))
    | none => .no := by unfold mthG; rw [h] <;> rfl
@[simp] theorem kdL_l (l : List D) : kdL (.lst l) = true := rfl
@[simp] theorem kdD_d (ks : List Key) (l : List D) : kdD (.dK ks l) = true := rfl
@[simp] theorem fAppend_e (l : List D) (h : l.length < 1000000) : fAppend (.lst l) [d] = some (.non, .lst (l ++ [d])) := by
  show (if l.length < 1000000 then _ else _) = _
  rw [if_pos h]
@[simp] theorem fClearD_e (ks : List Key) (l : List D) : fClearD (.dK ks l) [] = some (.non, .dK [] []) := rfl
@[simp] theorem addD_s (a b : Str) (h : a.length + b.length ≤ 1000000) : addD (.str a) (.str b) = some (.val (.str (a ++ b))) := by
  show (if a.length + b.length ≤ 1000000 then _ else _) = _
  rw [if_pos h]
@[simp] theorem oNo_e : oNo r = .ok none r := rfl
@[simp] theorem oSo_e : oSo m r = (fz m r).bd fun d r1 => match d with
  | .int i => .ok (some i) r1
  | _ => .no := rfl
@[simp] theorem sDrop_e : sDrop m r = (m r).st fun _ r1 => .nx r1 := rfl
@[simp] theorem eSl_e (lo hi : Rho → Ou (Option Int)) : eSl m lo hi r = (stl m r).bd fun x r1 => (lo r1).bd fun l r2 => (hi r2).bd fun u r3 => match x with
  | .val (.tup t) => .ok (.val (.tup (cutD t l u))) r3
  | x => match look x r3 with
    | some (.lst xs) => .ok (.own (.lst (cutD xs l u))) r3
    | some (.str z) => if z.length ≤ 1000000 then .ok (.val (.str (cutS z l u))) r3 else .no
    | _ => .no := rfl
/-- a slice of a list that is read -/
theorem eSl_l {lo hi : Rho → Ou (Option Int)} {x : RV} {r1 r2 r3 : Rho} {l u : Option Int} {xs : List D} (h : stl m r = .ok x r1) (hl : lo r1 = .ok l r2) (hh : hi r2 = .ok u r3) (hx : look x r3 = some (.lst xs)) : eSl m lo hi r = .ok (.own (.lst (cutD xs l u))) r3 := by
  rw [eSl_e, h, bd_ok, hl, bd_ok, hh, bd_ok]
  cases x with
  | bor i => dsimp only; rw [hx]
  | own d => dsimp only; rw [hx]
  | val d => cases hx; rfl
theorem eSl_t {lo hi : Rho → Ou (Option Int)} {r1 r2 r3 : Rho} {l u : Option Int} {xs : List D} (h : stl m r = .ok (.val (.tup xs)) r1) (hl : lo r1 = .ok l r2) (hh : hi r2 = .ok u r3) : eSl m lo hi r = .ok (.val (.tup (cutD xs l u))) r3 := by
  rw [eSl_e, h, bd_ok, hl, bd_ok, hh, bd_ok]
@[simp] theorem res_od (ks : List Key) (l : List D) : res (some (.own (.dK ks l))) r = .ok (.own (.dK ks l)) r := rfl
end
@[simp] theorem eMaxK_e (z : Int) (m : ME) (r : Rho) : eMaxK z m r = (stl m r).bd fun x r1 => match look x r1 with
  | some (.lst l) => match intsD l with
    | some ns => .ok (.val (.int (mxK z ns))) r1
    | none => .no
  | _ => .no := rfl
/-! ### targets of many names -/
@[simp] theorem sAsg_e (g : MG) (m : ME) (r : Rho) : sAsg g m r = (fz m r).st fun d r1 => match g d r1 with
  | some r2 => .nx r2
  | none => .no := rfl
@[simp] theorem gTupM_t (n : Nat) (gs : List D → Rho → Option Rho) (l : List D) (r : Rho) : gTupM n gs (.tup l) r = if l.length = n then gs l r else none := rfl
@[simp] theorem gConsM_c (g : MG) (gs : List D → Rho → Option Rho) (d : D) (l : List D) (r : Rho) : gConsM g gs (d :: l) r = (g d r).bind (gs l) := rfl
@[simp] theorem gNilM_n (r : Rho) : gNilM [] r = some r := rfl
/-! ### stores into what a slot holds -/
def setJ (i : Nat) (d0 k d : D) (r2 : Rho) : So := match d0 with
  | .lst l => match k with
    | .int z => match ixN l.length z with
      | some j => .nx (r2.set i (.own (.lst (l.set j d))))
      | none => .no
    | _ => .no
  | .dK ks l => match keyD k with
    | some k => if ks.length < 1000000 then .nx (r2.set i (.own (.dK (ptK ks k) (ptL ks l k d)))) else .no
    | none => .no
  | .dT ks l => match keyT k with
    | some k => if ks.length < 1000000 then .nx (r2.set i (.own (.dT (ptK ks k) (ptL ks l k d)))) else .no
    | none => .no
  | _ => .no
@[simp] theorem setI_w {r : Rho} {i : Nat} {d0 k d : D} (h : r[i]? = some (.own d0)) : setI i k d r = setJ i d0 k d r := by
  unfold setI; rw [h]; cases d0 <;> rfl
@[simp] theorem setJ_l (i : Nat) (l : List D) (z : Int) (d : D) (r : Rho) : setJ i (.lst l) (.int z) d r = match ixN l.length z with
      | some j => .nx (r.set i (.own (.lst (l.set j d))))
      | none => .no := rfl
@[simp] theorem setJ_s (i : Nat) (ks : List Key) (l : List D) (x : Str) (d : D) (r : Rho) (h : ks.length < 1000000) : setJ i (.dK ks l) (.str x) d r = .nx (r.set i (.own (.dK (ptK ks (.inr x)) (ptL ks l (.inr x) d)))) := by
  show (if ks.length < 1000000 then _ else _) = _
  rw [if_pos h]
@[simp] theorem setJ_i (i : Nat) (ks : List Key) (l : List D) (x : Int) (d : D) (r : Rho) (h : ks.length < 1000000) : setJ i (.dK ks l) (.int x) d r = .nx (r.set i (.own (.dK (ptK ks (.inl x)) (ptL ks l (.inl x) d)))) := by
  show (if ks.length < 1000000 then _ else _) = _
  rw [if_pos h]
@[simp] theorem setJ_t (i : Nat) (ks : List (List Key)) (l : List D) (x : D) (kk : List Key) (d : D) (r : Rho) (hk : keyT x = some kk) (h : ks.length < 1000000) : setJ i (.dT ks l) x d r = .nx (r.set i (.own (.dT (ptK ks kk) (ptL ks l kk d)))) := by
  show (match keyT x with | some k => if ks.length < 1000000 then So.nx (r.set i (.own (.dT (ptK ks k) (ptL ks l k d)))) else .no | none => .no) = _
  rw [hk]
  show (if ks.length < 1000000 then _ else _) = _
  rw [if_pos h]
/-! ### ranges by steps -/
theorem rgL_0 (i : Int) : rgL i 0 = [] := rfl
theorem rgL_s (i : Int) (n : Nat) : rgL i (n + 1) = .int i :: rgL (i + 1) n := by
  unfold rgL
  rw [List.range_succ_eq_map, List.map_cons, List.map_map]
  congr 1
  · simp
  · apply List.map_congr_left
    intro k _
    show D.int (i + ((k + 1 : Nat) : Int)) = D.int (i + 1 + (k : Int))
    congr 1
    omega
/-! ### texts -/
def Sh (n : Nat) (x : Str) : Prop := x.length ≤ n
theorem Sh.app {n k : Nat} {x y : Str} (h : Sh n x) (h' : Sh k y) : Sh (n + k) (x ++ y) := by
  unfold Sh at *
  rw [Str.length_append]
  omega
theorem Sh.le {n k : Nat} {x : Str} (h : Sh n x) (hk : n ≤ k) : Sh k x := Nat.le_trans h hk
theorem Sh.sum {n k : Nat} {x y : Str} (h : Sh n x) (h' : Sh k y) (hk : n + k ≤ 1000000) : x.length + y.length ≤ 1000000 := by unfold Sh at *; omega
/-- data of one form -/
theorem ex_map {α : Type} {en : α → D} {P : α → Prop} : ∀ {l : List D}, (∀ d ∈ l, ∃ p, P p ∧ d = en p) → ∃ E : List α, l = E.map en ∧ ∀ p ∈ E, P p
  | [], _ => ⟨[], rfl, fun _ h => by simp at h⟩
  | d :: l, h => by
    obtain ⟨p, hp, e⟩ := h d List.mem_cons_self
    obtain ⟨E, e2, h2⟩ := ex_map fun d hd => h d (List.mem_cons_of_mem _ hd)
    refine ⟨p :: E, by rw [e, e2]; rfl, fun q hq => ?_⟩
    rcases List.mem_cons.mp hq with rfl | hq
    · exact hp
    · exact h2 q hq
theorem cutD_mem {l : List D} {lo hi : Option Int} {d : D} (h : d ∈ cutD l lo hi) : d ∈ l := List.mem_of_mem_drop (List.mem_of_mem_take h)
theorem cutD_len (l : List D) (lo hi : Option Int) : (cutD l lo hi).length ≤ l.length := by
  unfold cutD
  rw [List.length_take, List.length_drop]
  omega
@[simp] theorem cut_1 (l : List D) : cutD l (some 1) none = l.drop 1 := by
  cases l with
  | nil => rfl
  | cons a l =>
    have e1 : HT.sIx (a :: l).length 0 (some 1) = 1 := by
      have := HT.sIx_nat (a :: l).length 0 1
      rw [show ((1 : Nat) : Int) = 1 from rfl] at this
      rw [this, List.length_cons]; omega
    unfold cutD
    rw [e1, HT.sIx_none, List.drop_succ_cons, List.drop_zero, List.take_of_length_le (by rw [List.length_cons]; omega)]
theorem cut_to (l : List D) (k : Nat) : cutD l none (some (k : Int)) = l.take k := by
  unfold cutD
  rw [HT.sIx_nat, HT.sIx_none, List.drop_zero, Nat.sub_zero]
  by_cases h : k ≤ l.length
  · rw [Nat.min_eq_left h]
  · rw [Nat.min_eq_right (by omega), List.take_of_length_le (Nat.le_refl _), List.take_of_length_le (by omega)]
@[simp] theorem cut_to1 (l : List D) : cutD l none (some 1) = l.take 1 := cut_to l 1
@[simp] theorem cut_to2 (l : List D) : cutD l none (some 2) = l.take 2 := cut_to l 2
@[simp] theorem cut_to3 (l : List D) : cutD l none (some 3) = l.take 3 := cut_to l 3
@[simp] theorem cut_to8 (l : List D) : cutD l none (some 8) = l.take 8 := cut_to l 8
theorem cut_fr (l : List D) (k : Nat) : cutD l (some (k : Int)) none = l.drop k := by
  unfold cutD
  rw [HT.sIx_nat, HT.sIx_none]
  by_cases h : k ≤ l.length
  · rw [Nat.min_eq_left h, List.take_of_length_le (by rw [List.length_drop]; omega)]
  · rw [Nat.min_eq_right (by omega), List.drop_eq_nil_of_le (by omega), List.drop_eq_nil_of_le (by omega), List.take_nil]
@[simp] theorem cut_2 (l : List D) : cutD l (some 2) none = l.drop 2 := cut_fr l 2
@[simp] theorem cut_3 (l : List D) : cutD l (some 3) none = l.drop 3 := cut_fr l 3
@[simp] theorem lcL_n (i : Nat) (t : MT) (m : ME) (vs : List Nat) (d : D) (ds : List D) (r : Rho) (acc : List D) : lcL (gN i) t m vs (d :: ds) r acc = match t (r.set i (.val d)) with
  | .ok b r2 => if b = true then (match fz m r2 with
      | .ok x r3 => if acc.length < 1000000 then lcL (gN i) t m vs ds (wipeR r3 vs) (acc ++ [x]) else .no
      | _ => .no) else lcL (gN i) t m vs ds (wipeR r2 vs) acc
  | _ => .no := rfl
@[simp] theorem tupD_l (l : List D) : tupD (.lst l) = some (.own (.tup l)) := rfl
theorem ptK_len (ks : List Key) (k : Key) : (ptK ks k).length ≤ ks.length + 1 := by
  unfold ptK
  split <;> simp
theorem setI_at {r : Rho} {i j : Nat} {d : D} {l : List D} {z : Int} (h : r[i]? = some (.own (.lst l))) (hz : ixN l.length z = some j) : setI i (.int z) d r = .nx (r.set i (.own (.lst (l.set j d)))) := by
  rw [setI_o r d i h, hz]
theorem ixN_nat {n j : Nat} (h : j < n) : ixN n (j : Int) = some j := by
  unfold ixN
  have h1 : (0 : Int) ≤ (j : Int) := by omega
  have h2 : (j : Int) < (n : Int) := by omega
  simp [h1, h2]
theorem atI_at {α : Type} {l : List α} {j : Nat} {x : α} (h : l[j]? = some x) : atI l (j : Int) = some x := atI_nat (by omega) (by simpa using h)
end Mi

end
section
set_option maxRecDepth 100000
/-! Mi33: the drawn expressions that many laws share. -/
namespace Mi
open PySem L2
@[simp] theorem eChn_e (f g : D → D → Option R0) (m n k : ME) (r : Rho) : eChn f g m n k r = (fz m r).bd fun d1 r1 => (fz n r1).bd fun d2 r2 => match f d1 d2 with
  | some (.val (.bl b)) => if b = true then (fz k r2).bd fun d3 r3 => res (g d2 d3) r3 else .ok (.val (.bl false)) r2
  | _ => .no := rfl
@[simp] theorem iStrM_e (m : ME) (r : Rho) : iStrM m r = (fz m r).bd fun d r1 => match d with
  | .str x => .ok (sgnD x) r1
  | _ => .no := rfl
@[simp] theorem eCall0_e (g : MS) (r : Rho) : eCall0 g r = noXO (callO [] r (g [])) := rfl
@[simp] theorem noXO_o {α : Type} (a : α) (r : Rho) : noXO (.ok a r) = .ok a r := rfl
@[simp] theorem inKI_s (neg : Bool) (kvs : List (Str × Int)) (z : Str) : inKI neg kvs (.str z) = vB (if neg then !(lkI kvs z).isSome else (lkI kvs z).isSome) := rfl
@[simp] theorem ixKI_s (kvs : List (Str × Int)) (z : Str) : ixKI kvs (.str z) = (lkI kvs z).map fun i => .val (.int i) := rfl
@[simp] theorem eSlS_e (m ms : ME) (r : Rho) : eSlS m ms r = (stl m r).bd fun x r1 => (fz ms r1).bd fun s r2 => match look x r2 with
  | some d => match stpD d s with
    | some l => .ok (.own (.lst l)) r2
    | none => .no
  | none => .no := rfl
theorem dw (n : Nat) (h0 : n ≠ 0) (h : n < 1000) {s : Stm} (hs : s.Ok) : g_draw [.own s.d, .val (.int (n : Int))] = .rt (.val (.int (s.dv (n : Int)))) [.own (s.dr (n : Int)).d, .val (.int (n : Int))] ∧ (s.dr (n : Int)).Ok := by
  have m : Dm (n : Int) := Dm_lit n h0 (Nat.lt_of_lt_of_le h (by decide +kernel))
  exact ⟨g_draw_e m hs, hs.dr m⟩
theorem dv_bd (n : Nat) (h0 : n ≠ 0) (h : n < 1000) (s : Stm) : 0 ≤ s.dv (n : Int) ∧ s.dv (n : Int) < (n : Int) := by
  have m : Dm (n : Int) := Dm_lit n h0 (Nat.lt_of_lt_of_le h (by decide +kernel))
  exact ⟨s.dv_0 m, s.dv_1 m⟩
/-- a draw among fewer than so many: it is one of the numbers below -/
theorem dx (n : Nat) (h0 : n ≠ 0) (h : n < 1000) {s : Stm} (hs : s.Ok) : ∃ (i : Nat) (s' : Stm), i < n ∧ s'.Ok ∧ g_draw [.own s.d, .val (.int (n : Int))] = .rt (.val (.int (i : Int))) [.own s'.d, .val (.int (n : Int))] := by
  obtain ⟨d1, o1⟩ := dw n h0 h hs
  obtain ⟨b0, b1⟩ := dv_bd n h0 h s
  refine ⟨(s.dv n).toNat, _, by omega, o1, ?_⟩
  rw [d1, Int.toNat_of_nonneg b0]

/-! ### expressions -/
inductive U1 where
  | neg | not
inductive B2 where
  | add | sub | mul | div | and | or | same | less | atm
def U1.w : U1 → Str
  | .neg => "neg" | .not => "not"
def B2.w : B2 → Str
  | .add => "add" | .sub => "sub" | .mul => "mul" | .div => "div" | .and => "and" | .or => "or" | .same => "same" | .less => "less" | .atm => "atmost"
inductive Xp where
  | num (a b : Int) | tru (b : Bool) | tim | ini | var (x : Str) (o : Nat) | pre (x : Str) | smp (a b p q : Int)
  | un (w : U1) (t : Xp) | bin (w : B2) (t u : Xp) | ite (c t u : Xp)
namespace Xp
def d (c : Nat) : Xp → D
  | .num a b => .tup [.str "num", rt c a b]
  | .tru b => .tup [.str "truth", .bl b]
  | .tim => .tup [.str "time"]
  | .ini => .tup [.str "initial"]
  | .var x o => .tup [.str "var", .str x, .int (o : Int)]
  | .pre x => .tup [.str "pre", .str x]
  | .smp a b p q => .tup [.str "sample", rt c a b, rt c p q]
  | .un w t => .tup [.str w.w, t.d c]
  | .bin w t u => .tup [.str w.w, t.d c, u.d c]
  | .ite k t u => .tup [.str "if", k.d c, t.d c, u.d c]
def hg : Xp → Nat
  | .un _ t => t.hg + 1
  | .bin _ t u => max t.hg u.hg + 1
  | .ite k t u => max k.hg (max t.hg u.hg) + 1
  | _ => 1
end Xp
def NMs : List Str := ["a", "b", "x1", "c.d", "e[2].f_g", "R1", "tank.Kp", "p", "q.r", "On", "s1"]
def Fr (a b : Int) : Prop := Low a b ∧ Bn 6 a ∧ Bn 6 b
namespace Xp
def Wf : Xp → Prop
  | .num a b => Fr a b
  | .var x o => x ∈ NMs ∧ o ≤ 4
  | .pre x => x ∈ NMs
  | .smp a b p q => Fr a b ∧ Fr p q ∧ 0 < p
  | .un _ t => t.Wf
  | .bin _ t u => t.Wf ∧ u.Wf
  | .ite k t u => k.Wf ∧ t.Wf ∧ u.Wf
  | _ => True
end Xp
def N0 : D := .dK [.inr "vars", .inr "pres", .inr "truths", .inr "tvars"] [.lst [.tup [.str "a", .int 4], .tup [.str "b", .int 0], .tup [.str "x1", .int 2], .tup [.str "c.d", .int 1], .tup [.str "e[2].f_g", .int 0], .tup [.str "R1", .int 3], .tup [.str "tank.Kp", .int 0]],
  .lst [.str "a", .str "b", .str "c.d", .str "R1"], .lst [.str "p", .str "q.r", .str "On"], .lst [.str "p", .str "s1", .str "On"]]
section
variable (x c : Nat)
def g_names : MS := mkFn 0 1 [] (sSeq (sSet 0 (eLst (aC (eTup (aC (eC (.str "a")) (aC (eC (.int 4)) aN))) (aC (eTup (aC (eC (.str "b")) (aC (eC (.int 0)) aN))) (aC (eTup (aC (eC (.str "x1")) (aC (eC (.int 2)) aN))) (aC (eTup (aC (eC (.str "c.d")) (aC (eC (.int 1)) aN))) (aC (eTup (aC (eC (.str "e[2].f_g")) (aC (eC (.int 0)) aN))) (aC (eTup (aC (eC (.str "R1")) (aC (eC (.int 3)) aN))) (aC (eTup (aC (eC (.str "tank.Kp")) (aC (eC (.int 0)) aN))) aN)))))))))
    (sRet [] (eDsp (pC (eC (.str "vars")) (eVar 0) (pC (eC (.str "pres")) (eLst (aC (eC (.str "a")) (aC (eC (.str "b")) (aC (eC (.str "c.d")) (aC (eC (.str "R1")) aN))))) (pC (eC (.str "truths")) (eLst (aC (eC (.str "p")) (aC (eC (.str "q.r")) (aC (eC (.str "On")) aN)))) (pC (eC (.str "tvars")) (eLst (aC (eC (.str "p")) (aC (eC (.str "s1")) (aC (eC (.str "On")) aN)))) pN)))))))
theorem g_names_e : g_names [] = .rt (.own N0) [] := by
  unfold g_names N0
  simp -implicitDefEqProofs [ptK, ptL]
def g_small : MS := mkFn 1 0 [0] (sRet [0] (eMake c (g_init x c) [] (cV (eOp subD (eCall g_draw (cB (eVar 0) (cV (eC (.int 13)) cN))) (eC (.int 6))) (cV (eOp addD (eC (.int 1)) (eCall g_draw (cB (eVar 0) (cV (eC (.int 4)) cN)))) cN))))
mutual
def g_number : Nat → MS
  | 0 => mNo
  | k + 1 => mkFn 3 4 [0] (sSeq (sSet 3 (eCall g_draw (cB (eVar 0) (cV (eC (.int 12)) cN))))
    (sSeq (sIf (tOrM (tV (eOp eqD (eVar 1) (eC (.int 0)))) (tV (eOp ltD (eVar 3) (eC (.int 5)))))
    (sSeq (sSet 3 (eCall g_draw (cB (eVar 0) (cV (eC (.int 8)) cN))))
    (sSeq (sIf (tAndM (tV (eOp ltD (eVar 3) (eC (.int 4)))) (tV (eOp gtD (eUn lenD (eOp ixD (eVar 2) (eC (.str "vars")))) (eC (.int 0)))))
    (sSeq (sSet 4 (eOp ixD (eOp ixD (eVar 2) (eC (.str "vars"))) (eCall g_draw (cB (eVar 0) (cV (eUn lenD (eOp ixD (eVar 2) (eC (.str "vars")))) cN)))))
    (sRet [0] (eTup (aC (eC (.str "var")) (aC (eOp ixD (eVar 4) (eC (.int 0))) (aC (eCall g_draw (cB (eVar 0) (cV (eOp addD (eC (.int 1)) (eOp ixD (eVar 4) (eC (.int 1)))) cN))) aN))))))
    sNil)
    (sSeq (sIf (tAndM (tV (eOp eqD (eVar 3) (eC (.int 4)))) (tV (eOp gtD (eUn lenD (eOp ixD (eVar 2) (eC (.str "pres")))) (eC (.int 0)))))
    (sRet [0] (eTup (aC (eC (.str "pre")) (aC (eOp ixD (eOp ixD (eVar 2) (eC (.str "pres"))) (eCall g_draw (cB (eVar 0) (cV (eUn lenD (eOp ixD (eVar 2) (eC (.str "pres")))) cN)))) aN))))
    sNil)
    (sSeq (sIf (tV (eOp eqD (eVar 3) (eC (.int 5))))
    (sRet [0] (eTup (aC (eC (.str "time")) aN)))
    sNil)
    (sRet [0] (eTup (aC (eC (.str "num")) (aC (eCall (g_small x c) (cB (eVar 0) cN)) aN))))))))
    sNil)
    (sSeq (sIf (tV (eOp eqD (eVar 3) (eC (.int 5))))
    (sRet [0] (eTup (aC (eC (.str "neg")) (aC (eCall (g_number k) (cB (eVar 0) (cV (eOp subD (eVar 1) (eC (.int 1))) (cV (eVar 2) cN)))) aN))))
    sNil)
    (sSeq (sIf (tV (eOp eqD (eVar 3) (eC (.int 6))))
    (sSeq (sSet 5 (eCall (g_truth k) (cB (eVar 0) (cV (eOp subD (eVar 1) (eC (.int 1))) (cV (eVar 2) cN)))))
    (sRet [0] (eTup (aC (eC (.str "if")) (aC (eVar 5) (aC (eCall (g_number k) (cB (eVar 0) (cV (eOp subD (eVar 1) (eC (.int 1))) (cV (eVar 2) cN)))) (aC (eCall (g_number k) (cB (eVar 0) (cV (eOp subD (eVar 1) (eC (.int 1))) (cV (eVar 2) cN)))) aN)))))))
    sNil)
    (sSeq (sSet 6 (eOp ixD (eLst (aC (eC (.str "add")) (aC (eC (.str "sub")) (aC (eC (.str "mul")) (aC (eC (.str "div")) (aC (eC (.str "add")) aN)))))) (eOp subD (eVar 3) (eC (.int 7)))))
    (sRet [0] (eTup (aC (eVar 6) (aC (eCall (g_number k) (cB (eVar 0) (cV (eOp subD (eVar 1) (eC (.int 1))) (cV (eVar 2) cN)))) (aC (eCall (g_number k) (cB (eVar 0) (cV (eOp subD (eVar 1) (eC (.int 1))) (cV (eVar 2) cN)))) aN))))))))))
def g_truth : Nat → MS
  | 0 => mNo
  | k + 1 => mkFn 3 3 [0] (sSeq (sSet 3 (eCall g_draw (cB (eVar 0) (cV (eC (.int 12)) cN))))
    (sSeq (sIf (tOrM (tV (eOp eqD (eVar 1) (eC (.int 0)))) (tV (eOp ltD (eVar 3) (eC (.int 3)))))
    (sSeq (sSet 3 (eCall g_draw (cB (eVar 0) (cV (eC (.int 5)) cN))))
    (sSeq (sIf (tAndM (tV (eOp eqD (eVar 3) (eC (.int 0)))) (tV (eOp gtD (eUn lenD (eOp ixD (eVar 2) (eC (.str "truths")))) (eC (.int 0)))))
    (sRet [0] (eTup (aC (eC (.str "pre")) (aC (eOp ixD (eOp ixD (eVar 2) (eC (.str "truths"))) (eCall g_draw (cB (eVar 0) (cV (eUn lenD (eOp ixD (eVar 2) (eC (.str "truths")))) cN)))) aN))))
    sNil)
    (sSeq (sIf (tAndM (tV (eOp eqD (eVar 3) (eC (.int 3)))) (tV (eOp gtD (eUn lenD (eOp ixD (eVar 2) (eC (.str "tvars")))) (eC (.int 0)))))
    (sRet [0] (eTup (aC (eC (.str "var")) (aC (eOp ixD (eOp ixD (eVar 2) (eC (.str "tvars"))) (eCall g_draw (cB (eVar 0) (cV (eUn lenD (eOp ixD (eVar 2) (eC (.str "tvars")))) cN)))) (aC (eC (.int 0)) aN)))))
    sNil)
    (sSeq (sIf (tV (eOp eqD (eVar 3) (eC (.int 1))))
    (sRet [0] (eTup (aC (eC (.str "initial")) aN)))
    sNil)
    (sSeq (sIf (tV (eOp eqD (eVar 3) (eC (.int 2))))
    (sRet [0] (eTup (aC (eC (.str "sample")) (aC (eCall (g_small x c) (cB (eVar 0) cN)) (aC (eMake c (g_init x c) [] (cV (eOp addD (eC (.int 1)) (eCall g_draw (cB (eVar 0) (cV (eC (.int 6)) cN)))) (cV (eOp addD (eC (.int 1)) (eCall g_draw (cB (eVar 0) (cV (eC (.int 3)) cN)))) cN))) aN)))))
    sNil)
    (sRet [0] (eTup (aC (eC (.str "truth")) (aC (eOp eqD (eCall g_draw (cB (eVar 0) (cV (eC (.int 2)) cN))) (eC (.int 0))) aN)))))))))
    sNil)
    (sSeq (sIf (tV (eOp eqD (eVar 3) (eC (.int 3))))
    (sRet [0] (eTup (aC (eC (.str "not")) (aC (eCall (g_truth k) (cB (eVar 0) (cV (eOp subD (eVar 1) (eC (.int 1))) (cV (eVar 2) cN)))) aN))))
    sNil)
    (sSeq (sIf (tV (eOp eqD (eVar 3) (eC (.int 4))))
    (sSeq (sSet 4 (eCall (g_truth k) (cB (eVar 0) (cV (eOp subD (eVar 1) (eC (.int 1))) (cV (eVar 2) cN)))))
    (sRet [0] (eTup (aC (eC (.str "if")) (aC (eVar 4) (aC (eCall (g_truth k) (cB (eVar 0) (cV (eOp subD (eVar 1) (eC (.int 1))) (cV (eVar 2) cN)))) (aC (eCall (g_truth k) (cB (eVar 0) (cV (eOp subD (eVar 1) (eC (.int 1))) (cV (eVar 2) cN)))) aN)))))))
    sNil)
    (sSeq (sIf (tV (eOp ltD (eVar 3) (eC (.int 8))))
    (sSeq (sSet 5 (eOp ixD (eLst (aC (eC (.str "and")) (aC (eC (.str "or")) (aC (eC (.str "same")) aN)))) (eOp subD (eVar 3) (eC (.int 5)))))
    (sRet [0] (eTup (aC (eVar 5) (aC (eCall (g_truth k) (cB (eVar 0) (cV (eOp subD (eVar 1) (eC (.int 1))) (cV (eVar 2) cN)))) (aC (eCall (g_truth k) (cB (eVar 0) (cV (eOp subD (eVar 1) (eC (.int 1))) (cV (eVar 2) cN)))) aN))))))
    sNil)
    (sSeq (sSet 5 (eOp ixD (eLst (aC (eC (.str "less")) (aC (eC (.str "atmost")) (aC (eC (.str "same")) (aC (eC (.str "less")) aN))))) (eOp subD (eVar 3) (eC (.int 8)))))
    (sRet [0] (eTup (aC (eVar 5) (aC (eCall (g_number k) (cB (eVar 0) (cV (eOp subD (eVar 1) (eC (.int 1))) (cV (eVar 2) cN)))) (aC (eCall (g_number k) (cB (eVar 0) (cV (eOp subD (eVar 1) (eC (.int 1))) (cV (eVar 2) cN)))) aN)))))))))))
end
def g_any : MS := mkFn 2 0 [0] (sSeq (sIf (tV (eOp eqD (eCall g_draw (cB (eVar 0) (cV (eC (.int 3)) cN))) (eC (.int 0))))
    (sRet [0] (eCall (g_truth x c 8) (cB (eVar 0) (cV (eVar 1) (cV (eCall0 g_names) cN)))))
    sNil)
    (sRet [0] (eCall (g_number x c 8) (cB (eVar 0) (cV (eVar 1) (cV (eCall0 g_names) cN))))))

/-! ### they run -/
def V0 : List D := [.tup [.str "a", .int 4], .tup [.str "b", .int 0], .tup [.str "x1", .int 2], .tup [.str "c.d", .int 1], .tup [.str "e[2].f_g", .int 0], .tup [.str "R1", .int 3], .tup [.str "tank.Kp", .int 0]]
def P0 : List D := [.str "a", .str "b", .str "c.d", .str "R1"]
def T0 : List D := [.str "p", .str "q.r", .str "On"]
def S0 : List D := [.str "p", .str "s1", .str "On"]
theorem n_vars : ixD N0 (.str "vars") = some (.val (.lst V0)) := by simp -implicitDefEqProofs [N0, vl, V0]
theorem n_pres : ixD N0 (.str "pres") = some (.val (.lst P0)) := by simp -implicitDefEqProofs [N0, vl, P0]
theorem n_truths : ixD N0 (.str "truths") = some (.val (.lst T0)) := by simp -implicitDefEqProofs [N0, vl, T0]
theorem n_tvars : ixD N0 (.str "tvars") = some (.val (.lst S0)) := by simp -implicitDefEqProofs [N0, vl, S0]
theorem l_vars : V0.length = 7 := rfl
theorem l_pres : P0.length = 4 := rfl
theorem l_truths : T0.length = 3 := rfl
theorem l_tvars : S0.length = 3 := rfl
abbrev DrE (s : D) (m b : Int) (s' : D) : Prop := g_draw [.own s, .val (.int m)] = .rt (.val (.int b)) [.own s', .val (.int m)]
theorem sm_r {s s1 s2 : D} {a b : Int} (e1 : DrE s 13 a s1) (e2 : DrE s1 4 b s2) (h : 1 + b ≠ 0) (hb : Bn 9000 (1 + b)) : g_small x c [.own s] = .rt (.own (rt c (nt (a - 6) (1 + b)) (nb (a - 6) (1 + b)))) [.own s2] := by
  unfold g_small
  have g := g_init_e (x := x) (c := c) (a - 6) (1 + b) h hb
  simp -implicitDefEqProofs [e1, e2, g]
theorem small_e (s : Stm) (hs : s.Ok) : ∃ (s' : Stm) (a b : Int), s'.Ok ∧ Fr a b ∧ g_small x c [.own s.d] = .rt (.own (rt c a b)) [.own s'.d] := by
  obtain ⟨i, s1, hi, o1, e1⟩ := dx 13 (by decide) (by decide) hs
  obtain ⟨j, s2, hj, o2, e2⟩ := dx 4 (by decide) (by decide) o1
  have h : (1 + (j : Int)) ≠ 0 := by omega
  have hb : Bn 6 (1 + (j : Int)) := by unfold Bn; omega
  have ha : Bn 6 ((i : Int) - 6) := by unfold Bn; omega
  exact ⟨s2, _, _, o2, ⟨low_of h, ha.nt, hb.nb⟩, sm_r x c e1 e2 h (hb.le (by decide))⟩
section
variable {x c} {k : Nat} {s s1 s2 s3 s4 s5 : D} {a b p i j : Int} {d1 d2 d3 : D}
abbrev NmE (x c k : Nat) (s : D) (a : Int) (r : D) (s' : D) : Prop := g_number x c k [.own s, .val (.int a), .val N0] = .rt (.val r) [.own s', .val (.int a), .val N0]
abbrev TrE (x c k : Nat) (s : D) (a : Int) (r : D) (s' : D) : Prop := g_truth x c k [.own s, .val (.int a), .val N0] = .rt (.val r) [.own s', .val (.int a), .val N0]
abbrev SmE (x c : Nat) (s : D) (r : D) (s' : D) : Prop := g_small x c [.own s] = .rt (.own r) [.own s']
theorem nm_var {o : Nat} {y : Str} (e1 : DrE s 12 b s1) (h1 : a = 0 ∨ b < 5) (e2 : DrE s1 8 p s2) (h2 : p < 4) (e3 : DrE s2 7 i s3) (hi : atI V0 i = some (.tup [.str y, .int o])) (e4 : DrE s3 (1 + (o : Int)) j s4) : NmE x c (k + 1) s a (.tup [.str "var", .str y, .int j]) s4 := by
  unfold NmE g_number
  by_cases h : a = 0
  · simp -implicitDefEqProofs [e1, e2, e3, e4, h, h2, hi, n_vars, l_vars]
  · have h1 := h1.resolve_left h
    simp -implicitDefEqProofs [e1, e2, e3, e4, h, h1, h2, hi, n_vars, l_vars]
theorem nm_pre {y : Str} (e1 : DrE s 12 b s1) (h1 : a = 0 ∨ b < 5) (e2 : DrE s1 8 4 s2) (e3 : DrE s2 4 i s3) (hi : atI P0 i = some (.str y)) : NmE x c (k + 1) s a (.tup [.str "pre", .str y]) s3 := by
  unfold NmE g_number
  by_cases h : a = 0
  · simp -implicitDefEqProofs [e1, e2, e3, h, hi, n_pres, l_pres]
  · have h1 := h1.resolve_left h
    simp -implicitDefEqProofs [e1, e2, e3, h, h1, hi, n_pres, l_pres]
theorem nm_tim (e1 : DrE s 12 b s1) (h1 : a = 0 ∨ b < 5) (e2 : DrE s1 8 5 s2) : NmE x c (k + 1) s a (.tup [.str "time"]) s2 := by
  unfold NmE g_number
  by_cases h : a = 0
  · simp -implicitDefEqProofs [e1, e2, h]
  · have h1 := h1.resolve_left h
    simp -implicitDefEqProofs [e1, e2, h, h1]
theorem nm_num (e1 : DrE s 12 b s1) (h1 : a = 0 ∨ b < 5) (e2 : DrE s1 8 p s2) (h2 : ¬ p < 4) (h3 : p ≠ 4) (h4 : p ≠ 5) (e3 : SmE x c s2 d1 s3) : NmE x c (k + 1) s a (.tup [.str "num", d1]) s3 := by
  unfold NmE g_number
  by_cases h : a = 0
  · simp -implicitDefEqProofs [e1, e2, e3, h, h2, h3, h4]
  · have h1 := h1.resolve_left h
    simp -implicitDefEqProofs [e1, e2, e3, h, h1, h2, h3, h4]
theorem nm_neg (e1 : DrE s 12 5 s1) (h : a ≠ 0) (e2 : NmE x c k s1 (a - 1) d1 s2) : NmE x c (k + 1) s a (.tup [.str "neg", d1]) s2 := by
  unfold NmE at e2 ⊢
  unfold g_number
  simp -implicitDefEqProofs [e1, e2, h]
theorem nm_if (e1 : DrE s 12 6 s1) (h : a ≠ 0) (e2 : TrE x c k s1 (a - 1) d1 s2) (e3 : NmE x c k s2 (a - 1) d2 s3) (e4 : NmE x c k s3 (a - 1) d3 s4) : NmE x c (k + 1) s a (.tup [.str "if", d1, d2, d3]) s4 := by
  unfold NmE at e3 e4 ⊢
  unfold TrE at e2
  unfold g_number
  simp -implicitDefEqProofs [e1, e2, e3, e4, h]
theorem nm_bin {w : Str} (e1 : DrE s 12 b s1) (h : a ≠ 0) (h1 : ¬ b < 5) (h2 : b ≠ 5) (h3 : b ≠ 6) (hw : atI [D.str "add", .str "sub", .str "mul", .str "div", .str "add"] (b - 7) = some (.str w)) (e3 : NmE x c k s1 (a - 1) d2 s2) (e4 : NmE x c k s2 (a - 1) d3 s3) : NmE x c (k + 1) s a (.tup [.str w, d2, d3]) s3 := by
  unfold NmE at e3 e4 ⊢
  unfold g_number
  simp -implicitDefEqProofs [e1, e3, e4, h, h1, h2, h3, hw]
theorem tr_pre {y : Str} (e1 : DrE s 12 b s1) (h1 : a = 0 ∨ b < 3) (e2 : DrE s1 5 0 s2) (e3 : DrE s2 3 i s3) (hi : atI T0 i = some (.str y)) : TrE x c (k + 1) s a (.tup [.str "pre", .str y]) s3 := by
  unfold TrE g_truth
  by_cases h : a = 0
  · simp -implicitDefEqProofs [e1, e2, e3, h, hi, n_truths, l_truths]
  · have h1 := h1.resolve_left h
    simp -implicitDefEqProofs [e1, e2, e3, h, h1, hi, n_truths, l_truths]
theorem tr_var {y : Str} (e1 : DrE s 12 b s1) (h1 : a = 0 ∨ b < 3) (e2 : DrE s1 5 3 s2) (e3 : DrE s2 3 i s3) (hi : atI S0 i = some (.str y)) : TrE x c (k + 1) s a (.tup [.str "var", .str y, .int 0]) s3 := by
  unfold TrE g_truth
  by_cases h : a = 0
  · simp -implicitDefEqProofs [e1, e2, e3, h, hi, n_tvars, l_tvars]
  · have h1 := h1.resolve_left h
    simp -implicitDefEqProofs [e1, e2, e3, h, h1, hi, n_tvars, l_tvars]
theorem tr_ini (e1 : DrE s 12 b s1) (h1 : a = 0 ∨ b < 3) (e2 : DrE s1 5 1 s2) : TrE x c (k + 1) s a (.tup [.str "initial"]) s2 := by
  unfold TrE g_truth
  by_cases h : a = 0
  · simp -implicitDefEqProofs [e1, e2, h]
  · have h1 := h1.resolve_left h
    simp -implicitDefEqProofs [e1, e2, h, h1]
theorem tr_smp (e1 : DrE s 12 b s1) (h1 : a = 0 ∨ b < 3) (e2 : DrE s1 5 2 s2) (e3 : SmE x c s2 d1 s3) (e4 : DrE s3 6 i s4) (e5 : DrE s4 3 j s5) (h5 : 1 + j ≠ 0) (h6 : Bn 9000 (1 + j)) : TrE x c (k + 1) s a (.tup [.str "sample", d1, rt c (nt (1 + i) (1 + j)) (nb (1 + i) (1 + j))]) s5 := by
  unfold TrE g_truth
  have g := g_init_e (x := x) (c := c) (1 + i) (1 + j) h5 h6
  by_cases h : a = 0
  · simp -implicitDefEqProofs [e1, e2, e3, e4, e5, h, g]
  · have h1 := h1.resolve_left h
    simp -implicitDefEqProofs [e1, e2, e3, e4, e5, h, h1, g]
theorem tr_tru (e1 : DrE s 12 b s1) (h1 : a = 0 ∨ b < 3) (e2 : DrE s1 5 4 s2) (e3 : DrE s2 2 i s3) : TrE x c (k + 1) s a (.tup [.str "truth", .bl (decide (i = 0))]) s3 := by
  unfold TrE g_truth
  by_cases h : a = 0
  · simp -implicitDefEqProofs [e1, e2, e3, h]
  · have h1 := h1.resolve_left h
    simp -implicitDefEqProofs [e1, e2, e3, h, h1]
theorem tr_not (e1 : DrE s 12 3 s1) (h : a ≠ 0) (e2 : TrE x c k s1 (a - 1) d1 s2) : TrE x c (k + 1) s a (.tup [.str "not", d1]) s2 := by
  unfold TrE at e2 ⊢
  unfold g_truth
  simp -implicitDefEqProofs [e1, e2, h]
theorem tr_if (e1 : DrE s 12 4 s1) (h : a ≠ 0) (e2 : TrE x c k s1 (a - 1) d1 s2) (e3 : TrE x c k s2 (a - 1) d2 s3) (e4 : TrE x c k s3 (a - 1) d3 s4) : TrE x c (k + 1) s a (.tup [.str "if", d1, d2, d3]) s4 := by
  unfold TrE at e2 e3 e4 ⊢
  unfold g_truth
  simp -implicitDefEqProofs [e1, e2, e3, e4, h]
theorem tr_b1 {w : Str} (e1 : DrE s 12 b s1) (h : a ≠ 0) (h1 : ¬ b < 3) (h2 : b ≠ 3) (h3 : b ≠ 4) (h4 : b < 8) (hw : atI [D.str "and", .str "or", .str "same"] (b - 5) = some (.str w)) (e3 : TrE x c k s1 (a - 1) d2 s2) (e4 : TrE x c k s2 (a - 1) d3 s3) : TrE x c (k + 1) s a (.tup [.str w, d2, d3]) s3 := by
  unfold TrE at e3 e4 ⊢
  unfold g_truth
  simp -implicitDefEqProofs [e1, e3, e4, h, h1, h2, h3, h4, hw]
theorem tr_b2 {w : Str} (e1 : DrE s 12 b s1) (h : a ≠ 0) (h1 : ¬ b < 3) (h2 : b ≠ 3) (h3 : b ≠ 4) (h4 : ¬ b < 8) (hw : atI [D.str "less", .str "atmost", .str "same", .str "less"] (b - 8) = some (.str w)) (e3 : NmE x c k s1 (a - 1) d2 s2) (e4 : NmE x c k s2 (a - 1) d3 s3) : TrE x c (k + 1) s a (.tup [.str w, d2, d3]) s3 := by
  unfold NmE at e3 e4
  unfold TrE g_truth
  simp -implicitDefEqProofs [e1, e3, e4, h, h1, h2, h3, h4, hw]

theorem v0_at (i : Nat) (h : i < 7) : ∃ (y : Str) (o : Nat), y ∈ NMs ∧ o ≤ 4 ∧ atI V0 (i : Int) = some (.tup [.str y, .int o]) := by
  have e : ∀ {d}, V0[i]? = some d → atI V0 (i : Int) = some d := fun h => atI_at h
  match i, h with
  | 0, _ => exact ⟨"a", 4, by simp [NMs], by decide, e rfl⟩
  | 1, _ => exact ⟨"b", 0, by simp [NMs], by decide, e rfl⟩
  | 2, _ => exact ⟨"x1", 2, by simp [NMs], by decide, e rfl⟩
  | 3, _ => exact ⟨"c.d", 1, by simp [NMs], by decide, e rfl⟩
  | 4, _ => exact ⟨"e[2].f_g", 0, by simp [NMs], by decide, e rfl⟩
  | 5, _ => exact ⟨"R1", 3, by simp [NMs], by decide, e rfl⟩
  | 6, _ => exact ⟨"tank.Kp", 0, by simp [NMs], by decide, e rfl⟩
theorem p0_at (i : Nat) (h : i < 4) : ∃ y : Str, y ∈ NMs ∧ atI P0 (i : Int) = some (.str y) := by
  have e : ∀ {d}, P0[i]? = some d → atI P0 (i : Int) = some d := fun h => atI_at h
  match i, h with
  | 0, _ => exact ⟨"a", by simp [NMs], e rfl⟩
  | 1, _ => exact ⟨"b", by simp [NMs], e rfl⟩
  | 2, _ => exact ⟨"c.d", by simp [NMs], e rfl⟩
  | 3, _ => exact ⟨"R1", by simp [NMs], e rfl⟩
theorem t0_at (i : Nat) (h : i < 3) : ∃ y : Str, y ∈ NMs ∧ atI T0 (i : Int) = some (.str y) := by
  have e : ∀ {d}, T0[i]? = some d → atI T0 (i : Int) = some d := fun h => atI_at h
  match i, h with
  | 0, _ => exact ⟨"p", by simp [NMs], e rfl⟩
  | 1, _ => exact ⟨"q.r", by simp [NMs], e rfl⟩
  | 2, _ => exact ⟨"On", by simp [NMs], e rfl⟩
theorem s0_at (i : Nat) (h : i < 3) : ∃ y : Str, y ∈ NMs ∧ atI S0 (i : Int) = some (.str y) := by
  have e : ∀ {d}, S0[i]? = some d → atI S0 (i : Int) = some d := fun h => atI_at h
  match i, h with
  | 0, _ => exact ⟨"p", by simp [NMs], e rfl⟩
  | 1, _ => exact ⟨"s1", by simp [NMs], e rfl⟩
  | 2, _ => exact ⟨"On", by simp [NMs], e rfl⟩
end
theorem at_off {l : List D} {i n j : Nat} {y : D} (h : l[j]? = some y) (hj : n + j = i) : atI l ((i : Int) - (n : Int)) = some y := by
  rw [show (i : Int) - (n : Int) = (j : Int) by omega]
  exact atI_at h
def NmOk (x c k : Nat) : Prop := ∀ (n : Nat) (s : Stm), s.Ok → n < k → ∃ (s' : Stm) (t : Xp), s'.Ok ∧ t.Wf ∧ t.hg ≤ n + 1 ∧ NmE x c k s.d n (t.d c) s'.d
def TrOk (x c k : Nat) : Prop := ∀ (n : Nat) (s : Stm), s.Ok → n < k → ∃ (s' : Stm) (t : Xp), s'.Ok ∧ t.Wf ∧ t.hg ≤ n + 1 ∧ TrE x c k s.d n (t.d c) s'.d
theorem nm_leaf {x c k n : Nat} {s s1 : Stm} {b : Nat} (o1 : s1.Ok) (e1 : DrE s.d 12 b s1.d) (h1 : (n : Int) = 0 ∨ (b : Int) < 5) : ∃ (s' : Stm) (t : Xp), s'.Ok ∧ t.Wf ∧ t.hg ≤ n + 1 ∧ NmE x c (k + 1) s.d n (t.d c) s'.d := by
  obtain ⟨p, s2, hp, o2, e2⟩ := dx 8 (by decide) (by decide) o1
  by_cases h2 : p < 4
  · obtain ⟨i, s3, hi, o3, e3⟩ := dx 7 (by decide) (by decide) o2
    obtain ⟨y, o, y1, y2, y3⟩ := v0_at i hi
    obtain ⟨j, s4, hj, o4, e4⟩ := dx (1 + o) (by omega) (by omega) o3
    exact ⟨s4, .var y j, o4, ⟨y1, by omega⟩, by show 1 ≤ _; omega, nm_var e1 h1 e2 (by omega) e3 y3 (by simpa using e4)⟩
  by_cases h3 : p = 4
  · subst h3
    obtain ⟨i, s3, hi, o3, e3⟩ := dx 4 (by decide) (by decide) o2
    obtain ⟨y, y1, y3⟩ := p0_at i hi
    exact ⟨s3, .pre y, o3, y1, by show 1 ≤ _; omega, nm_pre e1 h1 e2 e3 y3⟩
  by_cases h4 : p = 5
  · subst h4
    exact ⟨s2, .tim, o2, trivial, by show 1 ≤ _; omega, nm_tim e1 h1 e2⟩
  obtain ⟨s3, a, b, o3, f, e3⟩ := small_e x c s2 o2
  exact ⟨s3, .num a b, o3, f, by show 1 ≤ _; omega, nm_num e1 h1 e2 (by omega) (by omega) (by omega) e3⟩
theorem tr_leaf {x c k n : Nat} {s s1 : Stm} {b : Nat} (o1 : s1.Ok) (e1 : DrE s.d 12 b s1.d) (h1 : (n : Int) = 0 ∨ (b : Int) < 3) : ∃ (s' : Stm) (t : Xp), s'.Ok ∧ t.Wf ∧ t.hg ≤ n + 1 ∧ TrE x c (k + 1) s.d n (t.d c) s'.d := by
  obtain ⟨p, s2, hp, o2, e2⟩ := dx 5 (by decide) (by decide) o1
  match p, hp, e2 with
  | 0, _, e2 =>
    obtain ⟨i, s3, hi, o3, e3⟩ := dx 3 (by decide) (by decide) o2
    obtain ⟨y, y1, y3⟩ := t0_at i hi
    exact ⟨s3, .pre y, o3, y1, by show 1 ≤ _; omega, tr_pre e1 h1 e2 e3 y3⟩
  | 1, _, e2 => exact ⟨s2, .ini, o2, trivial, by show 1 ≤ _; omega, tr_ini e1 h1 e2⟩
  | 2, _, e2 =>
    obtain ⟨s3, a, b, o3, f, e3⟩ := small_e x c s2 o2
    obtain ⟨i, s4, hi, o4, e4⟩ := dx 6 (by decide) (by decide) o3
    obtain ⟨j, s5, hj, o5, e5⟩ := dx 3 (by decide) (by decide) o4
    have h5 : (1 + (j : Int)) ≠ 0 := by omega
    have hb : Bn 6 (1 + (j : Int)) := by unfold Bn; omega
    have ha : Bn 6 (1 + (i : Int)) := by unfold Bn; omega
    have lw := low_of (n := 1 + (i : Int)) h5
    have pos : 0 < nt (1 + (i : Int)) (1 + (j : Int)) := by
      have e := nt_mul (1 + (i : Int)) (1 + (j : Int))
      have sp : 0 < sg (1 + (i : Int)) (1 + (j : Int)) := by
        have n1 := sg_ne (n := 1 + (i : Int)) h5
        unfold sg at n1 ⊢
        rw [if_neg (by omega)] at n1 ⊢
        omega
      rcases Int.lt_or_le 0 (nt (1 + (i : Int)) (1 + (j : Int))) with h | h
      · exact h
      · have := Int.mul_le_mul_of_nonneg_left h (Int.le_of_lt sp)
        rw [e, Int.mul_zero] at this
        omega
    exact ⟨s5, .smp a b _ _, o5, ⟨f, ⟨lw, ha.nt, hb.nb⟩, pos⟩, by show 1 ≤ _; omega, tr_smp e1 h1 e2 e3 e4 e5 h5 (hb.le (by decide))⟩
  | 3, _, e2 =>
    obtain ⟨i, s3, hi, o3, e3⟩ := dx 3 (by decide) (by decide) o2
    obtain ⟨y, y1, y3⟩ := s0_at i hi
    exact ⟨s3, .var y 0, o3, ⟨y1, by decide⟩, by show 1 ≤ _; omega, tr_var e1 h1 e2 e3 y3⟩
  | 4, _, e2 =>
    obtain ⟨i, s3, hi, o3, e3⟩ := dx 2 (by decide) (by decide) o2
    exact ⟨s3, .tru _, o3, trivial, by show 1 ≤ _; omega, tr_tru e1 h1 e2 e3⟩
theorem xp_all (x c : Nat) : ∀ k : Nat, NmOk x c k ∧ TrOk x c k
  | 0 => ⟨fun n s hs h => by omega, fun n s hs h => by omega⟩
  | k + 1 => by
    obtain ⟨iN, iT⟩ := xp_all x c k
    refine ⟨fun n s hs h => ?_, fun n s hs h => ?_⟩
    · obtain ⟨b, s1, hb, o1, e1⟩ := dx 12 (by decide) (by decide) hs
      by_cases z : (n : Int) = 0 ∨ (b : Int) < 5
      · exact nm_leaf o1 e1 z
      obtain ⟨n, rfl⟩ : ∃ m, n = m + 1 := ⟨n - 1, by omega⟩
      have hn : ((n + 1 : Nat) : Int) - 1 = (n : Int) := by omega
      have n0 : ((n + 1 : Nat) : Int) ≠ 0 := by omega
      by_cases z5 : b = 5
      · subst z5
        obtain ⟨s2, t, o2, w, hg, e2⟩ := iN n s1 o1 (by omega)
        rw [← hn] at e2
        exact ⟨s2, .un .neg t, o2, w, by show t.hg + 1 ≤ _; omega, nm_neg e1 n0 e2⟩
      by_cases z6 : b = 6
      · subst z6
        obtain ⟨s2, t1, o2, w1, g1, e2⟩ := iT n s1 o1 (by omega)
        obtain ⟨s3, t2, o3, w2, g2, e3⟩ := iN n s2 o2 (by omega)
        obtain ⟨s4, t3, o4, w3, g3, e4⟩ := iN n s3 o3 (by omega)
        rw [← hn] at e2 e3 e4
        exact ⟨s4, .ite t1 t2 t3, o4, ⟨w1, w2, w3⟩, by show max t1.hg (max t2.hg t3.hg) + 1 ≤ _; omega, nm_if e1 n0 e2 e3 e4⟩
      have hw : ∃ w : B2, atI [D.str "add", .str "sub", .str "mul", .str "div", .str "add"] ((b : Int) - (7 : Nat)) = some (.str w.w) := by
        have : b = 7 ∨ b = 8 ∨ b = 9 ∨ b = 10 ∨ b = 11 := by omega
        rcases this with rfl | rfl | rfl | rfl | rfl
        · exact ⟨.add, at_off (j := 0) rfl rfl⟩
        · exact ⟨.sub, at_off (j := 1) rfl rfl⟩
        · exact ⟨.mul, at_off (j := 2) rfl rfl⟩
        · exact ⟨.div, at_off (j := 3) rfl rfl⟩
        · exact ⟨.add, at_off (j := 4) rfl rfl⟩
      obtain ⟨w, hw⟩ := hw
      obtain ⟨s2, t2, o2, w2, g2, e3⟩ := iN n s1 o1 (by omega)
      obtain ⟨s3, t3, o3, w3, g3, e4⟩ := iN n s2 o2 (by omega)
      rw [← hn] at e3 e4
      exact ⟨s3, .bin w t2 t3, o3, ⟨w2, w3⟩, by show max t2.hg t3.hg + 1 ≤ _; omega, nm_bin e1 n0 (by omega) (by omega) (by omega) hw e3 e4⟩
    · obtain ⟨b, s1, hb, o1, e1⟩ := dx 12 (by decide) (by decide) hs
      by_cases z : (n : Int) = 0 ∨ (b : Int) < 3
      · exact tr_leaf o1 e1 z
      obtain ⟨n, rfl⟩ : ∃ m, n = m + 1 := ⟨n - 1, by omega⟩
      have hn : ((n + 1 : Nat) : Int) - 1 = (n : Int) := by omega
      have n0 : ((n + 1 : Nat) : Int) ≠ 0 := by omega
      by_cases z3 : b = 3
      · subst z3
        obtain ⟨s2, t, o2, w, hg, e2⟩ := iT n s1 o1 (by omega)
        rw [← hn] at e2
        exact ⟨s2, .un .not t, o2, w, by show t.hg + 1 ≤ _; omega, tr_not e1 n0 e2⟩
      by_cases z4 : b = 4
      · subst z4
        obtain ⟨s2, t1, o2, w1, g1, e2⟩ := iT n s1 o1 (by omega)
        obtain ⟨s3, t2, o3, w2, g2, e3⟩ := iT n s2 o2 (by omega)
        obtain ⟨s4, t3, o4, w3, g3, e4⟩ := iT n s3 o3 (by omega)
        rw [← hn] at e2 e3 e4
        exact ⟨s4, .ite t1 t2 t3, o4, ⟨w1, w2, w3⟩, by show max t1.hg (max t2.hg t3.hg) + 1 ≤ _; omega, tr_if e1 n0 e2 e3 e4⟩
      by_cases z8 : b < 8
      · have hw : ∃ w : B2, atI [D.str "and", .str "or", .str "same"] ((b : Int) - (5 : Nat)) = some (.str w.w) := by
          have : b = 5 ∨ b = 6 ∨ b = 7 := by omega
          rcases this with rfl | rfl | rfl
          · exact ⟨.and, at_off (j := 0) rfl rfl⟩
          · exact ⟨.or, at_off (j := 1) rfl rfl⟩
          · exact ⟨.same, at_off (j := 2) rfl rfl⟩
        obtain ⟨w, hw⟩ := hw
        obtain ⟨s2, t2, o2, w2, g2, e3⟩ := iT n s1 o1 (by omega)
        obtain ⟨s3, t3, o3, w3, g3, e4⟩ := iT n s2 o2 (by omega)
        rw [← hn] at e3 e4
        exact ⟨s3, .bin w t2 t3, o3, ⟨w2, w3⟩, by show max t2.hg t3.hg + 1 ≤ _; omega, tr_b1 e1 n0 (by omega) (by omega) (by omega) (by omega) hw e3 e4⟩
      · have hw : ∃ w : B2, atI [D.str "less", .str "atmost", .str "same", .str "less"] ((b : Int) - (8 : Nat)) = some (.str w.w) := by
          have : b = 8 ∨ b = 9 ∨ b = 10 ∨ b = 11 := by omega
          rcases this with rfl | rfl | rfl | rfl
          · exact ⟨.less, at_off (j := 0) rfl rfl⟩
          · exact ⟨.atm, at_off (j := 1) rfl rfl⟩
          · exact ⟨.same, at_off (j := 2) rfl rfl⟩
          · exact ⟨.less, at_off (j := 3) rfl rfl⟩
        obtain ⟨w, hw⟩ := hw
        obtain ⟨s2, t2, o2, w2, g2, e3⟩ := iN n s1 o1 (by omega)
        obtain ⟨s3, t3, o3, w3, g3, e4⟩ := iN n s2 o2 (by omega)
        rw [← hn] at e3 e4
        exact ⟨s3, .bin w t2 t3, o3, ⟨w2, w3⟩, by show max t2.hg t3.hg + 1 ≤ _; omega, tr_b2 e1 n0 (by omega) (by omega) (by omega) (by omega) hw e3 e4⟩
theorem any_t {x c : Nat} {s s1 s2 : D} {a : Int} {r : D} (e1 : DrE s 3 0 s1) (e2 : TrE x c 8 s1 a r s2) : g_any x c [.own s, .val (.int a)] = .rt (.val r) [.own s2, .val (.int a)] := by
  unfold TrE at e2
  unfold g_any
  simp -implicitDefEqProofs [e1, e2, g_names_e]
theorem any_n {x c : Nat} {s s1 s2 : D} {a b : Int} {r : D} (e1 : DrE s 3 b s1) (hb : b ≠ 0) (e2 : NmE x c 8 s1 a r s2) : g_any x c [.own s, .val (.int a)] = .rt (.val r) [.own s2, .val (.int a)] := by
  unfold NmE at e2
  unfold g_any
  simp -implicitDefEqProofs [e1, hb, e2, g_names_e]
/-- a drawn expression -/
theorem any_e (x c n : Nat) (hn : n < 8) (s : Stm) (hs : s.Ok) : ∃ (s' : Stm) (t : Xp), s'.Ok ∧ t.Wf ∧ t.hg ≤ n + 1 ∧ g_any x c [.own s.d, .val (.int (n : Int))] = .rt (.val (t.d c)) [.own s'.d, .val (.int (n : Int))] := by
  obtain ⟨iN, iT⟩ := xp_all x c 8
  obtain ⟨b, s1, hb, o1, e1⟩ := dx 3 (by decide) (by decide) hs
  by_cases z : b = 0
  · subst z
    obtain ⟨s2, t, o2, w, g, e2⟩ := iT n s1 o1 hn
    exact ⟨s2, t, o2, w, g, any_t e1 e2⟩
  · obtain ⟨s2, t, o2, w, g, e2⟩ := iN n s1 o1 hn
    exact ⟨s2, t, o2, w, g, any_n e1 (by omega) e2⟩
end
end Mi

end
section
set_option maxRecDepth 100000
/-! Mi34: sorted of a dict whose keys are tuples. -/
namespace Mi
open PySem L2
def kkD : Key → D
  | .inl i => .int i
  | .inr x => .str x
def kD (k : List Key) : D := .tup (k.map kkD)
theorem kk_rep (e : En) (F : Hp) : ∀ k : List Key, RepL e F (k.map kkD) (k.map kV)
  | [] => rfl
  | .inl i :: k => ⟨.int i, _, rfl, rfl, kk_rep e F k⟩
  | .inr x :: k => ⟨.str x, _, rfl, rfl, kk_rep e F k⟩
theorem kk_plain : ∀ k : List Key, PyData.plainAll (encL (k.map kkD)) = true
  | [] => rfl
  | .inl i :: k => kk_plain k
  | .inr x :: k => kk_plain k
section
variable {e : En} {X : Cx} {W : Wi} {io : List Nat} {a b c : Expr} {m n : ME} {pos : Pos}
def rSrtT : List V → Hp → VK → Prop := fun xs H Q => ∃ (a : Addr) (kvs : List (List Key × V)), xs = [.ref a] ∧ Rd H a (.dT kvs) ∧ SrtOk ((kvs.map (·.1)).map kD) ∧
  ∀ (p : Addr) (ys : List (List Key × Addr)), H p = none → (∀ y ∈ ys, H y.2 = some (.tup (y.1.map kV))) → (ys.map fun y => kD y.1) = ((kvs.map (·.1)).map kD).mergeSort leX → Q (.ref p) (upd H p (.lst (ys.map fun y => V.ref y.2)))
theorem keys_pairs {H : Hp} {kvs : List (List Key × V)} {bs : List Addr} (h : IsKeys H kvs bs) : ∃ ps : List (List Key × Addr), ps.map (·.1) = kvs.map (·.1) ∧ ps.map (·.2) = bs ∧ ∀ p ∈ ps, H p.2 = some (.tup (p.1.map kV)) := by
  unfold IsKeys at h
  induction h with
  | nil => exact ⟨[], rfl, rfl, fun _ h => by cases h⟩
  | @cons p b _ _ h t ih =>
    obtain ⟨ps, h1, h2, h3⟩ := ih
    refine ⟨(p.1, b) :: ps, by rw [List.map_cons, List.map_cons, h1], by rw [List.map_cons, h2], fun q hq => ?_⟩
    rcases List.mem_cons.mp hq with rfl | hq
    · exact h
    · exact h3 q hq
theorem each_self {α β : Type} {R : α → β → Prop} {f : β → α} : ∀ {ps : List β}, (∀ p ∈ ps, R (f p) p) → PySem.W.EachIs R (ps.map f) ps
  | [], _ => .nil
  | p :: ps, h => .cons (h p List.mem_cons_self) (each_self fun q hq => h q (List.mem_cons_of_mem _ hq))
theorem each_eq {α β : Type} {f : β → α} : ∀ {as : List α} {ps : List β}, PySem.W.EachIs (fun a p => a = f p) as ps → as = ps.map f
  | _, _, .nil => rfl
  | _, _, .cons h t => by rw [List.map_cons, h, ← each_eq t]
theorem cr_srtT (hK : X.K = e.K) (hc : X.calm = true) (hu : X.A.units + 100 < cLine) : CallR X (.builtin "sorted") rSrtT := by
  intro pins s σ H xs us Q I r q
  obtain ⟨a, kvs, ex, hd, ok, q⟩ := q
  subst ex
  obtain ⟨u, eu, rx⟩ := vals1 r
  subst eu
  cases rx
  obtain ⟨z, hs, ks, pr, o, es, ep, ho, hx, hdt, he, hn⟩ := (show ObjOk X.prog X.w H s.heap a (.dT kvs) from hd.ok I.hok)
  obtain ⟨ps, pk, pa, pt⟩ := keys_pairs (isKeys_of pr)
  have l1 : es.size = ks.length := size_of_entries he
  have l2 : kvs.length = ks.length := Paired.length pr
  have hps : ps.length = ks.length := by have := congrArg List.length pa; rwa [List.length_map, List.length_map] at this
  obtain ⟨k1, k2, k3, k4, k5⟩ := ok
  rw [← pk] at k1 k2 k3 k5 q
  have k3' : ps.length ≤ 1000000 := by rw [List.length_map, List.length_map] at k3; exact k3
  have hm : ps.map (fun p : List Key × Addr => encD (kD p.1)) = ((ps.map (·.1)).map kD).map encD := by
    rw [List.map_map, List.map_map]; rfl
  refine Calls.call_function_entry PyProof.Rows.kind_sorted PyProof.Rows.plain_sorted PyProof.Rows.entry_sorted (PyProof.Rows.args_sorted1 _) ?_
  unfold Builtin.«sorted»
  refine wpAny_bind (m := checkCount "sorted" 1 1 _) (wpAny_pure ?_)
  refine wpAny_bind (PySem.W.kdu_collect (A := X.A.in1) (kdl_raw hs hx hdt) (I.ok.hd hc) ho (by omega) fun h' tk acc hk hacc => ?_)
  have ea : acc.toList = ks.map fun x => Value.ref x.2.1 := by
    have hl : acc.toList.length = ks.length := by rw [Array.length_toList, hacc.1]; exact l1
    apply List.ext_getElem?
    intro j
    rw [List.getElem?_map]
    cases hj : acc.toList[j]? with
    | none =>
      have h1 := List.getElem?_eq_none_iff.mp hj
      rw [List.getElem?_eq_none (by omega)]
      all_goals rfl
    | some v =>
      obtain ⟨en, hen, hv⟩ := hacc.2 j v (by rw [← Array.getElem?_toList]; exact hj)
      have qe := entry_at he j
      rw [hen] at qe
      cases hb : ks[j]? with
      | none =>
        rw [hb] at qe
        exact nomatch (show some en = none from qe)
      | some b =>
        rw [hb] at qe
        have e2 : en = entryOfKey (tupleKind (mixKind X.prog X.w)) b := Option.some.inj qe
        rw [hv, e2]
        all_goals rfl
  have eb : acc.toList = ps.map fun p => Value.ref p.2 := by
    rw [ea, show (ks.map fun x => Value.ref x.2.1) = (ks.map fun x => x.2.1).map Value.ref by rw [List.map_map]; rfl, ← pa, List.map_map]; rfl
  have I1 : Inv X pins σ H { s with heap := h', toks := tk } := I.kept hk
  have hlen0 : acc.toList.length = ps.length := by rw [eb, List.length_map]
  refine wpAny_bind (wpAny_newList ?_ (by rw [hlen0]; exact big_le k3'))
  rw [eb]
  have hoL : (h'.push (PyProof.Rows.seqObj "list" (ps.map fun p => Value.ref p.2).toArray 0)).get? h'.objs.size = some (PyProof.Rows.seqObj "list" (ps.map fun p => Value.ref p.2).toArray 0) := Heap.get?_push_size _ rfl
  show wpAny _ _ _ _ _ { s with heap := h'.push (PyProof.Rows.seqObj "list" (ps.map fun p => Value.ref p.2).toArray 0), toks := tk }
  have er : PySem.W.EachIs (fun (v : Value) (p : List Key × Addr) => ∃ as, Reads (PySem.W.sortingHeap (h'.push (PyProof.Rows.seqObj "list" (ps.map fun p => Value.ref p.2).toArray 0)) h'.objs.size (ps.map fun p => Value.ref p.2)) v (encD (kD p.1)) as) (ps.map fun p => Value.ref p.2) ps := each_self fun p hp => by
    obtain ⟨as, ra⟩ := reads_rep (e := e) (F := H) I1 hK (fun a u h => .inl h) (d := kD p.1) (v := .ref p.2) (u := .ref p.2) (kk_plain p.1) ⟨p.2, _, rfl, pt p hp, kk_rep _ _ _⟩ rfl
    exact ⟨as, PyProof.Rows.Reads.keeps (fun b o e => PySem.W.sortingHeap_old (Nat.ne_of_lt (Heap.lt_size e)) (Heap.get?_push_of_some _ e)) ra⟩
  have ee : PySem.W.EachIs (fun (v : Value) (p : List Key × Addr) => v = Value.ref p.2) (ps.map fun p => Value.ref p.2) ps := each_self fun p hp => rfl
  have hal : PySem.W.AllAlike (ps.map fun p : List Key × Addr => encD (kD p.1)) := by rw [hm]; exact k1
  have so := PySem.W.sortVals_data false ee er hal
  have eo := each_eq so
  refine wpAny_bind (wpAny_holding (wpAny_call_entry PyProof.Rows.slot_list_sort ⟨_, hoL, rfl⟩ PyProof.Rows.entry_list_sort
    (PySem.W.list_sort_vals (s := { s with heap := h'.push (PyProof.Rows.seqObj "list" (ps.map fun p => Value.ref p.2).toArray 0), toks := tk }) hoL
      (PySem.W.SortsAt.data (PySem.W.each_map (R := fun v d => ∃ as, Reads (PySem.W.sortingHeap (h'.push (PyProof.Rows.seqObj "list" (ps.map fun p => Value.ref p.2).toArray 0)) h'.objs.size (ps.map fun p => Value.ref p.2)) v d as) (fun p : List Key × Addr => encD (kD p.1)) er) hal (by rw [hm]; exact k2) (fun d hd => by
        obtain ⟨p, hp, rfl⟩ := List.mem_map.mp hd
        have := k5 (kD p.1) (List.mem_map.mpr ⟨p.1, List.mem_map.mpr ⟨p, hp, rfl⟩, rfl⟩)
        show X.A.units + 2 + _ < cLine
        omega)) (by rw [List.length_map]; exact big_le k3') ⟨_, rfl, ?_⟩)
    (PyProof.Rows.args_list_sort _)))
  rw [eo]
  obtain ⟨e', he'⟩ := PyProof.Rows.sortedHeap_at (vs := ps.map fun p => Value.ref p.2) (out := ((ps.mergeSort (PySem.W.dataLe false fun p : List Key × Addr => encD (kD p.1))).map fun p => Value.ref p.2).toArray) hoL
  generalize hys : ps.mergeSort (PySem.W.dataLe false fun p : List Key × Addr => encD (kD p.1)) = ys at he' ⊢
  have pm : ys.Perm ps := by rw [← hys]; exact List.mergeSort_perm _ _
  have hlen : (ys.map fun y => V.ref y.2).length ≤ sizeLine := by rw [List.length_map, pm.length_eq]; exact big_le k3'
  have vr : Vals (ys.map fun y => V.ref y.2) (ys.map fun y => Value.ref y.2) := by
    have := vals_refs (ys.map (·.2))
    rw [List.map_map, List.map_map] at this
    exact this
  have e2 : (ys.map fun y => kD y.1) = ((ps.map (·.1)).map kD).mergeSort leX := by
    have zz := PySem.W.sort_maps (r := PySem.W.dataLe false fun p : List Key × Addr => encD (kD p.1)) (s := leX) (l := ps) (fun p : List Key × Addr => kD p.1) (fun a _ b _ => rfl)
    rw [hys] at zz
    rw [zz, List.map_map]; rfl
  refine wpAny_pure ⟨_, rfl, .ref h'.objs.size, upd H h'.objs.size (.lst (ys.map fun y => V.ref y.2)), I1.laid (t' := tk) (fun b u e => ?_) (Nat.le_refl _)
    (show ObjOk X.prog X.w _ _ _ (.lst (ys.map fun y => V.ref y.2)) from ⟨hlen, _, e', vr, he'⟩), rfl, q _ ys (I1.hok.fresh (Nat.le_refl _)) (fun y hy => pt y (pm.mem_iff.mp hy)) e2⟩
  have hb : b < h'.objs.size := Heap.lt_size e
  rw [PyProof.Rows.sortedHeap_old (Nat.ne_of_lt hb) (by rw [PyProof.Rows.size_push']; exact Nat.lt_succ_of_lt hb)]
  exact Heap.get?_push_of_some _ e
open Classical in
/-- sorted(x) of a dict whose keys are tuples of texts and integers -/
noncomputable def eSrtT (m : ME) : ME := fun r => (stl m r).bd fun x r1 => match look x r1 with
  | some (.dT ks _) => if SrtOk (ks.map kD) then .ok (.own (.lst ((ks.map kD).mergeSort leX))) r1 else .no
  | _ => .no
theorem frzTups {r : Rho} {σ : St} {H : Hp} {fm : Fm} : ∀ {ys : List (List Key × Addr)} {F : Hp}, Rl e r σ H F fm → (∀ y ∈ ys, H y.2 = some (.tup (y.1.map kV))) → ∃ F', Rl e r σ H F' fm ∧ Same F F' ∧ RepL e F' (ys.map fun y => kD y.1) (ys.map fun y => V.ref y.2)
  | [], F, R, _ => ⟨F, R, Same.refl _, rfl⟩
  | y :: ys, F, R, h => by
    obtain ⟨F1, R1, s1, r1⟩ := R.frzTup (h y List.mem_cons_self) (kk_rep e F y.1)
    obtain ⟨F2, R2, s2, r2⟩ := frzTups R1 fun z hz => h z (List.mem_cons_of_mem _ hz)
    exact ⟨F2, R2, s1.trans s2, _, _, rfl, r1.mono s2, r2⟩
open Classical in
theorem tSrtT_te {ta : TE} (ha : TeE e W ta m) : TeE e W (tUn (fun v => rSrtT [v]) ta) (eSrtT m) := fun ρ σ H F fm Q hC R q => by
  refine TeE.stl ha ρ σ H F fm _ hC R ?_
  refine (Po.bd q).mono fun x r1 H1 F1 R1 s1 q1 v1 hv1 => ?_
  cases l1 : look x r1 with
  | none => rw [l1] at q1; exact q1.elim
  | some d1 =>
    rw [l1] at q1
    cases d1 <;> first | exact q1.elim | skip
    rename_i ks l
    obtain ⟨a, vs, rfl, hl, hn, -⟩ := look_vw R1 hv1 l1
    have ek : (ks.zip vs).map (·.1) = ks := List.map_fst_zip (Nat.le_of_eq hn)
    by_cases z : SrtOk (ks.map kD)
    · have q2 : Po e W fm F1 σ (KE' e fm σ Q) (if SrtOk (ks.map kD) then .ok (.own (.lst ((ks.map kD).mergeSort leX))) r1 else .no) := q1
      rw [if_pos z] at q2
      refine ⟨a, ks.zip vs, rfl, hl.rd, by rw [ek]; exact z, fun p ys hp hk hs => ?_⟩
      rw [ek] at hs
      obtain ⟨F2, R2, s2, rp⟩ := frzTups R1 hk
      rw [hs] at rp
      exact q2 _ F2 (R2.new hp) s2 _ ⟨p, rfl, R2.tmp hp (show OR e F2 (.lst (ys.map fun y => V.ref y.2)) (.lst ((ks.map kD).mergeSort leX)) from rp)⟩
    · have q2 : Po e W fm F1 σ (KE' e fm σ Q) (if SrtOk (ks.map kD) then .ok (.own (.lst ((ks.map kD).mergeSort leX))) r1 else .no) := q1
      rw [if_neg z] at q2
      exact q2.elim
theorem se_srtT {p : Pos} (hK : X.K = e.K) (hc : X.calm = true) (hu : X.A.units + 100 < cLine) (hg : Gl X "sorted") (hm : X.mg "sorted" = none) (ha : SE e X W a m) (hst : starEach [a] X.env = (false, eval a X.env) :: starEach [] X.env := by rfl) (hpl : (backTo pos (starEach [] X.env)).any (·.1) = false := by rfl) : SE e X W (.Call (.Name "sorted" p) [a] [] pos) (eSrtT m) := by
  obtain ⟨ta, ha1, ha2⟩ := ha.ex
  exact ⟨_, pe_callB (cr_srtT hK hc hu) hg hm (by rfl) (pa_cons ha1 pa_nil hst) (by decide) (by decide) hst hpl, fun r σ H F fm Q hC R q => tSrtT_te ha2 r σ H F fm Q hC R q⟩
end

/-! ### len of such a dict -/
def rLenR : List V → Hp → VK → Prop := fun xs H Q => ∃ (p : Addr) (kvs : List (List Key × V)), xs = [.ref p] ∧ Rd H p (.dT kvs) ∧ Q (.int ((kvs.length : Nat) : Int)) H
theorem call_lenT {X : Cx} : CallR X (.builtin "len") rLenR := by
  intro pins s σ H xs us Q I r h
  obtain ⟨p, kvs, rfl, hp, q⟩ := h
  obtain ⟨u, rfl, rx⟩ := vals1 r
  obtain rfl : u = .ref p := rx
  obtain ⟨z, hd, ys, rel, dd⟩ := dt_rd I.hok hp
  have hl : kvs.length = ys.length := Paired.length rel
  refine call_len_dictH hd dd (by rw [← hl]; rw [sizeLine_eq] at z; omega) ?_
  rw [← hl]
  exact ⟨.int ((kvs.length : Nat) : Int), H, I.tok _, ⟨_, rfl⟩, q⟩
def lenTD : D → Option R0
  | .dT ks _ => vI ks.length
  | _ => none
theorem p1_lenT {e : En} : P1L e lenTD rLenR := fun d v H F Q h q => by
  cases d <;> first | exact q.elim | skip
  obtain ⟨a, vs, rfl, h1, h2, h3⟩ := h
  refine ⟨a, _, rfl, h1.rd, ?_⟩
  rw [List.length_zip, ← h2, Nat.min_self]
  exact q _ rfl
end Mi

end
section
set_option maxRecDepth 100000
/-! Mi35: words in rows of texts; the word and the parts of a drawn expression; comprehensions with two clauses. -/
namespace Mi
open PySem L2
def hasS (x : Str) (l : List Str) : Bool := l.any fun y => decide (y = x)
theorem ina_l (x : Str) (l : List Str) : inaD (.str x) (.lst (l.map .str)) = vB (hasS x l) := by
  have h1 : ∀ l : List Str, (l.map D.str).all flD = true := fun l => by
    induction l with
    | nil => rfl
    | cons a l ih => show (true && (l.map D.str).all flD) = true; rw [ih]; rfl
  have h2 : ((l.map D.str).any fun y => eqV (dV y) (dV (.str x))) = hasS x l := by rw [List.any_map]; rfl
  have e : inDD (.str x) (.lst (l.map .str)) = vB (hasS x l) := by
    show ((inS (.str x) (l.map .str)).map fun b => R0.val (.bl b)) = _
    unfold inS
    rw [if_pos ⟨rfl, h1 l⟩, h2]
    rfl
  show els inDD inpD _ _ = _
  rw [els_at, e]
theorem nia_l (x : Str) (l : List Str) : niaD (.str x) (.lst (l.map .str)) = vB (!hasS x l) := by
  have h1 : ∀ l : List Str, (l.map D.str).all flD = true := fun l => by
    induction l with
    | nil => rfl
    | cons a l ih => show (true && (l.map D.str).all flD) = true; rw [ih]; rfl
  have h2 : ((l.map D.str).any fun y => eqV (dV y) (dV (.str x))) = hasS x l := by rw [List.any_map]; rfl
  have e : niDD (.str x) (.lst (l.map .str)) = vB (!hasS x l) := by
    show ((inS (.str x) (l.map .str)).map fun b => R0.val (.bl !b)) = _
    unfold inS
    rw [if_pos ⟨rfl, h1 l⟩, h2]
    rfl
  show els niDD nipD _ _ = _
  rw [els_at, e]
theorem ina_t (x : Str) (l : List Str) : inaD (.str x) (.tup (l.map .str)) = vB (hasS x l) := by
  have h1 : ∀ l : List Str, (l.map D.str).all flD = true := fun l => by
    induction l with
    | nil => rfl
    | cons a l ih => show (true && (l.map D.str).all flD) = true; rw [ih]; rfl
  have h2 : ((l.map D.str).any fun y => eqV (dV y) (dV (.str x))) = hasS x l := by rw [List.any_map]; rfl
  have e : inDD (.str x) (.tup (l.map .str)) = vB (hasS x l) := by
    show ((inS (.str x) (l.map .str)).map fun b => R0.val (.bl b)) = _
    unfold inS
    rw [if_pos ⟨rfl, h1 l⟩, h2]
    rfl
  show els inDD inpD _ _ = _
  rw [els_at, e]
theorem ing_l (neg : Bool) (x : Str) (l : List Str) : inGD neg (l.map .str) (.str x) = vB (if neg then !hasS x l else hasS x l) := by
  have h1 : ∀ l : List Str, (l.map D.str).all flD = true := fun l => by
    induction l with
    | nil => rfl
    | cons a l ih => show (true && (l.map D.str).all flD) = true; rw [ih]; rfl
  have h2 : ((l.map D.str).any fun y => eqV (dV y) (dV (.str x))) = hasS x l := by rw [List.any_map]; rfl
  show ((inS (.str x) (l.map .str)).map fun b => R0.val (.bl (if neg then !b else b))) = _
  unfold inS
  rw [if_pos ⟨rfl, h1 l⟩, h2]
  rfl
def lw : List Str := ["num", "truth", "time", "initial", "var", "pre", "sample"]
abbrev lv (w : Str) (ps : List D) : D := .tup (.str w :: ps)
theorem g_lw (x : Str) : inGD false [.str "num", .str "truth", .str "time", .str "initial", .str "var", .str "pre", .str "sample"] (.str x) = vB (hasS x lw) := ing_l false x lw
theorem t_lw (x : Str) : inaD (.str x) (.tup [.str "num", .str "truth", .str "time", .str "initial", .str "var", .str "pre", .str "sample"]) = vB (hasS x lw) := ina_t x lw
theorem t_vp (x : Str) : inaD (.str x) (.tup [.str "var", .str "pre"]) = vB (hasS x ["var", "pre"]) := ina_t x ["var", "pre"]
/-- the word and the parts of an expression -/
def Xp.wd : Xp → Str
  | .num _ _ => "num" | .tru _ => "truth" | .tim => "time" | .ini => "initial" | .var _ _ => "var" | .pre _ => "pre" | .smp _ _ _ _ => "sample"
  | .un u _ => u.w | .bin u _ _ => u.w | .ite _ _ _ => "if"
def Xp.pt : Xp → List Xp
  | .un _ t => [t] | .bin _ t u => [t, u] | .ite c t u => [c, t, u]
  | _ => []
/-- a key of an expression: a variable with its order, or a value before -/
abbrev UK := Str × Option Nat
def ud : UK → D
  | (x, some o) => .tup [.str "var", .str x, .int (o : Int)]
  | (x, none) => .tup [.str "pre", .str x]
def Xp.uz : Xp → List UK
  | .var x o => [(x, some o)]
  | .pre x => [(x, none)]
  | .un _ t => t.uz
  | .bin _ t u => t.uz ++ u.uz
  | .ite k t u => k.uz ++ (t.uz ++ u.uz)
  | _ => []
theorem xp_sh (c : Nat) (t : Xp) : (∃ u, t.d c = ud u ∧ t.uz = [u]) ∨ (∃ qs, t.d c = lv t.wd qs ∧ hasS t.wd lw = true ∧ hasS t.wd ["var", "pre"] = false ∧ t.uz = []) ∨
    (t.d c = lv t.wd (t.pt.map (Xp.d c)) ∧ hasS t.wd lw = false ∧ hasS t.wd ["var", "pre"] = false ∧ 1 ≤ t.pt.length ∧ t.pt.length ≤ 3 ∧ t.uz = t.pt.flatMap Xp.uz ∧ ∀ p ∈ t.pt, p.hg < t.hg) := by
  cases t with
  | var x o => exact .inl ⟨(x, some o), rfl, rfl⟩
  | pre x => exact .inl ⟨(x, none), rfl, rfl⟩
  | un u t => exact .inr (.inr ⟨rfl, by cases u <;> simp [Xp.wd, U1.w, hasS, lw], by cases u <;> simp [Xp.wd, U1.w, hasS], by simp [Xp.pt], by simp [Xp.pt], by simp [Xp.pt, Xp.uz], fun p hp => by
      simp only [Xp.pt, List.mem_cons, List.not_mem_nil, or_false] at hp; subst hp; simp only [Xp.hg]; omega⟩)
  | bin u t v => exact .inr (.inr ⟨rfl, by cases u <;> simp [Xp.wd, B2.w, hasS, lw], by cases u <;> simp [Xp.wd, B2.w, hasS], by simp [Xp.pt], by simp [Xp.pt], by simp [Xp.pt, Xp.uz], fun p hp => by
      simp only [Xp.pt, List.mem_cons, List.not_mem_nil, or_false] at hp; rcases hp with rfl | rfl <;> simp only [Xp.hg] <;> omega⟩)
  | ite k t v => exact .inr (.inr ⟨rfl, by simp [Xp.wd, hasS, lw], by simp [Xp.wd, hasS], by simp [Xp.pt], by simp [Xp.pt], by simp [Xp.pt, Xp.uz], fun p hp => by
      simp only [Xp.pt, List.mem_cons, List.not_mem_nil, or_false] at hp; rcases hp with rfl | rfl | rfl <;> simp only [Xp.hg] <;> omega⟩)
  | _ => exact .inr (.inl ⟨_, rfl, by simp [Xp.wd, hasS, lw], by simp [Xp.wd, hasS], rfl⟩)
theorem uz_len : ∀ t : Xp, t.uz.length ≤ 3 ^ t.hg
  | .num _ _ => by simp [Xp.uz]
  | .tru _ => by simp [Xp.uz]
  | .tim => by simp [Xp.uz]
  | .ini => by simp [Xp.uz]
  | .var _ _ => by simp [Xp.uz, Xp.hg]
  | .pre _ => by simp [Xp.uz, Xp.hg]
  | .smp _ _ _ _ => by simp [Xp.uz]
  | .un _ t => by
    have := uz_len t
    simp only [Xp.uz, Xp.hg, Nat.pow_succ]; omega
  | .bin _ t u => by
    have h1 := uz_len t
    have h2 := uz_len u
    have m1 := Nat.pow_le_pow_right (n := 3) (by decide) (Nat.le_max_left t.hg u.hg)
    have m2 := Nat.pow_le_pow_right (n := 3) (by decide) (Nat.le_max_right t.hg u.hg)
    simp only [Xp.uz, Xp.hg, Nat.pow_succ, List.length_append]; omega
  | .ite k t u => by
    have h0 := uz_len k
    have h1 := uz_len t
    have h2 := uz_len u
    have m0 := Nat.pow_le_pow_right (n := 3) (by decide) (Nat.le_max_left k.hg (max t.hg u.hg))
    have m1 := Nat.pow_le_pow_right (n := 3) (by decide) (Nat.le_trans (Nat.le_max_left t.hg u.hg) (Nat.le_max_right k.hg (max t.hg u.hg)))
    have m2 := Nat.pow_le_pow_right (n := 3) (by decide) (Nat.le_trans (Nat.le_max_right t.hg u.hg) (Nat.le_max_right k.hg (max t.hg u.hg)))
    simp only [Xp.uz, Xp.hg, Nat.pow_succ, List.length_append]; omega
theorem uz_ok : ∀ (t : Xp), t.Wf → ∀ u ∈ t.uz, u.1 ∈ NMs ∧ ∀ o, u.2 = some o → o ≤ 4
  | .num _ _, _, u, h => by simp [Xp.uz] at h
  | .tru _, _, u, h => by simp [Xp.uz] at h
  | .tim, _, u, h => by simp [Xp.uz] at h
  | .ini, _, u, h => by simp [Xp.uz] at h
  | .var x o, w, u, h => by
    simp only [Xp.uz, List.mem_singleton] at h
    subst h
    exact ⟨w.1, fun o' e => by cases e; exact w.2⟩
  | .pre x, w, u, h => by
    simp only [Xp.uz, List.mem_singleton] at h
    subst h
    exact ⟨w, fun o' e => by cases e⟩
  | .smp _ _ _ _, _, u, h => by simp [Xp.uz] at h
  | .un _ t, w, u, h => uz_ok t w u h
  | .bin _ t v, w, u, h => by
    rcases List.mem_append.mp h with h | h
    · exact uz_ok t w.1 u h
    · exact uz_ok v w.2 u h
  | .ite k t v, w, u, h => by
    rcases List.mem_append.mp h with h | h
    · exact uz_ok k w.1 u h
    rcases List.mem_append.mp h with h | h
    · exact uz_ok t w.2.1 u h
    · exact uz_ok v w.2.2 u h
theorem pt_wf {t p : Xp} (h : t.Wf) (hp : p ∈ t.pt) : p.Wf := by
  cases t <;> simp only [Xp.pt, List.mem_cons, List.not_mem_nil, or_false] at hp
  · subst hp; exact h
  · rcases hp with rfl | rfl
    · exact h.1
    · exact h.2
  · rcases hp with rfl | rfl | rfl
    · exact h.1
    · exact h.2.1
    · exact h.2.2
/-! ### [y for p in .. for y in f(p)] -/
theorem lcI_id {i : Nat} : ∀ (ds : List D) (r : Rho) (acc : List D), i < r.length → r[i]? = some .un → acc.length + ds.length ≤ 1000000 → lcI (gN i) tYesM (eVar i) [i] ds r acc = .ok (acc ++ ds) r
  | [], r, acc, _, _, _ => by unfold lcI; rw [List.append_nil]
  | d :: ds, r, acc, hi, hu, hl => by
    rw [List.length_cons] at hl
    unfold lcI
    have e1 : (r.set i (.val d))[i]? = some (.val d) := by rw [List.getElem?_set_self hi]
    have e2 : wipeR (r.set i (.val d)) [i] = r := by
      show ((r.set i (.val d)).set i .un) = r
      rw [List.set_set]
      apply List.ext_getElem?
      intro j
      by_cases z : j = i
      · subst z; rw [List.getElem?_set_self hi, hu]
      · rw [List.getElem?_set_ne (Ne.symm z)]
    have ih := lcI_id ds r (acc ++ [d]) hi hu (by rw [List.length_append, List.length_singleton]; omega)
    have ev : fz (eVar i) (r.set i (.val d)) = .ok d (r.set i (.val d)) := by rw [fz_e]; unfold eVar; rw [e1]; rfl
    have hl' : acc.length < 1000000 := by omega
    simp only [gN_e, tYes_e, if_pos, ev, hl', e2, ih, List.append_assoc, List.singleton_append]
theorem lc2_flat {α : Type} {i j : Nat} {mi1 : Rho → Ou (List D)} (en : α → D) (F : α → List D) (r0 : Rho) (hij : i ≠ j) (hi : i < r0.length) (hj : j < r0.length) (ui : r0[i]? = some .un) (uj : r0[j]? = some .un) : ∀ (ps : List α) (acc : List D), (∀ p ∈ ps, mi1 (r0.set i (.val (en p))) = .ok (F p) (r0.set i (.val (en p)))) → acc.length + (ps.flatMap F).length ≤ 1000000 →
    lc2 (gN i) tYesM mi1 (gN j) tYesM (eVar j) [i, j] [j] (ps.map en) r0 acc = .ok (.own (.lst (acc ++ ps.flatMap F))) r0
  | [], acc, _, _ => by show lc2 _ _ _ _ _ _ _ _ [] _ _ = _; unfold lc2; rw [List.flatMap_nil, List.append_nil]
  | p :: ps, acc, h, hl => by
    rw [List.flatMap_cons, List.length_append] at hl
    show lc2 _ _ _ _ _ _ _ _ (en p :: ps.map en) _ _ = _
    unfold lc2
    have e1 := h p List.mem_cons_self
    have e0 : (r0.set i (.val (en p)))[j]? = some .un := by rw [List.getElem?_set_ne hij, uj]
    have e2 : wipeR (r0.set i (.val (en p))) [j] = r0.set i (.val (en p)) := by
      show (r0.set i (.val (en p))).set j .un = _
      apply List.ext_getElem?
      intro k
      by_cases z : k = j
      · subst z; rw [List.getElem?_set_self (by rw [List.length_set]; exact hj), e0]
      · rw [List.getElem?_set_ne (Ne.symm z)]
    have e3 := lcI_id (i := j) (F p) (r0.set i (.val (en p))) acc (by rw [List.length_set]; exact hj) e0 (by omega)
    have e4 : wipeR (r0.set i (.val (en p))) [i, j] = r0 := by
      show (((r0.set i (.val (en p))).set j .un).set i .un) = r0
      apply List.ext_getElem?
      intro k
      by_cases z : k = i
      · subst z; rw [List.getElem?_set_self (by rw [List.length_set, List.length_set]; exact hi), ui]
      · rw [List.getElem?_set_ne (Ne.symm z)]
        by_cases y : k = j
        · subst y; rw [List.getElem?_set_self (by rw [List.length_set]; exact hj), uj]
        · rw [List.getElem?_set_ne (Ne.symm y), List.getElem?_set_ne (Ne.symm z)]
    have ih := lc2_flat (mi1 := mi1) en F r0 hij hi hj ui uj ps (acc ++ F p) (fun q hq => h q (List.mem_cons_of_mem _ hq)) (by rw [List.length_append]; omega)
    simp only [gN_e, tYes_e, if_pos, e1, e2, e3, bd_ok, e4, ih, List.flatMap_cons, List.append_assoc]
end Mi

end
section
set_option maxRecDepth 100000
/-! Mi36: matchings by augmenting paths, without a program in sight. -/
namespace Mi
namespace Ku
open PySem L2
section
variable {κ : Type} [DecidableEq κ]
abbrev Ow (κ : Type) := List (κ × Str)
def lk : Ow κ → κ → Option Str
  | [], _ => none
  | e :: o, k => if e.1 = k then some e.2 else lk o k
def pt : Ow κ → κ → Str → Ow κ
  | [], k, p => [(k, p)]
  | e :: o, k, p => if e.1 = k then (k, p) :: o else e :: pt o k p
def lpF (rec : Ow κ → Str → List κ → Bool × Ow κ × List κ) (nm : Str) : List κ → Ow κ → List κ → Bool × Ow κ × List κ
  | [], o, s => (false, o, s)
  | k :: ks, o, s => if k ∈ s then lpF rec nm ks o s else
    match lk o k with
    | none => (true, pt o k nm, s ++ [k])
    | some p => if (rec o p (s ++ [k])).1 = true then (true, pt (rec o p (s ++ [k])).2.1 k nm, (rec o p (s ++ [k])).2.2) else lpF rec nm ks (rec o p (s ++ [k])).2.1 (rec o p (s ++ [k])).2.2
def tF (J : Str → List κ) : Nat → Ow κ → Str → List κ → Bool × Ow κ × List κ
  | 0, o, _, s => (false, o, s)
  | f + 1, o, nm, s => lpF (tF J f) nm (J nm) o s
def Nd (o : Ow κ) : Prop := (o.map (·.1)).Nodup
def vs (o : Ow κ) : List Str := o.map (·.2)
def Ev (J : Str → List κ) (o : Ow κ) : Prop := ∀ e ∈ o, e.1 ∈ J e.2
def Cl (J : Str → List κ) (o : Ow κ) (C : List κ) : Prop := ∀ k ∈ C, ∃ p, lk o k = some p ∧ ∀ k' ∈ J p, k' ∈ C
theorem lk_pt_ne {k k' : κ} (h : k' ≠ k) (p : Str) : ∀ o : Ow κ, lk (pt o k p) k' = lk o k'
  | [] => by simp only [pt, lk]; rw [if_neg (fun z => h z.symm)]
  | e :: o => by
    rw [pt]
    by_cases z : e.1 = k
    · rw [if_pos z, lk, lk, if_neg (fun y => h y.symm), if_neg (fun y => h (y.symm.trans z))]
    · rw [if_neg z, lk, lk, lk_pt_ne h p o]
theorem lk_none {k : κ} : ∀ {o : Ow κ}, lk o k = none ↔ k ∉ o.map (·.1)
  | [] => by simp [lk]
  | e :: o => by
    rw [lk, List.map_cons, List.mem_cons]
    by_cases z : e.1 = k
    · rw [if_pos z]; simp [z.symm]
    · rw [if_neg z, lk_none]
      constructor
      · intro h y; rcases y with y | y
        · exact z y.symm
        · exact h y
      · intro h y; exact h (.inr y)
theorem lk_mem {k : κ} {p : Str} : ∀ {o : Ow κ}, lk o k = some p → (k, p) ∈ o
  | [], h => by simp [lk] at h
  | e :: o, h => by
    rw [lk] at h
    by_cases z : e.1 = k
    · rw [if_pos z] at h; cases h; subst z; exact List.mem_cons_self
    · rw [if_neg z] at h; exact List.mem_cons_of_mem _ (lk_mem h)
theorem mem_lk {k : κ} {p : Str} : ∀ {o : Ow κ}, Nd o → (k, p) ∈ o → lk o k = some p
  | [], _, h => by cases h
  | e :: o, n, h => by
    unfold Nd at n
    rw [List.map_cons, List.nodup_cons] at n
    rw [lk]
    rcases List.mem_cons.mp h with rfl | h
    · rw [if_pos rfl]
    · rw [if_neg (fun z => n.1 (by rw [z]; exact List.mem_map.mpr ⟨_, h, rfl⟩))]
      exact mem_lk n.2 h
theorem pt_new {k : κ} (p : Str) : ∀ {o : Ow κ}, lk o k = none → pt o k p = o ++ [(k, p)]
  | [], _ => rfl
  | e :: o, h => by
    rw [lk] at h
    by_cases z : e.1 = k
    · rw [if_pos z] at h; cases h
    · rw [if_neg z] at h
      rw [pt, if_neg z, pt_new p h]; rfl
theorem pt_keys {k : κ} (p : Str) {q : Str} : ∀ {o : Ow κ}, lk o k = some q → (pt o k p).map (·.1) = o.map (·.1)
  | [], h => by simp [lk] at h
  | e :: o, h => by
    rw [lk] at h
    rw [pt]
    by_cases z : e.1 = k
    · rw [if_pos z, List.map_cons, List.map_cons, z]
    · rw [if_neg z] at h
      rw [if_neg z, List.map_cons, List.map_cons, pt_keys p h]
theorem pt_perm {k : κ} (p : Str) {q : Str} : ∀ {o : Ow κ}, lk o k = some q → (q :: vs (pt o k p)).Perm (p :: vs o)
  | [], h => by simp [lk] at h
  | e :: o, h => by
    rw [lk] at h
    rw [pt]
    by_cases z : e.1 = k
    · rw [if_pos z] at h; cases h
      rw [if_pos z]
      exact List.Perm.swap _ _ _
    · rw [if_neg z] at h
      rw [if_neg z]
      have ih := pt_perm p h
      show (q :: e.2 :: vs (pt o k p)).Perm (p :: e.2 :: vs o)
      exact (List.Perm.swap _ _ _).trans ((ih.cons e.2).trans (List.Perm.swap _ _ _))
theorem pt_mem {k : κ} {p : Str} {e : κ × Str} : ∀ {o : Ow κ}, e ∈ pt o k p → e = (k, p) ∨ e ∈ o
  | [], h => by simp [pt] at h; exact .inl h
  | e' :: o, h => by
    rw [pt] at h
    by_cases z : e'.1 = k
    · rw [if_pos z] at h
      rcases List.mem_cons.mp h with h | h
      · exact .inl h
      · exact .inr (List.mem_cons_of_mem _ h)
    · rw [if_neg z] at h
      rcases List.mem_cons.mp h with h | h
      · exact .inr (by rw [h]; exact List.mem_cons_self)
      · rcases pt_mem h with h | h
        · exact .inl h
        · exact .inr (List.mem_cons_of_mem _ h)
theorem nd_pt {k : κ} (p : Str) {o : Ow κ} (h : Nd o) : Nd (pt o k p) := by
  unfold Nd at *
  cases z : lk o k with
  | none =>
    rw [pt_new p z, List.map_append]
    exact List.nodup_append.mpr ⟨h, by simp, fun a ha b hb e => lk_none.mp z (by simp at hb; rw [← hb, ← e]; exact ha)⟩
  | some q => rw [pt_keys p z]; exact h
theorem ev_pt {J : Str → List κ} {k : κ} {p : Str} {o : Ow κ} (h : Ev J o) (hk : k ∈ J p) : Ev J (pt o k p) := fun e he => by
  rcases pt_mem he with rfl | he
  · exact hk
  · exact h e he
/-- what a search tells -/
structure Res (J : Str → List κ) (o : Ow κ) (nm : Str) (ks s : List κ) (r : Bool × Ow κ × List κ) : Prop where
  sub : ∀ k ∈ s, k ∈ r.2.2
  fal : r.1 = false → r.2.1 = o ∧ (∀ k ∈ ks, k ∈ r.2.2) ∧ ∀ k ∈ r.2.2, k ∉ s → ∃ p, lk o k = some p ∧ ∀ k' ∈ J p, k' ∈ r.2.2
  suc : r.1 = true → (vs r.2.1).Perm (nm :: vs o) ∧ Nd r.2.1 ∧ Ev J r.2.1 ∧ (∀ k ∈ s, lk r.2.1 k = lk o k) ∧ ∀ C, Cl J o C → (∀ k ∈ C, lk r.2.1 k = lk o k) ∧ ∃ k ∈ ks, k ∉ C
theorem lp_res {J : Str → List κ} {rec : Ow κ → Str → List κ → Bool × Ow κ × List κ} {nm : Str} {o : Ow κ} (n : Nd o) (ev : Ev J o) (m : List κ → Nat) (f : Nat) (hm : ∀ s s', (∀ k ∈ s, k ∈ s') → m s' ≤ m s) (hr : ∀ p s, m s < f → Res J o p (J p) s (rec o p s)) :
    ∀ (ks s : List κ), (∀ k ∈ ks, k ∈ J nm) → (∀ k ∈ ks, ∀ s, k ∉ s → m (s ++ [k]) < m s) → m s ≤ f → Res J o nm ks s (lpF rec nm ks o s)
  | [], s, _, _, _ => ⟨fun k h => h, fun _ => ⟨rfl, (fun _ h => nomatch h), fun k h h' => (h' h).elim⟩, (fun h => nomatch h)⟩
  | k :: ks, s, hk, hd, hf => by
    have ih := lp_res (rec := rec) (nm := nm) n ev m f hm hr ks
    have hk' : ∀ k ∈ ks, k ∈ J nm := fun k' h => hk k' (List.mem_cons_of_mem _ h)
    have hd' : ∀ k ∈ ks, ∀ s, k ∉ s → m (s ++ [k]) < m s := fun k' h => hd k' (List.mem_cons_of_mem _ h)
    rw [lpF]
    by_cases z : k ∈ s
    · rw [if_pos z]
      have r := ih s hk' hd' hf
      refine ⟨r.sub, fun h => ?_, fun h => ?_⟩
      · obtain ⟨a, b, c⟩ := r.fal h
        refine ⟨a, fun k' h' => ?_, c⟩
        rcases List.mem_cons.mp h' with rfl | h'
        · exact r.sub _ z
        · exact b k' h'
      · obtain ⟨a, b, c, d, e⟩ := r.suc h
        refine ⟨a, b, c, d, fun C hC => ?_⟩
        obtain ⟨e1, k2, e2, e3⟩ := e C hC
        exact ⟨e1, k2, List.mem_cons_of_mem _ e2, e3⟩
    · rw [if_neg z]
      cases y : lk o k with
      | none =>
        refine ⟨fun k' h => List.mem_append_left _ h, (fun h => nomatch h), fun _ => ⟨?_, nd_pt nm n, ev_pt ev (hk k List.mem_cons_self), fun k' h => lk_pt_ne (fun q => z (by rw [← q]; exact h)) nm o, fun C hC => ?_⟩⟩
        · show (vs (pt o k nm)).Perm _
          rw [pt_new nm y]
          unfold vs
          rw [List.map_append]
          exact List.perm_append_comm
        · have kC : k ∉ C := fun q => by
            obtain ⟨p, e, -⟩ := hC k q
            rw [y] at e; cases e
          exact ⟨fun k' h => lk_pt_ne (fun q => kC (by rw [← q]; exact h)) nm o, k, List.mem_cons_self, kC⟩
      | some p =>
        have lt := hd k List.mem_cons_self s z
        have r1 := hr p (s ++ [k]) (by omega)
        dsimp only
        generalize hR : rec o p (s ++ [k]) = R at *
        by_cases t : R.1 = true
        · rw [if_pos t]
          obtain ⟨a, b, c, d, e⟩ := r1.suc t
          have lkk : lk R.2.1 k = some p := (d k (List.mem_append_right _ List.mem_cons_self)).trans y
          refine ⟨fun k' h => r1.sub k' (List.mem_append_left _ h), (fun h => nomatch h), fun _ => ⟨?_, nd_pt nm b, ev_pt c (hk k List.mem_cons_self), fun k' h => (lk_pt_ne (fun q => z (by rw [← q]; exact h)) nm _).trans (d k' (List.mem_append_left _ h)), fun C hC => ?_⟩⟩
          · have q1 := pt_perm nm lkk
            have q2 : (p :: vs (pt R.2.1 k nm)).Perm (p :: nm :: vs o) := q1.trans ((a.cons nm).trans (List.Perm.swap _ _ _))
            exact q2.cons_inv
          · obtain ⟨e1, k2, e2, e3⟩ := e C hC
            have kC : k ∉ C := fun q => by
              obtain ⟨p', e', h'⟩ := hC k q
              rw [y] at e'; cases e'
              exact e3 (h' k2 e2)
            exact ⟨fun k' h => (lk_pt_ne (fun q => kC (by rw [← q]; exact h)) nm _).trans (e1 k' h), k, List.mem_cons_self, kC⟩
        · rw [if_neg t]
          have tf : R.1 = false := by cases q : R.1 with | true => exact (t q).elim | false => rfl
          obtain ⟨a, b, c⟩ := r1.fal tf
          rw [a]
          have mono := hm s R.2.2 (fun k' h => r1.sub k' (List.mem_append_left _ h))
          have r := ih R.2.2 hk' hd' (by omega)
          refine ⟨fun k' h => r.sub k' (r1.sub k' (List.mem_append_left _ h)), fun h => ?_, fun h => ?_⟩
          · obtain ⟨a', b', c'⟩ := r.fal h
            refine ⟨a', fun k' h' => ?_, fun k2 h2 n2 => ?_⟩
            · rcases List.mem_cons.mp h' with rfl | h'
              · exact r.sub _ (r1.sub _ (List.mem_append_right _ List.mem_cons_self))
              · exact b' k' h'
            · by_cases q : k2 ∈ R.2.2
              · by_cases q' : k2 = k
                · subst q'
                  exact ⟨p, y, fun k' h' => r.sub _ (b k' h')⟩
                · obtain ⟨p', e', h'⟩ := c k2 q (fun w => by
                    rcases List.mem_append.mp w with w | w
                    · exact n2 w
                    · exact q' (List.mem_singleton.mp w))
                  exact ⟨p', e', fun k' h'' => r.sub _ (h' k' h'')⟩
              · exact c' k2 h2 q
          · obtain ⟨a', b', c', d', e'⟩ := r.suc h
            refine ⟨a', b', c', fun k' h' => d' k' (r1.sub k' (List.mem_append_left _ h')), fun C hC => ?_⟩
            obtain ⟨e1, k2, e2, e3⟩ := e' C hC
            exact ⟨e1, k2, List.mem_cons_of_mem _ e2, e3⟩
/-- how many keys are not seen yet -/
def un (U s : List κ) : Nat := (U.filter fun k => decide (k ∉ s)).length
theorem un_mono {U s s' : List κ} (h : ∀ k ∈ s, k ∈ s') : un U s' ≤ un U s := by
  unfold un
  induction U with
  | nil => simp
  | cons a U ih =>
    rw [List.filter_cons, List.filter_cons]
    by_cases z : a ∈ s'
    · rw [if_neg (by simpa using z)]
      by_cases y : a ∈ s
      · rw [if_neg (by simpa using y)]; exact ih
      · rw [if_pos (by simpa using y), List.length_cons]; omega
    · rw [if_pos (by simpa using z), if_pos (by simpa using fun y => z (h a y)), List.length_cons, List.length_cons]; omega
theorem un_lt {U s : List κ} {k : κ} (hk : k ∈ U) (hs : k ∉ s) : un U (s ++ [k]) < un U s := by
  unfold un
  induction U with
  | nil => cases hk
  | cons a U ih =>
    have mono : un U (s ++ [k]) ≤ un U s := un_mono fun k' h => List.mem_append_left _ h
    unfold un at mono
    rw [List.filter_cons, List.filter_cons]
    by_cases z : a = k
    · subst z
      rw [if_neg (by simp), if_pos (by simpa using hs), List.length_cons]; omega
    · have hk' : k ∈ U := by
        rcases List.mem_cons.mp hk with h | h
        · exact (z h.symm).elim
        · exact h
      have ih := ih hk'
      by_cases y : a ∈ s
      · rw [if_neg (by simp [y]), if_neg (by simpa using y)]; exact ih
      · rw [if_pos (by simp [y, z]), if_pos (by simpa using y), List.length_cons, List.length_cons]; omega
theorem t_res {J : Str → List κ} {U : List κ} (hU : ∀ p, ∀ k ∈ J p, k ∈ U) {o : Ow κ} (n : Nd o) (ev : Ev J o) : ∀ (f : Nat) (p : Str) (s : List κ), un U s < f → Res J o p (J p) s (tF J f o p s)
  | 0, p, s, h => by omega
  | f + 1, p, s, h => by
    rw [tF]
    exact lp_res n ev (un U) f (fun s s' h => un_mono h) (fun p s h => t_res hU n ev f p s h) (J p) s (fun _ h => h) (fun k hk s hs => un_lt (hU p k hk) hs) (by omega)
/-! ### the whole of it -/
def kuh (J : Str → List κ) (f : Nat) (ns : List Str) : Ow κ → Ow κ := fun o => ns.foldl (fun o n => (tF J f o n []).2.1) o
structure Good (J : Str → List κ) (P : List Str) (o : Ow κ) : Prop where
  nd : Nd o
  ev : Ev J o
  vn : (vs o).Nodup
  vp : ∀ p ∈ vs o, p ∈ P
  cl : ∃ C, Cl J o C ∧ ∀ p ∈ P, p ∈ vs o ∨ ∀ k ∈ J p, k ∈ C
theorem good_0 (J : Str → List κ) : Good J [] ([] : Ow κ) := ⟨List.nodup_nil, (fun _ h => nomatch h), List.nodup_nil, (fun _ h => nomatch h), [], (fun _ h => nomatch h), (fun _ h => nomatch h)⟩
theorem good_s {J : Str → List κ} {U : List κ} (hU : ∀ p, ∀ k ∈ J p, k ∈ U) {P : List Str} {o : Ow κ} {f : Nat} (hf : U.length < f) (g : Good J P o) {n : Str} (hn : n ∉ P) : Good J (P ++ [n]) (tF J f o n []).2.1 := by
  have r := t_res hU g.nd g.ev f n [] (Nat.lt_of_le_of_lt (List.length_filter_le _ _) hf)
  generalize tF J f o n [] = R at *
  obtain ⟨C, hC, hP⟩ := g.cl
  cases t : R.1 with
  | true =>
    obtain ⟨a, b, c, -, e⟩ := r.suc t
    obtain ⟨e1, -⟩ := e C hC
    have nn : n ∉ vs o := fun h => hn (g.vp n h)
    refine ⟨b, c, a.nodup_iff.mpr (List.nodup_cons.mpr ⟨nn, g.vn⟩), fun p hp => ?_, C, fun k hk => ?_, fun p hp => ?_⟩
    · rcases List.mem_cons.mp (a.mem_iff.mp hp) with rfl | h
      · exact List.mem_append_right _ List.mem_cons_self
      · exact List.mem_append_left _ (g.vp p h)
    · obtain ⟨p, h1, h2⟩ := hC k hk
      exact ⟨p, (e1 k hk).trans h1, h2⟩
    · rcases List.mem_append.mp hp with h | h
      · rcases hP p h with h | h
        · exact .inl (a.mem_iff.mpr (List.mem_cons_of_mem _ h))
        · exact .inr h
      · rw [List.mem_singleton.mp h]; exact .inl (a.mem_iff.mpr List.mem_cons_self)
  | false =>
    obtain ⟨a, b, c⟩ := r.fal t
    rw [a]
    refine ⟨g.nd, g.ev, g.vn, fun p hp => List.mem_append_left _ (g.vp p hp), C ++ R.2.2, fun k hk => ?_, fun p hp => ?_⟩
    · rcases List.mem_append.mp hk with h | h
      · obtain ⟨p, h1, h2⟩ := hC k h
        exact ⟨p, h1, fun k' h' => List.mem_append_left _ (h2 k' h')⟩
      · obtain ⟨p, h1, h2⟩ := c k h (fun z => by cases z)
        exact ⟨p, h1, fun k' h' => List.mem_append_right _ (h2 k' h')⟩
    · rcases List.mem_append.mp hp with h | h
      · rcases hP p h with h | h
        · exact .inl h
        · exact .inr fun k hk => List.mem_append_left _ (h k hk)
      · rw [List.mem_singleton.mp h]; exact .inr fun k hk => List.mem_append_right _ (b k hk)
theorem good_l {J : Str → List κ} {U : List κ} (hU : ∀ p, ∀ k ∈ J p, k ∈ U) {f : Nat} (hf : U.length < f) : ∀ (ns : List Str) {P : List Str} {o : Ow κ}, Good J P o → (P ++ ns).Nodup → Good J (P ++ ns) (kuh J f ns o)
  | [], P, o, g, _ => by rw [List.append_nil]; exact g
  | n :: ns, P, o, g, h => by
    have hn : n ∉ P := fun z => by
      have := (List.nodup_append.mp h).2.2 n z n List.mem_cons_self
      exact this rfl
    have g1 := good_s hU hf g hn
    have h' : ((P ++ [n]) ++ ns).Nodup := by rw [List.append_assoc]; exact h
    have := good_l hU hf ns g1 h'
    rw [List.append_assoc] at this
    exact this
/-! ### no matching is greater -/
structure IsM (J : Str → List κ) (P : List Str) (M : List (Str × κ)) : Prop where
  nn : (M.map (·.1)).Nodup
  nk : (M.map (·.2)).Nodup
  ok : ∀ e ∈ M, e.1 ∈ P ∧ e.2 ∈ J e.1
theorem nodup_len {α : Type} [DecidableEq α] : ∀ {l m : List α}, l.Nodup → (∀ a ∈ l, a ∈ m) → l.length ≤ m.length
  | [], _, _, _ => Nat.zero_le _
  | a :: l, m, n, h => by
    rw [List.nodup_cons] at n
    have h1 := h a List.mem_cons_self
    have := nodup_len (l := l) (m := m.erase a) n.2 fun b hb => by
      have ne : b ≠ a := fun z => n.1 (by rw [← z]; exact hb)
      exact (List.mem_erase_of_ne ne).mpr (h b (List.mem_cons_of_mem _ hb))
    rw [List.length_erase_of_mem h1] at this
    have := List.length_pos_of_mem h1
    rw [List.length_cons]; omega
def keyOf : Ow κ → Str → Option κ
  | [], _ => none
  | e :: o, p => if e.2 = p then some e.1 else keyOf o p
theorem keyOf_mem {p : Str} {k : κ} : ∀ {o : Ow κ}, keyOf o p = some k → (k, p) ∈ o
  | [], h => by simp [keyOf] at h
  | e :: o, h => by
    rw [keyOf] at h
    by_cases z : e.2 = p
    · rw [if_pos z] at h; cases h; subst z; exact List.mem_cons_self
    · rw [if_neg z] at h; exact List.mem_cons_of_mem _ (keyOf_mem h)
theorem keyOf_some {p : Str} : ∀ {o : Ow κ}, p ∈ vs o → ∃ k, keyOf o p = some k
  | [], h => by cases h
  | e :: o, h => by
    rw [keyOf]
    by_cases z : e.2 = p
    · rw [if_pos z]; exact ⟨_, rfl⟩
    · rw [if_neg z]
      rcases List.mem_cons.mp h with h | h
      · exact (z h.symm).elim
      · exact keyOf_some h
theorem nodup_map_on {α β : Type} {f : α → β} : ∀ {l : List α}, l.Nodup → (∀ a ∈ l, ∀ b ∈ l, f a = f b → a = b) → (l.map f).Nodup
  | [], _, _ => List.nodup_nil
  | a :: l, n, h => by
    rw [List.nodup_cons] at n
    rw [List.map_cons, List.nodup_cons]
    refine ⟨fun m => ?_, nodup_map_on n.2 fun x hx y hy => h x (List.mem_cons_of_mem _ hx) y (List.mem_cons_of_mem _ hy)⟩
    obtain ⟨b, hb, e⟩ := List.mem_map.mp m
    have := h b (List.mem_cons_of_mem _ hb) a List.mem_cons_self e
    exact n.1 (by rw [← this]; exact hb)
theorem nodup_of_map {α β : Type} {f : α → β} : ∀ {l : List α}, (l.map f).Nodup → l.Nodup
  | [], _ => List.nodup_nil
  | a :: l, n => by
    rw [List.map_cons, List.nodup_cons] at n
    exact List.nodup_cons.mpr ⟨fun m => n.1 (List.mem_map.mpr ⟨a, m, rfl⟩), nodup_of_map n.2⟩
theorem inj_of_map {α β : Type} {f : α → β} : ∀ {l : List α}, (l.map f).Nodup → ∀ a ∈ l, ∀ b ∈ l, f a = f b → a = b
  | [], _, _, h, _, _, _ => by cases h
  | c :: l, n, a, ha, b, hb, e => by
    rw [List.map_cons, List.nodup_cons] at n
    rcases List.mem_cons.mp ha with ea | ha'
    · rcases List.mem_cons.mp hb with eb | hb'
      · rw [ea, eb]
      · rw [ea] at e; exact (n.1 (List.mem_map.mpr ⟨b, hb', e.symm⟩)).elim
    · rcases List.mem_cons.mp hb with eb | hb'
      · rw [eb] at e; exact (n.1 (List.mem_map.mpr ⟨a, ha', e⟩)).elim
      · exact inj_of_map n.2 a ha' b hb' e
theorem good_max {J : Str → List κ} {P : List Str} {o : Ow κ} (g : Good J P o) {M : List (Str × κ)} (hM : IsM J P M) : M.length ≤ o.length := by
  obtain ⟨C, hC, hP⟩ := g.cl
  let φ : Str × κ → κ := fun e => if e.2 ∈ C then e.2 else (keyOf o e.1).getD e.2
  have key : ∀ e ∈ M, e.2 ∉ C → ∃ k, keyOf o e.1 = some k ∧ k ∉ C := fun e he hc => by
    obtain ⟨m1, m2⟩ := hM.ok e he
    rcases hP e.1 m1 with h | h
    · obtain ⟨k, hk⟩ := keyOf_some h
      refine ⟨k, hk, fun hkC => ?_⟩
      obtain ⟨p, h1, h2⟩ := hC k hkC
      have := mem_lk g.nd (keyOf_mem hk)
      rw [this] at h1; cases h1
      exact hc (h2 _ m2)
    · exact (hc (h _ m2)).elim
  have φ1 : ∀ e, e.2 ∈ C → φ e = e.2 := fun e h => if_pos h
  have φ2 : ∀ e k, e.2 ∉ C → keyOf o e.1 = some k → φ e = k := fun e k h h' => by show (if _ then _ else _) = _; rw [if_neg h, h']; rfl
  have nd : (M.map φ).Nodup := nodup_map_on (nodup_of_map hM.nk) fun a ha b hb e => by
    by_cases ca : a.2 ∈ C
    · by_cases cb : b.2 ∈ C
      · rw [φ1 a ca, φ1 b cb] at e
        exact inj_of_map hM.nk a ha b hb e
      · obtain ⟨k, h1, h2⟩ := key b hb cb
        rw [φ1 a ca, φ2 b k cb h1] at e
        exact (h2 (by rw [← e]; exact ca)).elim
    · obtain ⟨k, h1, h2⟩ := key a ha ca
      by_cases cb : b.2 ∈ C
      · rw [φ1 b cb, φ2 a k ca h1] at e
        exact (h2 (by rw [e]; exact cb)).elim
      · obtain ⟨k', h3, h4⟩ := key b hb cb
        rw [φ2 a k ca h1, φ2 b k' cb h3] at e
        subst e
        have q1 := mem_lk g.nd (keyOf_mem h1)
        have q2 := mem_lk g.nd (keyOf_mem h3)
        rw [q1] at q2
        exact inj_of_map hM.nn a ha b hb (Option.some.inj q2)
  have := nodup_len (m := o.map (·.1)) nd fun k hk => by
    obtain ⟨e, he, rfl⟩ := List.mem_map.mp hk
    by_cases c : e.2 ∈ C
    · rw [φ1 e c]
      obtain ⟨p, h1, -⟩ := hC _ c
      exact List.mem_map.mpr ⟨_, lk_mem h1, rfl⟩
    · obtain ⟨k, h1, -⟩ := key e he c
      rw [φ2 e k c h1]
      exact List.mem_map.mpr ⟨_, keyOf_mem h1, rfl⟩
  rw [List.length_map, List.length_map] at this
  exact this
theorem good_m {J : Str → List κ} {P : List Str} {o : Ow κ} (g : Good J P o) : IsM J P (o.map fun e => (e.2, e.1)) := by
  refine ⟨?_, ?_, fun e he => ?_⟩
  · rw [List.map_map]; exact g.vn
  · rw [List.map_map]; exact g.nd
  · obtain ⟨x, hx, rfl⟩ := List.mem_map.mp he
    exact ⟨g.vp _ (List.mem_map.mpr ⟨x, hx, rfl⟩), g.ev x hx⟩
/-- the number of pairs that the search finds -/
def nu (J : Str → List κ) (f : Nat) (ns : List Str) : Nat := (kuh J f ns []).length
theorem nu_le {J : Str → List κ} {U : List κ} (hU : ∀ p, ∀ k ∈ J p, k ∈ U) {f : Nat} (hf : U.length < f) {ns : List Str} (h : ns.Nodup) {M : List (Str × κ)} (hM : IsM J ns M) : M.length ≤ nu J f ns := by
  have g := good_l hU hf ns (good_0 J) (by simpa using h)
  exact good_max g hM
theorem nu_ex {J : Str → List κ} {U : List κ} (hU : ∀ p, ∀ k ∈ J p, k ∈ U) {f : Nat} (hf : U.length < f) {ns : List Str} (h : ns.Nodup) : ∃ M, IsM J ns M ∧ M.length = nu J f ns := by
  have g := good_l hU hf ns (good_0 J) (by simpa using h)
  exact ⟨_, good_m g, by unfold nu; rw [List.length_map]⟩
/-- without the keys that are gone -/
def gn (J : Str → List κ) (G : List κ) : Str → List κ := fun p => (J p).filter fun k => decide (k ∉ G)
theorem gn_sub {J : Str → List κ} {U G : List κ} (hU : ∀ p, ∀ k ∈ J p, k ∈ U) : ∀ p, ∀ k ∈ gn J G p, k ∈ U := fun p k h => hU p k (List.mem_filter.mp h).1
theorem gn_mem {J : Str → List κ} {G : List κ} {p : Str} {k : κ} : k ∈ gn J G p ↔ k ∈ J p ∧ k ∉ G := by
  unfold gn
  rw [List.mem_filter, decide_eq_true_iff]
theorem greedy {J : Str → List κ} {U G : List κ} (hU : ∀ p, ∀ k ∈ J p, k ∈ U) {f : Nat} (hf : U.length < f) {n : Str} {ns : List Str} (h : (n :: ns).Nodup) (no : ∀ k ∈ J n, k ∉ G → nu (gn J (G ++ [k])) f ns + 1 ≠ nu (gn J G) f (n :: ns)) : nu (gn J G) f ns = nu (gn J G) f (n :: ns) := by
  have h' := List.nodup_cons.mp h
  obtain ⟨M, hM, eM⟩ := nu_ex (gn_sub (G := G) hU) hf h
  obtain ⟨M', hM', eM'⟩ := nu_ex (gn_sub (G := G) hU) hf h'.2
  have le : nu (gn J G) f ns ≤ nu (gn J G) f (n :: ns) := by
    rw [← eM']
    exact nu_le (gn_sub hU) hf h ⟨hM'.nn, hM'.nk, fun e he => ⟨List.mem_cons_of_mem _ (hM'.ok e he).1, (hM'.ok e he).2⟩⟩
  refine Nat.le_antisymm le ?_
  by_cases z : n ∈ M.map (·.1)
  · exfalso
    obtain ⟨e, he, en⟩ := List.mem_map.mp z
    obtain ⟨m1, m2⟩ := hM.ok e he
    have hk := gn_mem.mp m2
    rw [en] at hk
    obtain ⟨A, B, hAB⟩ := List.append_of_mem he
    subst hAB
    have nn := hM.nn
    have nk := hM.nk
    rw [List.map_append, List.map_cons] at nn nk
    have nn2 := (List.perm_middle.nodup_iff).mp nn
    have nk2 := (List.perm_middle.nodup_iff).mp nk
    rw [List.nodup_cons] at nn2 nk2
    rw [← List.map_append] at nn2 nk2
    have M1 : IsM (gn J (G ++ [e.2])) ns (A ++ B) := ⟨nn2.2, nk2.2, fun x hx => by
      have hx' : x ∈ A ++ e :: B := by
        rcases List.mem_append.mp hx with h | h
        · exact List.mem_append_left _ h
        · exact List.mem_append_right _ (List.mem_cons_of_mem _ h)
      obtain ⟨q1, q2⟩ := hM.ok x hx'
      have q3 := gn_mem.mp q2
      refine ⟨?_, gn_mem.mpr ⟨q3.1, fun w => ?_⟩⟩
      · rcases List.mem_cons.mp q1 with w | w
        · exact (nn2.1 (by rw [en, ← w]; exact List.mem_map.mpr ⟨x, hx, rfl⟩)).elim
        · exact w
      · rcases List.mem_append.mp w with w | w
        · exact q3.2 w
        · exact nk2.1 (by rw [← List.mem_singleton.mp w]; exact List.mem_map.mpr ⟨x, hx, rfl⟩)⟩
    have l1 := nu_le (gn_sub (G := G ++ [e.2]) hU) hf h'.2 M1
    obtain ⟨N, hN, eN⟩ := nu_ex (gn_sub (G := G ++ [e.2]) hU) hf h'.2
    have N1 : IsM (gn J G) (n :: ns) ((n, e.2) :: N) := by
      refine ⟨List.nodup_cons.mpr ⟨fun w => ?_, hN.nn⟩, List.nodup_cons.mpr ⟨fun w => ?_, hN.nk⟩, fun x hx => ?_⟩
      · obtain ⟨x, hx, ex⟩ := List.mem_map.mp w
        exact h'.1 (by rw [show n = x.1 from ex.symm]; exact (hN.ok x hx).1)
      · obtain ⟨x, hx, ex⟩ := List.mem_map.mp w
        have := (gn_mem.mp (hN.ok x hx).2).2
        exact this (by rw [show x.2 = e.2 from ex]; exact List.mem_append_right _ List.mem_cons_self)
      · rcases List.mem_cons.mp hx with rfl | hx
        · exact ⟨List.mem_cons_self, gn_mem.mpr hk⟩
        · obtain ⟨q1, q2⟩ := hN.ok x hx
          have q3 := gn_mem.mp q2
          exact ⟨List.mem_cons_of_mem _ q1, gn_mem.mpr ⟨q3.1, fun w => q3.2 (List.mem_append_left _ w)⟩⟩
    have l2 := nu_le (gn_sub (G := G) hU) hf h N1
    have := no e.2 hk.1 hk.2
    rw [List.length_cons, eN] at l2
    rw [List.length_append, List.length_cons] at eM
    rw [List.length_append] at l1
    omega
  · rw [← eM]
    exact nu_le (gn_sub hU) hf h'.2 ⟨hM.nn, hM.nk, fun e he => by
      obtain ⟨q1, q2⟩ := hM.ok e he
      rcases List.mem_cons.mp q1 with w | w
      · exact (z (by rw [← w]; exact List.mem_map.mpr ⟨e, he, rfl⟩)).elim
      · exact ⟨w, q2⟩⟩
end
end Ku
end Mi

end
section
set_option maxRecDepth 100000
namespace LawP
open PySem L2 Mi
/-! ### the text by places -/
def top (i : Nat) : Stmt := PySem.Challenge.pw_linkwork_k51_matchings.main.body.getD i (.Pass ⟨0, 0, 0, 0⟩)
abbrev s_law_draw : Stmt := top 7
abbrev s_law_graph : Stmt := top 8
abbrev s_law_try : Stmt := top 9
abbrev s_law_most : Stmt := top 10
abbrev s_law_least : Stmt := top 11
abbrev s_law_stream : Stmt := top 6
abbrev s_augmented : Stmt := top 1
abbrev s_owners : Stmt := top 2
abbrev s_without : Stmt := top 3
abbrev s_match : Stmt := top 4
abbrev s_law : Stmt := top 12
theorem sc_law_draw : FnScope ["_law_stream_here", "_law_many", "_law_value"] ["_law_stream_here", "_law_many"] (defScope s_law_draw) := ⟨rfl, rfl, rfl, by decide +kernel, rfl, by decide +kernel, by decide +kernel⟩
theorem v_law_draw_0 : VarOk ["_law_stream_here", "_law_many", "_law_value"] (defScope s_law_draw) 0 "_law_stream_here" := ⟨rfl, by first | exact .inl rfl | exact .inr (.inl rfl), by decide +kernel, by decide +kernel⟩
theorem v_law_draw_1 : VarOk ["_law_stream_here", "_law_many", "_law_value"] (defScope s_law_draw) 1 "_law_many" := ⟨rfl, by first | exact .inl rfl | exact .inr (.inl rfl), by decide +kernel, by decide +kernel⟩
theorem v_law_draw_2 : VarOk ["_law_stream_here", "_law_many", "_law_value"] (defScope s_law_draw) 2 "_law_value" := ⟨rfl, by first | exact .inl rfl | exact .inr (.inl rfl), by decide +kernel, by decide +kernel⟩
theorem sc_law_graph : FnScope ["_law_stream_here", "_law_names", "_law_keys", "_law_joined", "_law_dense", "_law_name", "_law_k", "_law_key"] ["_law_stream_here"] (defScope s_law_graph) := ⟨rfl, rfl, rfl, by decide +kernel, rfl, by decide +kernel, by decide +kernel⟩
theorem v_law_graph_0 : VarOk ["_law_stream_here", "_law_names", "_law_keys", "_law_joined", "_law_dense", "_law_name", "_law_k", "_law_key"] (defScope s_law_graph) 0 "_law_stream_here" := ⟨rfl, by first | exact .inl rfl | exact .inr (.inl rfl), by decide +kernel, by decide +kernel⟩
theorem v_law_graph_1 : VarOk ["_law_stream_here", "_law_names", "_law_keys", "_law_joined", "_law_dense", "_law_name", "_law_k", "_law_key"] (defScope s_law_graph) 1 "_law_names" := ⟨rfl, by first | exact .inl rfl | exact .inr (.inl rfl), by decide +kernel, by decide +kernel⟩
theorem v_law_graph_2 : VarOk ["_law_stream_here", "_law_names", "_law_keys", "_law_joined", "_law_dense", "_law_name", "_law_k", "_law_key"] (defScope s_law_graph) 2 "_law_keys" := ⟨rfl, by first | exact .inl rfl | exact .inr (.inl rfl), by decide +kernel, by decide +kernel⟩
theorem v_law_graph_3 : VarOk ["_law_stream_here", "_law_names", "_law_keys", "_law_joined", "_law_dense", "_law_name", "_law_k", "_law_key"] (defScope s_law_graph) 3 "_law_joined" := ⟨rfl, by first | exact .inl rfl | exact .inr (.inl rfl), by decide +kernel, by decide +kernel⟩
theorem v_law_graph_4 : VarOk ["_law_stream_here", "_law_names", "_law_keys", "_law_joined", "_law_dense", "_law_name", "_law_k", "_law_key"] (defScope s_law_graph) 4 "_law_dense" := ⟨rfl, by first | exact .inl rfl | exact .inr (.inl rfl), by decide +kernel, by decide +kernel⟩
theorem v_law_graph_5 : VarOk ["_law_stream_here", "_law_names", "_law_keys", "_law_joined", "_law_dense", "_law_name", "_law_k", "_law_key"] (defScope s_law_graph) 5 "_law_name" := ⟨rfl, by first | exact .inl rfl | exact .inr (.inl rfl), by decide +kernel, by decide +kernel⟩
theorem sc_law_try : FnScope ["_law_joined", "_law_owner", "_law_name", "_law_seen", "_law_key"] ["_law_joined", "_law_owner", "_law_name", "_law_seen"] (defScope s_law_try) := ⟨rfl, rfl, rfl, by decide +kernel, rfl, by decide +kernel, by decide +kernel⟩
theorem v_law_try_0 : VarOk ["_law_joined", "_law_owner", "_law_name", "_law_seen", "_law_key"] (defScope s_law_try) 0 "_law_joined" := ⟨rfl, by first | exact .inl rfl | exact .inr (.inl rfl), by decide +kernel, by decide +kernel⟩
theorem v_law_try_1 : VarOk ["_law_joined", "_law_owner", "_law_name", "_law_seen", "_law_key"] (defScope s_law_try) 1 "_law_owner" := ⟨rfl, by first | exact .inl rfl | exact .inr (.inl rfl), by decide +kernel, by decide +kernel⟩
theorem v_law_try_2 : VarOk ["_law_joined", "_law_owner", "_law_name", "_law_seen", "_law_key"] (defScope s_law_try) 2 "_law_name" := ⟨rfl, by first | exact .inl rfl | exact .inr (.inl rfl), by decide +kernel, by decide +kernel⟩
theorem v_law_try_3 : VarOk ["_law_joined", "_law_owner", "_law_name", "_law_seen", "_law_key"] (defScope s_law_try) 3 "_law_seen" := ⟨rfl, by first | exact .inl rfl | exact .inr (.inl rfl), by decide +kernel, by decide +kernel⟩
theorem v_law_try_4 : VarOk ["_law_joined", "_law_owner", "_law_name", "_law_seen", "_law_key"] (defScope s_law_try) 4 "_law_key" := ⟨rfl, by first | exact .inl rfl | exact .inr (.inl rfl), by decide +kernel, by decide +kernel⟩
theorem sc_law_most : FnScope ["_law_joined", "_law_names", "_law_gone", "_law_rest", "_law_name", "_law_owner", "_law_key"] ["_law_joined", "_law_names", "_law_gone"] (defScope s_law_most) := ⟨rfl, rfl, rfl, by decide +kernel, rfl, by decide +kernel, by decide +kernel⟩
theorem v_law_most_0 : VarOk ["_law_joined", "_law_names", "_law_gone", "_law_rest", "_law_name", "_law_owner", "_law_key"] (defScope s_law_most) 0 "_law_joined" := ⟨rfl, by first | exact .inl rfl | exact .inr (.inl rfl), by decide +kernel, by decide +kernel⟩
theorem v_law_most_1 : VarOk ["_law_joined", "_law_names", "_law_gone", "_law_rest", "_law_name", "_law_owner", "_law_key"] (defScope s_law_most) 1 "_law_names" := ⟨rfl, by first | exact .inl rfl | exact .inr (.inl rfl), by decide +kernel, by decide +kernel⟩
theorem v_law_most_2 : VarOk ["_law_joined", "_law_names", "_law_gone", "_law_rest", "_law_name", "_law_owner", "_law_key"] (defScope s_law_most) 2 "_law_gone" := ⟨rfl, by first | exact .inl rfl | exact .inr (.inl rfl), by decide +kernel, by decide +kernel⟩
theorem v_law_most_3 : VarOk ["_law_joined", "_law_names", "_law_gone", "_law_rest", "_law_name", "_law_owner", "_law_key"] (defScope s_law_most) 3 "_law_rest" := ⟨rfl, by first | exact .inl rfl | exact .inr (.inl rfl), by decide +kernel, by decide +kernel⟩
theorem v_law_most_4 : VarOk ["_law_joined", "_law_names", "_law_gone", "_law_rest", "_law_name", "_law_owner", "_law_key"] (defScope s_law_most) 4 "_law_name" := ⟨rfl, by first | exact .inl rfl | exact .inr (.inl rfl), by decide +kernel, by decide +kernel⟩
theorem v_law_most_5 : VarOk ["_law_joined", "_law_names", "_law_gone", "_law_rest", "_law_name", "_law_owner", "_law_key"] (defScope s_law_most) 5 "_law_owner" := ⟨rfl, by first | exact .inl rfl | exact .inr (.inl rfl), by decide +kernel, by decide +kernel⟩
theorem sc_law_least : FnScope ["_law_joined", "_law_names", "_law_left", "_law_gone", "_law_found", "_law_at", "_law_key"] ["_law_joined"] (defScope s_law_least) := ⟨rfl, rfl, rfl, by decide +kernel, rfl, by decide +kernel, by decide +kernel⟩
theorem v_law_least_0 : VarOk ["_law_joined", "_law_names", "_law_left", "_law_gone", "_law_found", "_law_at", "_law_key"] (defScope s_law_least) 0 "_law_joined" := ⟨rfl, by first | exact .inl rfl | exact .inr (.inl rfl), by decide +kernel, by decide +kernel⟩
theorem v_law_least_1 : VarOk ["_law_joined", "_law_names", "_law_left", "_law_gone", "_law_found", "_law_at", "_law_key"] (defScope s_law_least) 1 "_law_names" := ⟨rfl, by first | exact .inl rfl | exact .inr (.inl rfl), by decide +kernel, by decide +kernel⟩
theorem v_law_least_2 : VarOk ["_law_joined", "_law_names", "_law_left", "_law_gone", "_law_found", "_law_at", "_law_key"] (defScope s_law_least) 2 "_law_left" := ⟨rfl, by first | exact .inl rfl | exact .inr (.inl rfl), by decide +kernel, by decide +kernel⟩
theorem v_law_least_3 : VarOk ["_law_joined", "_law_names", "_law_left", "_law_gone", "_law_found", "_law_at", "_law_key"] (defScope s_law_least) 3 "_law_gone" := ⟨rfl, by first | exact .inl rfl | exact .inr (.inl rfl), by decide +kernel, by decide +kernel⟩
theorem v_law_least_4 : VarOk ["_law_joined", "_law_names", "_law_left", "_law_gone", "_law_found", "_law_at", "_law_key"] (defScope s_law_least) 4 "_law_found" := ⟨rfl, by first | exact .inl rfl | exact .inr (.inl rfl), by decide +kernel, by decide +kernel⟩
theorem v_law_least_5 : VarOk ["_law_joined", "_law_names", "_law_left", "_law_gone", "_law_found", "_law_at", "_law_key"] (defScope s_law_least) 5 "_law_at" := ⟨rfl, by first | exact .inl rfl | exact .inr (.inl rfl), by decide +kernel, by decide +kernel⟩
theorem v_law_least_6 : VarOk ["_law_joined", "_law_names", "_law_left", "_law_gone", "_law_found", "_law_at", "_law_key"] (defScope s_law_least) 6 "_law_key" := ⟨rfl, by first | exact .inl rfl | exact .inr (.inl rfl), by decide +kernel, by decide +kernel⟩
theorem sc_law_stream : FnScope ["_law_script", "_law_mixed", "_law_cell"] ["_law_script"] (defScope s_law_stream) := ⟨rfl, rfl, rfl, by decide +kernel, rfl, by decide +kernel, by decide +kernel⟩
theorem v_law_stream_0 : VarOk ["_law_script", "_law_mixed", "_law_cell"] (defScope s_law_stream) 0 "_law_script" := ⟨rfl, by first | exact .inl rfl | exact .inr (.inl rfl), by decide +kernel, by decide +kernel⟩
theorem v_law_stream_1 : VarOk ["_law_script", "_law_mixed", "_law_cell"] (defScope s_law_stream) 1 "_law_mixed" := ⟨rfl, by first | exact .inl rfl | exact .inr (.inl rfl), by decide +kernel, by decide +kernel⟩
theorem v_law_stream_2 : VarOk ["_law_script", "_law_mixed", "_law_cell"] (defScope s_law_stream) 2 "_law_cell" := ⟨rfl, by first | exact .inl rfl | exact .inr (.inl rfl), by decide +kernel, by decide +kernel⟩
theorem sc_augmented : FnScope ["joined", "owner", "name", "seen", "key"] ["joined", "owner", "name", "seen"] (defScope s_augmented) := ⟨rfl, rfl, rfl, by decide +kernel, rfl, by decide +kernel, by decide +kernel⟩
theorem v_augmented_0 : VarOk ["joined", "owner", "name", "seen", "key"] (defScope s_augmented) 0 "joined" := ⟨rfl, by first | exact .inl rfl | exact .inr (.inl rfl), by decide +kernel, by decide +kernel⟩
theorem v_augmented_1 : VarOk ["joined", "owner", "name", "seen", "key"] (defScope s_augmented) 1 "owner" := ⟨rfl, by first | exact .inl rfl | exact .inr (.inl rfl), by decide +kernel, by decide +kernel⟩
theorem v_augmented_2 : VarOk ["joined", "owner", "name", "seen", "key"] (defScope s_augmented) 2 "name" := ⟨rfl, by first | exact .inl rfl | exact .inr (.inl rfl), by decide +kernel, by decide +kernel⟩
theorem v_augmented_3 : VarOk ["joined", "owner", "name", "seen", "key"] (defScope s_augmented) 3 "seen" := ⟨rfl, by first | exact .inl rfl | exact .inr (.inl rfl), by decide +kernel, by decide +kernel⟩
theorem v_augmented_4 : VarOk ["joined", "owner", "name", "seen", "key"] (defScope s_augmented) 4 "key" := ⟨rfl, by first | exact .inl rfl | exact .inr (.inl rfl), by decide +kernel, by decide +kernel⟩
theorem sc_owners : FnScope ["joined", "names", "owner", "name"] ["joined", "names"] (defScope s_owners) := ⟨rfl, rfl, rfl, by decide +kernel, rfl, by decide +kernel, by decide +kernel⟩
theorem v_owners_0 : VarOk ["joined", "names", "owner", "name"] (defScope s_owners) 0 "joined" := ⟨rfl, by first | exact .inl rfl | exact .inr (.inl rfl), by decide +kernel, by decide +kernel⟩
theorem v_owners_1 : VarOk ["joined", "names", "owner", "name"] (defScope s_owners) 1 "names" := ⟨rfl, by first | exact .inl rfl | exact .inr (.inl rfl), by decide +kernel, by decide +kernel⟩
theorem v_owners_2 : VarOk ["joined", "names", "owner", "name"] (defScope s_owners) 2 "owner" := ⟨rfl, by first | exact .inl rfl | exact .inr (.inl rfl), by decide +kernel, by decide +kernel⟩
theorem v_owners_3 : VarOk ["joined", "names", "owner", "name"] (defScope s_owners) 3 "name" := ⟨rfl, by first | exact .inl rfl | exact .inr (.inl rfl), by decide +kernel, by decide +kernel⟩
theorem sc_without : FnScope ["joined", "names", "used", "name", "key"] ["joined", "names", "used"] (defScope s_without) := ⟨rfl, rfl, rfl, by decide +kernel, rfl, by decide +kernel, by decide +kernel⟩
theorem v_without_0 : VarOk ["joined", "names", "used", "name", "key"] (defScope s_without) 0 "joined" := ⟨rfl, by first | exact .inl rfl | exact .inr (.inl rfl), by decide +kernel, by decide +kernel⟩
theorem v_without_1 : VarOk ["joined", "names", "used", "name", "key"] (defScope s_without) 1 "names" := ⟨rfl, by first | exact .inl rfl | exact .inr (.inl rfl), by decide +kernel, by decide +kernel⟩
theorem v_without_2 : VarOk ["joined", "names", "used", "name", "key"] (defScope s_without) 2 "used" := ⟨rfl, by first | exact .inl rfl | exact .inr (.inl rfl), by decide +kernel, by decide +kernel⟩
theorem sc_match : FnScope ["pair", "joined", "names", "left", "used", "found", "at", "name", "rest", "key"] ["pair"] (defScope s_match) := ⟨rfl, rfl, rfl, by decide +kernel, rfl, by decide +kernel, by decide +kernel⟩
theorem v_match_0 : VarOk ["pair", "joined", "names", "left", "used", "found", "at", "name", "rest", "key"] (defScope s_match) 0 "pair" := ⟨rfl, by first | exact .inl rfl | exact .inr (.inl rfl), by decide +kernel, by decide +kernel⟩
theorem v_match_1 : VarOk ["pair", "joined", "names", "left", "used", "found", "at", "name", "rest", "key"] (defScope s_match) 1 "joined" := ⟨rfl, by first | exact .inl rfl | exact .inr (.inl rfl), by decide +kernel, by decide +kernel⟩
theorem v_match_2 : VarOk ["pair", "joined", "names", "left", "used", "found", "at", "name", "rest", "key"] (defScope s_match) 2 "names" := ⟨rfl, by first | exact .inl rfl | exact .inr (.inl rfl), by decide +kernel, by decide +kernel⟩
theorem v_match_3 : VarOk ["pair", "joined", "names", "left", "used", "found", "at", "name", "rest", "key"] (defScope s_match) 3 "left" := ⟨rfl, by first | exact .inl rfl | exact .inr (.inl rfl), by decide +kernel, by decide +kernel⟩
theorem v_match_4 : VarOk ["pair", "joined", "names", "left", "used", "found", "at", "name", "rest", "key"] (defScope s_match) 4 "used" := ⟨rfl, by first | exact .inl rfl | exact .inr (.inl rfl), by decide +kernel, by decide +kernel⟩
theorem v_match_5 : VarOk ["pair", "joined", "names", "left", "used", "found", "at", "name", "rest", "key"] (defScope s_match) 5 "found" := ⟨rfl, by first | exact .inl rfl | exact .inr (.inl rfl), by decide +kernel, by decide +kernel⟩
theorem v_match_6 : VarOk ["pair", "joined", "names", "left", "used", "found", "at", "name", "rest", "key"] (defScope s_match) 6 "at" := ⟨rfl, by first | exact .inl rfl | exact .inr (.inl rfl), by decide +kernel, by decide +kernel⟩
theorem v_match_7 : VarOk ["pair", "joined", "names", "left", "used", "found", "at", "name", "rest", "key"] (defScope s_match) 7 "name" := ⟨rfl, by first | exact .inl rfl | exact .inr (.inl rfl), by decide +kernel, by decide +kernel⟩
theorem v_match_8 : VarOk ["pair", "joined", "names", "left", "used", "found", "at", "name", "rest", "key"] (defScope s_match) 8 "rest" := ⟨rfl, by first | exact .inl rfl | exact .inr (.inl rfl), by decide +kernel, by decide +kernel⟩
theorem v_match_9 : VarOk ["pair", "joined", "names", "left", "used", "found", "at", "name", "rest", "key"] (defScope s_match) 9 "key" := ⟨rfl, by first | exact .inl rfl | exact .inr (.inl rfl), by decide +kernel, by decide +kernel⟩
theorem sc_law : FnScope ["_law_script", "_law_stream_here", "_law_keys", "_law_joined", "_law_given", "_law_name", "_law_due", "_law_actual"] ["_law_script"] (defScope s_law) := ⟨rfl, rfl, rfl, by decide +kernel, rfl, by decide +kernel, by decide +kernel⟩
theorem v_law_0 : VarOk ["_law_script", "_law_stream_here", "_law_keys", "_law_joined", "_law_given", "_law_name", "_law_due", "_law_actual"] (defScope s_law) 0 "_law_script" := ⟨rfl, by first | exact .inl rfl | exact .inr (.inl rfl), by decide +kernel, by decide +kernel⟩
theorem v_law_1 : VarOk ["_law_script", "_law_stream_here", "_law_keys", "_law_joined", "_law_given", "_law_name", "_law_due", "_law_actual"] (defScope s_law) 1 "_law_stream_here" := ⟨rfl, by first | exact .inl rfl | exact .inr (.inl rfl), by decide +kernel, by decide +kernel⟩
theorem v_law_2 : VarOk ["_law_script", "_law_stream_here", "_law_keys", "_law_joined", "_law_given", "_law_name", "_law_due", "_law_actual"] (defScope s_law) 2 "_law_keys" := ⟨rfl, by first | exact .inl rfl | exact .inr (.inl rfl), by decide +kernel, by decide +kernel⟩
theorem v_law_3 : VarOk ["_law_script", "_law_stream_here", "_law_keys", "_law_joined", "_law_given", "_law_name", "_law_due", "_law_actual"] (defScope s_law) 3 "_law_joined" := ⟨rfl, by first | exact .inl rfl | exact .inr (.inl rfl), by decide +kernel, by decide +kernel⟩
theorem v_law_4 : VarOk ["_law_script", "_law_stream_here", "_law_keys", "_law_joined", "_law_given", "_law_name", "_law_due", "_law_actual"] (defScope s_law) 4 "_law_given" := ⟨rfl, by first | exact .inl rfl | exact .inr (.inl rfl), by decide +kernel, by decide +kernel⟩
theorem v_law_5 : VarOk ["_law_script", "_law_stream_here", "_law_keys", "_law_joined", "_law_given", "_law_name", "_law_due", "_law_actual"] (defScope s_law) 5 "_law_name" := ⟨rfl, by first | exact .inl rfl | exact .inr (.inl rfl), by decide +kernel, by decide +kernel⟩
theorem v_law_6 : VarOk ["_law_script", "_law_stream_here", "_law_keys", "_law_joined", "_law_given", "_law_name", "_law_due", "_law_actual"] (defScope s_law) 6 "_law_due" := ⟨rfl, by first | exact .inl rfl | exact .inr (.inl rfl), by decide +kernel, by decide +kernel⟩
theorem v_law_7 : VarOk ["_law_script", "_law_stream_here", "_law_keys", "_law_joined", "_law_given", "_law_name", "_law_due", "_law_actual"] (defScope s_law) 7 "_law_actual" := ⟨rfl, by first | exact .inl rfl | exact .inr (.inl rfl), by decide +kernel, by decide +kernel⟩
/-! ### the mirrors -/
def tb_dict : Ty → Option Bool := fun k => match k with
  | .non => some false
  | .bl => some false
  | .int => some false
  | .str => some false
  | .tup => some false
  | .lst => some false
  | .dct => some true
  | _ => none
noncomputable def m_law_draw : MS := mkFn 2 1 [0] (sSeq (sIf (tAndM (tV (eOp eqD (eOp ixD (eVar 0) (eC (.int 1))) (eC (.int 0)))) (tV (eOp ltD (eOp ixD (eVar 0) (eC (.int 2))) (eUn lenD (eOp ixD (eVar 0) (eC (.int 0)))))))
    (sSeq (sStL 0 (eC (.int 1)) (eUn absD (eUn intD (eOp ixD (eOp ixD (eVar 0) (eC (.int 0))) (eOp ixD (eVar 0) (eC (.int 2)))))))
    (sStL 0 (eC (.int 2)) (eOp addD (eOp ixD (eVar 0) (eC (.int 2))) (eC (.int 1)))))
    sNil)
    (sSeq (sIf (tV (eOp eqD (eOp ixD (eVar 0) (eC (.int 1))) (eC (.int 0))))
    (sSeq (sStL 0 (eC (.int 3)) (eOp modD (eUn intD (eOp addD (eOp mulD (eOp ixD (eVar 0) (eC (.int 3))) (eC (.int 48271))) (eC (.int 11)))) (eC (.int 2147483647))))
    (sRet [0] (eOp modD (eUn intD (eOp fdivD (eOp ixD (eVar 0) (eC (.int 3))) (eC (.int 97)))) (eVar 1))))
    sNil)
    (sSeq (sSet 2 (eOp modD (eUn intD (eOp ixD (eVar 0) (eC (.int 1)))) (eVar 1)))
    (sSeq (sStL 0 (eC (.int 1)) (eOp fdivD (eOp ixD (eVar 0) (eC (.int 1))) (eVar 1)))
    (sRet [0] (eVar 2))))))
noncomputable def k_law_graph_0 : MS := (sStL 3 (eVar 5) (eLc (gN 7) (iLst (eVar 2)) (tV (eOp eqD (eCall m_law_draw (cB (eVar 0) (cV (eVar 4) cN))) (eC (.int 0)))) (eVar 7) [7]))
noncomputable def m_law_graph : MS := mkFn 1 7 [0] (sSeq (sSet 1 (eSl (eLst (aC (eC (.str "e1")) (aC (eC (.str "e10")) (aC (eC (.str "e2")) (aC (eC (.str "f")) (aC (eC (.str "g")) (aC (eC (.str "h")) (aC (eC (.str "i")) aN)))))))) oNo (oSo (eCall m_law_draw (cB (eVar 0) (cV (eC (.int 8)) cN))))))
    (sSeq (sSet 2 (eLc (gN 6) (iRg1 (eC (.int 8))) tYesM (eTup (aC (eC (.str "var")) (aC (eOp ixD (eC (.str "abcd")) (eOp fdivD (eVar 6) (eC (.int 2)))) (aC (eOp modD (eUn intD (eVar 6)) (eC (.int 2))) aN)))) [6]))
    (sSeq (sSet 2 (eLc (gN 7) (iLst (eVar 2)) (tV (eOp gtD (eCall m_law_draw (cB (eVar 0) (cV (eC (.int 4)) cN))) (eC (.int 0)))) (eVar 7) [7]))
    (sSeq (sSet 3 eDct)
    (sSeq (sSet 4 (eOp addD (eC (.int 2)) (eCall m_law_draw (cB (eVar 0) (cV (eC (.int 3)) cN)))))
    (sSeq (sFor (gN 5) (iLst (eVar 1))
    k_law_graph_0)
    (sRet [0] (eTup (aC (eVar 2) (aC (eVar 3) aN))))))))))
noncomputable def k_law_try_0 (z : MS) : MS := (sIf (tV (eOp niaD (eVar 4) (eVar 3)))
    (sSeq (sDrop (eMth 3 kdL fAppend (aC (eVar 4) aN)))
    (sIf (tOrM (tV (eOp niaD (eVar 4) (eVar 1))) (tTru (eCall z (cV (eVar 0) (cB (eVar 1) (cV (eOp ixD (eVar 1) (eVar 4)) (cB (eVar 3) cN)))))))
    (sSeq (sStL 1 (eVar 4) (eVar 2))
    (sRet [1, 3] (eC (.bl true))))
    sNil))
    sNil)
noncomputable def m_law_try : Nat → MS
  | 0 => mNo
  | k + 1 => mkFn 4 1 [1, 3] (sSeq (sFor (gN 4) (iLst (eOp ixD (eVar 0) (eVar 2)))
    (k_law_try_0 (m_law_try k)))
    (sRet [1, 3] (eC (.bl false))))
noncomputable def k_law_most_0 : MS := (sStL 3 (eVar 4) (eLc (gN 6) (iLst (eOp ixD (eVar 0) (eVar 4))) (tV (eOp niaD (eVar 6) (eVar 2))) (eVar 6) [6]))
noncomputable def k_law_most_1 : MS := (sDrop (eCallO (m_law_try 10) (oV (eVar 3) (oB (eVar 5) (oV (eVar 4) (oL (eLst aN)))))))
noncomputable def m_law_most : MS := mkFn 3 4 [] (sSeq (sSet 3 eDct)
    (sSeq (sFor (gN 4) (iLst (eVar 1))
    k_law_most_0)
    (sSeq (sSet 5 eDctT)
    (sSeq (sFor (gN 4) (iLst (eVar 1))
    k_law_most_1)
    (sRet [] (eUn lenTD (eVar 5)))))))
noncomputable def k_law_least_0 : MS := (sIf (tAndM (tV (eOp niaD (eOp ixD (eVar 1) (eVar 5)) (eVar 4))) (tV (eOp niaD (eVar 6) (eVar 3))))
    (sIf (tV (eOp eqD (eCall m_law_most (cV (eVar 0) (cV (eSl (eVar 1) (oSo (eOp addD (eVar 5) (eC (.int 1)))) oNo) (cV (eOp addD (eVar 3) (eLst (aC (eVar 6) aN))) cN)))) (eOp subD (eVar 2) (eC (.int 1)))))
    (sStL 4 (eOp ixD (eVar 1) (eVar 5)) (eVar 6))
    sNil)
    sNil)
noncomputable def k_law_least_1 : MS := (sSeq (sFor (gN 6) (iLst (eOp ixD (eVar 0) (eOp ixD (eVar 1) (eVar 5))))
    k_law_least_0)
    (sIf (tV (eOp inaD (eOp ixD (eVar 1) (eVar 5)) (eVar 4)))
    (sSeq (sDrop (eMth 3 kdL fAppend (aC (eOp ixD (eVar 4) (eOp ixD (eVar 1) (eVar 5))) aN)))
    (sSet 2 (eOp subD (eVar 2) (eC (.int 1)))))
    sNil))
noncomputable def m_law_least : MS := mkFn 1 6 [] (sSeq (sSet 1 (eUn srtA (eVar 0)))
    (sSeq (sSet 2 (eCall m_law_most (cV (eVar 0) (cV (eVar 1) (cV (eLst aN) cN)))))
    (sSeq (sSet 3 (eLst aN))
    (sSeq (sSet 4 eDct)
    (sSeq (sFor (gN 5) (iRg1 (eUn lenD (eVar 1)))
    k_law_least_1)
    (sRet [] (eVar 4)))))))
noncomputable def k_law_stream_0 : MS := (sSet 1 (eOp modD (eUn intD (eOp addD (eOp addD (eOp mulD (eVar 1) (eC (.int 48271))) (eOp modD (eUn intD (eVar 2)) (eC (.int 65521)))) (eC (.int 1)))) (eC (.int 2147483647))))
noncomputable def m_law_stream : MS := mkFn 1 2 [] (sSeq (sSet 1 (eC (.int 17)))
    (sSeq (sFor (gN 2) (iLst (eVar 0))
    k_law_stream_0)
    (sRet [] (eLst (aC (eUn listD (eVar 0)) (aC (eC (.int 0)) (aC (eC (.int 0)) (aC (eVar 1) aN))))))))
noncomputable def k_augmented_0 (z : MS) : MS := (sIf (tV (eOp niaD (eVar 4) (eVar 3)))
    (sSeq (sStL 3 (eVar 4) (eC (.bl true)))
    (sIf (tOrM (tV (eOp niaD (eVar 4) (eVar 1))) (tTru (eCall z (cV (eVar 0) (cB (eVar 1) (cV (eOp ixD (eVar 1) (eVar 4)) (cB (eVar 3) cN)))))))
    (sSeq (sStL 1 (eVar 4) (eVar 2))
    (sRet [1, 3] (eC (.bl true))))
    sNil))
    sNil)
noncomputable def m_augmented : Nat → MS
  | 0 => mNo
  | k + 1 => mkFn 4 1 [1, 3] (sSeq (sFor (gN 4) (iLst (eOp ixD (eVar 0) (eVar 2)))
    (k_augmented_0 (m_augmented k)))
    (sRet [1, 3] (eC (.bl false))))
noncomputable def k_owners_0 : MS := (sDrop (eCallO (m_augmented 10) (oV (eVar 0) (oB (eVar 2) (oV (eVar 3) (oL eDctT))))))
noncomputable def m_owners : MS := mkFn 2 2 [] (sSeq (sSet 2 eDctT)
    (sSeq (sFor (gN 3) (iLst (eVar 1))
    k_owners_0)
    (sRet [] (eVar 2))))
noncomputable def m_without : MS := mkFn 3 2 [2] (sRet [2] (eDc (gN 3) (iLst (eVar 1)) tYesM (eVar 3) (eLc (gN 4) (iLst (eOp ixD (eVar 0) (eVar 3))) (tV (eOp niaD (eVar 4) (eVar 2))) (eVar 4) [4]) [3]))
noncomputable def k_match_0 : MS := (sIf (tV (eOp niaD (eVar 9) (eVar 4)))
    (sSeq (sStL 4 (eVar 9) (eC (.bl true)))
    (sSeq (sIf (tV (eOp eqD (eUn lenTD (eCall m_owners (cV (eCall m_without (cV (eVar 1) (cV (eVar 8) (cB (eVar 4) cN)))) (cV (eVar 8) cN)))) (eOp subD (eVar 3) (eC (.int 1)))))
    (sSeq (sStL 5 (eVar 7) (eVar 9))
    (sSeq (sAug 3 (fun i j => i - j) (eC (.int 1)))
    sBk))
    sNil)
    (sDrop (eMth 4 kdT fPopT (aC (eVar 9) aN)))))
    sNil)
noncomputable def k_match_1 : MS := (sSeq (sSet 8 (eSl (eVar 2) (oSo (eOp addD (eVar 6) (eC (.int 1)))) oNo))
    (sFor (gN 9) (iLst (eOp ixD (eVar 1) (eVar 7)))
    k_match_0))
noncomputable def m_match : MS := mkFn 1 9 [] (sSeq (sSet 1 (eOp ixD (eVar 0) (eC (.int 1))))
    (sSeq (sSet 2 (eUn srtA (eVar 1)))
    (sSeq (sSet 3 (eUn lenTD (eCall m_owners (cV (eVar 1) (cV (eVar 2) cN)))))
    (sSeq (sSet 4 eDctT)
    (sSeq (sSet 5 eDct)
    (sSeq (sFor (gTupM 2 (gConsM (gN 6) (gConsM (gN 7) gNilM))) (iEnM (eVar 2))
    k_match_1)
    (sRet [] (eVar 5))))))))
noncomputable def k_law_0 : MS := (sStL 4 (eVar 5) (eUn listD (eOp ixD (eVar 3) (eVar 5))))
noncomputable def k_law_t0 : MS := (sSet 1 (eCall m_law_stream (cV (eVar 0) cN)))
noncomputable def k_law_t1 : MS := (sAsg (gTupM 2 (gConsM (gN 2) (gConsM (gN 3) gNilM))) (eCall m_law_graph (cB (eVar 1) cN)))
noncomputable def k_law_t2 : MS := (sSet 4 eDct)
noncomputable def k_law_t3 : MS := (sFor (gN 5) (iLst (eSlS (eUn srtA (eVar 3)) (eOp subD (eC (.int 1)) (eOp mulD (eC (.int 2)) (eCall m_law_draw (cB (eVar 1) (cV (eC (.int 2)) cN)))))))
    k_law_0)
noncomputable def k_law_t4 : MS := (sSet 6 (eCall m_law_least (cV (eVar 3) cN)))
noncomputable def k_law_t5 : MS := (sSet 7 (eCall m_match (cV (eTup (aC (eUn listD (eVar 2)) (aC (eVar 4) aN))) cN)))
noncomputable def k_law_t6 : MS := (sIf (tOrM (tNotM (tTru (eUn (isiD tb_dict) (eVar 7)))) (tOrM (tV (eOp (neyD (fun _ => none) 40) (eVar 7) (eVar 6))) (tV (eOp (neyD (fun _ => none) 40) (eVar 4) (eVar 3)))))
    (sRet [] (eC (.bl false)))
    sNil)
noncomputable def k_law_t7 : MS := (sStL 7 (eC (.str "more")) (eC (.int 0)))
noncomputable def k_law_t8 : MS := (sRet [] (eAnd (eOp (eqyD (fun _ => none) 40) (eCall m_match (cV (eTup (aC (eUn listD (eVar 2)) (aC (eVar 4) aN))) cN)) (eVar 6)) (eOp eqD (eUn lenD (eVar 6)) (eCall m_law_most (cV (eVar 3) (cV (eUn srtA (eVar 3)) (cV (eLst aN) cN)))))))
noncomputable def m_law : MS := mkFn 1 7 [] (sSeq k_law_t0
    (sSeq k_law_t1
    (sSeq k_law_t2
    (sSeq k_law_t3
    (sSeq k_law_t4
    (sSeq k_law_t5
    (sSeq k_law_t6
    (sSeq k_law_t7
    k_law_t8))))))))
/-! ### what the top leaves -/
structure Ads where
  a_law_draw : Addr
  fd_law_draw : FuncData
  a_law_graph : Addr
  fd_law_graph : FuncData
  a_law_try : Addr
  fd_law_try : FuncData
  a_law_most : Addr
  fd_law_most : FuncData
  a_law_least : Addr
  fd_law_least : FuncData
  a_law_stream : Addr
  fd_law_stream : FuncData
  a_augmented : Addr
  fd_augmented : FuncData
  a_owners : Addr
  fd_owners : FuncData
  a_without : Addr
  fd_without : FuncData
  a_match : Addr
  fd_match : FuncData
  a_law : Addr
  fd_law : FuncData
abbrev enA (K : PySem.W.Frag) (A : Ads) : En := ⟨K, fun k => match k with
  | _ => 0, fun k => match k with
  | _ => []⟩
structure Txt (w : World) (K : PySem.W.Frag) (mg : Str → Option Value) (A : Ads) : Prop where
  F_law_draw : Fun K "_law_draw" "_law_draw" s_law_draw A.a_law_draw A.fd_law_draw
  b_law_draw : Binds K A.fd_law_draw ["_law_stream_here", "_law_many"] []
  p_law_draw : PySem.W.keepIn K (.ref A.a_law_draw) = true
  m_law_draw : mg "_law_draw" = some (.ref A.a_law_draw)
  F_law_graph : Fun K "_law_graph" "_law_graph" s_law_graph A.a_law_graph A.fd_law_graph
  b_law_graph : Binds K A.fd_law_graph ["_law_stream_here"] []
  p_law_graph : PySem.W.keepIn K (.ref A.a_law_graph) = true
  m_law_graph : mg "_law_graph" = some (.ref A.a_law_graph)
  F_law_try : Fun K "_law_try" "_law_try" s_law_try A.a_law_try A.fd_law_try
  b_law_try : Binds K A.fd_law_try ["_law_joined", "_law_owner", "_law_name", "_law_seen"] []
  p_law_try : PySem.W.keepIn K (.ref A.a_law_try) = true
  m_law_try : mg "_law_try" = some (.ref A.a_law_try)
  F_law_most : Fun K "_law_most" "_law_most" s_law_most A.a_law_most A.fd_law_most
  b_law_most : Binds K A.fd_law_most ["_law_joined", "_law_names", "_law_gone"] []
  p_law_most : PySem.W.keepIn K (.ref A.a_law_most) = true
  m_law_most : mg "_law_most" = some (.ref A.a_law_most)
  F_law_least : Fun K "_law_least" "_law_least" s_law_least A.a_law_least A.fd_law_least
  b_law_least : Binds K A.fd_law_least ["_law_joined"] []
  p_law_least : PySem.W.keepIn K (.ref A.a_law_least) = true
  m_law_least : mg "_law_least" = some (.ref A.a_law_least)
  F_law_stream : Fun K "_law_stream" "_law_stream" s_law_stream A.a_law_stream A.fd_law_stream
  b_law_stream : Binds K A.fd_law_stream ["_law_script"] []
  p_law_stream : PySem.W.keepIn K (.ref A.a_law_stream) = true
  m_law_stream : mg "_law_stream" = some (.ref A.a_law_stream)
  F_augmented : Fun K "augmented" "augmented" s_augmented A.a_augmented A.fd_augmented
  b_augmented : Binds K A.fd_augmented ["joined", "owner", "name", "seen"] []
  p_augmented : PySem.W.keepIn K (.ref A.a_augmented) = true
  m_augmented : mg "augmented" = some (.ref A.a_augmented)
  F_owners : Fun K "owners" "owners" s_owners A.a_owners A.fd_owners
  b_owners : Binds K A.fd_owners ["joined", "names"] []
  p_owners : PySem.W.keepIn K (.ref A.a_owners) = true
  m_owners : mg "owners" = some (.ref A.a_owners)
  F_without : Fun K "without" "without" s_without A.a_without A.fd_without
  b_without : Binds K A.fd_without ["joined", "names", "used"] []
  p_without : PySem.W.keepIn K (.ref A.a_without) = true
  m_without : mg "without" = some (.ref A.a_without)
  F_match : Fun K "match" "match" s_match A.a_match A.fd_match
  b_match : Binds K A.fd_match ["pair"] []
  p_match : PySem.W.keepIn K (.ref A.a_match) = true
  m_match : mg "match" = some (.ref A.a_match)
  F_law : Fun K "law" "law" s_law A.a_law A.fd_law
  b_law : Binds K A.fd_law ["_law_script"] []
  p_law : PySem.W.keepIn K (.ref A.a_law) = true
  m_law : mg "law" = some (.ref A.a_law)
  n_abs : mg "abs" = none
  n_dict : mg "dict" = none
  n_enumerate : mg "enumerate" = none
  n_int : mg "int" = none
  n_isinstance : mg "isinstance" = none
  n_len : mg "len" = none
  n_list : mg "list" = none
  n_range : mg "range" = none
  n_sorted : mg "sorted" = none
section
variable {P : Program} {w : World} {K : PySem.W.Frag} {mg : Str → Option Value} {base : Heap} {A : Ads}
theorem tb_dict_ok (T : Txt w K mg A) : ∀ t b, tb_dict t = some b → PySem.W.kitOne (enA K A).K (tyV' (enA K A) t) (.type "dict") = some b
  | .non, b, h => by cases h; exact kit_ty (by decide +kernel)
  | .bl, b, h => by cases h; exact kit_ty (by decide +kernel)
  | .int, b, h => by cases h; exact kit_ty (by decide +kernel)
  | .str, b, h => by cases h; exact kit_ty (by decide +kernel)
  | .tup, b, h => by cases h; exact kit_ty (by decide +kernel)
  | .lst, b, h => by cases h; exact kit_ty (by decide +kernel)
  | .dct, b, h => by cases h; exact kit_ty (by decide +kernel)
  | .own (_ + 0), b, h => by cases h
theorem tb_dict_is (T : Txt w K mg A) : ∀ c b, tb_dict (.own c) = some b → IsO (enA K A).K ((enA K A).ct c)
  | _ + 0, b, h => by cases h
theorem ok_law_draw (T : Txt w K mg A) : FnOk P w K mg base (L2.CX P w) 1 A.a_law_draw A.fd_law_draw ["_law_stream_here", "_law_many"] (spOf (enA K A) 2 m_law_draw) :=
  fn_ok T.F_law_draw sc_law_draw rfl fun cdv A0 outer s H E hr =>
    (sb_cons (ss_if (SW.st (sw_and (st_cmp op_eq p2_eq (nomark _) (se_ix (ix_any (un_of hr)) p2_ix (fun _ _ => rfl) (se_varK v_law_draw_0) se_int) se_int) (sw_and1 (st_cmp op_ltU p2_lt (nomark _) (se_ix (ix_any (un_of hr)) p2_ix (fun _ _ => rfl) (se_varK v_law_draw_0) se_int) (se_call1 call_lenU p1_len (by rfl) T.n_len (by decide +kernel) (se_ix (ix_any (un_of hr)) p2_ix (fun _ _ => rfl) (se_varK v_law_draw_0) se_int))))))
    (sb_cons (ss_stLK (i := 0) (un_of hr) v_law_draw_0 (se_call1 call_abs p1_abs (by rfl) T.n_abs (by decide +kernel) (se_callT1 call_int1 p1_int (by rfl) T.n_int (by decide +kernel) (se_ix (ix_any (un_of hr)) p2_ix (fun _ _ => rfl) (se_ix (ix_any (un_of hr)) p2_ix (fun _ _ => rfl) (se_varK v_law_draw_0) se_int) (se_ix (ix_any (un_of hr)) p2_ix (fun _ _ => rfl) (se_varK v_law_draw_0) se_int)))) se_int)
    (sb_one (ss_stLK (i := 0) (un_of hr) v_law_draw_0 (se_op op_addU p2_add (se_ix (ix_any (un_of hr)) p2_ix (fun _ _ => rfl) (se_varK v_law_draw_0) se_int) se_int) se_int)))
    sb_nil)
    (sb_cons (ss_if (st_cmp op_eq p2_eq (nomark _) (se_ix (ix_any (un_of hr)) p2_ix (fun _ _ => rfl) (se_varK v_law_draw_0) se_int) se_int)
    (sb_cons (ss_stLK (i := 0) (un_of hr) v_law_draw_0 (se_op op_modN p2_mod (se_callT1 call_int1 p1_int (by rfl) T.n_int (by decide +kernel) (se_op op_addU p2_add (se_op op_mulW p2_mul (se_ix (ix_any (un_of hr)) p2_ix (fun _ _ => rfl) (se_varK v_law_draw_0) se_int) se_int) se_int)) se_int) se_int)
    (sb_one (ss_ret (se_op op_modN p2_mod (se_callT1 call_int1 p1_int (by rfl) T.n_int (by decide +kernel) (se_op op_fdivA p2_fdiv (se_ix (ix_any (un_of hr)) p2_ix (fun _ _ => rfl) (se_varK v_law_draw_0) se_int) se_int)) (se_varK v_law_draw_1)))))
    sb_nil)
    (sb_cons (ss_set (i := 2) (by decide) sc_law_draw.nd rfl (Or.inl rfl) (se_op op_modN p2_mod (se_callT1 call_int1 p1_int (by rfl) T.n_int (by decide +kernel) (se_ix (ix_any (un_of hr)) p2_ix (fun _ _ => rfl) (se_varK v_law_draw_0) se_int)) (se_varK v_law_draw_1)))
    (sb_cons (ss_stLK (i := 0) (un_of hr) v_law_draw_0 (se_op op_fdivA p2_fdiv (se_ix (ix_any (un_of hr)) p2_ix (fun _ _ => rfl) (se_varK v_law_draw_0) se_int) (se_varK v_law_draw_1)) se_int)
    (sb_one (ss_ret (se_varK v_law_draw_2)))))))
theorem ok_law_graph (T : Txt w K mg A) : FnOk P w K mg base (L2.CX P w) 2 A.a_law_graph A.fd_law_graph ["_law_stream_here"] (spOf (enA K A) 1 m_law_graph) :=
  fn_ok T.F_law_graph sc_law_graph rfl fun cdv A0 outer s H E hr =>
    (sb_cons (ss_set (i := 1) (by decide) sc_law_graph.nd rfl (Or.inl rfl) (se_sl rfl (se_lst (sa_cons se_str (sa_cons se_str (sa_cons se_str (sa_cons se_str (sa_cons se_str (sa_cons se_str (sa_cons se_str sa_nil))))))) (by decide)) so_no (so_so (se_call (ok_law_draw T) (hr.mono (by omega)) (by rfl) T.m_law_draw T.p_law_draw T.b_law_draw (takes_of rfl rfl rfl rfl) (sc_bor (se_varK v_law_graph_0) (sc_val se_int sc_nil)) rfl))))
    (sb_cons (ss_setLc (i := 2) (own := [("_law_k", 6)]) (by decide) rfl sc_law_graph.nd rfl rfl (si_range1 (by rfl) T.n_range se_int) (by show BlkOk ["_law_stream_here", "_law_names", "_law_keys", "_law_joined", "_law_dense", "_law_name", "_law_k", "_law_key"] (defScope s_law_graph) _ _; exact blkOk_by (by decide +kernel)) (fun _ _ _ _ _ => (sgv_name (i := 6) (by decide) sc_law_graph.nd rfl (Or.inl rfl) (Or.inr rfl))) (fun _ _ _ _ _ => sts_nil) (fun _ _ _ _ _ => (se_tup (sa_cons se_str (sa_cons (se_ix (ix_any (un_of hr)) p2_ix (fun _ _ => rfl) se_str (se_op op_fdivA p2_fdiv (se_varK (i := 6) ⟨rfl, by first | exact .inl rfl | exact .inr (.inl rfl) | exact .inr (.inr rfl), by decide +kernel, by decide +kernel⟩) se_int)) (sa_cons (se_op op_modN p2_mod (se_callT1 call_int1 p1_int (by rfl) T.n_int (by decide +kernel) (se_varK (i := 6) ⟨rfl, by first | exact .inl rfl | exact .inr (.inl rfl) | exact .inr (.inr rfl), by decide +kernel, by decide +kernel⟩)) se_int) sa_nil))) (by decide))))
    (sb_cons (ss_setLc (i := 2) (own := [("_law_key", 7)]) (by decide) rfl sc_law_graph.nd rfl rfl (si_list rfl (se_varK v_law_graph_2)) (by show BlkOk ["_law_stream_here", "_law_names", "_law_keys", "_law_joined", "_law_dense", "_law_name", "_law_k", "_law_key"] (defScope s_law_graph) _ _; exact blkOk_by (by decide +kernel)) (fun _ _ _ _ _ => (sgv_name (i := 7) (by decide) sc_law_graph.nd rfl (Or.inl rfl) (Or.inr rfl))) (fun _ _ _ _ _ => (sts_one (st_cmp op_gt p2_gt (nomark _) (se_call (ok_law_draw T) (hr.mono (by omega)) (by rfl) T.m_law_draw T.p_law_draw T.b_law_draw takes0 (sc_bor (se_varK (i := 0) ⟨rfl, by first | exact .inl rfl | exact .inr (.inl rfl) | exact .inr (.inr rfl), by decide +kernel, by decide +kernel⟩) (sc_val se_int sc_nil)) rfl) se_int))) (fun _ _ _ _ _ => (se_varK (i := 7) ⟨rfl, by first | exact .inl rfl | exact .inr (.inl rfl) | exact .inr (.inr rfl), by decide +kernel, by decide +kernel⟩)))
    (sb_cons (ss_set (i := 3) (by decide) sc_law_graph.nd rfl (Or.inl rfl) se_dct)
    (sb_cons (ss_set (i := 4) (by decide) sc_law_graph.nd rfl (Or.inr rfl) (se_op op_addU p2_add se_int (se_call (ok_law_draw T) (hr.mono (by omega)) (by rfl) T.m_law_draw T.p_law_draw T.b_law_draw (takes_of rfl rfl rfl rfl) (sc_bor (se_varK v_law_graph_0) (sc_val se_int sc_nil)) rfl)))
    (sb_cons (ss_for (passes_of rfl) rfl (si_list rfl (se_varK v_law_graph_1)) (sg_name (i := 5) (by decide) sc_law_graph.nd rfl (Or.inl rfl)) (sb_one (ss_stLK (i := 3) (un_of hr) v_law_graph_3 (se_lc (own := [("_law_key", 7)]) rfl sc_law_graph.nd (si_list rfl (se_varK v_law_graph_2)) (by show BlkOk ["_law_stream_here", "_law_names", "_law_keys", "_law_joined", "_law_dense", "_law_name", "_law_k", "_law_key"] (defScope s_law_graph) _ _; exact blkOk_by (by decide +kernel)) (fun _ _ _ _ _ => (sgv_name (i := 7) (by decide) sc_law_graph.nd rfl (Or.inl rfl) (Or.inr rfl))) (fun _ _ _ _ _ => (sts_one (st_cmp op_eq p2_eq (nomark _) (se_call (ok_law_draw T) (hr.mono (by omega)) (by rfl) T.m_law_draw T.p_law_draw T.b_law_draw takes0 (sc_bor (se_varK (i := 0) ⟨rfl, by first | exact .inl rfl | exact .inr (.inl rfl) | exact .inr (.inr rfl), by decide +kernel, by decide +kernel⟩) (sc_val (se_varK (i := 4) ⟨rfl, by first | exact .inl rfl | exact .inr (.inl rfl) | exact .inr (.inr rfl), by decide +kernel, by decide +kernel⟩) sc_nil)) rfl) se_int))) (fun _ _ _ _ _ => (se_varK (i := 7) ⟨rfl, by first | exact .inl rfl | exact .inr (.inl rfl) | exact .inr (.inr rfl), by decide +kernel, by decide +kernel⟩))) (se_varK v_law_graph_5))))
    (sb_one (ss_ret (se_tup (sa_cons (se_varK v_law_graph_2) (sa_cons (se_varK v_law_graph_3) sa_nil)) (by decide))))))))))
theorem ok_law_try (T : Txt w K mg A) : ∀ k : Nat, FnOk P w K mg base (L2.CX P w) (k + 1) A.a_law_try A.fd_law_try ["_law_joined", "_law_owner", "_law_name", "_law_seen"] (spOf (enA K A) 4 (m_law_try k))
  | 0 => fn_no
  | k + 1 => fn_ok T.F_law_try sc_law_try rfl fun cdv A0 outer s H E hr =>
    (sb_cons (ss_for (passes_of rfl) rfl (si_list rfl (se_ix (ix_any (un_of hr)) p2_ix (fun _ _ => rfl) (se_varK v_law_try_0) (se_varK v_law_try_2))) (sg_name (i := 4) (by decide) sc_law_try.nd rfl (Or.inl rfl)) (sb_one (ss_if (st_cmpU (op_niZ rfl (un_of hr)) p2u_nia (by rfl) (se_varK v_law_try_4) (se_varK v_law_try_3))
    (sb_cons (ss_expr (se_mth (i := 3) v_law_try_3 mo_append PySem.F.plainAttrs_list PySem.F.slot_list_append PySem.F.type_list_append mt_append rfl (sa_cons (se_varK v_law_try_4) sa_nil)))
    (sb_one (ss_if (SW.st (sw_or (st_cmpU (op_niZ rfl (un_of hr)) p2u_nia (by rfl) (se_varK v_law_try_4) (se_varK v_law_try_1)) (sw_or1 (st_tru rfl (se_call (ok_law_try T k) (hr.mono (by omega)) (by rfl) T.m_law_try T.p_law_try T.b_law_try (takes_of rfl rfl rfl rfl) (sc_val (se_varK v_law_try_0) (sc_bor (se_varK v_law_try_1) (sc_val (se_ix (ix_any (un_of hr)) p2_ix (fun _ _ => rfl) (se_varK v_law_try_1) (se_varK v_law_try_4)) (sc_bor (se_varK v_law_try_3) sc_nil)))) rfl)))))
    (sb_cons (ss_stLK (i := 1) (un_of hr) v_law_try_1 (se_varK v_law_try_2) (se_varK v_law_try_4))
    (sb_one (ss_ret se_bl)))
    sb_nil)))
    sb_nil)))
    (sb_one (ss_ret se_bl)))
theorem ok_law_most (T : Txt w K mg A) : FnOk P w K mg base (L2.CX P w) 12 A.a_law_most A.fd_law_most ["_law_joined", "_law_names", "_law_gone"] (spOf (enA K A) 3 m_law_most) :=
  fn_ok T.F_law_most sc_law_most rfl fun cdv A0 outer s H E hr =>
    (sb_cons (ss_set (i := 3) (by decide) sc_law_most.nd rfl (Or.inl rfl) se_dct)
    (sb_cons (ss_for (passes_of rfl) rfl (si_list rfl (se_varK v_law_most_1)) (sg_name (i := 4) (by decide) sc_law_most.nd rfl (Or.inl rfl)) (sb_one (ss_stLK (i := 3) (un_of hr) v_law_most_3 (se_lc (own := [("_law_key", 6)]) rfl sc_law_most.nd (si_list rfl (se_ix (ix_any (un_of hr)) p2_ix (fun _ _ => rfl) (se_varK v_law_most_0) (se_varK v_law_most_4))) (by show BlkOk ["_law_joined", "_law_names", "_law_gone", "_law_rest", "_law_name", "_law_owner", "_law_key"] (defScope s_law_most) _ _; exact blkOk_by (by decide +kernel)) (fun _ _ _ _ _ => (sgv_name (i := 6) (by decide) sc_law_most.nd rfl (Or.inl rfl) (Or.inr rfl))) (fun _ _ _ _ _ => (sts_one (st_cmpU (op_niZ rfl (un_of hr)) p2u_nia (by rfl) (se_varK (i := 6) ⟨rfl, by first | exact .inl rfl | exact .inr (.inl rfl) | exact .inr (.inr rfl), by decide +kernel, by decide +kernel⟩) (se_varK (i := 2) ⟨rfl, by first | exact .inl rfl | exact .inr (.inl rfl) | exact .inr (.inr rfl), by decide +kernel, by decide +kernel⟩)))) (fun _ _ _ _ _ => (se_varK (i := 6) ⟨rfl, by first | exact .inl rfl | exact .inr (.inl rfl) | exact .inr (.inr rfl), by decide +kernel, by decide +kernel⟩))) (se_varK v_law_most_4))))
    (sb_cons (ss_set (i := 5) (by decide) sc_law_most.nd rfl (Or.inl rfl) se_dctT)
    (sb_cons (ss_for (passes_of rfl) rfl (si_list rfl (se_varK v_law_most_1)) (sg_name (i := 4) (by decide) sc_law_most.nd rfl (Or.inl rfl)) (sb_one (ss_expr (se_callO (ok_law_try T 10) (hr.mono (by omega)) (by rfl) T.m_law_try T.p_law_try T.b_law_try (takes_of rfl rfl rfl rfl) (so_val (se_varK v_law_most_3) (so_bor (se_varK v_law_most_5) (so_val (se_varK v_law_most_4) (so_last (se_lst sa_nil (by decide)))))) rfl))))
    (sb_one (ss_ret (se_call1 call_lenT p1_lenT (by rfl) T.n_len (by decide +kernel) (se_varK v_law_most_5))))))))
theorem ok_law_least (T : Txt w K mg A) : FnOk P w K mg base (L2.CX P w) 13 A.a_law_least A.fd_law_least ["_law_joined"] (spOf (enA K A) 1 m_law_least) :=
  fn_ok T.F_law_least sc_law_least rfl fun cdv A0 outer s H E hr =>
    (sb_cons (ss_set (i := 1) (by decide) sc_law_least.nd rfl (Or.inl rfl) (se_call1U (call_srtA rfl rfl (un_of hr)) p1u_srtA (by rfl) T.n_sorted (by decide +kernel) (se_varK v_law_least_0)))
    (sb_cons (ss_set (i := 2) (by decide) sc_law_least.nd rfl (Or.inl rfl) (se_call (ok_law_most T) (hr.mono (by omega)) (by rfl) T.m_law_most T.p_law_most T.b_law_most (takes_of rfl rfl rfl rfl) (sc_val (se_varK v_law_least_0) (sc_val (se_varK v_law_least_1) (sc_val (se_lst sa_nil (by decide)) sc_nil))) rfl))
    (sb_cons (ss_set (i := 3) (by decide) sc_law_least.nd rfl (Or.inl rfl) (se_lst sa_nil (by decide)))
    (sb_cons (ss_set (i := 4) (by decide) sc_law_least.nd rfl (Or.inl rfl) se_dct)
    (sb_cons (ss_for (passes_of rfl) rfl (si_range1 (by rfl) T.n_range (se_call1 call_lenU p1_len (by rfl) T.n_len (by decide +kernel) (se_varK v_law_least_1))) (sg_name (i := 5) (by decide) sc_law_least.nd rfl (Or.inl rfl)) (sb_cons (ss_for (passes_of rfl) rfl (si_list rfl (se_ix (ix_any (un_of hr)) p2_ix (fun _ _ => rfl) (se_varK v_law_least_0) (se_ix (ix_any (un_of hr)) p2_ix (fun _ _ => rfl) (se_varK v_law_least_1) (se_varK v_law_least_5)))) (sg_name (i := 6) (by decide) sc_law_least.nd rfl (Or.inl rfl)) (sb_one (ss_if (SW.st (sw_and (st_cmpU (op_niZ rfl (un_of hr)) p2u_nia (by rfl) (se_ix (ix_any (un_of hr)) p2_ix (fun _ _ => rfl) (se_varK v_law_least_1) (se_varK v_law_least_5)) (se_varK v_law_least_4)) (sw_and1 (st_cmpU (op_niZ rfl (un_of hr)) p2u_nia (by rfl) (se_varK v_law_least_6) (se_varK v_law_least_3)))))
    (sb_one (ss_if (st_cmp op_eq p2_eq (nomark _) (se_call (ok_law_most T) (hr.mono (by omega)) (by rfl) T.m_law_most T.p_law_most T.b_law_most (takes_of rfl rfl rfl rfl) (sc_val (se_varK v_law_least_0) (sc_val (se_sl rfl (se_varK v_law_least_1) (so_so (se_op op_addU p2_add (se_varK v_law_least_5) se_int)) so_no) (sc_val (se_op op_addU p2_add (se_varK v_law_least_3) (se_lst (sa_cons (se_varK v_law_least_6) sa_nil) (by decide))) sc_nil))) rfl) (se_op op_sub p2_sub (se_varK v_law_least_2) se_int))
    (sb_one (ss_stLK (i := 4) (un_of hr) v_law_least_4 (se_varK v_law_least_6) (se_ix (ix_any (un_of hr)) p2_ix (fun _ _ => rfl) (se_varK v_law_least_1) (se_varK v_law_least_5))))
    sb_nil))
    sb_nil)))
    (sb_one (ss_if (st_cmpU (op_inZ rfl (un_of hr)) p2u_ina (by rfl) (se_ix (ix_any (un_of hr)) p2_ix (fun _ _ => rfl) (se_varK v_law_least_1) (se_varK v_law_least_5)) (se_varK v_law_least_4))
    (sb_cons (ss_expr (se_mth (i := 3) v_law_least_3 mo_append PySem.F.plainAttrs_list PySem.F.slot_list_append PySem.F.type_list_append mt_append rfl (sa_cons (se_ix (ix_any (un_of hr)) p2_ix (fun _ _ => rfl) (se_varK v_law_least_4) (se_ix (ix_any (un_of hr)) p2_ix (fun _ _ => rfl) (se_varK v_law_least_1) (se_varK v_law_least_5))) sa_nil)))
    (sb_one (ss_set (i := 2) (by decide) sc_law_least.nd rfl (Or.inl rfl) (se_op op_sub p2_sub (se_varK v_law_least_2) se_int))))
    sb_nil))))
    (sb_one (ss_ret (se_varK v_law_least_4))))))))
theorem ok_law_stream (T : Txt w K mg A) : FnOk P w K mg base (L2.CX P w) 1 A.a_law_stream A.fd_law_stream ["_law_script"] (spOf (enA K A) 1 m_law_stream) :=
  fn_ok T.F_law_stream sc_law_stream rfl fun cdv A0 outer s H E hr =>
    (sb_cons (ss_set (i := 1) (by decide) sc_law_stream.nd rfl (Or.inl rfl) se_int)
    (sb_cons (ss_for (passes_of rfl) rfl (si_list rfl (se_varK v_law_stream_0)) (sg_name (i := 2) (by decide) sc_law_stream.nd rfl (Or.inl rfl)) (sb_one (ss_set (i := 1) (by decide) sc_law_stream.nd rfl (Or.inl rfl) (se_op op_modN p2_mod (se_callT1 call_int1 p1_int (by rfl) T.n_int (by decide +kernel) (se_op op_addU p2_add (se_op op_addU p2_add (se_op op_mulW p2_mul (se_varK v_law_stream_1) se_int) (se_op op_modN p2_mod (se_callT1 call_int1 p1_int (by rfl) T.n_int (by decide +kernel) (se_varK v_law_stream_2)) se_int)) se_int)) se_int))))
    (sb_one (ss_ret (se_lst (sa_cons (se_callT1 call_list_of p1_list (by rfl) T.n_list (by decide +kernel) (se_varK v_law_stream_0)) (sa_cons se_int (sa_cons se_int (sa_cons (se_varK v_law_stream_1) sa_nil)))) (by decide))))))
theorem ok_augmented (T : Txt w K mg A) : ∀ k : Nat, FnOk P w K mg base (L2.CX P w) (k + 1) A.a_augmented A.fd_augmented ["joined", "owner", "name", "seen"] (spOf (enA K A) 4 (m_augmented k))
  | 0 => fn_no
  | k + 1 => fn_ok T.F_augmented sc_augmented rfl fun cdv A0 outer s H E hr =>
    (sb_cons (ss_for (passes_of rfl) rfl (si_list rfl (se_ix (ix_any (un_of hr)) p2_ix (fun _ _ => rfl) (se_varK v_augmented_0) (se_varK v_augmented_2))) (sg_name (i := 4) (by decide) sc_augmented.nd rfl (Or.inl rfl)) (sb_one (ss_if (st_cmpU (op_niZ rfl (un_of hr)) p2u_nia (by rfl) (se_varK v_augmented_4) (se_varK v_augmented_3))
    (sb_cons (ss_stLK (i := 3) (un_of hr) v_augmented_3 se_bl (se_varK v_augmented_4))
    (sb_one (ss_if (SW.st (sw_or (st_cmpU (op_niZ rfl (un_of hr)) p2u_nia (by rfl) (se_varK v_augmented_4) (se_varK v_augmented_1)) (sw_or1 (st_tru rfl (se_call (ok_augmented T k) (hr.mono (by omega)) (by rfl) T.m_augmented T.p_augmented T.b_augmented (takes_of rfl rfl rfl rfl) (sc_val (se_varK v_augmented_0) (sc_bor (se_varK v_augmented_1) (sc_val (se_ix (ix_any (un_of hr)) p2_ix (fun _ _ => rfl) (se_varK v_augmented_1) (se_varK v_augmented_4)) (sc_bor (se_varK v_augmented_3) sc_nil)))) rfl)))))
    (sb_cons (ss_stLK (i := 1) (un_of hr) v_augmented_1 (se_varK v_augmented_2) (se_varK v_augmented_4))
    (sb_one (ss_ret se_bl)))
    sb_nil)))
    sb_nil)))
    (sb_one (ss_ret se_bl)))
theorem ok_owners (T : Txt w K mg A) : FnOk P w K mg base (L2.CX P w) 12 A.a_owners A.fd_owners ["joined", "names"] (spOf (enA K A) 2 m_owners) :=
  fn_ok T.F_owners sc_owners rfl fun cdv A0 outer s H E hr =>
    (sb_cons (ss_set (i := 2) (by decide) sc_owners.nd rfl (Or.inl rfl) se_dctT)
    (sb_cons (ss_for (passes_of rfl) rfl (si_list rfl (se_varK v_owners_1)) (sg_name (i := 3) (by decide) sc_owners.nd rfl (Or.inl rfl)) (sb_one (ss_expr (se_callO (ok_augmented T 10) (hr.mono (by omega)) (by rfl) T.m_augmented T.p_augmented T.b_augmented (takes_of rfl rfl rfl rfl) (so_val (se_varK v_owners_0) (so_bor (se_varK v_owners_2) (so_val (se_varK v_owners_3) (so_last se_dctT)))) rfl))))
    (sb_one (ss_ret (se_varK v_owners_2)))))
theorem ok_without (T : Txt w K mg A) : FnOk P w K mg base (L2.CX P w) 1 A.a_without A.fd_without ["joined", "names", "used"] (spOf (enA K A) 3 m_without) :=
  fn_ok T.F_without sc_without rfl fun cdv A0 outer s H E hr =>
    (sb_one (ss_ret (se_dc (own := [("name", 3)]) rfl sc_without.nd (si_list rfl (se_varK v_without_1)) (by show BlkOk ["joined", "names", "used", "name", "key"] (defScope s_without) _ _; exact blkOk_by (by decide +kernel)) (fun _ _ _ _ _ => (sgv_name (i := 3) (by decide) sc_without.nd rfl (Or.inl rfl) (Or.inr rfl))) (fun _ _ _ _ _ => sts_nil) (fun _ _ _ _ _ => (se_varK (i := 3) ⟨rfl, by first | exact .inl rfl | exact .inr (.inl rfl) | exact .inr (.inr rfl), by decide +kernel, by decide +kernel⟩)) (fun _ _ _ _ _ => (se_lc (own := [("key", 4)]) rfl sc_without.nd (si_list rfl (se_ix (ix_any (un_of hr)) p2_ix (fun _ _ => rfl) (se_varK (i := 0) ⟨rfl, by first | exact .inl rfl | exact .inr (.inl rfl) | exact .inr (.inr rfl), by decide +kernel, by decide +kernel⟩) (se_varK (i := 3) ⟨rfl, by first | exact .inl rfl | exact .inr (.inl rfl) | exact .inr (.inr rfl), by decide +kernel, by decide +kernel⟩))) (by show BlkOk ["joined", "names", "used", "name", "key"] _ _ _; exact blkOk_by (by with_unfolding_all rfl)) (fun _ _ _ _ _ => (sgv_name (i := 4) (by decide) sc_without.nd rfl (Or.inl rfl) (Or.inr rfl))) (fun _ _ _ _ _ => (sts_one (st_cmpU (op_niZ rfl (un_of hr)) p2u_nia (by rfl) (se_varK (i := 4) ⟨rfl, by first | exact .inl rfl | exact .inr (.inl rfl) | exact .inr (.inr rfl), by decide +kernel, by decide +kernel⟩) (se_varK (i := 2) ⟨rfl, by first | exact .inl rfl | exact .inr (.inl rfl) | exact .inr (.inr rfl), by decide +kernel, by decide +kernel⟩)))) (fun _ _ _ _ _ => (se_varK (i := 4) ⟨rfl, by first | exact .inl rfl | exact .inr (.inl rfl) | exact .inr (.inr rfl), by decide +kernel, by decide +kernel⟩)))))))
theorem ok_match (T : Txt w K mg A) : FnOk P w K mg base (L2.CX P w) 13 A.a_match A.fd_match ["pair"] (spOf (enA K A) 1 m_match) :=
  fn_ok T.F_match sc_match rfl fun cdv A0 outer s H E hr =>
    (sb_cons (ss_set (i := 1) (by decide) sc_match.nd rfl (Or.inl rfl) (se_ix (ix_any (un_of hr)) p2_ix (fun _ _ => rfl) (se_varK v_match_0) se_int))
    (sb_cons (ss_set (i := 2) (by decide) sc_match.nd rfl (Or.inl rfl) (se_call1U (call_srtA rfl rfl (un_of hr)) p1u_srtA (by rfl) T.n_sorted (by decide +kernel) (se_varK v_match_1)))
    (sb_cons (ss_set (i := 3) (by decide) sc_match.nd rfl (Or.inl rfl) (se_call1 call_lenT p1_lenT (by rfl) T.n_len (by decide +kernel) (se_call (ok_owners T) (hr.mono (by omega)) (by rfl) T.m_owners T.p_owners T.b_owners (takes_of rfl rfl rfl rfl) (sc_val (se_varK v_match_1) (sc_val (se_varK v_match_2) sc_nil)) rfl)))
    (sb_cons (ss_set (i := 4) (by decide) sc_match.nd rfl (Or.inl rfl) se_dctT)
    (sb_cons (ss_set (i := 5) (by decide) sc_match.nd rfl (Or.inl rfl) se_dct)
    (sb_cons (ss_for (passes_of rfl) rfl (si_enum rfl (by rfl) T.n_enumerate (se_varK v_match_2)) (sg_tup rfl rfl (sgs_cons (sg_name (i := 6) (by decide) sc_match.nd rfl (Or.inl rfl)) (sgs_cons (sg_name (i := 7) (by decide) sc_match.nd rfl (Or.inl rfl)) sgs_nil))) (sb_cons (ss_set (i := 8) (by decide) sc_match.nd rfl (Or.inl rfl) (se_sl rfl (se_varK v_match_2) (so_so (se_op op_addU p2_add (se_varK v_match_6) se_int)) so_no))
    (sb_one (ss_for (passes_of rfl) rfl (si_list rfl (se_ix (ix_any (un_of hr)) p2_ix (fun _ _ => rfl) (se_varK v_match_1) (se_varK v_match_7))) (sg_name (i := 9) (by decide) sc_match.nd rfl (Or.inl rfl)) (sb_one (ss_if (st_cmpU (op_niZ rfl (un_of hr)) p2u_nia (by rfl) (se_varK v_match_9) (se_varK v_match_4))
    (sb_cons (ss_stLK (i := 4) (un_of hr) v_match_4 se_bl (se_varK v_match_9))
    (sb_cons (ss_if (st_cmp op_eq p2_eq (nomark _) (se_call1 call_lenT p1_lenT (by rfl) T.n_len (by decide +kernel) (se_call (ok_owners T) (hr.mono (by omega)) (by rfl) T.m_owners T.p_owners T.b_owners (takes_of rfl rfl rfl rfl) (sc_val (se_call (ok_without T) (hr.mono (by omega)) (by rfl) T.m_without T.p_without T.b_without (takes_of rfl rfl rfl rfl) (sc_val (se_varK v_match_1) (sc_val (se_varK v_match_8) (sc_bor (se_varK v_match_4) sc_nil))) rfl) (sc_val (se_varK v_match_8) sc_nil)) rfl)) (se_op op_sub p2_sub (se_varK v_match_3) se_int))
    (sb_cons (ss_stLK (i := 5) (un_of hr) v_match_5 (se_varK v_match_9) (se_varK v_match_7))
    (sb_cons (ss_aug (i := 3) (by decide) ip_sub sc_match.nd rfl (Or.inl rfl) se_int)
    (sb_one ss_break)))
    sb_nil)
    (sb_one (ss_expr (se_mth (i := 4) v_match_4 mo_popT PySem.F.plainAttrs_dict PySem.F.slot_dict_pop PySem.F.type_dict_pop (mt_popT1 (un1 (un_of hr))) rfl (sa_cons (se_varK v_match_9) sa_nil))))))
    sb_nil))))))
    (sb_one (ss_ret (se_varK v_match_5)))))))))
theorem ok_law (T : Txt w K mg A) : FnOk P w K mg base (L2.CX P w) 42 A.a_law A.fd_law ["_law_script"] (spOf (enA K A) 1 m_law) :=
  fn_ok T.F_law sc_law rfl fun cdv A0 outer s H E hr =>
    (sb_cons (ss_set (i := 1) (by decide) sc_law.nd rfl (Or.inl rfl) (se_call (ok_law_stream T) (hr.mono (by omega)) (by rfl) T.m_law_stream T.p_law_stream T.b_law_stream (takes_of rfl rfl rfl rfl) (sc_val (se_varK v_law_0) sc_nil) rfl))
    (sb_cons (ss_asg (se_call (ok_law_graph T) (hr.mono (by omega)) (by rfl) T.m_law_graph T.p_law_graph T.b_law_graph (takes_of rfl rfl rfl rfl) (sc_bor (se_varK v_law_1) sc_nil) rfl) (sg_tup rfl rfl (sgs_cons (sg_name (i := 2) (by decide) sc_law.nd rfl (Or.inl rfl)) (sgs_cons (sg_name (i := 3) (by decide) sc_law.nd rfl (Or.inl rfl)) sgs_nil))))
    (sb_cons (ss_set (i := 4) (by decide) sc_law.nd rfl (Or.inl rfl) se_dct)
    (sb_cons (ss_for (passes_of rfl) rfl (si_list rfl (se_slS rfl (se_call1U (call_srtA rfl rfl (un_of hr)) p1u_srtA (by rfl) T.n_sorted (by decide +kernel) (se_varK v_law_3)) (se_op op_sub p2_sub se_int (se_op op_mulW p2_mul se_int (se_call (ok_law_draw T) (hr.mono (by omega)) (by rfl) T.m_law_draw T.p_law_draw T.b_law_draw (takes_of rfl rfl rfl rfl) (sc_bor (se_varK v_law_1) (sc_val se_int sc_nil)) rfl))))) (sg_name (i := 5) (by decide) sc_law.nd rfl (Or.inl rfl)) (sb_one (ss_stLK (i := 4) (un_of hr) v_law_4 (se_callT1 call_list_of p1_list (by rfl) T.n_list (by decide +kernel) (se_ix (ix_any (un_of hr)) p2_ix (fun _ _ => rfl) (se_varK v_law_3) (se_varK v_law_5))) (se_varK v_law_5))))
    (sb_cons (ss_set (i := 6) (by decide) sc_law.nd rfl (Or.inl rfl) (se_call (ok_law_least T) (hr.mono (by omega)) (by rfl) T.m_law_least T.p_law_least T.b_law_least (takes_of rfl rfl rfl rfl) (sc_val (se_varK v_law_3) sc_nil) rfl))
    (sb_cons (ss_set (i := 7) (by decide) sc_law.nd rfl (Or.inl rfl) (se_call (ok_match T) (hr.mono (by omega)) (by rfl) T.m_match T.p_match T.b_match (takes_of rfl rfl rfl rfl) (sc_val (se_tup (sa_cons (se_callT1 call_list_of p1_list (by rfl) T.n_list (by decide +kernel) (se_varK v_law_2)) (sa_cons (se_varK v_law_4) sa_nil)) (by decide)) sc_nil) rfl))
    (sb_cons (ss_if (SW.st (sw_or (st_not (st_tru rfl (se_isi rfl (.ty _) (tb_dict_ok T) (tb_dict_is T) (se_varK v_law_7) (pe_bltn (v := .ty "dict") (u := .type "dict") (by rfl) T.n_dict (by decide +kernel) (by rfl)) T.n_isinstance (by rfl)))) (sw_or (st_neY (k := 40) (clEq_none (n0 := 0) rfl) (hr.mono (by omega)) (nomark _) (se_varK v_law_7) (se_varK v_law_6)) (sw_or1 (st_neY (k := 40) (clEq_none (n0 := 0) rfl) (hr.mono (by omega)) (nomark _) (se_varK v_law_4) (se_varK v_law_3))))))
    (sb_one (ss_ret se_bl))
    sb_nil)
    (sb_cons (ss_stLK (i := 7) (un_of hr) v_law_7 se_int se_str)
    (sb_one (ss_ret (se_and (se_eqY (k := 40) (clEq_none (n0 := 0) rfl) (hr.mono (by omega)) (nomark _) (se_call (ok_match T) (hr.mono (by omega)) (by rfl) T.m_match T.p_match T.b_match (takes_of rfl rfl rfl rfl) (sc_val (se_tup (sa_cons (se_callT1 call_list_of p1_list (by rfl) T.n_list (by decide +kernel) (se_varK v_law_2)) (sa_cons (se_varK v_law_4) sa_nil)) (by decide)) sc_nil) rfl) (se_varK v_law_6)) (se_one (se_cmp op_eq p2_eq (nomark _) (se_call1 call_lenU p1_len (by rfl) T.n_len (by decide +kernel) (se_varK v_law_6)) (se_call (ok_law_most T) (hr.mono (by omega)) (by rfl) T.m_law_most T.p_law_most T.b_law_most (takes_of rfl rfl rfl rfl) (sc_val (se_varK v_law_3) (sc_val (se_call1U (call_srtA rfl rfl (un_of hr)) p1u_srtA (by rfl) T.n_sorted (by decide +kernel) (se_varK v_law_3)) (sc_val (se_lst sa_nil (by decide)) sc_nil))) rfl))))))))))))))
end
end LawP

end
section
set_option maxRecDepth 100000
set_option maxHeartbeats 4000000
namespace LawP
open PySem L2 Mi
open Mi.Ku
/-! ### keys as tuples -/
abbrev KK := List Key
instance decKK (k : KK) (L : List KK) : Decidable (k ∈ L) := @List.instDecidableMemOfLawfulBEq KK instBEqOfDecidableEq _ k L
theorem keyD_k : ∀ k : Key, keyD (kkD k) = some k
  | .inl _ => rfl
  | .inr _ => rfl
theorem keyL_k : ∀ k : KK, keyL (k.map kkD) = some k
  | [] => rfl
  | a :: k => by
    rw [List.map_cons, keyL, keyD_k, keyL_k k]
theorem keyT_k (k : KK) : keyT (kD k) = some k := keyL_k k
theorem eqv_kk : ∀ a b : Key, PyData.eqv (encD (kkD a)) (encD (kkD b)) = decide (a = b)
  | .inl i, .inl j => by
    rw [Bool.eq_iff_iff, decide_eq_true_iff]; simp [kkD, encD, PyData.eqv]
  | .inr x, .inr y => by
    rw [Bool.eq_iff_iff, decide_eq_true_iff]; simp [kkD, encD, PyData.eqv]
  | .inl i, .inr y => by
    rw [Bool.eq_iff_iff, decide_eq_true_iff]; simp [kkD, encD, PyData.eqv]
  | .inr x, .inl j => by
    rw [Bool.eq_iff_iff, decide_eq_true_iff]; simp [kkD, encD, PyData.eqv]
theorem eqv_ks : ∀ a b : KK, PyData.eqvAll (encL (a.map kkD)) (encL (b.map kkD)) = decide (a = b)
  | [], [] => rfl
  | [], _ :: _ => rfl
  | _ :: _, [] => rfl
  | x :: a, y :: b => by
    show (PyData.eqv (encD (kkD x)) (encD (kkD y)) && PyData.eqvAll (encL (a.map kkD)) (encL (b.map kkD))) = _
    rw [eqv_kk, eqv_ks a b, Bool.eq_iff_iff]; simp
theorem eqv_kD (a b : KK) : PyData.eqv (encD (kD a)) (encD (kD b)) = decide (a = b) := by
  show PyData.eqvAll (encL (a.map kkD)) (encL (b.map kkD)) = _
  exact eqv_ks a b
theorem pl_kD (k : KK) : (encD (kD k)).plain = true := kk_plain k
theorem dpA_k : ∀ k : KK, PyData.depthAll (encL (k.map kkD)) = 0
  | [] => rfl
  | .inl _ :: k => by show max 0 (PyData.depthAll (encL (k.map kkD))) = 0; rw [dpA_k k]; rfl
  | .inr _ :: k => by show max 0 (PyData.depthAll (encL (k.map kkD))) = 0; rw [dpA_k k]; rfl
theorem dp_kD (k : KK) : (encD (kD k)).depth ≤ 60 := by
  show PyData.depthAll (encL (k.map kkD)) + 1 ≤ 60
  rw [dpA_k]; decide
theorem plainAll_map {α : Type} {f : α → D} (h : ∀ a, (encD (f a)).plain = true) : ∀ l : List α, PyData.plainAll (encL (l.map f)) = true
  | [] => rfl
  | a :: l => by
    show ((encD (f a)).plain && PyData.plainAll (encL (l.map f))) = true
    rw [h a, plainAll_map h l]; rfl
theorem any_kD (k : KK) (L : List KK) : ((L.map kD).any fun y => PyData.eqv (encD y) (encD (kD k))) = decide (k ∈ L) := by
  rw [List.any_map, Bool.eq_iff_iff, decide_eq_true_iff, List.any_eq_true]
  constructor
  · rintro ⟨v, hv, h⟩
    rw [Function.comp, eqv_kD, decide_eq_true_iff] at h
    rw [← h]; exact hv
  · intro h
    exact ⟨k, h, by rw [Function.comp, eqv_kD, decide_eq_true_iff]⟩
theorem nia_kL (k : KK) (L : List KK) : niaD (kD k) (.lst (L.map kD)) = vB (!decide (k ∈ L)) := by
  have pb : plB (kD k) (.lst (L.map kD)) = true := by
    unfold plB
    rw [pl_kD, show (encD (.lst (L.map kD))).plain = true from plainAll_map pl_kD L]
    simp [dp_kD]
  show els niDD nipD _ _ = _
  have e1 : niDD (kD k) (.lst (L.map kD)) = none := by
    show ((inS (kD k) (L.map kD)).map fun b => R0.val (.bl !b)) = none
    unfold inS
    rw [if_neg (fun h => by cases h.1)]; rfl
  have e2 : nipD (kD k) (.lst (L.map kD)) = vB (!decide (k ∈ L)) := by
    show ((if plB (kD k) (.lst (L.map kD)) = true then some ((L.map kD).any fun y => PyData.eqv (encD y) (encD (kD k))) else none).map fun b => R0.val (.bl !b)) = _
    rw [if_pos pb, any_kD]; rfl
  rw [els_at, e1, e2]
theorem nia_kT (k : KK) (ks : List KK) (l : List D) : niaD (kD k) (.dT ks l) = vB (!(vl ks l k).isSome) := by
  show els niDD nipD _ _ = _
  have e1 : niDD (kD k) (.dT ks l) = vB (!(vl ks l k).isSome) := by
    show ((match keyT (kD k) with | some k => some (vl ks l k).isSome | none => none).map fun b => R0.val (.bl !b)) = _
    rw [keyT_k]; rfl
  rw [els_at, e1]
theorem ix_kT (k : KK) (ks : List KK) (l : List D) : ixD (.dT ks l) (kD k) = (vl ks l k).map .val := by
  show (match keyT (kD k) with | some k => (vl ks l k).map R0.val | none => none) = _
  rw [keyT_k]
/-! ### the dicts -/
def oD (o : Ow KK) : D := .dT (o.map (·.1)) ((vs o).map .str)
def sD (s : List KK) : D := .dT s (s.map fun _ => .bl true)
def Wd (J : Str → List KK) (ns : List Str) : D := .dK (ns.map Sum.inr) (ns.map fun n => .lst ((J n).map kD))
theorem vl_o (k : KK) : ∀ o : Ow KK, vl (o.map (·.1)) ((vs o).map .str) k = (lk o k).map .str
  | [] => rfl
  | e :: o => by
    have ih := vl_o k o
    show vl (e.1 :: o.map (·.1)) (.str e.2 :: (vs o).map .str) k = _
    rw [vl, lk]
    by_cases z : e.1 = k
    · rw [if_pos z, if_pos z]; rfl
    · rw [if_neg z, if_neg z, ih]
theorem vl_s (k : KK) : ∀ s : List KK, (vl s (s.map fun _ => D.bl true) k).isSome = decide (k ∈ s)
  | [] => rfl
  | a :: s => by
    rw [List.map_cons, vl]
    by_cases z : a = k
    · rw [if_pos z]; simp [z]
    · rw [if_neg z, vl_s k s]
      simp
      exact fun y => (z y.symm).elim
theorem vl_W {J : Str → List KK} {n : Str} : ∀ {ns : List Str}, n ∈ ns → vl (ns.map Sum.inr) (ns.map fun n => D.lst ((J n).map kD)) (Sum.inr n : Key) = some (.lst ((J n).map kD))
  | [], h => by cases h
  | a :: ns, h => by
    rw [List.map_cons, List.map_cons, vl]
    by_cases z : a = n
    · rw [if_pos (by rw [z]), z]
    · rw [if_neg (fun y => z (Sum.inr.inj y))]
      rcases List.mem_cons.mp h with h | h
      · exact (z h.symm).elim
      · exact vl_W h
theorem ix_W {J : Str → List KK} {n : Str} {ns : List Str} (h : n ∈ ns) : ixD (Wd J ns) (.str n) = some (.val (.lst ((J n).map kD))) := by
  show (vl (ns.map Sum.inr) (ns.map fun n => D.lst ((J n).map kD)) (Sum.inr n : Key)).map R0.val = _
  rw [vl_W h]; rfl
theorem ptK_new {κ : Type} [DecidableEq κ] {ks : List κ} {k : κ} (h : k ∉ ks) : ptK ks k = ks ++ [k] := if_neg h
theorem ptL_new {κ : Type} [DecidableEq κ] {ks : List κ} {k : κ} {l : List D} {d : D} (h : k ∉ ks) : ptL ks l k d = l ++ [d] := if_neg h
theorem set_s {s : List KK} {k : KK} (h : k ∉ s) : D.dT (ptK s k) (ptL s (s.map fun _ => D.bl true) k (.bl true)) = sD (s ++ [k]) := by
  rw [ptK_new h, ptL_new h]
  unfold sD
  rw [List.map_append]; rfl
theorem rp_o (k : KK) (p : Str) : ∀ {o : Ow KK}, Nd o → rp (o.map (·.1)) ((vs o).map D.str) k (D.str p) = if k ∈ o.map (·.1) then (vs (pt o k p)).map D.str else (vs o).map D.str
  | [], _ => by simp [rp, vs]
  | e :: o, n => by
    unfold Nd at n
    rw [List.map_cons, List.nodup_cons] at n
    have ih := rp_o k p (o := o) n.2
    show rp (e.1 :: o.map (·.1)) (D.str e.2 :: (vs o).map D.str) k (D.str p) = _
    rw [rp, ih, pt, List.map_cons]
    by_cases z : e.1 = k
    · have nk : k ∉ o.map (·.1) := by rw [← z]; exact n.1
      rw [if_pos z, if_pos z, if_neg nk, if_pos (by rw [z]; exact List.mem_cons_self)]; rfl
    · rw [if_neg z, if_neg z]
      by_cases y : k ∈ o.map (·.1)
      · rw [if_pos y, if_pos (List.mem_cons_of_mem _ y)]; rfl
      · rw [if_neg y, if_neg (fun w => by
          rcases List.mem_cons.mp w with w | w
          · exact z w.symm
          · exact y w)]; rfl
theorem set_o {o : Ow KK} (n : Nd o) (k : KK) (p : Str) : D.dT (ptK (o.map (·.1)) k) (ptL (o.map (·.1)) ((vs o).map .str) k (.str p)) = oD (pt o k p) := by
  unfold oD
  cases z : lk o k with
  | none =>
    have h := lk_none.mp z
    rw [ptK_new h, ptL_new h, pt_new p z]
    unfold vs
    rw [List.map_append, List.map_append, List.map_append]; rfl
  | some q =>
    have h : k ∈ o.map (·.1) := List.mem_map.mpr ⟨_, lk_mem z, rfl⟩
    unfold ptK ptL
    rw [if_pos h, if_pos h, rp_o k p n, if_pos h, pt_keys p z]
theorem o_len {J : Str → List KK} {U : List KK} (hU : ∀ p, ∀ k ∈ J p, k ∈ U) {o : Ow KK} (n : Nd o) (ev : Ev J o) : (o.map (·.1)).length ≤ U.length := nodup_len n fun k hk => by
  obtain ⟨e, he, rfl⟩ := List.mem_map.mp hk
  exact hU _ _ (ev e he)
/-- what is seen is small -/
structure Sn (U s : List KK) : Prop where
  nd : s.Nodup
  sb : ∀ k ∈ s, k ∈ U
theorem Sn.len {U s : List KK} (h : Sn U s) : s.length ≤ U.length := nodup_len h.nd h.sb
theorem Sn.add {U s : List KK} (h : Sn U s) {k : KK} (hk : k ∈ U) (hs : k ∉ s) : Sn U (s ++ [k]) := ⟨List.nodup_append.mpr ⟨h.nd, by simp, fun a ha b hb e => hs (by simp at hb; rw [← hb, ← e]; exact ha)⟩, fun a ha => by
  rcases List.mem_append.mp ha with ha | ha
  · exact h.sb a ha
  · rw [List.mem_singleton.mp ha]; exact hk⟩
theorem sn_lp {U : List KK} {rec : Ow KK → Str → List KK → Bool × Ow KK × List KK} {nm : Str} (hr : ∀ o p s, Sn U s → Sn U (rec o p s).2.2) : ∀ (ks : List KK) (o : Ow KK) (s : List KK), (∀ k ∈ ks, k ∈ U) → Sn U s → Sn U (lpF rec nm ks o s).2.2
  | [], o, s, _, h => h
  | k :: ks, o, s, hk, h => by
    have ih := sn_lp (nm := nm) hr ks
    have hk' : ∀ k ∈ ks, k ∈ U := fun k' h' => hk k' (List.mem_cons_of_mem _ h')
    rw [lpF]
    by_cases z : k ∈ s
    · rw [if_pos z]; exact ih o s hk' h
    · rw [if_neg z]
      have h1 := h.add (hk k List.mem_cons_self) z
      cases lk o k with
      | none => exact h1
      | some p =>
        have h2 := hr o p _ h1
        dsimp only
        by_cases t : (rec o p (s ++ [k])).1 = true
        · rw [if_pos t]; exact h2
        · rw [if_neg t]; exact ih _ _ hk' h2
theorem sn_t {J : Str → List KK} {U : List KK} (hU : ∀ p, ∀ k ∈ J p, k ∈ U) : ∀ (f : Nat) (o : Ow KK) (p : Str) (s : List KK), Sn U s → Sn U (tF J f o p s).2.2
  | 0, _, _, _, h => h
  | f + 1, o, p, s, h => by
    rw [tF]
    exact sn_lp (fun o p s h => sn_t hU f o p s h) (J p) o s (hU p) h
open Mi.Ku
/-! ### a search, as the program does it -/
theorem nia_s (k : KK) (s : List KK) : niaD (kD k) (sD s) = vB (!decide (k ∈ s)) := by
  unfold sD; rw [nia_kT, vl_s]
theorem nia_o (k : KK) (o : Ow KK) : niaD (kD k) (oD o) = vB (!(lk o k).isSome) := by
  unfold oD; rw [nia_kT, vl_o]; cases lk o k <;> rfl
theorem ix_o {k : KK} {o : Ow KK} {p : Str} (h : lk o k = some p) : ixD (oD o) (kD k) = some (.val (.str p)) := by
  unfold oD; rw [ix_kT, vl_o, h]; rfl
theorem setJ_s' {i : Nat} {s : List KK} {k : KK} {r : Rho} (h : k ∉ s) (hl : s.length < 1000000) : setJ i (sD s) (kD k) (.bl true) r = .nx (r.set i (.own (sD (s ++ [k])))) := by
  rw [← set_s h]
  exact setJ_t i s (s.map fun _ => .bl true) (kD k) k (.bl true) r (keyT_k k) hl
theorem setJ_o {i : Nat} {o : Ow KK} {k : KK} {p : Str} {r : Rho} (n : Nd o) (hl : (o.map (·.1)).length < 1000000) : setJ i (oD o) (kD k) (.str p) r = .nx (r.set i (.own (oD (pt o k p)))) := by
  rw [← set_o n]
  exact setJ_t i (o.map (·.1)) ((vs o).map .str) (kD k) k (.str p) r (keyT_k k) hl
section
variable {z : MS} {W : D} {o o1 : Ow KK} {s s1 : List KK} {k : KK} {nm p : Str} {x4 : LV}
theorem au_in (h : k ∈ s) : k_augmented_0 z [.val W, .own (oD o), .val (.str nm), .own (sD s), .val (kD k)] = .nx [.val W, .own (oD o), .val (.str nm), .own (sD s), .val (kD k)] := by
  have n := nia_s k s
  rw [decide_eq_true h] at n
  unfold k_augmented_0
  generalize sD s = S at *
  generalize oD o = O at *
  generalize kD k = K at *
  simp -implicitDefEqProofs [n, -els_at]
theorem au_new (h : k ∉ s) (hl : s.length < 1000000) (y : lk o k = none) (n : Nd o) (ho : (o.map (·.1)).length < 1000000) : k_augmented_0 z [.val W, .own (oD o), .val (.str nm), .own (sD s), .val (kD k)] = .rt (.val (.bl true)) [.val W, .own (oD (pt o k nm)), .val (.str nm), .own (sD (s ++ [k])), .val (kD k)] := by
  have n1 := nia_s k s
  rw [decide_eq_false h] at n1
  have n2 := nia_o k o
  rw [y] at n2
  have s1 := setJ_s' (i := 3) (r := [.val W, .own (oD o), .val (.str nm), .own (sD s), .val (kD k)]) h hl
  have s2 := setJ_o (i := 1) (k := k) (p := nm) (r := [.val W, .own (oD o), .val (.str nm), .own (sD (s ++ [k])), .val (kD k)]) n ho
  unfold k_augmented_0
  generalize sD s = S at *
  generalize sD (s ++ [k]) = S' at *
  generalize oD o = O at *
  generalize oD (pt o k nm) = O' at *
  generalize kD k = K at *
  simp -implicitDefEqProofs [n1, n2, s1, s2, -els_at]
theorem au_t (h : k ∉ s) (hl : s.length < 1000000) (y : lk o k = some p) (e : z [.val W, .own (oD o), .val (.str p), .own (sD (s ++ [k]))] = .rt (.val (.bl true)) [.val W, .own (oD o1), .val (.str p), .own (sD s1)]) (n : Nd o1) (ho : (o1.map (·.1)).length < 1000000) :
    k_augmented_0 z [.val W, .own (oD o), .val (.str nm), .own (sD s), .val (kD k)] = .rt (.val (.bl true)) [.val W, .own (oD (pt o1 k nm)), .val (.str nm), .own (sD s1), .val (kD k)] := by
  have n1 := nia_s k s
  rw [decide_eq_false h] at n1
  have n2 := nia_o k o
  rw [y] at n2
  have i := ix_o y
  have s1' := setJ_s' (i := 3) (r := [.val W, .own (oD o), .val (.str nm), .own (sD s), .val (kD k)]) h hl
  have s2 := setJ_o (i := 1) (k := k) (p := nm) (r := [.val W, .own (oD o1), .val (.str nm), .own (sD s1), .val (kD k)]) n ho
  unfold k_augmented_0
  generalize sD s = S at *
  generalize sD (s ++ [k]) = S' at *
  generalize sD s1 = S1 at *
  generalize oD o = O at *
  generalize oD o1 = O1 at *
  generalize oD (pt o1 k nm) = O' at *
  generalize kD k = K at *
  simp -implicitDefEqProofs [n1, n2, s1', i, e, s2, -els_at]
theorem au_f (h : k ∉ s) (hl : s.length < 1000000) (y : lk o k = some p) (e : z [.val W, .own (oD o), .val (.str p), .own (sD (s ++ [k]))] = .rt (.val (.bl false)) [.val W, .own (oD o1), .val (.str p), .own (sD s1)]) :
    k_augmented_0 z [.val W, .own (oD o), .val (.str nm), .own (sD s), .val (kD k)] = .nx [.val W, .own (oD o1), .val (.str nm), .own (sD s1), .val (kD k)] := by
  have n1 := nia_s k s
  rw [decide_eq_false h] at n1
  have n2 := nia_o k o
  rw [y] at n2
  have i := ix_o y
  have s1' := setJ_s' (i := 3) (r := [.val W, .own (oD o), .val (.str nm), .own (sD s), .val (kD k)]) h hl
  unfold k_augmented_0
  generalize sD s = S at *
  generalize sD (s ++ [k]) = S' at *
  generalize sD s1 = S1 at *
  generalize oD o = O at *
  generalize oD o1 = O1 at *
  generalize kD k = K at *
  simp -implicitDefEqProofs [n1, n2, s1', i, e, -els_at]
/-! the law's own one, with a list of what is seen -/
theorem nia_l (k : KK) (s : List KK) : niaD (kD k) (.lst (s.map kD)) = vB (!decide (k ∈ s)) := nia_kL k s
theorem tr_in (h : k ∈ s) : k_law_try_0 z [.val W, .own (oD o), .val (.str nm), .own (.lst (s.map kD)), .val (kD k)] = .nx [.val W, .own (oD o), .val (.str nm), .own (.lst (s.map kD)), .val (kD k)] := by
  have n := nia_l k s
  rw [decide_eq_true h] at n
  unfold k_law_try_0
  generalize s.map kD = S at *
  generalize oD o = O at *
  generalize kD k = K at *
  simp -implicitDefEqProofs [n, -els_at]
theorem map_s (s : List KK) (k : KK) : (s ++ [k]).map kD = s.map kD ++ [kD k] := by rw [List.map_append]; rfl
theorem tr_new (h : k ∉ s) (hl : s.length < 1000000) (y : lk o k = none) (n : Nd o) (ho : (o.map (·.1)).length < 1000000) : k_law_try_0 z [.val W, .own (oD o), .val (.str nm), .own (.lst (s.map kD)), .val (kD k)] = .rt (.val (.bl true)) [.val W, .own (oD (pt o k nm)), .val (.str nm), .own (.lst ((s ++ [k]).map kD)), .val (kD k)] := by
  have n1 := nia_l k s
  rw [decide_eq_false h] at n1
  have n2 := nia_o k o
  rw [y] at n2
  have hl' : (s.map kD).length < 1000000 := by rw [List.length_map]; exact hl
  rw [map_s]
  generalize s.map kD = S at *
  have s2 := setJ_o (i := 1) (k := k) (p := nm) (r := [.val W, .own (oD o), .val (.str nm), .own (.lst (S ++ [kD k])), .val (kD k)]) n ho
  unfold k_law_try_0
  generalize oD o = O at *
  generalize oD (pt o k nm) = O' at *
  generalize kD k = K at *
  simp -implicitDefEqProofs [n1, n2, hl', s2, -els_at]
theorem tr_t (h : k ∉ s) (hl : s.length < 1000000) (y : lk o k = some p) (e : z [.val W, .own (oD o), .val (.str p), .own (.lst ((s ++ [k]).map kD))] = .rt (.val (.bl true)) [.val W, .own (oD o1), .val (.str p), .own (.lst (s1.map kD))]) (n : Nd o1) (ho : (o1.map (·.1)).length < 1000000) :
    k_law_try_0 z [.val W, .own (oD o), .val (.str nm), .own (.lst (s.map kD)), .val (kD k)] = .rt (.val (.bl true)) [.val W, .own (oD (pt o1 k nm)), .val (.str nm), .own (.lst (s1.map kD)), .val (kD k)] := by
  have n1 := nia_l k s
  rw [decide_eq_false h] at n1
  have n2 := nia_o k o
  rw [y] at n2
  have i := ix_o y
  have hl' : (s.map kD).length < 1000000 := by rw [List.length_map]; exact hl
  rw [map_s] at e
  generalize s.map kD = S at *
  generalize s1.map kD = S1 at *
  have s2 := setJ_o (i := 1) (k := k) (p := nm) (r := [.val W, .own (oD o1), .val (.str nm), .own (.lst S1), .val (kD k)]) n ho
  unfold k_law_try_0
  generalize oD o = O at *
  generalize oD o1 = O1 at *
  generalize oD (pt o1 k nm) = O' at *
  generalize kD k = K at *
  simp -implicitDefEqProofs [n1, n2, hl', i, e, s2, -els_at]
theorem tr_f (h : k ∉ s) (hl : s.length < 1000000) (y : lk o k = some p) (e : z [.val W, .own (oD o), .val (.str p), .own (.lst ((s ++ [k]).map kD))] = .rt (.val (.bl false)) [.val W, .own (oD o1), .val (.str p), .own (.lst (s1.map kD))]) :
    k_law_try_0 z [.val W, .own (oD o), .val (.str nm), .own (.lst (s.map kD)), .val (kD k)] = .nx [.val W, .own (oD o1), .val (.str nm), .own (.lst (s1.map kD)), .val (kD k)] := by
  have n1 := nia_l k s
  rw [decide_eq_false h] at n1
  have n2 := nia_o k o
  rw [y] at n2
  have i := ix_o y
  have hl' : (s.map kD).length < 1000000 := by rw [List.length_map]; exact hl
  rw [map_s] at e
  generalize s.map kD = S at *
  generalize s1.map kD = S1 at *
  unfold k_law_try_0
  generalize oD o = O at *
  generalize oD o1 = O1 at *
  generalize kD k = K at *
  simp -implicitDefEqProofs [n1, n2, hl', i, e, -els_at]
end
def fS : Bool → Rho → So
  | true, r => .rt (.val (.bl true)) r
  | false, r => .nx r
/-- both, as one: sS gives what is seen -/
theorem search_l {J : Str → List KK} {U : List KK} {f : Nat} {ns : List Str} {nm : Str} {o : Ow KK} {b z : MS} {sS : List KK → D} {W : D} (hU : ∀ p, ∀ k ∈ J p, k ∈ U) (bU : U.length < 1000) (n : Nd o) (ev : Ev J o) (vn : ∀ p ∈ vs o, p ∈ ns)
    (hz : ∀ (p : Str) (s : List KK), p ∈ ns → Sn U s → un U s < f → z [.val W, .own (oD o), .val (.str p), .own (sS s)] = .rt (.val (.bl (tF J f o p s).1)) [.val W, .own (oD (tF J f o p s).2.1), .val (.str p), .own (sS (tF J f o p s).2.2)])
    (b1 : ∀ (s : List KK) (k : KK), k ∈ s → b [.val W, .own (oD o), .val (.str nm), .own (sS s), .val (kD k)] = .nx [.val W, .own (oD o), .val (.str nm), .own (sS s), .val (kD k)])
    (b2 : ∀ (s : List KK) (k : KK), k ∉ s → s.length < 1000000 → lk o k = none → b [.val W, .own (oD o), .val (.str nm), .own (sS s), .val (kD k)] = .rt (.val (.bl true)) [.val W, .own (oD (pt o k nm)), .val (.str nm), .own (sS (s ++ [k])), .val (kD k)])
    (b3 : ∀ (s s1 : List KK) (k : KK) (p : Str) (o1 : Ow KK), k ∉ s → s.length < 1000000 → lk o k = some p → z [.val W, .own (oD o), .val (.str p), .own (sS (s ++ [k]))] = .rt (.val (.bl true)) [.val W, .own (oD o1), .val (.str p), .own (sS s1)] → Nd o1 → (o1.map (·.1)).length < 1000000 → b [.val W, .own (oD o), .val (.str nm), .own (sS s), .val (kD k)] = .rt (.val (.bl true)) [.val W, .own (oD (pt o1 k nm)), .val (.str nm), .own (sS s1), .val (kD k)])
    (b4 : ∀ (s s1 : List KK) (k : KK) (p : Str) (o1 : Ow KK), k ∉ s → s.length < 1000000 → lk o k = some p → z [.val W, .own (oD o), .val (.str p), .own (sS (s ++ [k]))] = .rt (.val (.bl false)) [.val W, .own (oD o1), .val (.str p), .own (sS s1)] → b [.val W, .own (oD o), .val (.str nm), .own (sS s), .val (kD k)] = .nx [.val W, .own (oD o1), .val (.str nm), .own (sS s1), .val (kD k)]) :
    ∀ (ks s : List KK) (x4 : LV), (∀ k ∈ ks, k ∈ U) → Sn U s → un U s ≤ f → ∃ y4, forL (gN 4) b (ks.map kD) [.val W, .own (oD o), .val (.str nm), .own (sS s), x4] =
      fS (lpF (tF J f) nm ks o s).1 [.val W, .own (oD (lpF (tF J f) nm ks o s).2.1), .val (.str nm), .own (sS (lpF (tF J f) nm ks o s).2.2), y4]
  | [], s, x4, _, _, _ => ⟨x4, rfl⟩
  | k :: ks, s, x4, hk, hs, hf => by
    have hk' : ∀ k ∈ ks, k ∈ U := fun k' h => hk k' (List.mem_cons_of_mem _ h)
    have hl : s.length < 1000000 := by have := hs.len; omega
    have ih := search_l (ns := ns) hU bU n ev vn hz b1 b2 b3 b4 ks
    rw [List.map_cons, forL_n, lpF]
    show ∃ y4, (b [.val W, .own (oD o), .val (.str nm), .own (sS s), .val (kD k)]).lp _ = _
    by_cases y : k ∈ s
    · rw [if_pos y, b1 s k y, lp_nx]
      exact ih s _ hk' hs hf
    · rw [if_neg y]
      have lt := un_lt (hk k List.mem_cons_self) y
      cases t : lk o k with
      | none =>
        rw [b2 s k y hl t]
        exact ⟨_, rfl⟩
      | some p =>
        dsimp only
        have pn : p ∈ ns := vn p (List.mem_map.mpr ⟨_, lk_mem t, rfl⟩)
        have sn1 := hs.add (hk k List.mem_cons_self) y
        have e := hz p (s ++ [k]) pn sn1 (by omega)
        have R := t_res hU n ev f p (s ++ [k]) (by omega)
        have sn2 := sn_t hU f o p (s ++ [k]) sn1
        have mono := un_mono (U := U) (fun k' h' => R.sub k' (List.mem_append_left _ h') : ∀ k' ∈ s, k' ∈ (tF J f o p (s ++ [k])).2.2)
        by_cases q : (tF J f o p (s ++ [k])).1 = true
        · rw [if_pos q]
          rw [q] at e
          obtain ⟨-, n1, e1, -⟩ := R.suc q
          rw [b3 s _ k p _ y hl t e n1 (by have := o_len hU n1 e1; omega)]
          exact ⟨_, rfl⟩
        · rw [if_neg q]
          have qf : (tF J f o p (s ++ [k])).1 = false := by cases w : (tF J f o p (s ++ [k])).1 with | true => exact (q w).elim | false => rfl
          rw [qf] at e
          rw [b4 s _ k p _ y hl t e, lp_nx]
          obtain ⟨a, -, -⟩ := R.fal qf
          rw [a]
          exact ih _ _ hk' sn2 (by omega)
theorem aug_e {J : Str → List KK} {U : List KK} {ns : List Str} (hU : ∀ p, ∀ k ∈ J p, k ∈ U) (bU : U.length < 1000) {o : Ow KK} (n : Nd o) (ev : Ev J o) (vn : ∀ p ∈ vs o, p ∈ ns) : ∀ (f : Nat) (nm : Str) (s : List KK), nm ∈ ns → Sn U s → un U s < f →
    m_augmented f [.val (Wd J ns), .own (oD o), .val (.str nm), .own (sD s)] = .rt (.val (.bl (tF J f o nm s).1)) [.val (Wd J ns), .own (oD (tF J f o nm s).2.1), .val (.str nm), .own (sD (tF J f o nm s).2.2)]
  | 0, _, _, _, _, h => by omega
  | f + 1, nm, s, hn, hs, h => by
    have ho : (o.map (·.1)).length < 1000000 := by have := o_len hU n ev; omega
    obtain ⟨y4, L⟩ := search_l (nm := nm) (b := k_augmented_0 (m_augmented f)) (sS := sD) (W := Wd J ns) hU bU n ev vn (fun p s h1 h2 h3 => aug_e hU bU n ev vn f p s h1 h2 h3) (fun s k h => au_in h) (fun s k h hl y => au_new h hl y n ho) (fun s s1 k p o1 h hl y e n1 h1 => au_t h hl y e n1 h1) (fun s s1 k p o1 h hl y e => au_f h hl y e) (J nm) s .un (hU nm) hs (by omega)
    have i := ix_W (J := J) hn
    rw [m_augmented, tF]
    generalize Wd J ns = W at *
    cases q : (lpF (tF J f) nm (J nm) o s).1 with
    | true =>
      rw [q] at L
      generalize oD o = O at *
      generalize sD s = S at *
      generalize oD (lpF (tF J f) nm (J nm) o s).2.1 = O' at *
      generalize sD (lpF (tF J f) nm (J nm) o s).2.2 = S' at *
      simp -implicitDefEqProofs [i, L, fS]
    | false =>
      rw [q] at L
      generalize oD o = O at *
      generalize sD s = S at *
      generalize oD (lpF (tF J f) nm (J nm) o s).2.1 = O' at *
      generalize sD (lpF (tF J f) nm (J nm) o s).2.2 = S' at *
      simp -implicitDefEqProofs [i, L, fS]
theorem try_e {J : Str → List KK} {U : List KK} {ns : List Str} (hU : ∀ p, ∀ k ∈ J p, k ∈ U) (bU : U.length < 1000) {o : Ow KK} (n : Nd o) (ev : Ev J o) (vn : ∀ p ∈ vs o, p ∈ ns) : ∀ (f : Nat) (nm : Str) (s : List KK), nm ∈ ns → Sn U s → un U s < f →
    m_law_try f [.val (Wd J ns), .own (oD o), .val (.str nm), .own (.lst (s.map kD))] = .rt (.val (.bl (tF J f o nm s).1)) [.val (Wd J ns), .own (oD (tF J f o nm s).2.1), .val (.str nm), .own (.lst ((tF J f o nm s).2.2.map kD))]
  | 0, _, _, _, _, h => by omega
  | f + 1, nm, s, hn, hs, h => by
    have ho : (o.map (·.1)).length < 1000000 := by have := o_len hU n ev; omega
    obtain ⟨y4, L⟩ := search_l (nm := nm) (b := k_law_try_0 (m_law_try f)) (sS := fun s => .lst (s.map kD)) (W := Wd J ns) hU bU n ev vn (fun p s h1 h2 h3 => try_e hU bU n ev vn f p s h1 h2 h3) (fun s k h => tr_in h) (fun s k h hl y => tr_new h hl y n ho) (fun s s1 k p o1 h hl y e n1 h1 => tr_t h hl y e n1 h1) (fun s s1 k p o1 h hl y e => tr_f h hl y e) (J nm) s .un (hU nm) hs (by omega)
    have i := ix_W (J := J) hn
    rw [m_law_try, tF]
    generalize Wd J ns = W at *
    cases q : (lpF (tF J f) nm (J nm) o s).1 with
    | true =>
      rw [q] at L
      generalize oD o = O at *
      generalize s.map kD = S at *
      generalize oD (lpF (tF J f) nm (J nm) o s).2.1 = O' at *
      generalize (lpF (tF J f) nm (J nm) o s).2.2.map kD = S' at *
      simp -implicitDefEqProofs [i, L, fS]
    | false =>
      rw [q] at L
      generalize oD o = O at *
      generalize s.map kD = S at *
      generalize oD (lpF (tF J f) nm (J nm) o s).2.1 = O' at *
      generalize (lpF (tF J f) nm (J nm) o s).2.2.map kD = S' at *
      simp -implicitDefEqProofs [i, L, fS]
open Mi.Ku
theorem eCallO_e (f : MS) (m : Rho → Ou (List RV × D)) (r : Rho) : eCallO f m r = (m r).bd fun l r1 => if nodupB (borI (l.1 ++ [RV.bor r1.length])) = true then
  cutO r1.length (callO (l.1 ++ [RV.bor r1.length]) (r1 ++ [LV.own l.2]) (f ((l.1 ++ [RV.bor r1.length]).map (argL (r1 ++ [LV.own l.2]))))) else .no := rfl
theorem oL_e (m : ME) (r : Rho) : oL m r = (m r).bd fun x r1 => match x with
  | .own d => .ok ([], d) r1
  | _ => .no := rfl
theorem oV_e (m : ME) (n : Rho → Ou (List RV × D)) (r : Rho) : oV m n r = (fz m r).bd fun d r1 => (n r1).bd fun l r2 => .ok (.val d :: l.1, l.2) r2 := rfl
theorem oB_e (m : ME) (n : Rho → Ou (List RV × D)) (r : Rho) : oB m n r = (stl m r).bd fun rv r1 => (n r1).bd fun l r2 => .ok (rv :: l.1, l.2) r2 := rfl
theorem cutO_e (n : Nat) (a : RV) (r : Rho) : cutO n (.ok a r) = .ok a (r.take n) := rfl
theorem good_vp {J : Str → List KK} {P ns0 : List Str} {o : Ow KK} (g : Good J P o) (h : ∀ p ∈ P, p ∈ ns0) : ∀ p ∈ vs o, p ∈ ns0 := fun p hp => h p (g.vp p hp)
theorem sn_0 (U : List KK) : Sn U [] := ⟨List.nodup_nil, (fun _ h => nomatch h)⟩
/-! ### owners -/
theorem ow_0 {W L x3 : D} {O O' S' : D} {b : Bool} {nm : Str} (e : m_augmented 10 [.val W, .own O, .val (.str nm), .own (.dT [] [])] = .rt (.val (.bl b)) [.val W, .own O', .val (.str nm), .own S']) : k_owners_0 [.val W, .val L, .own O, .val (.str nm)] = .nx [.val W, .val L, .own O', .val (.str nm)] := by
  unfold k_owners_0
  simp -implicitDefEqProofs [eCallO_e, oL_e, oV_e, oB_e, eDctT, e, cutO_e]
theorem ow_l {J : Str → List KK} {U : List KK} {ns0 : List Str} {L : D} (hU : ∀ p, ∀ k ∈ J p, k ∈ U) (bU : U.length < 10) : ∀ (ns P : List Str) (o : Ow KK) (x3 : LV), Good J P o → (P ++ ns).Nodup → (∀ p ∈ P ++ ns, p ∈ ns0) → ∃ y3, forL (gN 3) k_owners_0 (ns.map .str) [.val (Wd J ns0), .val L, .own (oD o), x3] = .nx [.val (Wd J ns0), .val L, .own (oD (kuh J 10 ns o)), y3]
  | [], P, o, x3, g, _, _ => ⟨x3, rfl⟩
  | n :: ns, P, o, x3, g, nd, hn => by
    have e := aug_e hU (by omega) g.nd g.ev (good_vp g fun p hp => hn p (List.mem_append_left _ hp)) 10 n [] (hn n (List.mem_append_right _ List.mem_cons_self)) (sn_0 U) (Nat.lt_of_le_of_lt (List.length_filter_le _ _) bU)
    have nP : n ∉ P := fun z => (List.nodup_append.mp nd).2.2 n z n List.mem_cons_self rfl
    have g1 := good_s hU bU g nP
    have st : k_owners_0 [.val (Wd J ns0), .val L, .own (oD o), .val (.str n)] = .nx [.val (Wd J ns0), .val L, .own (oD (tF J 10 o n []).2.1), .val (.str n)] := ow_0 (x3 := L) e
    obtain ⟨y3, ih⟩ := ow_l (L := L) hU bU ns (P ++ [n]) _ (.val (.str n)) g1 (by rw [List.append_assoc]; exact nd) (by rw [List.append_assoc]; exact hn)
    refine ⟨y3, ?_⟩
    rw [List.map_cons, forL_n]
    show (k_owners_0 [.val (Wd J ns0), .val L, .own (oD o), .val (.str n)]).lp _ = _
    rw [st, lp_nx, ih]; rfl
theorem ow_e {J : Str → List KK} {U : List KK} {ns0 ns : List Str} (hU : ∀ p, ∀ k ∈ J p, k ∈ U) (bU : U.length < 10) (nd : ns.Nodup) (hn : ∀ p ∈ ns, p ∈ ns0) : m_owners [.val (Wd J ns0), .val (.lst (ns.map .str))] = .rt (.own (oD (kuh J 10 ns []))) [.val (Wd J ns0), .val (.lst (ns.map .str))] := by
  obtain ⟨y3, e⟩ := ow_l (J := J) (L := .lst (ns.map .str)) hU bU ns [] [] .un (good_0 J) (by simpa using nd) (by simpa using hn)
  have e' : forL (gN 3) k_owners_0 (ns.map .str) [.val (Wd J ns0), .val (.lst (ns.map .str)), .own (.dT [] []), .un] = .nx [.val (Wd J ns0), .val (.lst (ns.map .str)), .own (oD (kuh J 10 ns [])), y3] := e
  unfold m_owners
  generalize ns.map D.str = L at *
  generalize Wd J ns0 = W at *
  generalize oD (kuh J 10 ns []) = O at *
  simp -implicitDefEqProofs [eDctT, e']
theorem lenT_o (o : Ow KK) : lenTD (oD o) = some (.val (.int o.length)) := by
  show vI (o.map (·.1)).length = _
  rw [List.length_map]
/-! ### without the keys that are used -/
theorem ptK_n {ns : List Str} {n : Str} (h : n ∉ ns) : ptK (ns.map (Sum.inr : Str → Key)) (.inr n) = (ns ++ [n]).map Sum.inr := by
  rw [ptK_new (fun z => by
    obtain ⟨m, hm, e⟩ := List.mem_map.mp z
    cases e; exact h hm), List.map_append]; rfl
theorem ptL_n {ns : List Str} {n : Str} {F : Str → D} (h : n ∉ ns) : ptL (ns.map (Sum.inr : Str → Key)) (ns.map F) (.inr n) (F n) = (ns ++ [n]).map F := by
  rw [ptL_new (fun z => by
    obtain ⟨m, hm, e⟩ := List.mem_map.mp z
    cases e; exact h hm), List.map_append]; rfl
theorem wo_c {J : Str → List KK} {G : List KK} {ns0 : List Str} {n : Str} {L : D} (h : n ∈ ns0) (hl : (J n).length ≤ 1000000) : fz (eLc (gN 4) (iLst (eOp ixD (eVar 0) (eVar 3))) (tV (eOp niaD (eVar 4) (eVar 2))) (eVar 4) [4]) [.val (Wd J ns0), .val L, .own (sD G), .val (.str n), .un] = .ok (.lst ((gn J G n).map kD)) [.val (Wd J ns0), .val L, .own (sD G), .val (.str n), .un] := by
  have i := ix_W (J := J) h
  generalize Wd J ns0 = W at *
  have C := lcL_flt (g := gN 4) (t := tV (eOp niaD (eVar 4) (eVar 2))) (m := eVar 4) (vs := [4]) kD kD (fun k => decide (k ∉ G)) [.val W, .val L, .own (sD G), .val (.str n), .un] (J n) [] (fun k hk => ⟨_, [.val W, .val L, .own (sD G), .val (.str n), .val (kD k)], rfl, by
    have nn := nia_s k G
    generalize sD G = S at *
    generalize kD k = K at *
    simp -implicitDefEqProofs [nn, -els_at], fun _ => ⟨[.val W, .val L, .own (sD G), .val (.str n), .val (kD k)], by simp -implicitDefEqProofs, rfl⟩, fun _ => rfl⟩) (by simpa using hl)
  rw [List.nil_append] at C
  unfold gn
  generalize sD G = S at *
  simp -implicitDefEqProofs [i, C]
theorem dc_n (i : Nat) (t : MT) (ek ev : ME) (vs : List Nat) (d : D) (ds : List D) (r : Rho) (ks : List Key) (l : List D) : dcL (gN i) t ek ev vs (d :: ds) r ks l = match t (r.set i (.val d)) with
      | .ok b r2 => if b = true then (match fz ek r2 with
          | .ok y r3 => (match keyD y with
            | some k => (match fz ev r3 with
              | .ok x r4 => if ks.length < 1000000 then dcL (gN i) t ek ev vs ds (wipeR r4 vs) (ptK ks k) (ptL ks l k x) else .no
              | _ => .no)
            | none => .no)
          | _ => .no) else dcL (gN i) t ek ev vs ds (wipeR r2 vs) ks l
      | _ => .no := by
  conv => lhs; unfold dcL
  rfl
theorem wo_l {J : Str → List KK} {G : List KK} {ns0 : List Str} {L : D} (hl : ∀ n, (J n).length ≤ 1000000) : ∀ (ns P : List Str), (P ++ ns).Nodup → (∀ p ∈ ns, p ∈ ns0) → (P ++ ns).length < 1000000 →
    dcL (gN 3) tYesM (eVar 3) (eLc (gN 4) (iLst (eOp ixD (eVar 0) (eVar 3))) (tV (eOp niaD (eVar 4) (eVar 2))) (eVar 4) [4]) [3] (ns.map .str) [.val (Wd J ns0), .val L, .own (sD G), .un, .un] (P.map Sum.inr) (P.map fun n => .lst ((gn J G n).map kD)) = .ok (.own (Wd (gn J G) (P ++ ns))) [.val (Wd J ns0), .val L, .own (sD G), .un, .un]
  | [], P, _, _, _ => by rw [List.append_nil]; rfl
  | n :: ns, P, nd, hn, hs => by
    have nP : n ∉ P := fun z => (List.nodup_append.mp nd).2.2 n z n List.mem_cons_self rfl
    have c := wo_c (J := J) (G := G) (L := L) (hn n List.mem_cons_self) (hl n)
    have ih := wo_l (L := L) (G := G) hl ns (P ++ [n]) (by rw [List.append_assoc]; exact nd) (fun p hp => hn p (List.mem_cons_of_mem _ hp)) (by rw [List.append_assoc]; exact hs)
    rw [List.append_assoc] at ih
    have hP : (P.map (Sum.inr : Str → Key)).length < 1000000 := by rw [List.length_map]; rw [List.length_append] at hs; omega
    rw [List.map_cons, dc_n]
    have e1 : tYesM ([LV.val (Wd J ns0), .val L, .own (sD G), .un, .un].set 3 (.val (.str n))) = .ok true [.val (Wd J ns0), .val L, .own (sD G), .val (.str n), .un] := rfl
    have e2 : fz (eVar 3) [LV.val (Wd J ns0), .val L, .own (sD G), .val (.str n), .un] = .ok (.str n) [.val (Wd J ns0), .val L, .own (sD G), .val (.str n), .un] := rfl
    have e3 : keyD (.str n) = some (.inr n) := rfl
    simp only [e1, e2, e3, c, if_true, hP]
    rw [ptK_n nP, ptL_n (F := fun n => .lst ((gn J G n).map kD)) nP]
    exact ih
theorem wo_e {J : Str → List KK} {G : List KK} {ns0 ns : List Str} (hl : ∀ n, (J n).length ≤ 1000000) (nd : ns.Nodup) (hn : ∀ p ∈ ns, p ∈ ns0) (hs : ns.length < 1000000) : m_without [.val (Wd J ns0), .val (.lst (ns.map .str)), .own (sD G)] = .rt (.own (Wd (gn J G) ns)) [.val (Wd J ns0), .val (.lst (ns.map .str)), .own (sD G)] := by
  have e := wo_l (J := J) (G := G) (ns0 := ns0) (L := .lst (ns.map .str)) hl ns [] (by simpa using nd) hn (by simpa using hs)
  rw [List.nil_append] at e
  simp only [List.map_nil] at e
  unfold m_without
  generalize Wd J ns0 = W at *
  generalize Wd (gn J G) ns = W' at *
  generalize sD G = S at *
  generalize ns.map D.str = L at *
  simp -implicitDefEqProofs [e]
open Mi.Ku
/-! ### the law's own count -/
theorem ms_c {J : Str → List KK} {G : List KK} {ns0 : List Str} {n : Str} {L : D} {x3 x5 : LV} (h : n ∈ ns0) (hl : (J n).length ≤ 1000000) : fz (eLc (gN 6) (iLst (eOp ixD (eVar 0) (eVar 4))) (tV (eOp niaD (eVar 6) (eVar 2))) (eVar 6) [6]) [.val (Wd J ns0), .val L, .val (.lst (G.map kD)), x3, .val (.str n), x5, .un] = .ok (.lst ((gn J G n).map kD)) [.val (Wd J ns0), .val L, .val (.lst (G.map kD)), x3, .val (.str n), x5, .un] := by
  have i := ix_W (J := J) h
  generalize Wd J ns0 = W at *
  have C := lcL_flt (g := gN 6) (t := tV (eOp niaD (eVar 6) (eVar 2))) (m := eVar 6) (vs := [6]) kD kD (fun k => decide (k ∉ G)) [.val W, .val L, .val (.lst (G.map kD)), x3, .val (.str n), x5, .un] (J n) [] (fun k hk => ⟨_, [.val W, .val L, .val (.lst (G.map kD)), x3, .val (.str n), x5, .val (kD k)], rfl, by
    have nn := nia_l k G
    generalize G.map kD = S at *
    generalize kD k = K at *
    simp -implicitDefEqProofs [nn, -els_at], fun _ => ⟨[.val W, .val L, .val (.lst (G.map kD)), x3, .val (.str n), x5, .val (kD k)], by simp -implicitDefEqProofs, rfl⟩, fun _ => rfl⟩) (by simpa using hl)
  rw [List.nil_append] at C
  unfold gn
  generalize G.map kD = S at *
  simp -implicitDefEqProofs [i, C]
theorem ms_0 {J : Str → List KK} {G : List KK} {ns0 P : List Str} {n : Str} {L : D} {x5 : LV} (h : n ∈ ns0) (hl : (J n).length ≤ 1000000) (nP : n ∉ P) (hP : P.length < 1000000) : k_law_most_0 [.val (Wd J ns0), .val L, .val (.lst (G.map kD)), .own (Wd (gn J G) P), .val (.str n), x5, .un] = .nx [.val (Wd J ns0), .val L, .val (.lst (G.map kD)), .own (Wd (gn J G) (P ++ [n])), .val (.str n), x5, .un] := by
  have c := ms_c (J := J) (G := G) (L := L) (x3 := .own (Wd (gn J G) P)) (x5 := x5) h hl
  have sj : setJ 3 (Wd (gn J G) P) (.str n) (.lst ((gn J G n).map kD)) [.val (Wd J ns0), .val L, .val (.lst (G.map kD)), .own (Wd (gn J G) P), .val (.str n), x5, .un] = .nx [.val (Wd J ns0), .val L, .val (.lst (G.map kD)), .own (Wd (gn J G) (P ++ [n])), .val (.str n), x5, .un] := by
    unfold Wd
    rw [setJ_s _ _ _ _ _ _ (by rw [List.length_map]; exact hP), ptK_n nP, ptL_n (F := fun n => .lst ((gn J G n).map kD)) nP]; rfl
  have si : setI 3 (.str n) (.lst ((gn J G n).map kD)) [.val (Wd J ns0), .val L, .val (.lst (G.map kD)), .own (Wd (gn J G) P), .val (.str n), x5, .un] = .nx [.val (Wd J ns0), .val L, .val (.lst (G.map kD)), .own (Wd (gn J G) (P ++ [n])), .val (.str n), x5, .un] := by
    rw [setI_w (d0 := Wd (gn J G) P) rfl, sj]
  unfold k_law_most_0
  rw [sStL_e, c]
  generalize Wd (gn J G) P = R at *
  generalize Wd (gn J G) (P ++ [n]) = R' at *
  generalize Wd J ns0 = W at *
  generalize (D.lst ((gn J G n).map kD)) = V at *
  generalize G.map kD = S at *
  simp -implicitDefEqProofs [si, -setI_w]
theorem ms_l {J : Str → List KK} {G : List KK} {ns0 : List Str} {L : D} {x5 : LV} (hl : ∀ n, (J n).length ≤ 1000000) : ∀ (ns P : List Str) (x4 : LV), (P ++ ns).Nodup → (∀ p ∈ ns, p ∈ ns0) → (P ++ ns).length < 1000000 → ∃ y4, forL (gN 4) k_law_most_0 (ns.map .str) [.val (Wd J ns0), .val L, .val (.lst (G.map kD)), .own (Wd (gn J G) P), x4, x5, .un] = .nx [.val (Wd J ns0), .val L, .val (.lst (G.map kD)), .own (Wd (gn J G) (P ++ ns)), y4, x5, .un]
  | [], P, x4, _, _, _ => ⟨x4, by rw [List.append_nil]; rfl⟩
  | n :: ns, P, x4, nd, hn, hs => by
    have nP : n ∉ P := fun z => (List.nodup_append.mp nd).2.2 n z n List.mem_cons_self rfl
    have st := ms_0 (J := J) (G := G) (L := L) (x5 := x5) (hn n List.mem_cons_self) (hl n) nP (by rw [List.length_append] at hs; omega)
    obtain ⟨y4, ih⟩ := ms_l (L := L) (G := G) (x5 := x5) hl ns (P ++ [n]) (.val (.str n)) (by rw [List.append_assoc]; exact nd) (fun p hp => hn p (List.mem_cons_of_mem _ hp)) (by rw [List.append_assoc]; exact hs)
    rw [List.append_assoc] at ih
    refine ⟨y4, ?_⟩
    rw [List.map_cons, forL_n]
    show (k_law_most_0 [.val (Wd J ns0), .val L, .val (.lst (G.map kD)), .own (Wd (gn J G) P), .val (.str n), x5, .un]).lp _ = _
    rw [st, lp_nx, ih]; rfl
theorem mt_0 {W L G O O' S' : D} {b : Bool} {nm : Str} {x3 : LV} (h3 : x3 = .own W ∨ x3 = .val W) {x0 : LV} (e : m_law_try 10 [.val W, .own O, .val (.str nm), .own (.lst [])] = .rt (.val (.bl b)) [.val W, .own O', .val (.str nm), .own S']) : k_law_most_1 [x0, .val L, .val G, x3, .val (.str nm), .own O, .un] = .nx [x0, .val L, .val G, .val W, .val (.str nm), .own O', .un] := by
  unfold k_law_most_1
  rcases h3 with rfl | rfl <;> simp -implicitDefEqProofs [eCallO_e, oL_e, oV_e, oB_e, e, cutO_e]
theorem mt_l {J : Str → List KK} {U : List KK} {ns0 : List Str} {L G : D} {x0 : LV} (hU : ∀ p, ∀ k ∈ J p, k ∈ U) (bU : U.length < 10) : ∀ (ns P : List Str) (o : Ow KK) (x3 x4 : LV), (x3 = .own (Wd J ns0) ∨ x3 = .val (Wd J ns0)) → Good J P o → (P ++ ns).Nodup → (∀ p ∈ P ++ ns, p ∈ ns0) → ∃ y3 y4, forL (gN 4) k_law_most_1 (ns.map .str) [x0, .val L, .val G, x3, x4, .own (oD o), .un] = .nx [x0, .val L, .val G, y3, y4, .own (oD (kuh J 10 ns o)), .un]
  | [], P, o, x3, x4, _, g, _, _ => ⟨x3, x4, rfl⟩
  | n :: ns, P, o, x3, x4, h3, g, nd, hn => by
    have e := try_e hU (by omega) g.nd g.ev (good_vp g fun p hp => hn p (List.mem_append_left _ hp)) 10 n [] (hn n (List.mem_append_right _ List.mem_cons_self)) (sn_0 U) (Nat.lt_of_le_of_lt (List.length_filter_le _ _) bU)
    have nP : n ∉ P := fun z => (List.nodup_append.mp nd).2.2 n z n List.mem_cons_self rfl
    have g1 := good_s hU bU g nP
    have st := mt_0 (L := L) (G := G) (x0 := x0) h3 e
    obtain ⟨y3, y4, ih⟩ := mt_l (L := L) (G := G) (x0 := x0) hU bU ns (P ++ [n]) _ (.val (Wd J ns0)) (.val (.str n)) (.inr rfl) g1 (by rw [List.append_assoc]; exact nd) (by rw [List.append_assoc]; exact hn)
    refine ⟨y3, y4, ?_⟩
    rw [List.map_cons, forL_n]
    show (k_law_most_1 [x0, .val L, .val G, x3, .val (.str n), .own (oD o), .un]).lp _ = _
    rw [st, lp_nx, ih]; rfl
theorem most_e {J : Str → List KK} {U G : List KK} {ns0 ns : List Str} (hU : ∀ p, ∀ k ∈ J p, k ∈ U) (bU : U.length < 10) (hl : ∀ n, (J n).length ≤ 1000000) (nd : ns.Nodup) (hn : ∀ p ∈ ns, p ∈ ns0) (hs : ns.length < 1000000) :
    m_law_most [.val (Wd J ns0), .val (.lst (ns.map .str)), .val (.lst (G.map kD))] = .rt (.val (.int (nu (gn J G) 10 ns))) [.val (Wd J ns0), .val (.lst (ns.map .str)), .val (.lst (G.map kD))] := by
  obtain ⟨y4, e1⟩ := ms_l (J := J) (G := G) (ns0 := ns0) (L := .lst (ns.map .str)) (x5 := .un) hl ns [] .un (by simpa using nd) hn (by simpa using hs)
  rw [List.nil_append] at e1
  obtain ⟨z3, z4, e2⟩ := mt_l (J := gn J G) (U := U) (ns0 := ns) (L := .lst (ns.map .str)) (G := .lst (G.map kD)) (x0 := .val (Wd J ns0)) (gn_sub hU) bU ns [] [] (.own (Wd (gn J G) ns)) y4 (.inl rfl) (good_0 _) (by simpa using nd) (by simp)
  have ln := lenT_o (kuh (gn J G) 10 ns [])
  have e1' : forL (gN 4) k_law_most_0 (ns.map .str) [.val (Wd J ns0), .val (.lst (ns.map .str)), .val (.lst (G.map kD)), .own (.dK [] []), .un, .un, .un] = .nx [.val (Wd J ns0), .val (.lst (ns.map .str)), .val (.lst (G.map kD)), .own (Wd (gn J G) ns), y4, .un, .un] := e1
  have e2' : forL (gN 4) k_law_most_1 (ns.map .str) [.val (Wd J ns0), .val (.lst (ns.map .str)), .val (.lst (G.map kD)), .own (Wd (gn J G) ns), y4, .own (.dT [] []), .un] = .nx [.val (Wd J ns0), .val (.lst (ns.map .str)), .val (.lst (G.map kD)), z3, z4, .own (oD (kuh (gn J G) 10 ns [])), .un] := e2
  unfold m_law_most nu
  generalize (kuh (gn J G) 10 ns []).length = N at *
  generalize oD (kuh (gn J G) 10 ns []) = O at *
  generalize Wd (gn J G) ns = W' at *
  generalize Wd J ns0 = W at *
  generalize G.map kD = S at *
  generalize ns.map D.str = L at *
  simp -implicitDefEqProofs [eDctT, e1', e2', ln]
open Mi.Ku
/-! ### the least greatest matching, by greedy choice -/
def nuG (J : Str → List KK) (G : List KK) (ns : List Str) : Nat := nu (gn J G) 10 ns
def pick (J : Str → List KK) (G : List KK) (left : Int) (rest : List Str) : List KK → Option KK
  | [] => none
  | k :: ks => if k ∈ G then pick J G left rest ks else if (nuG J (G ++ [k]) rest : Int) = left - 1 then some k else pick J G left rest ks
def fD (acc : List (Str × KK)) : D := .dK (acc.map fun e => Sum.inr e.1) (acc.map fun e => kD e.2)
def gr (J : Str → List KK) : List Str → List KK → Int → List (Str × KK) → List (Str × KK)
  | [], _, _, acc => acc
  | n :: ns, G, left, acc => match pick J G left ns (J n) with
    | some k => gr J ns (G ++ [k]) (left - 1) (acc ++ [(n, k)])
    | none => gr J ns G left acc
theorem pick_some {J : Str → List KK} {G : List KK} {left : Int} {rest : List Str} {k : KK} : ∀ {ks : List KK}, pick J G left rest ks = some k → k ∈ ks ∧ k ∉ G ∧ (nuG J (G ++ [k]) rest : Int) = left - 1
  | [], h => by simp [pick] at h
  | a :: ks, h => by
    rw [pick] at h
    by_cases z : a ∈ G
    · rw [if_pos z] at h
      obtain ⟨h1, h2⟩ := pick_some h
      exact ⟨List.mem_cons_of_mem _ h1, h2⟩
    · rw [if_neg z] at h
      by_cases y : (nuG J (G ++ [a]) rest : Int) = left - 1
      · rw [if_pos y] at h; cases h
        exact ⟨List.mem_cons_self, z, y⟩
      · rw [if_neg y] at h
        obtain ⟨h1, h2⟩ := pick_some h
        exact ⟨List.mem_cons_of_mem _ h1, h2⟩
theorem pick_none {J : Str → List KK} {G : List KK} {left : Int} {rest : List Str} : ∀ {ks : List KK}, pick J G left rest ks = none → ∀ k ∈ ks, k ∉ G → (nuG J (G ++ [k]) rest : Int) ≠ left - 1
  | [], _, _, h => by cases h
  | a :: ks, h, k, hk => by
    rw [pick] at h
    by_cases z : a ∈ G
    · rw [if_pos z] at h
      rcases List.mem_cons.mp hk with e | hk
      · intro q; exact (q (by rw [e]; exact z)).elim
      · exact pick_none h k hk
    · rw [if_neg z] at h
      by_cases y : (nuG J (G ++ [a]) rest : Int) = left - 1
      · rw [if_pos y] at h; cases h
      · rw [if_neg y] at h
        rcases List.mem_cons.mp hk with e | hk
        · intro _; rw [e]; exact y
        · exact pick_none h k hk
theorem gr_len {J : Str → List KK} {U : List KK} (hU : ∀ p, ∀ k ∈ J p, k ∈ U) (bU : U.length < 10) : ∀ (ns : List Str) (G : List KK) (left : Int) (acc : List (Str × KK)), ns.Nodup → left = nuG J G ns → ((gr J ns G left acc).length : Int) = acc.length + left
  | [], G, left, acc, _, h => by
    rw [h, gr]
    have : nuG J G [] = 0 := rfl
    rw [this]; simp
  | n :: ns, G, left, acc, nd, h => by
    rw [gr]
    have nd' := (List.nodup_cons.mp nd).2
    cases z : pick J G left ns (J n) with
    | some k =>
      obtain ⟨-, -, h3⟩ := pick_some z
      have := gr_len hU bU ns (G ++ [k]) (left - 1) (acc ++ [(n, k)]) nd' h3.symm
      dsimp only
      rw [this, List.length_append, List.length_singleton]; omega
    | none =>
      have pn := pick_none z
      have e : nuG J G ns = nuG J G (n :: ns) := greedy hU bU nd fun k h1 h2 h3 => pn k h1 h2 (by rw [h]; unfold nuG; omega)
      have := gr_len hU bU ns G left acc nd' (by rw [e]; exact h)
      exact this
/-! ### found -/
theorem nia_f (n : Str) (acc : List (Str × KK)) : niaD (.str n) (fD acc) = vB (!decide (n ∈ acc.map (·.1))) := by
  show els niDD nipD _ _ = _
  have e0 : ∀ acc : List (Str × KK), (vl (acc.map fun e => (Sum.inr e.1 : Key)) (acc.map fun e => kD e.2) (Sum.inr n)).isSome = decide (n ∈ acc.map (·.1)) := fun acc => by
    induction acc with
    | nil => rfl
    | cons a acc ih =>
      rw [List.map_cons, List.map_cons, vl, List.map_cons]
      by_cases z : a.1 = n
      · rw [if_pos (by rw [z])]; simp [z]
      · rw [if_neg (fun y => z (Sum.inr.inj y)), ih]
        simp
        intro y; exact (z y.symm).elim
  have e1 : niDD (.str n) (fD acc) = vB (!decide (n ∈ acc.map (·.1))) := by
    show (some (vl (acc.map fun e => (Sum.inr e.1 : Key)) (acc.map fun e => kD e.2) (Sum.inr n)).isSome).map _ = _
    rw [e0]; rfl
  rw [els_at, e1]
theorem ina_f (n : Str) (acc : List (Str × KK)) : inaD (.str n) (fD acc) = vB (decide (n ∈ acc.map (·.1))) := by
  show els inDD inpD _ _ = _
  have e0 : ∀ acc : List (Str × KK), (vl (acc.map fun e => (Sum.inr e.1 : Key)) (acc.map fun e => kD e.2) (Sum.inr n)).isSome = decide (n ∈ acc.map (·.1)) := fun acc => by
    induction acc with
    | nil => rfl
    | cons a acc ih =>
      rw [List.map_cons, List.map_cons, vl, List.map_cons]
      by_cases z : a.1 = n
      · rw [if_pos (by rw [z])]; simp [z]
      · rw [if_neg (fun y => z (Sum.inr.inj y)), ih]
        simp
        intro y; exact (z y.symm).elim
  have e1 : inDD (.str n) (fD acc) = vB (decide (n ∈ acc.map (·.1))) := by
    show (some (vl (acc.map fun e => (Sum.inr e.1 : Key)) (acc.map fun e => kD e.2) (Sum.inr n)).isSome).map _ = _
    rw [e0]; rfl
  rw [els_at, e1]
theorem set_f {i : Nat} {n : Str} {k : KK} {acc : List (Str × KK)} {r : Rho} (h : n ∉ acc.map (·.1)) (hl : acc.length < 1000000) : setJ i (fD acc) (.str n) (kD k) r = .nx (r.set i (.own (fD (acc ++ [(n, k)])))) := by
  have nk : (Sum.inr n : Key) ∉ acc.map fun e => (Sum.inr e.1 : Key) := fun z => by
    obtain ⟨e, he, q⟩ := List.mem_map.mp z
    exact h (List.mem_map.mpr ⟨e, he, Sum.inr.inj q⟩)
  show setJ i (.dK (acc.map fun e => Sum.inr e.1) (acc.map fun e => kD e.2)) (.str n) (kD k) r = _
  rw [setJ_s _ _ _ _ _ _ (by rw [List.length_map]; exact hl), ptK_new nk, ptL_new nk]
  unfold fD
  rw [List.map_append, List.map_append]; rfl
theorem ix_f {n : Str} {k : KK} {acc : List (Str × KK)} (h : n ∉ acc.map (·.1)) : ixD (fD (acc ++ [(n, k)])) (.str n) = some (.val (kD k)) := by
  have e0 : ∀ acc : List (Str × KK), n ∉ acc.map (·.1) → vl ((acc ++ [(n, k)]).map fun e => (Sum.inr e.1 : Key)) ((acc ++ [(n, k)]).map fun e => kD e.2) (Sum.inr n) = some (kD k) := fun acc => by
    induction acc with
    | nil => intro _; simp [vl]
    | cons a acc ih =>
      intro h
      rw [List.map_cons, List.mem_cons] at h
      rw [List.cons_append, List.map_cons, List.map_cons, vl, if_neg (fun y => h (.inl (Sum.inr.inj y).symm))]
      exact ih fun y => h (.inr y)
  show (vl ((acc ++ [(n, k)]).map fun e => (Sum.inr e.1 : Key)) ((acc ++ [(n, k)]).map fun e => kD e.2) (Sum.inr n)).map R0.val = _
  rw [e0 acc h]; rfl
theorem pop_s {G : List KK} {k : KK} (h : k ∉ G) : fPopT (sD (G ++ [k])) [kD k] = some (.bl true, sD G) := by
  have e0 : ∀ G : List KK, k ∉ G → vl (G ++ [k]) ((G ++ [k]).map fun _ => D.bl true) k = some (.bl true) := fun G => by
    induction G with
    | nil => intro _; simp [vl]
    | cons a G ih =>
      intro h
      rw [List.mem_cons] at h
      rw [List.cons_append, List.map_cons, vl, if_neg (fun y => h (.inl y.symm))]
      exact ih fun y => h (.inr y)
  have e1 : dlK (G ++ [k]) k = G := by
    unfold dlK
    rw [List.filter_append]
    have : G.filter (fun k' => decide (k' ≠ k)) = G := List.filter_eq_self.mpr fun a ha => by
      rw [decide_eq_true_iff]; intro z; exact h (by rw [← z]; exact ha)
    rw [this]; simp
  have e2 : ∀ G : List KK, k ∉ G → dlL (G ++ [k]) ((G ++ [k]).map fun _ => D.bl true) k = G.map fun _ => D.bl true := fun G => by
    induction G with
    | nil => intro _; simp [dlL]
    | cons a G ih =>
      intro h
      rw [List.mem_cons] at h
      rw [List.cons_append, List.map_cons, dlL, if_neg (fun y => h (.inl y.symm)), ih fun y => h (.inr y)]; rfl
  unfold fPopT sD
  simp only [keyT_k]
  rw [e0 G h, e1, e2 G h]; rfl
open Mi.Ku
/-! ### match -/
section
variable {pr W NL R S S' W' O F F' K X : D} {n : Str} {left c : Int} {x6 x8 : LV} {r1 r2 : Rho}
theorem ma_in (n1 : niaD K S = vB false) : k_match_0 [.val pr, .val W, .val NL, .val (.int left), .own S, .own F, x6, .val (.str n), x8, .val K] = .nx [.val pr, .val W, .val NL, .val (.int left), .own S, .own F, x6, .val (.str n), x8, .val K] := by
  unfold k_match_0
  simp -implicitDefEqProofs [n1, -els_at]
theorem ma_yes (h8 : x8 = .own R ∨ x8 = .val R) (n1 : niaD K S = vB true) (s1 : ∀ x8, setJ 4 S K (.bl true) [.val pr, .val W, .val NL, .val (.int left), .own S, .own F, x6, .val (.str n), x8, .val K] = .nx [.val pr, .val W, .val NL, .val (.int left), .own S', .own F, x6, .val (.str n), x8, .val K])
    (e1 : m_without [.val W, .val R, .own S'] = .rt (.own W') [.val W, .val R, .own S']) (e2 : m_owners [.val W', .val R] = .rt (.own O) [.val W', .val R]) (e3 : lenTD O = some (.val (.int c))) (hc : c = left - 1)
    (s2 : setJ 5 F (.str n) K [.val pr, .val W, .val NL, .val (.int left), .own S', .own F, x6, .val (.str n), .val R, .val K] = .nx [.val pr, .val W, .val NL, .val (.int left), .own S', .own F', x6, .val (.str n), .val R, .val K]) :
    k_match_0 [.val pr, .val W, .val NL, .val (.int left), .own S, .own F, x6, .val (.str n), x8, .val K] = .bk [.val pr, .val W, .val NL, .val (.int (left - 1)), .own S', .own F', x6, .val (.str n), .val R, .val K] := by
  unfold k_match_0
  rcases h8 with rfl | rfl <;> simp -implicitDefEqProofs [n1, s1, e1, e2, e3, hc, s2, sAug, -els_at]
theorem ma_no (h8 : x8 = .own R ∨ x8 = .val R) (n1 : niaD K S = vB true) (s1 : ∀ x8, setJ 4 S K (.bl true) [.val pr, .val W, .val NL, .val (.int left), .own S, .own F, x6, .val (.str n), x8, .val K] = .nx [.val pr, .val W, .val NL, .val (.int left), .own S', .own F, x6, .val (.str n), x8, .val K])
    (e1 : m_without [.val W, .val R, .own S'] = .rt (.own W') [.val W, .val R, .own S']) (e2 : m_owners [.val W', .val R] = .rt (.own O) [.val W', .val R]) (e3 : lenTD O = some (.val (.int c))) (hc : c ≠ left - 1)
    (k1 : kdT S' = true) (p1 : fPopT S' [K] = some (.bl true, S)) :
    k_match_0 [.val pr, .val W, .val NL, .val (.int left), .own S, .own F, x6, .val (.str n), x8, .val K] = .nx [.val pr, .val W, .val NL, .val (.int left), .own S, .own F, x6, .val (.str n), .val R, .val K] := by
  unfold k_match_0
  rcases h8 with rfl | rfl <;> simp -implicitDefEqProofs [n1, s1, e1, e2, e3, hc, k1, p1, -els_at]
end
section
variable {J : Str → List KK} {U : List KK} {ns0 : List Str} (hU : ∀ p, ∀ k ∈ J p, k ∈ U) (bU : U.length < 10) (hl : ∀ n, (J n).length ≤ 1000000)
include hU bU hl
theorem ma_l {pr NL : D} {x6 : LV} {left : Int} {G : List KK} {acc : List (Str × KK)} {n : Str} {rest : List Str} (nd : rest.Nodup) (hn : ∀ p ∈ rest, p ∈ ns0) (hs : rest.length < 1000) (hG : G.length < 1000) (ha : acc.length < 1000) (na : n ∉ acc.map (·.1)) :
    ∀ (ks : List KK) (x8 x9 : LV), (x8 = .own (.lst (rest.map .str)) ∨ x8 = .val (.lst (rest.map .str))) → ∃ y8 y9, forL (gN 9) k_match_0 (ks.map kD) [.val pr, .val (Wd J ns0), .val NL, .val (.int left), .own (sD G), .own (fD acc), x6, .val (.str n), x8, x9] =
      .nx (match pick J G left rest ks with
        | some k => [.val pr, .val (Wd J ns0), .val NL, .val (.int (left - 1)), .own (sD (G ++ [k])), .own (fD (acc ++ [(n, k)])), x6, .val (.str n), y8, y9]
        | none => [.val pr, .val (Wd J ns0), .val NL, .val (.int left), .own (sD G), .own (fD acc), x6, .val (.str n), y8, y9])
  | [], x8, x9, _ => ⟨x8, x9, rfl⟩
  | k :: ks, x8, x9, h8 => by
    rw [List.map_cons, forL_n, pick]
    show ∃ y8 y9, (k_match_0 [.val pr, .val (Wd J ns0), .val NL, .val (.int left), .own (sD G), .own (fD acc), x6, .val (.str n), x8, .val (kD k)]).lp _ = _
    by_cases z : k ∈ G
    · have n1 := nia_s k G
      rw [decide_eq_true z] at n1
      rw [if_pos z, ma_in n1, lp_nx]
      exact ma_l nd hn hs hG ha na ks x8 _ h8
    · rw [if_neg z]
      have n1 := nia_s k G
      rw [decide_eq_false z] at n1
      have s1 : ∀ x8, setJ 4 (sD G) (kD k) (.bl true) [.val pr, .val (Wd J ns0), .val NL, .val (.int left), .own (sD G), .own (fD acc), x6, .val (.str n), x8, .val (kD k)] = .nx [.val pr, .val (Wd J ns0), .val NL, .val (.int left), .own (sD (G ++ [k])), .own (fD acc), x6, .val (.str n), x8, .val (kD k)] := fun x8 => setJ_s' z (by omega)
      have e1 := wo_e (J := J) (G := G ++ [k]) (ns0 := ns0) hl nd hn (by omega)
      have e2 := ow_e (J := gn J (G ++ [k])) (ns0 := rest) (gn_sub hU) bU nd (fun _ h => h)
      have e3 := lenT_o (kuh (gn J (G ++ [k])) 10 rest [])
      by_cases y : (nuG J (G ++ [k]) rest : Int) = left - 1
      · rw [if_pos y]
        have s2 := set_f (i := 5) (k := k) (r := [.val pr, .val (Wd J ns0), .val NL, .val (.int left), .own (sD (G ++ [k])), .own (fD acc), x6, .val (.str n), .val (.lst (rest.map .str)), .val (kD k)]) na (by omega)
        rw [ma_yes h8 n1 s1 e1 e2 e3 y s2, lp_bk]
        exact ⟨_, _, rfl⟩
      · rw [if_neg y]
        rw [ma_no h8 n1 s1 e1 e2 e3 y rfl (pop_s z), lp_nx]
        exact ma_l nd hn hs hG ha na ks _ _ (.inr rfl)
end
def en : Nat → List Str → List D
  | _, [] => []
  | i, n :: ns => .tup [.int (i : Int), .str n] :: en (i + 1) ns
theorem en_e : ∀ (ns : List Str) (i : Nat), (ns.map D.str).mapIdx (fun j d => D.tup [.int ((i + j : Nat) : Int), d]) = en i ns
  | [], _ => rfl
  | n :: ns, i => by
    rw [List.map_cons, List.mapIdx_cons, en, ← en_e ns (i + 1)]
    congr 1
    congr 1
    funext j d
    rw [show i + (j + 1) = i + 1 + j by omega]
theorem enD_e (ns : List Str) : enD (ns.map .str) = en 0 ns := by
  rw [← en_e ns 0]
  unfold enD
  congr 1
  funext j d
  rw [Nat.zero_add]
theorem forL_c {g : MG} {b : MS} {d : D} {ds : List D} {r r1 : Rho} (h : g d r = some r1) : forL g b (d :: ds) r = (b r1).lp (forL g b ds) := by
  show (match g d r with | none => _ | some r1 => _) = _
  rw [h]
  show (match b r1 with | .nx r2 => _ | .ct r2 => _ | .bk r2 => _ | o => _) = _
  cases b r1 <;> rfl
theorem mb_e {pr W S F : D} {nl rl kl : List D} {n : Str} {left : Int} {i : Nat} {x8 x9 : LV} {r' : Rho} (c : cutD nl (some ((i : Int) + 1)) none = rl) (ix : ixD W (.str n) = some (.val (.lst kl)))
    (L : forL (gN 9) k_match_0 kl [.val pr, .val W, .val (.lst nl), .val (.int left), .own S, .own F, .val (.int (i : Int)), .val (.str n), .own (.lst rl), x9] = .nx r') : k_match_1 [.val pr, .val W, .val (.lst nl), .val (.int left), .own S, .own F, .val (.int (i : Int)), .val (.str n), x8, x9] = .nx r' := by
  unfold k_match_1
  simp -implicitDefEqProofs [c, ix, L, -forL_n]
section
variable {J : Str → List KK} {U : List KK} {ns0 : List Str} (hU : ∀ p, ∀ k ∈ J p, k ∈ U) (bU : U.length < 10) (hl : ∀ n, (J n).length ≤ 1000000)
include hU bU hl
theorem mo_l {pr : D} {NS : List Str} (nd : NS.Nodup) (hn : ∀ p ∈ NS, p ∈ ns0) (hs : NS.length < 100) : ∀ (ns A : List Str) (left : Int) (G : List KK) (acc : List (Str × KK)) (x6 x7 x8 x9 : LV), NS = A ++ ns → G.length + ns.length < 1000 → acc.length + ns.length < 1000 → (∀ e ∈ acc, e.1 ∉ ns) →
    ∃ left' G' y6 y7 y8 y9, forL (gTupM 2 (gConsM (gN 6) (gConsM (gN 7) gNilM))) k_match_1 (en A.length ns) [.val pr, .val (Wd J ns0), .val (.lst (NS.map .str)), .val (.int left), .own (sD G), .own (fD acc), x6, x7, x8, x9] =
      .nx [.val pr, .val (Wd J ns0), .val (.lst (NS.map .str)), .val (.int left'), .own (sD G'), .own (fD (gr J ns G left acc)), y6, y7, y8, y9]
  | [], A, left, G, acc, x6, x7, x8, x9, _, _, _, _ => ⟨left, G, x6, x7, x8, x9, rfl⟩
  | n :: ns, A, left, G, acc, x6, x7, x8, x9, hA, hG, ha, hd => by
    rw [List.length_cons] at hG ha
    have nd1 : (A ++ n :: ns).Nodup := hA ▸ nd
    have nd2 := (List.nodup_append.mp nd1).2.1
    have nd3 := List.nodup_cons.mp nd2
    have na : n ∉ acc.map (·.1) := fun z => by
      obtain ⟨e, he, q⟩ := List.mem_map.mp z
      exact hd e he (by rw [q]; exact List.mem_cons_self)
    have hn' : ∀ p ∈ ns, p ∈ ns0 := fun p hp => hn p (by rw [hA]; exact List.mem_append_right _ (List.mem_cons_of_mem _ hp))
    have hnn : n ∈ ns0 := hn n (by rw [hA]; exact List.mem_append_right _ List.mem_cons_self)
    have hls : ns.length < 1000 := by
      have := congrArg List.length hA
      rw [List.length_append, List.length_cons] at this; omega
    have ct : cutD (NS.map D.str) (some ((A.length : Int) + 1)) none = ns.map D.str := by
      rw [show ((A.length : Int) + 1) = ((A.length + 1 : Nat) : Int) by omega, cut_fr, hA, ← List.map_drop]
      congr 1
      rw [show A ++ n :: ns = (A ++ [n]) ++ ns by simp, List.drop_left' (by simp)]
    obtain ⟨y8, y9, L⟩ := ma_l (ns0 := ns0) (pr := pr) (NL := .lst (NS.map .str)) (x6 := .val (.int (A.length : Int))) (left := left) (G := G) (acc := acc) (n := n) hU bU hl nd3.2 hn' hls (by omega) (by omega) na (J n) (.own (.lst (ns.map .str))) x9 (.inl rfl)
    have st := mb_e (pr := pr) (W := Wd J ns0) (S := sD G) (F := fD acc) (nl := NS.map .str) (rl := ns.map .str) (kl := (J n).map kD) (n := n) (left := left) (i := A.length) (x8 := x8) (x9 := x9) ct (ix_W (J := J) hnn) L
    have hA' : NS = (A ++ [n]) ++ ns := by rw [hA]; simp
    rw [en, forL_c (r1 := [.val pr, .val (Wd J ns0), .val (.lst (NS.map .str)), .val (.int left), .own (sD G), .own (fD acc), .val (.int (A.length : Int)), .val (.str n), x8, x9]) rfl, st, lp_nx, gr]
    cases z : pick J G left ns (J n) with
    | some k =>
      have ih := mo_l (pr := pr) nd hn hs ns (A ++ [n]) (left - 1) (G ++ [k]) (acc ++ [(n, k)]) (.val (.int (A.length : Int))) (.val (.str n)) y8 y9 hA' (by rw [List.length_append, List.length_singleton]; omega) (by rw [List.length_append, List.length_singleton]; omega) (fun e he => by
        rcases List.mem_append.mp he with he | he
        · exact fun q => hd e he (List.mem_cons_of_mem _ q)
        · rw [List.mem_singleton.mp he]; exact nd3.1)
      rw [List.length_append, List.length_singleton] at ih
      exact ih
    | none =>
      have ih := mo_l (pr := pr) nd hn hs ns (A ++ [n]) left G acc (.val (.int (A.length : Int))) (.val (.str n)) y8 y9 hA' (by omega) (by omega) (fun e he q => hd e he (List.mem_cons_of_mem _ q))
      rw [List.length_append, List.length_singleton] at ih
      exact ih
end
theorem strsK_m : ∀ zs : List Str, strsK (zs.map (Sum.inr : Str → Key)) = some zs
  | [] => rfl
  | z :: zs => by
    show (strsK (zs.map Sum.inr)).map (z :: ·) = _
    rw [strsK_m zs]; rfl
theorem srt_W {J : Str → List KK} {ns0 : List Str} (h : ns0.length < 64) : srtA (Wd J ns0) = some (.own (.lst ((srtS ns0).map .str))) := by
  show els1 srtD srtX _ = _
  unfold els1
  have e : srtD (Wd J ns0) = some (.own (.lst ((srtS ns0).map .str))) := by
    show (match strsK (ns0.map (Sum.inr : Str → Key)) with
      | some zs => if zs.length < 64 then some (R0.own (.lst ((srtS zs).map .str))) else none
      | none => none) = _
    rw [strsK_m]
    exact if_pos h
  rw [e]
theorem match_e {J : Str → List KK} {U : List KK} {ns0 : List Str} {KL : D} (hU : ∀ p, ∀ k ∈ J p, k ∈ U) (bU : U.length < 10) (hl : ∀ n, (J n).length ≤ 1000000) (nd : ns0.Nodup) (hs : ns0.length < 64) :
    m_match [.val (.tup [KL, Wd J ns0])] = .rt (.own (fD (gr J (srtS ns0) [] (nuG J [] (srtS ns0)) []))) [.val (.tup [KL, Wd J ns0])] := by
  have pm := srtS_perm ns0
  have nd' : (srtS ns0).Nodup := pm.nodup_iff.mpr nd
  have mem : ∀ p ∈ srtS ns0, p ∈ ns0 := fun p hp => pm.mem_iff.mp hp
  have ln := pm.length_eq
  have so := srt_W (J := J) hs
  have ow := ow_e (ns0 := ns0) hU bU nd' mem
  have lt := lenT_o (kuh J 10 (srtS ns0) [])
  have gj : gn J [] = J := by
    funext p
    unfold gn
    exact List.filter_eq_self.mpr fun k hk => by simp
  have nuE : (nuG J [] (srtS ns0) : Int) = (kuh J 10 (srtS ns0) []).length := by unfold nuG nu; rw [gj]
  obtain ⟨l', G', y6, y7, y8, y9, L⟩ := mo_l (pr := .tup [KL, Wd J ns0]) (ns0 := ns0) (NS := srtS ns0) hU bU hl nd' mem (by omega) (srtS ns0) [] (nuG J [] (srtS ns0)) [] [] .un .un .un .un rfl (by simp; omega) (by simp; omega) (fun e h => by cases h)
  rw [nuE] at L ⊢
  have ed := enD_e (srtS ns0)
  have L' : forL (gTupM 2 (gConsM (gN 6) (gConsM (gN 7) gNilM))) k_match_1 (en 0 (srtS ns0)) [.val (.tup [KL, Wd J ns0]), .val (Wd J ns0), .val (.lst ((srtS ns0).map .str)), .val (.int (kuh J 10 (srtS ns0) []).length), .own (.dT [] []), .own (.dK [] []), .un, .un, .un, .un] = _ := L
  unfold m_match
  generalize hX : fD (gr J (srtS ns0) [] (kuh J 10 (srtS ns0) []).length []) = X at *
  generalize (kuh J 10 (srtS ns0) []).length = N at *
  generalize oD (kuh J 10 (srtS ns0) []) = O at *
  generalize Wd J ns0 = W at *
  generalize (srtS ns0).map D.str = NL at *
  generalize en 0 (srtS ns0) = E at *
  generalize hg : gTupM 2 (gConsM (gN 6) (gConsM (gN 7) gNilM)) = g at *
  simp -implicitDefEqProofs [eDctT, iEnM, so, ow, lt, ed, L', -els1_at]
open Mi.Ku
/-! ### the law's own least matching -/
section
variable {W F F' K : D} {nl rl gl : List D} {n : Str} {left c i : Int}
theorem lz_f (ix : atI nl i = some (.str n)) (n1 : niaD (.str n) F = vB false) : k_law_least_0 [.val W, .val (.lst nl), .val (.int left), .own (.lst gl), .own F, .val (.int i), .val K] = .nx [.val W, .val (.lst nl), .val (.int left), .own (.lst gl), .own F, .val (.int i), .val K] := by
  unfold k_law_least_0
  simp -implicitDefEqProofs [ix, n1, -els_at]
theorem lz_g (ix : atI nl i = some (.str n)) (n1 : niaD (.str n) F = vB true) (n2 : niaD K (.lst gl) = vB false) : k_law_least_0 [.val W, .val (.lst nl), .val (.int left), .own (.lst gl), .own F, .val (.int i), .val K] = .nx [.val W, .val (.lst nl), .val (.int left), .own (.lst gl), .own F, .val (.int i), .val K] := by
  unfold k_law_least_0
  simp -implicitDefEqProofs [ix, n1, n2, -els_at]
theorem addD_l {a b : List D} (h : a.length + b.length ≤ 1000000) : addD (.lst a) (.lst b) = some (.own (.lst (a ++ b))) := if_pos h
theorem lz_y (ix : atI nl i = some (.str n)) (n1 : niaD (.str n) F = vB true) (n2 : niaD K (.lst gl) = vB true) (ct : cutD nl (some (i + 1)) none = rl) (hl : gl.length + 1 ≤ 1000000)
    (e : m_law_most [.val W, .val (.lst rl), .val (.lst (gl ++ [K]))] = .rt (.val (.int c)) [.val W, .val (.lst rl), .val (.lst (gl ++ [K]))]) (hc : c = left - 1)
    (s : setJ 4 F (.str n) K [.val W, .val (.lst nl), .val (.int left), .own (.lst gl), .own F, .val (.int i), .val K] = .nx [.val W, .val (.lst nl), .val (.int left), .own (.lst gl), .own F', .val (.int i), .val K]) :
    k_law_least_0 [.val W, .val (.lst nl), .val (.int left), .own (.lst gl), .own F, .val (.int i), .val K] = .nx [.val W, .val (.lst nl), .val (.int left), .own (.lst gl), .own F', .val (.int i), .val K] := by
  have ad := addD_l (a := gl) (b := [K]) hl
  unfold k_law_least_0
  simp -implicitDefEqProofs [ix, n1, n2, ct, ad, e, hc, s, -els_at]
theorem lz_n (ix : atI nl i = some (.str n)) (n1 : niaD (.str n) F = vB true) (n2 : niaD K (.lst gl) = vB true) (ct : cutD nl (some (i + 1)) none = rl) (hl : gl.length + 1 ≤ 1000000)
    (e : m_law_most [.val W, .val (.lst rl), .val (.lst (gl ++ [K]))] = .rt (.val (.int c)) [.val W, .val (.lst rl), .val (.lst (gl ++ [K]))]) (hc : c ≠ left - 1) :
    k_law_least_0 [.val W, .val (.lst nl), .val (.int left), .own (.lst gl), .own F, .val (.int i), .val K] = .nx [.val W, .val (.lst nl), .val (.int left), .own (.lst gl), .own F, .val (.int i), .val K] := by
  have ad := addD_l (a := gl) (b := [K]) hl
  unfold k_law_least_0
  simp -implicitDefEqProofs [ix, n1, n2, ct, ad, e, hc, -els_at]
/-- the rest of the keys, when one is found -/
theorem lz_rest (ix : atI nl i = some (.str n)) (n1 : niaD (.str n) F = vB false) : ∀ (ks : List D) (x6 : LV), ∃ y6, forL (gN 6) k_law_least_0 ks [.val W, .val (.lst nl), .val (.int left), .own (.lst gl), .own F, .val (.int i), x6] = .nx [.val W, .val (.lst nl), .val (.int left), .own (.lst gl), .own F, .val (.int i), y6]
  | [], x6 => ⟨x6, rfl⟩
  | k :: ks, x6 => by
    obtain ⟨y6, e⟩ := lz_rest ix n1 ks (.val k)
    refine ⟨y6, ?_⟩
    rw [forL_n]
    show (k_law_least_0 [.val W, .val (.lst nl), .val (.int left), .own (.lst gl), .own F, .val (.int i), .val k]).lp _ = _
    rw [lz_f ix n1, lp_nx, e]
end
section
variable {J : Str → List KK} {U : List KK} {ns0 : List Str} (hU : ∀ p, ∀ k ∈ J p, k ∈ U) (bU : U.length < 10) (hl : ∀ n, (J n).length ≤ 1000000)
include hU bU hl
theorem lz_l {nl : List D} {left i : Int} {G : List KK} {acc : List (Str × KK)} {n : Str} {rest : List Str} (nd : rest.Nodup) (hn : ∀ p ∈ rest, p ∈ ns0) (hs : rest.length < 1000) (hG : G.length < 1000) (ha : acc.length < 1000) (na : n ∉ acc.map (·.1)) (ix : atI nl i = some (.str n)) (ct : cutD nl (some (i + 1)) none = rest.map .str) :
    ∀ (ks : List KK) (x6 : LV), ∃ y6, forL (gN 6) k_law_least_0 (ks.map kD) [.val (Wd J ns0), .val (.lst nl), .val (.int left), .own (.lst (G.map kD)), .own (fD acc), .val (.int i), x6] =
      .nx [.val (Wd J ns0), .val (.lst nl), .val (.int left), .own (.lst (G.map kD)), .own (fD (match pick J G left rest ks with
        | some k => acc ++ [(n, k)]
        | none => acc)), .val (.int i), y6]
  | [], x6 => ⟨x6, rfl⟩
  | k :: ks, x6 => by
    have n1 := nia_f n acc
    rw [decide_eq_false na] at n1
    have n2 := nia_l k G
    rw [List.map_cons, forL_n, pick]
    show ∃ y6, (k_law_least_0 [.val (Wd J ns0), .val (.lst nl), .val (.int left), .own (.lst (G.map kD)), .own (fD acc), .val (.int i), .val (kD k)]).lp _ = _
    by_cases z : k ∈ G
    · rw [decide_eq_true z] at n2
      rw [if_pos z, lz_g ix n1 n2, lp_nx]
      exact lz_l nd hn hs hG ha na ix ct ks _
    · rw [decide_eq_false z] at n2
      rw [if_neg z]
      have e := most_e (J := J) (U := U) (G := G ++ [k]) (ns0 := ns0) hU bU hl nd hn (by omega)
      rw [map_s] at e
      have hgl : (G.map kD).length + 1 ≤ 1000000 := by rw [List.length_map]; omega
      by_cases y : (nuG J (G ++ [k]) rest : Int) = left - 1
      · rw [if_pos y]
        have s := set_f (i := 4) (k := k) (r := [.val (Wd J ns0), .val (.lst nl), .val (.int left), .own (.lst (G.map kD)), .own (fD acc), .val (.int i), .val (kD k)]) na (by omega)
        rw [lz_y ix n1 n2 ct hgl e y s, lp_nx]
        have n3 := nia_f n (acc ++ [(n, k)])
        rw [decide_eq_true (by rw [List.map_append]; exact List.mem_append_right _ List.mem_cons_self)] at n3
        exact lz_rest ix n3 _ _
      · rw [if_neg y]
        rw [lz_n ix n1 n2 ct hgl e y, lp_nx]
        exact lz_l nd hn hs hG ha na ix ct ks _
theorem lb_y {nl kl gl : List D} {W F F' K : D} {n : Str} {left i : Int} {x6 y6 : LV} (ix : atI nl i = some (.str n)) (iw : ixD W (.str n) = some (.val (.lst kl))) (hg : gl.length < 1000000)
    (L : forL (gN 6) k_law_least_0 kl [.val W, .val (.lst nl), .val (.int left), .own (.lst gl), .own F, .val (.int i), x6] = .nx [.val W, .val (.lst nl), .val (.int left), .own (.lst gl), .own F', .val (.int i), y6]) (n1 : inaD (.str n) F' = vB true) (ik : ixD F' (.str n) = some (.val K)) :
    k_law_least_1 [.val W, .val (.lst nl), .val (.int left), .own (.lst gl), .own F, .val (.int i), x6] = .nx [.val W, .val (.lst nl), .val (.int (left - 1)), .own (.lst (gl ++ [K])), .own F', .val (.int i), y6] := by
  unfold k_law_least_1
  simp -implicitDefEqProofs [ix, iw, L, n1, ik, hg, -els_at, -forL_n]
theorem lb_n {nl kl gl : List D} {W F F' : D} {n : Str} {left i : Int} {x6 y6 : LV} (ix : atI nl i = some (.str n)) (iw : ixD W (.str n) = some (.val (.lst kl)))
    (L : forL (gN 6) k_law_least_0 kl [.val W, .val (.lst nl), .val (.int left), .own (.lst gl), .own F, .val (.int i), x6] = .nx [.val W, .val (.lst nl), .val (.int left), .own (.lst gl), .own F', .val (.int i), y6]) (n1 : inaD (.str n) F' = vB false) :
    k_law_least_1 [.val W, .val (.lst nl), .val (.int left), .own (.lst gl), .own F, .val (.int i), x6] = .nx [.val W, .val (.lst nl), .val (.int left), .own (.lst gl), .own F', .val (.int i), y6] := by
  unfold k_law_least_1
  simp -implicitDefEqProofs [ix, iw, L, n1, -els_at, -forL_n]
theorem lo_l {NS : List Str} (nd : NS.Nodup) (hn : ∀ p ∈ NS, p ∈ ns0) (hs : NS.length < 100) : ∀ (ns A : List Str) (left : Int) (G : List KK) (acc : List (Str × KK)) (x5 x6 : LV), NS = A ++ ns → G.length + ns.length < 1000 → acc.length + ns.length < 1000 → (∀ e ∈ acc, e.1 ∉ ns) →
    ∃ left' G' y5 y6, forL (gN 5) k_law_least_1 (rgL (A.length : Int) ns.length) [.val (Wd J ns0), .val (.lst (NS.map .str)), .val (.int left), .own (.lst (G.map kD)), .own (fD acc), x5, x6] =
      .nx [.val (Wd J ns0), .val (.lst (NS.map .str)), .val (.int left'), .own (.lst (List.map kD G')), .own (fD (gr J ns G left acc)), y5, y6]
  | [], A, left, G, acc, x5, x6, _, _, _, _ => ⟨left, G, x5, x6, rfl⟩
  | n :: ns, A, left, G, acc, x5, x6, hA, hG, ha, hd => by
    rw [List.length_cons] at hG ha
    have nd1 : (A ++ n :: ns).Nodup := hA ▸ nd
    have nd2 := (List.nodup_append.mp nd1).2.1
    have nd3 := List.nodup_cons.mp nd2
    have na : n ∉ acc.map (·.1) := fun z => by
      obtain ⟨e, he, q⟩ := List.mem_map.mp z
      exact hd e he (by rw [q]; exact List.mem_cons_self)
    have hn' : ∀ p ∈ ns, p ∈ ns0 := fun p hp => hn p (by rw [hA]; exact List.mem_append_right _ (List.mem_cons_of_mem _ hp))
    have hnn : n ∈ ns0 := hn n (by rw [hA]; exact List.mem_append_right _ List.mem_cons_self)
    have hls : ns.length < 1000 := by
      have := congrArg List.length hA
      rw [List.length_append, List.length_cons] at this; omega
    have ct : cutD (NS.map D.str) (some ((A.length : Int) + 1)) none = ns.map D.str := by
      rw [show ((A.length : Int) + 1) = ((A.length + 1 : Nat) : Int) by omega, cut_fr, hA, ← List.map_drop]
      congr 1
      rw [show A ++ n :: ns = (A ++ [n]) ++ ns by simp, List.drop_left' (by simp)]
    have ix : atI (NS.map D.str) (A.length : Int) = some (.str n) := atI_at (by rw [hA]; simp)
    obtain ⟨y6, L⟩ := lz_l (ns0 := ns0) (nl := NS.map .str) (left := left) (i := (A.length : Int)) (G := G) (acc := acc) (n := n) hU bU hl nd3.2 hn' hls (by omega) (by omega) na ix ct (J n) x6
    have iw := ix_W (J := J) hnn
    have hA' : NS = (A ++ [n]) ++ ns := by rw [hA]; simp
    have hg : (G.map kD).length < 1000000 := by rw [List.length_map]; omega
    rw [List.length_cons, rgL_s, forL_n, gr]
    show ∃ left' G' y5 y6, (k_law_least_1 [.val (Wd J ns0), .val (.lst (NS.map .str)), .val (.int left), .own (.lst (G.map kD)), .own (fD acc), .val (.int (A.length : Int)), x6]).lp _ = _
    cases z : pick J G left ns (J n) with
    | some k =>
      rw [z] at L
      have n1 := ina_f n (acc ++ [(n, k)])
      rw [decide_eq_true (by rw [List.map_append]; exact List.mem_append_right _ List.mem_cons_self)] at n1
      rw [lb_y hU bU hl ix iw hg L n1 (ix_f na), lp_nx, ← map_s]
      have ih := lo_l nd hn hs ns (A ++ [n]) (left - 1) (G ++ [k]) (acc ++ [(n, k)]) (.val (.int (A.length : Int))) y6 hA' (by rw [List.length_append, List.length_singleton]; omega) (by rw [List.length_append, List.length_singleton]; omega) (fun e he => by
        rcases List.mem_append.mp he with he | he
        · exact fun q => hd e he (List.mem_cons_of_mem _ q)
        · rw [List.mem_singleton.mp he]; exact nd3.1)
      rw [List.length_append, List.length_singleton, show ((A.length + 1 : Nat) : Int) = (A.length : Int) + 1 by omega] at ih
      exact ih
    | none =>
      rw [z] at L
      have n1 := ina_f n acc
      rw [decide_eq_false na] at n1
      rw [lb_n hU bU hl ix iw L n1, lp_nx]
      have ih := lo_l nd hn hs ns (A ++ [n]) left G acc (.val (.int (A.length : Int))) y6 hA' (by omega) (by omega) (fun e he q => hd e he (List.mem_cons_of_mem _ q))
      rw [List.length_append, List.length_singleton, show ((A.length + 1 : Nat) : Int) = (A.length : Int) + 1 by omega] at ih
      exact ih
end
theorem least_e {J : Str → List KK} {U : List KK} {ns0 : List Str} (hU : ∀ p, ∀ k ∈ J p, k ∈ U) (bU : U.length < 10) (hl : ∀ n, (J n).length ≤ 1000000) (nd : ns0.Nodup) (hs : ns0.length < 64) :
    m_law_least [.val (Wd J ns0)] = .rt (.own (fD (gr J (srtS ns0) [] (nuG J [] (srtS ns0)) []))) [.val (Wd J ns0)] := by
  have pm := srtS_perm ns0
  have nd' : (srtS ns0).Nodup := pm.nodup_iff.mpr nd
  have mem : ∀ p ∈ srtS ns0, p ∈ ns0 := fun p hp => pm.mem_iff.mp hp
  have ln := pm.length_eq
  have so := srt_W (J := J) hs
  have mo := most_e (G := []) (ns0 := ns0) hU bU hl nd' mem (by omega)
  obtain ⟨l', G', y5, y6, L⟩ := lo_l (ns0 := ns0) (NS := srtS ns0) hU bU hl nd' mem (by omega) (srtS ns0) [] (nuG J [] (srtS ns0)) [] [] .un .un rfl (by simp; omega) (by simp; omega) (fun e h => by cases h)
  have L' : forL (gN 5) k_law_least_1 (rgL 0 (srtS ns0).length) [.val (Wd J ns0), .val (.lst ((srtS ns0).map .str)), .val (.int (nuG J [] (srtS ns0))), .own (.lst []), .own (.dK [] []), .un, .un] = _ := L
  have mo' : m_law_most [.val (Wd J ns0), .val (.lst ((srtS ns0).map .str)), .val (.lst [])] = .rt (.val (.int (nuG J [] (srtS ns0)))) [.val (Wd J ns0), .val (.lst ((srtS ns0).map .str)), .val (.lst [])] := mo
  have hlen : ((srtS ns0).map D.str).length = (srtS ns0).length := List.length_map ..
  have rg : (srtS ns0).length < 4611686018427387904 := by omega
  have tn : ((srtS ns0).length : Int).toNat = (srtS ns0).length := by omega
  unfold m_law_least
  generalize hX : fD (gr J (srtS ns0) [] (nuG J [] (srtS ns0)) []) = X at *
  generalize nuG J [] (srtS ns0) = N at *
  generalize Wd J ns0 = W at *
  generalize (srtS ns0).map D.str = NL at *
  simp -implicitDefEqProofs [so, mo', rgO, hlen, rg, tn, L', -els1_at, -forL_n]
open Mi.Ku
theorem q_stream : m_law_stream = g_stream := rfl
theorem q_draw : m_law_draw = g_draw := rfl
/-! ### the graph that is drawn -/
def kx (t : Nat) : KK := [.inr "var", .inr (["a", "b", "c", "d"].getD (t / 2) ""), .inl ((t % 2 : Nat) : Int)]
theorem kx_e {a0 a1 a2 a3 a4 a5 a7 : LV} : ∀ t : Nat, t < 8 → fz (eTup (aC (eC (.str "var")) (aC (eOp ixD (eC (.str "abcd")) (eOp fdivD (eVar 6) (eC (.int 2)))) (aC (eOp modD (eUn intD (eVar 6)) (eC (.int 2))) aN)))) [a0, a1, a2, a3, a4, a5, .val (.int ((0 : Int) + (t : Int))), a7] = .ok (kD (kx t)) [a0, a1, a2, a3, a4, a5, .val (.int ((0 : Int) + (t : Int))), a7]
  | 0, _ => rfl
  | 1, _ => rfl
  | 2, _ => rfl
  | 3, _ => rfl
  | 4, _ => rfl
  | 5, _ => rfl
  | 6, _ => rfl
  | 7, _ => rfl
  | t + 8, h => by omega
def K8 : List KK := (List.range 8).map kx
theorem rgL_8 : rgL 0 8 = (List.range 8).map fun t : Nat => D.int ((0 : Int) + (t : Int)) := rfl
theorem gk_e {a0 a1 : LV} : (eLc (gN 6) (iRg1 (eC (.int 8))) tYesM (eTup (aC (eC (.str "var")) (aC (eOp ixD (eC (.str "abcd")) (eOp fdivD (eVar 6) (eC (.int 2)))) (aC (eOp modD (eUn intD (eVar 6)) (eC (.int 2))) aN)))) [6]) [a0, a1, .un, .un, .un, .un, .un, .un] = .ok (.own (.lst (K8.map kD))) [a0, a1, .un, .un, .un, .un, .un, .un] := by
  have C := lcL_map (g := gN 6) (t := tYesM) (m := eTup (aC (eC (.str "var")) (aC (eOp ixD (eC (.str "abcd")) (eOp fdivD (eVar 6) (eC (.int 2)))) (aC (eOp modD (eUn intD (eVar 6)) (eC (.int 2))) aN)))) (vs := [6]) (fun t : Nat => D.int ((0 : Int) + (t : Int))) (fun t => kD (kx t)) [a0, a1, .un, .un, .un, .un, .un, .un] (List.range 8) [] (fun t ht => ⟨_, _, _, rfl, rfl, kx_e t (List.mem_range.mp ht), rfl⟩) (by simp)
  rw [eLc_e, iRg1_e]
  have e : (fz (eC (.int 8)) [a0, a1, .un, .un, .un, .un, .un, .un]).bd rgO = .ok (rgL 0 8) [a0, a1, .un, .un, .un, .un, .un, .un] := rfl
  rw [e, bd_ok, rgL_8]
  unfold K8
  rw [List.map_map]
  exact C
/-- a comprehension whose condition draws -/
theorem flt_l {t : MT} {R : D → LV → Rho} (hR : ∀ s x, ∀ d, gN 7 d (R s x) = some (R s (.val d))) (hv : ∀ s d, fz (eVar 7) (R s (.val d)) = .ok d (R s (.val d))) (hw : ∀ s x, wipeR (R s x) [7] = R s .un) (ht : ∀ (s : Stm) (d : D), s.Ok → ∃ (s' : Stm) (b : Bool), s'.Ok ∧ t (R s.d (.val d)) = .ok b (R s'.d (.val d))) :
    ∀ (ks : List KK) (s : Stm) (acc : List D), s.Ok → acc.length + ks.length < 1000000 → ∃ (s' : Stm) (sub : List KK), s'.Ok ∧ sub.Sublist ks ∧ lcL (gN 7) t (eVar 7) [7] (ks.map kD) (R s.d .un) acc = .ok (.own (.lst (acc ++ sub.map kD))) (R s'.d .un)
  | [], s, acc, hs, _ => ⟨s, [], hs, .slnil, by rw [List.map_nil, lcL_0]; simp⟩
  | k :: ks, s, acc, hs, hl => by
    rw [List.length_cons] at hl
    obtain ⟨s1, b, o1, e1⟩ := ht s (kD k) hs
    cases b with
    | true =>
      obtain ⟨s2, sub, o2, sb, e2⟩ := flt_l hR hv hw ht ks s1 (acc ++ [kD k]) o1 (by rw [List.length_append, List.length_singleton]; omega)
      refine ⟨s2, k :: sub, o2, sb.cons₂ k, ?_⟩
      rw [List.map_cons, lcL_g _ _ _ t (gN 7) [7] _ acc (R s.d (.val (kD k))) (R s1.d (.val (kD k))) (R s1.d (.val (kD k))) (kD k) (hR _ _ _) e1 (hv _ _) (by omega), hw, e2]
      simp
    | false =>
      obtain ⟨s2, sub, o2, sb, e2⟩ := flt_l hR hv hw ht ks s1 acc o1 (by omega)
      refine ⟨s2, sub, o2, sb.cons k, ?_⟩
      rw [List.map_cons, lcL_f _ _ _ t (gN 7) [7] _ acc (R s.d (.val (kD k))) (R s1.d (.val (kD k))) (hR _ _ _) e1, hw, e2]
theorem g0_e {s : Stm} (hs : s.Ok) {J : Str → List KK} {U : List KK} {P : List Str} {n : Str} {x1 x6 : LV} {dn : Nat} (hd : dn < 1000) (hd0 : dn ≠ 0) (hU : U.length < 1000) (nP : n ∉ P) (hP : P.length < 1000) (hJ : ∀ p, (J p).Sublist U) : ∃ (s' : Stm) (J' : Str → List KK), s'.Ok ∧ (∀ p, (J' p).Sublist U) ∧
    k_law_graph_0 [.own s.d, x1, .own (.lst (U.map kD)), .own (Wd J P), .val (.int (dn : Int)), .val (.str n), x6, .un] = .nx [.own s'.d, x1, .val (.lst (U.map kD)), .own (Wd J' (P ++ [n])), .val (.int (dn : Int)), .val (.str n), x6, .un] ∧
    k_law_graph_0 [.own s.d, x1, .val (.lst (U.map kD)), .own (Wd J P), .val (.int (dn : Int)), .val (.str n), x6, .un] = .nx [.own s'.d, x1, .val (.lst (U.map kD)), .own (Wd J' (P ++ [n])), .val (.int (dn : Int)), .val (.str n), x6, .un] := by
  obtain ⟨s', sub, o', sb, e⟩ := flt_l (t := tV (eOp eqD (eCall m_law_draw (cB (eVar 0) (cV (eVar 4) cN))) (eC (.int 0)))) (R := fun s x => [.own s, x1, .val (.lst (U.map kD)), .own (Wd J P), .val (.int (dn : Int)), .val (.str n), x6, x]) (fun s x d => rfl) (fun s d => rfl) (fun s x => rfl) (fun s d hs => by
    obtain ⟨i, s', -, o', e⟩ := dx dn hd0 hd hs
    refine ⟨s', decide ((i : Int) = 0), o', ?_⟩
    rw [q_draw]
    generalize Wd J P = W at *
    generalize U.map kD = L at *
    simp -implicitDefEqProofs [e]) U s [] hs (by simp; omega)
  rw [List.nil_append] at e
  have sj : setJ 3 (Wd J P) (.str n) (.lst (sub.map kD)) [.own s'.d, x1, .val (.lst (U.map kD)), .own (Wd J P), .val (.int (dn : Int)), .val (.str n), x6, .un] = .nx [.own s'.d, x1, .val (.lst (U.map kD)), .own (Wd (fun p => if p = n then sub else J p) (P ++ [n])), .val (.int (dn : Int)), .val (.str n), x6, .un] := by
    have e1 : (P.map fun n => D.lst ((J n).map kD)) = P.map fun p => D.lst ((if p = n then sub else J p).map kD) := List.map_congr_left fun p hp => by
      rw [if_neg (fun z => nP (by rw [← z]; exact hp))]
    have e2 : (D.lst (sub.map kD)) = (fun p => D.lst ((if p = n then sub else J p).map kD)) n := by
      show _ = D.lst ((if n = n then sub else J n).map kD)
      rw [if_pos rfl]
    show setJ 3 (.dK (P.map Sum.inr) (P.map fun n => D.lst ((J n).map kD))) (.str n) _ _ = _
    rw [setJ_s _ _ _ _ _ _ (by rw [List.length_map]; omega), ptK_n nP, e1, e2, ptL_n (F := fun p => D.lst ((if p = n then sub else J p).map kD)) nP]; rfl
  refine ⟨s', fun p => if p = n then sub else J p, o', fun p => ?_, ?_, ?_⟩
  · by_cases z : p = n
    · simp only [if_pos z]; exact sb
    · simp only [if_neg z]; exact hJ p
  all_goals
    unfold k_law_graph_0
    generalize Wd J P = W at *
    generalize Wd (fun p => if p = n then sub else J p) (P ++ [n]) = W' at *
    generalize U.map kD = L at *
    generalize sub.map kD = S at *
    simp -implicitDefEqProofs [e, sj]
theorem g_l {U : List KK} {x1 x6 : LV} {dn : Nat} (hd : dn < 1000) (hd0 : dn ≠ 0) (hU : U.length < 1000) : ∀ (ns P : List Str) (s : Stm) (J : Str → List KK) (x2 x5 : LV), s.Ok → (x2 = .own (.lst (U.map kD)) ∨ x2 = .val (.lst (U.map kD))) → (P ++ ns).Nodup → (P ++ ns).length < 1000 → (∀ p, (J p).Sublist U) →
    ∃ (s' : Stm) (J' : Str → List KK) (y2 y5 : LV), s'.Ok ∧ (y2 = .own (.lst (U.map kD)) ∨ y2 = .val (.lst (U.map kD))) ∧ (∀ p, (J' p).Sublist U) ∧ forL (gN 5) k_law_graph_0 (ns.map .str) [.own s.d, x1, x2, .own (Wd J P), .val (.int (dn : Int)), x5, x6, .un] = .nx [.own s'.d, x1, y2, .own (Wd J' (P ++ ns)), .val (.int (dn : Int)), y5, x6, .un]
  | [], P, s, J, x2, x5, hs, h2, _, _, hJ => ⟨s, J, x2, x5, hs, h2, hJ, by rw [List.append_nil]; rfl⟩
  | n :: ns, P, s, J, x2, x5, hs, h2, nd, hl, hJ => by
    have nP : n ∉ P := fun z => (List.nodup_append.mp nd).2.2 n z n List.mem_cons_self rfl
    obtain ⟨s1, J1, o1, j1, ea, eb⟩ := g0_e (x1 := x1) (x6 := x6) hs hd hd0 hU nP (by rw [List.length_append] at hl; omega) hJ
    obtain ⟨s2, J2, y2, y5, o2, h2', j2, e⟩ := g_l (x1 := x1) (x6 := x6) hd hd0 hU ns (P ++ [n]) s1 J1 (.val (.lst (U.map kD))) (.val (.str n)) o1 (.inr rfl) (by rw [List.append_assoc]; exact nd) (by rw [List.append_assoc]; exact hl) j1
    rw [List.append_assoc] at e
    refine ⟨s2, J2, y2, y5, o2, h2', j2, ?_⟩
    rw [List.map_cons, forL_n]
    show (k_law_graph_0 [.own s.d, x1, x2, .own (Wd J P), .val (.int (dn : Int)), .val (.str n), x6, .un]).lp _ = _
    rcases h2 with rfl | rfl
    · rw [ea, lp_nx, e]; rfl
    · rw [eb, lp_nx, e]; rfl
def N7 : List Str := ["e1", "e10", "e2", "f", "g", "h", "i"]
theorem cut_n (l : List D) (k : Nat) : cutD l none (some (k : Int)) = l.take k := cut_to l k
theorem graph_r {s s1 s2 s3 s4 : D} {a : Nat} {b : Int} {U : List KK} {W : D} {y2 y5 : LV} (e1 : DrE s 8 (a : Int) s1) (e2 : lcL (gN 7) (tV (eOp gtD (eCall g_draw (cB (eVar 0) (cV (eC (.int 4)) cN))) (eC (.int 0)))) (eVar 7) [7] (K8.map kD) [.own s1, .own (.lst ((N7.take a).map .str)), .val (.lst (K8.map kD)), .un, .un, .un, .un, .un] [] = .ok (.own (.lst (U.map kD))) [.own s2, .own (.lst ((N7.take a).map .str)), .val (.lst (K8.map kD)), .un, .un, .un, .un, .un])
    (e3 : DrE s2 3 b s3) (h2 : y2 = .own (.lst (U.map kD)) ∨ y2 = .val (.lst (U.map kD)))
    (e4 : forL (gN 5) k_law_graph_0 ((N7.take a).map .str) [.own s3, .val (.lst ((N7.take a).map .str)), .own (.lst (U.map kD)), .own (.dK [] []), .val (.int (2 + b)), .un, .un, .un] = .nx [.own s4, .val (.lst ((N7.take a).map .str)), y2, .own W, .val (.int (2 + b)), y5, .un, .un]) :
    m_law_graph [.own s] = .rt (.val (.tup [.lst (U.map kD), W])) [.own s4] := by
  have k := @gk_e
  have ct : cutD [D.str "e1", .str "e10", .str "e2", .str "f", .str "g", .str "h", .str "i"] none (some (a : Int)) = (N7.take a).map .str := by
    rw [cut_n, List.map_take]; rfl
  unfold m_law_graph
  rw [q_draw]
  generalize hK : K8.map kD = K at *
  generalize U.map kD = L at *
  generalize (N7.take a).map D.str = N at *
  have k2 : (eLc (gN 7) (iLst (eVar 2)) (tV (eOp gtD (eCall g_draw (cB (eVar 0) (cV (eC (.int 4)) cN))) (eC (.int 0)))) (eVar 7) [7]) [.own s1, .own (.lst N), .own (.lst K), .un, .un, .un, .un, .un] = .ok (.own (.lst L)) [.own s2, .own (.lst N), .val (.lst K), .un, .un, .un, .un, .un] := by
    rw [eLc_e, ← e2]; rfl
  rcases h2 with rfl | rfl <;> simp -implicitDefEqProofs [e1, ct, k, k2, e3, e4, -eLc_e, -forL_n]
theorem graph_e (s : Stm) (hs : s.Ok) : ∃ (s' : Stm) (J : Str → List KK) (U : List KK) (ns : List Str), s'.Ok ∧ (∀ p, (J p).Sublist U) ∧ U.length < 10 ∧ ns.Nodup ∧ ns.length < 10 ∧ m_law_graph [.own s.d] = .rt (.val (.tup [.lst (U.map kD), Wd J ns])) [.own s'.d] := by
  obtain ⟨a, s1, ha, o1, e1⟩ := dx 8 (by decide) (by decide) hs
  have n7 : N7.Nodup := by unfold N7; decide
  have nd : (N7.take a).Nodup := n7.sublist (List.take_sublist _ _)
  have nl : (N7.take a).length < 10 := by rw [List.length_take]; unfold N7; simp; omega
  obtain ⟨s2, U, o2, sb, e2⟩ := flt_l (t := tV (eOp gtD (eCall g_draw (cB (eVar 0) (cV (eC (.int 4)) cN))) (eC (.int 0)))) (R := fun s x => [.own s, .own (.lst ((N7.take a).map .str)), .val (.lst (K8.map kD)), .un, .un, .un, .un, x]) (fun s x d => rfl) (fun s d => rfl) (fun s x => rfl) (fun s d hs => by
    obtain ⟨i, s', -, o', e0⟩ := dx 4 (by decide) (by decide) hs
    have e : DrE s.d 4 (i : Int) s'.d := e0
    refine ⟨s', decide ((0 : Int) < (i : Int)), o', ?_⟩
    generalize K8.map kD = L at *
    simp -implicitDefEqProofs [e]) K8 s1 [] o1 (by decide)
  rw [List.nil_append] at e2
  have ul : U.length < 10 := Nat.lt_of_le_of_lt sb.length_le (by decide)
  obtain ⟨b, s3, hb, o3, e3⟩ := dx 3 (by decide) (by decide) o2
  obtain ⟨s4, J, y2, y5, o4, h2, hJ, e4⟩ := g_l (U := U) (x1 := .val (.lst ((N7.take a).map .str))) (x6 := .un) (dn := 2 + b) (by omega) (by omega) (by omega) (N7.take a) [] s3 (fun _ => []) (.own (.lst (U.map kD))) .un o3 (.inl rfl) (by simpa using nd) (by simpa using (by omega : (N7.take a).length < 1000)) (fun _ => List.nil_sublist _)
  rw [List.nil_append, show ((2 + b : Nat) : Int) = 2 + (b : Int) by omega] at e4
  exact ⟨s4, J, U, N7.take a, o4, hJ, ul, nd, nl, graph_r e1 e2 e3 h2 e4⟩
open Mi.Ku
/-! ### equal dicts -/
abbrev gq0 : Nat → Option MS := fun _ => none
open Classical in
theorem neyD_dK {g : Nat → Option MS} {k : Nat} {ks ls : List Key} {l m : List D} (h : Deq (cE g) (.dK ks l) (.dK ls m)) (hd : dep (.dK ks l) ≤ k + 1) : neyD g k (.dK ks l) (.dK ls m) = vB false := by
  show els nezD (nexD g k) _ _ = _
  have s : eqS (.dK ks l) (.dK ls m) = none := rfl
  unfold nezD
  have e1 : neD (.dK ks l) (.dK ls m) = none := by unfold neD; rw [s]; rfl
  have e2 : nepD (.dK ks l) (.dK ls m) = none := by
    unfold nepD
    exact if_neg fun z => by have := (plB_of z).1; cases this
  have e3 : nexD g k (.dK ks l) (.dK ls m) = vB false := by unfold nexD; rw [s]; exact if_pos ⟨h, hd, rfl⟩
  rw [els_at, els_at, e1, e2, e3]
open Classical in
theorem eqyD_dK {g : Nat → Option MS} {k : Nat} {ks ls : List Key} {l m : List D} (h : Deq (cE g) (.dK ks l) (.dK ls m)) (hd : dep (.dK ks l) ≤ k + 1) : eqyD g k (.dK ks l) (.dK ls m) = vB true := by
  show els eqzD (eqxD g k) _ _ = _
  have s : eqS (.dK ks l) (.dK ls m) = none := rfl
  unfold eqzD
  have e1 : eqD (.dK ks l) (.dK ls m) = none := by unfold eqD; rw [s]; rfl
  have e2 : eqpD (.dK ks l) (.dK ls m) = none := by
    unfold eqpD
    exact if_neg fun z => by have := (plB_of z).1; cases this
  have e3 : eqxD g k (.dK ks l) (.dK ls m) = vB true := by unfold eqxD; rw [s]; exact if_pos ⟨h, hd, rfl⟩
  rw [els_at, els_at, e1, e2, e3]
section
variable {E : Nat → List D → List D → Prop}
theorem gd_kk : ∀ k : KK, GdL E (k.map kkD)
  | [] => trivial
  | .inl _ :: k => ⟨trivial, gd_kk k⟩
  | .inr _ :: k => ⟨trivial, gd_kk k⟩
theorem gd_kD (k : KK) : Gd E (kD k) := gd_kk k
theorem gdL_m {α : Type} {f : α → D} (h : ∀ a, Gd E (f a)) : ∀ l : List α, GdL E (l.map f)
  | [] => trivial
  | a :: l => ⟨h a, gdL_m h l⟩
theorem dep_kk : ∀ k : KK, depL (k.map kkD) = 0
  | [] => rfl
  | .inl _ :: k => by show max 0 (depL (k.map kkD)) = 0; rw [dep_kk k]; rfl
  | .inr _ :: k => by show max 0 (depL (k.map kkD)) = 0; rw [dep_kk k]; rfl
theorem dep_kD (k : KK) : dep (kD k) = 1 := by show depL (k.map kkD) + 1 = 1; rw [dep_kk]
theorem depL_m {α : Type} {f : α → D} {n : Nat} (h : ∀ a, dep (f a) ≤ n) : ∀ l : List α, depL (l.map f) ≤ n
  | [] => Nat.zero_le _
  | a :: l => by
    have h1 := h a
    have h2 := depL_m h l
    show max (dep (f a)) (depL (l.map f)) ≤ n
    omega
theorem dq_f (acc : List (Str × KK)) : Deq E (fD acc) (fD acc) := Deq.refl (show GdL E (acc.map fun e => kD e.2) from gdL_m (fun e => gd_kD e.2) acc)
theorem dp_f (acc : List (Str × KK)) : dep (fD acc) ≤ 41 := by
  show depL (acc.map fun e => kD e.2) + 1 ≤ 41
  have := depL_m (f := fun e : Str × KK => kD e.2) (n := 1) (fun e => by rw [dep_kD]; exact Nat.le_refl _) acc
  omega
theorem dq_W {J : Str → List KK} {ns ms : List Str} (hs : ∀ p ∈ ns, p ∈ ms) (hl : ns.length = ms.length) : Deq E (Wd J ns) (Wd J ms) := by
  refine .inr ⟨by rw [List.length_map, List.length_map]; exact hl, ?_⟩
  clear hl
  induction ns with
  | nil => trivial
  | cons n ns ih => exact ⟨⟨_, vl_W (hs n List.mem_cons_self), Deq.refl (show GdL E ((J n).map kD) from gdL_m gd_kD _)⟩, ih fun p hp => hs p (List.mem_cons_of_mem _ hp)⟩
theorem dp_W (J : Str → List KK) (ns : List Str) : dep (Wd J ns) ≤ 41 := by
  show depL (ns.map fun n => D.lst ((J n).map kD)) + 1 ≤ 41
  have := depL_m (f := fun n => D.lst ((J n).map kD)) (n := 2) (fun n => by
    show depL ((J n).map kD) + 1 ≤ 2
    have := depL_m (f := kD) (n := 1) (fun k => by rw [dep_kD]; exact Nat.le_refl _) (J n)
    omega) ns
  omega
end
theorem srt_pm {a b : List Str} (p : a.Perm b) : srtS a = srtS b :=
  List.Perm.eq_of_pairwise (le := fun a b => leS a b = true) (fun a b _ _ h h' => leS_anti h h') (srtS_pw a) (srtS_pw b) ((srtS_perm a).trans (p.trans (srtS_perm b).symm))
/-! ### the law -/
theorem t1_e {X s s' d1 d2 : D} (e : m_law_graph [.own s] = .rt (.val (.tup [d1, d2])) [.own s']) : k_law_t1 [.val X, .own s, .un, .un, .un, .un, .un, .un] = .nx [.val X, .own s', .val d1, .val d2, .un, .un, .un, .un] := by
  unfold k_law_t1
  simp -implicitDefEqProofs [e]
theorem t2_e {x0 x1 x2 x3 : LV} : k_law_t2 [x0, x1, x2, x3, .un, .un, .un, .un] = .nx [x0, x1, x2, x3, .own (.dK [] []), .un, .un, .un] := by
  unfold k_law_t2
  simp -implicitDefEqProofs
theorem gv_0 {x0 x1 x2 : LV} {J : Str → List KK} {ns0 P : List Str} {n : Str} (h : n ∈ ns0) (nP : n ∉ P) (hP : P.length < 1000000) : k_law_0 [x0, x1, x2, .val (Wd J ns0), .own (Wd J P), .val (.str n), .un, .un] = .nx [x0, x1, x2, .val (Wd J ns0), .own (Wd J (P ++ [n])), .val (.str n), .un, .un] := by
  have i := ix_W (J := J) h
  have sj : setJ 4 (Wd J P) (.str n) (.lst ((J n).map kD)) [x0, x1, x2, .val (Wd J ns0), .own (Wd J P), .val (.str n), .un, .un] = .nx [x0, x1, x2, .val (Wd J ns0), .own (Wd J (P ++ [n])), .val (.str n), .un, .un] := by
    show setJ 4 (.dK (P.map Sum.inr) (P.map fun n => D.lst ((J n).map kD))) (.str n) _ _ = _
    rw [setJ_s _ _ _ _ _ _ (by rw [List.length_map]; exact hP), ptK_n nP, ptL_n (F := fun n => .lst ((J n).map kD)) nP]; rfl
  unfold k_law_0
  generalize Wd J P = A at *
  generalize Wd J (P ++ [n]) = A' at *
  generalize Wd J ns0 = W at *
  generalize (J n).map kD = L at *
  simp -implicitDefEqProofs [i, sj, listD]
theorem gv_l {x0 x1 x2 : LV} {J : Str → List KK} {ns0 : List Str} : ∀ (ns P : List Str) (x5 : LV), (P ++ ns).Nodup → (∀ p ∈ ns, p ∈ ns0) → (P ++ ns).length < 1000000 → ∃ y5, forL (gN 5) k_law_0 (ns.map .str) [x0, x1, x2, .val (Wd J ns0), .own (Wd J P), x5, .un, .un] = .nx [x0, x1, x2, .val (Wd J ns0), .own (Wd J (P ++ ns)), y5, .un, .un]
  | [], P, x5, _, _, _ => ⟨x5, by rw [List.append_nil]; rfl⟩
  | n :: ns, P, x5, nd, hn, hl => by
    have nP : n ∉ P := fun z => (List.nodup_append.mp nd).2.2 n z n List.mem_cons_self rfl
    have st := gv_0 (x0 := x0) (x1 := x1) (x2 := x2) (J := J) (hn n List.mem_cons_self) nP (by rw [List.length_append] at hl; omega)
    obtain ⟨y5, ih⟩ := gv_l (x0 := x0) (x1 := x1) (x2 := x2) (J := J) ns (P ++ [n]) (.val (.str n)) (by rw [List.append_assoc]; exact nd) (fun p hp => hn p (List.mem_cons_of_mem _ hp)) (by rw [List.append_assoc]; exact hl)
    rw [List.append_assoc] at ih
    refine ⟨y5, ?_⟩
    rw [List.map_cons, forL_n]
    show (k_law_0 [x0, x1, x2, .val (Wd J ns0), .own (Wd J P), .val (.str n), .un, .un]).lp _ = _
    rw [st, lp_nx, ih]; rfl
theorem t3_e {x0 x2 : LV} (s : Stm) (hs : s.Ok) {J : Str → List KK} {ns : List Str} (nd : ns.Nodup) (hl : ns.length < 64) : ∃ (s' : Stm) (ns1 : List Str) (y5 : LV), s'.Ok ∧ ns1.Perm ns ∧ k_law_t3 [x0, .own s.d, x2, .val (Wd J ns), .own (.dK [] []), .un, .un, .un] = .nx [x0, .own s'.d, x2, .val (Wd J ns), .own (Wd J ns1), y5, .un, .un] := by
  obtain ⟨i, s', hi, o', e0⟩ := dx 2 (by decide) (by decide) hs
  have e : DrE s.d 2 (i : Int) s'.d := e0
  have so := srt_W (J := J) hl
  have pm := srtS_perm ns
  obtain ⟨ns1, hp, st⟩ : ∃ ns1 : List Str, ns1.Perm ns ∧ stpD (.lst ((srtS ns).map .str)) (.int (1 - 2 * (i : Int))) = some (ns1.map .str) := by
    match i, hi with
    | 0, _ => exact ⟨srtS ns, pm, rfl⟩
    | 1, _ => exact ⟨(srtS ns).reverse, (List.reverse_perm _).trans pm, by rw [List.map_reverse]; rfl⟩
  obtain ⟨y5, L⟩ := gv_l (x0 := x0) (x1 := .own s'.d) (x2 := x2) (J := J) (ns0 := ns) ns1 [] .un (by simpa using hp.nodup_iff.mpr nd) (fun p h => hp.mem_iff.mp h) (by rw [List.nil_append, hp.length_eq]; omega)
  rw [List.nil_append] at L
  have L' : forL (gN 5) k_law_0 (ns1.map .str) [x0, .own s'.d, x2, .val (Wd J ns), .own (.dK [] []), .un, .un, .un] = _ := L
  refine ⟨s', ns1, y5, o', hp, ?_⟩
  have lg : (2 : Int).natAbs.log2 + (i : Int).natAbs.log2 < 1000000 := by
    match i, hi with
    | 0, _ => decide
    | 1, _ => decide
  have mu : mulD (.int 2) (.int (i : Int)) = some (.val (.int (2 * (i : Int)))) := if_pos lg
  unfold k_law_t3
  rw [q_draw]
  generalize Wd J ns = W at *
  generalize Wd J ns1 = W1 at *
  generalize ns1.map D.str = N1 at *
  generalize (srtS ns).map D.str = NL at *
  simp -implicitDefEqProofs [eSlS, so, e, mu, st, L', -els1_at, -forL_n]
theorem t4_e {x0 x1 x2 x4 x5 : LV} {W d : D} (e : m_law_least [.val W] = .rt (.own d) [.val W]) : k_law_t4 [x0, x1, x2, .val W, x4, x5, .un, .un] = .nx [x0, x1, x2, .val W, x4, x5, .own d, .un] := by
  unfold k_law_t4
  simp -implicitDefEqProofs [e]
theorem t5_e {x0 x1 x3 x5 x6 : LV} {W1 d : D} {kl : List D} (e : m_match [.val (.tup [.lst kl, W1])] = .rt (.own d) [.val (.tup [.lst kl, W1])]) : k_law_t5 [x0, x1, .val (.lst kl), x3, .own W1, x5, x6, .un] = .nx [x0, x1, .val (.lst kl), x3, .val W1, x5, x6, .own d] := by
  unfold k_law_t5
  simp -implicitDefEqProofs [e, listD]
theorem t6_e {x0 x1 x2 x5 : LV} {W W1 d : D} (e1 : isiD tb_dict d = some (.val (.bl true))) (e2 : neyD gq0 40 d d = vB false) (e3 : neyD gq0 40 W1 W = vB false) : k_law_t6 [x0, x1, x2, .val W, .val W1, x5, .own d, .own d] = .nx [x0, x1, x2, .val W, .val W1, x5, .own d, .own d] := by
  unfold k_law_t6
  simp -implicitDefEqProofs [e1, e2, e3, -els_at]
theorem t7_e {x0 x1 x2 x3 x4 x5 x6 : LV} {d d' : D} (s : setJ 7 d (.str "more") (.int 0) [x0, x1, x2, x3, x4, x5, x6, .own d] = .nx [x0, x1, x2, x3, x4, x5, x6, .own d']) : k_law_t7 [x0, x1, x2, x3, x4, x5, x6, .own d] = .nx [x0, x1, x2, x3, x4, x5, x6, .own d'] := by
  unfold k_law_t7
  simp -implicitDefEqProofs [s]
theorem t8_e {x0 x1 x5 x7 : LV} {W W1 d : D} {kl nl : List D} {a : Int} (e1 : m_match [.val (.tup [.lst kl, W1])] = .rt (.own d) [.val (.tup [.lst kl, W1])]) (e2 : eqyD gq0 40 d d = vB true) (e3 : lenD d = some (.val (.int a))) (e4 : srtA W = some (.own (.lst nl))) (e5 : m_law_most [.val W, .val (.lst nl), .val (.lst [])] = .rt (.val (.int a)) [.val W, .val (.lst nl), .val (.lst [])]) :
    k_law_t8 [x0, x1, .val (.lst kl), .val W, .val W1, x5, .own d, x7] = .rt (.val (.bl true)) [x0, x1, .val (.lst kl), .val W, .val W1, x5, .own d, x7] := by
  unfold k_law_t8
  simp -implicitDefEqProofs [e1, e2, e3, e4, e5, listD, -els_at, -els1_at]
theorem law_ok (ns : List Int) (hn : ns.length ≤ 63) : ∃ r', m_law [.val (.scr (ns.map .int))] = .rt (.val (.bl true)) r' := by
  obtain ⟨s0, o0, -, e0⟩ := g_stream_e ns
  have h0 : k_law_t0 [.val (.scr (ns.map .int)), .un, .un, .un, .un, .un, .un, .un] = .nx [.val (.scr (ns.map .int)), .own s0.d, .un, .un, .un, .un, .un, .un] := by
    unfold k_law_t0
    rw [q_stream]
    simp -implicitDefEqProofs [e0]
  obtain ⟨s1, J, U, N, o1, hJ, bU, nd, bN, eg⟩ := graph_e s0 o0
  have hU : ∀ p, ∀ k ∈ J p, k ∈ U := fun p k h => (hJ p).subset h
  have hl : ∀ n, (J n).length ≤ 1000000 := fun n => Nat.le_trans (hJ n).length_le (by omega)
  have h1 := t1_e (X := .scr (ns.map .int)) eg
  obtain ⟨s2, N1, y5, o2, pm, h3⟩ := t3_e (x0 := .val (.scr (ns.map .int))) (x2 := .val (.lst (U.map kD))) s1 o1 (J := J) nd (by omega)
  have le := least_e hU bU hl nd (by omega)
  have ma := match_e (KL := .lst (U.map kD)) (ns0 := N1) hU bU hl (pm.nodup_iff.mpr nd) (by rw [pm.length_eq]; omega)
  rw [srt_pm pm] at ma
  have pmS := srtS_perm N
  have lenG := gr_len hU bU (srtS N) [] (nuG J [] (srtS N)) [] (pmS.nodup_iff.mpr nd) rfl
  have mo := most_e (G := []) (ns0 := N) hU bU hl (pmS.nodup_iff.mpr nd) (fun p h => pmS.mem_iff.mp h) (by rw [pmS.length_eq]; omega)
  generalize hA : gr J (srtS N) [] (nuG J [] (srtS N)) [] = A at *
  have alen : A.length < 1000000 := by
    have : nuG J [] (srtS N) ≤ (srtS N).length := by
      obtain ⟨M, hM, eM⟩ := nu_ex (gn_sub (G := []) hU) bU (pmS.nodup_iff.mpr nd)
      have := nodup_len hM.nn (m := srtS N) fun p hp => by
        obtain ⟨e, he, rfl⟩ := List.mem_map.mp hp
        exact (hM.ok e he).1
      rw [List.length_map, eM] at this
      exact this
    rw [pmS.length_eq] at this
    simp at lenG
    omega
  have h4 := t4_e (x0 := .val (.scr (ns.map .int))) (x1 := .own s2.d) (x2 := .val (.lst (U.map kD))) (x4 := .own (Wd J N1)) (x5 := y5) le
  have h5 := t5_e (x0 := .val (.scr (ns.map .int))) (x1 := .own s2.d) (x3 := .val (Wd J N)) (x5 := y5) (x6 := .own (fD A)) ma
  have i1 : isiD tb_dict (fD A) = some (.val (.bl true)) := by simp [isiD, tyD, tb_dict, fD]
  have h6 := t6_e (x0 := .val (.scr (ns.map .int))) (x1 := .own s2.d) (x2 := .val (.lst (U.map kD))) (x5 := y5) (W := Wd J N) (W1 := Wd J N1) (d := fD A) i1 (neyD_dK (dq_f A) (dp_f A)) (neyD_dK (dq_W (J := J) (fun p h => pm.mem_iff.mp h) pm.length_eq) (dp_W J N1))
  have sj := setJ_s 7 (A.map fun e => (Sum.inr e.1 : Key)) (A.map fun e => kD e.2) "more" (.int 0) [.val (.scr (ns.map .int)), .own s2.d, .val (.lst (U.map kD)), .val (Wd J N), .val (Wd J N1), y5, .own (fD A), .own (fD A)] (by rw [List.length_map]; exact alen)
  have h7 := t7_e (d := fD A) sj
  have ln : lenD (fD A) = some (.val (.int (nuG J [] (srtS N)))) := by
    show vI (A.map fun e => (Sum.inr e.1 : Key)).length = _
    rw [List.length_map, lenG]; simp
  have h8 := t8_e (W := Wd J N) (W1 := Wd J N1) (d := fD A) (kl := U.map kD) (x0 := .val (.scr (ns.map .int))) (x1 := .own s2.d) (x5 := y5) (x7 := .own (.dK (ptK (A.map fun e => (Sum.inr e.1 : Key)) (Sum.inr ("more" : Str) : Key)) (ptL (A.map fun e => (Sum.inr e.1 : Key)) (A.map fun e => kD e.2) (Sum.inr ("more" : Str) : Key) (.int 0)))) ma (eqyD_dK (dq_f A) (dp_f A)) ln (srt_W (J := J) (by omega)) mo
  unfold m_law
  rw [mkFn_e, if_pos ⟨rfl, rfl⟩]
  rw [show ([.val (.scr (ns.map .int))] ++ List.replicate 7 LV.un : Rho) = [.val (.scr (ns.map .int)), .un, .un, .un, .un, .un, .un, .un] from rfl]
  rw [sSeq_e, h0, sbd_nx, sSeq_e, h1, sbd_nx, sSeq_e, t2_e, sbd_nx, sSeq_e, h3, sbd_nx, sSeq_e, h4, sbd_nx, sSeq_e, h5, sbd_nx, sSeq_e, h6, sbd_nx, sSeq_e, h7, sbd_nx]
  have h8' := h8
  rw [h8]
  exact ⟨_, if_pos (by simp)⟩
end LawP

end
section
set_option maxRecDepth 100000
namespace LawP
open PySem L2 Mi
set_option maxHeartbeats 0 in
theorem all_mk {l : PySem.W.OpenLaw} {w : World} {K : PySem.W.Frag} {h : Heap} {mg : Str → Option Value} {fa : Addr} (X : K.In h) (G : h.Ns mainGlobals mg) (hfa : mg "law" = some (.ref fa))
    {f_law_draw f_law_graph f_law_try f_law_most f_law_least f_law_stream f_augmented f_owners f_without f_match f_law : Addr}
    {od_law_draw an_law_draw od_law_graph an_law_graph od_law_try an_law_try od_law_most an_law_most od_law_least an_law_least od_law_stream an_law_stream od_augmented an_augmented od_owners an_owners od_without an_without od_match an_match od_law an_law : Option Addr}
    {sl_law_draw sl_law_graph sl_law_try sl_law_most sl_law_least sl_law_stream sl_augmented sl_owners sl_without sl_match sl_law : Array (Option Value)}
    {oc_law_draw kV_law_draw dc_law_draw pm_law_draw cd_law_draw ct_law_draw oc_law_graph kV_law_graph dc_law_graph pm_law_graph cd_law_graph ct_law_graph oc_law_try kV_law_try dc_law_try pm_law_try cd_law_try ct_law_try oc_law_most kV_law_most dc_law_most pm_law_most cd_law_most ct_law_most oc_law_least kV_law_least dc_law_least pm_law_least cd_law_least ct_law_least oc_law_stream kV_law_stream dc_law_stream pm_law_stream cd_law_stream ct_law_stream oc_augmented kV_augmented dc_augmented pm_augmented cd_augmented ct_augmented oc_owners kV_owners dc_owners pm_owners cd_owners ct_owners oc_without kV_without dc_without pm_without cd_without ct_without oc_match kV_match dc_match pm_match cd_match ct_match oc_law kV_law dc_law pm_law cd_law ct_law : Value}
    (a_law_draw : PySem.W.nsIn K mainGlobals "_law_draw" = some (some (.ref f_law_draw)))
    (l_law_draw : K.lookup f_law_draw = some ⟨oc_law_draw, od_law_draw, .func (PySem.W.fnOf "_law_draw" "_law_draw" (defArgs s_law_draw) (defBody s_law_draw) (defScope s_law_draw) .none kV_law_draw dc_law_draw pm_law_draw an_law_draw cd_law_draw ct_law_draw), sl_law_draw⟩)
    (c_law_draw : PySem.W.codeIn K cd_law_draw "_law_draw" = true)
    (k_law_draw : PySem.W.keepIn K (.ref f_law_draw) = true)
    (a_law_graph : PySem.W.nsIn K mainGlobals "_law_graph" = some (some (.ref f_law_graph)))
    (l_law_graph : K.lookup f_law_graph = some ⟨oc_law_graph, od_law_graph, .func (PySem.W.fnOf "_law_graph" "_law_graph" (defArgs s_law_graph) (defBody s_law_graph) (defScope s_law_graph) .none kV_law_graph dc_law_graph pm_law_graph an_law_graph cd_law_graph ct_law_graph), sl_law_graph⟩)
    (c_law_graph : PySem.W.codeIn K cd_law_graph "_law_graph" = true)
    (k_law_graph : PySem.W.keepIn K (.ref f_law_graph) = true)
    (a_law_try : PySem.W.nsIn K mainGlobals "_law_try" = some (some (.ref f_law_try)))
    (l_law_try : K.lookup f_law_try = some ⟨oc_law_try, od_law_try, .func (PySem.W.fnOf "_law_try" "_law_try" (defArgs s_law_try) (defBody s_law_try) (defScope s_law_try) .none kV_law_try dc_law_try pm_law_try an_law_try cd_law_try ct_law_try), sl_law_try⟩)
    (c_law_try : PySem.W.codeIn K cd_law_try "_law_try" = true)
    (k_law_try : PySem.W.keepIn K (.ref f_law_try) = true)
    (a_law_most : PySem.W.nsIn K mainGlobals "_law_most" = some (some (.ref f_law_most)))
    (l_law_most : K.lookup f_law_most = some ⟨oc_law_most, od_law_most, .func (PySem.W.fnOf "_law_most" "_law_most" (defArgs s_law_most) (defBody s_law_most) (defScope s_law_most) .none kV_law_most dc_law_most pm_law_most an_law_most cd_law_most ct_law_most), sl_law_most⟩)
    (c_law_most : PySem.W.codeIn K cd_law_most "_law_most" = true)
    (k_law_most : PySem.W.keepIn K (.ref f_law_most) = true)
    (a_law_least : PySem.W.nsIn K mainGlobals "_law_least" = some (some (.ref f_law_least)))
    (l_law_least : K.lookup f_law_least = some ⟨oc_law_least, od_law_least, .func (PySem.W.fnOf "_law_least" "_law_least" (defArgs s_law_least) (defBody s_law_least) (defScope s_law_least) .none kV_law_least dc_law_least pm_law_least an_law_least cd_law_least ct_law_least), sl_law_least⟩)
    (c_law_least : PySem.W.codeIn K cd_law_least "_law_least" = true)
    (k_law_least : PySem.W.keepIn K (.ref f_law_least) = true)
    (a_law_stream : PySem.W.nsIn K mainGlobals "_law_stream" = some (some (.ref f_law_stream)))
    (l_law_stream : K.lookup f_law_stream = some ⟨oc_law_stream, od_law_stream, .func (PySem.W.fnOf "_law_stream" "_law_stream" (defArgs s_law_stream) (defBody s_law_stream) (defScope s_law_stream) .none kV_law_stream dc_law_stream pm_law_stream an_law_stream cd_law_stream ct_law_stream), sl_law_stream⟩)
    (c_law_stream : PySem.W.codeIn K cd_law_stream "_law_stream" = true)
    (k_law_stream : PySem.W.keepIn K (.ref f_law_stream) = true)
    (a_augmented : PySem.W.nsIn K mainGlobals "augmented" = some (some (.ref f_augmented)))
    (l_augmented : K.lookup f_augmented = some ⟨oc_augmented, od_augmented, .func (PySem.W.fnOf "augmented" "augmented" (defArgs s_augmented) (defBody s_augmented) (defScope s_augmented) .none kV_augmented dc_augmented pm_augmented an_augmented cd_augmented ct_augmented), sl_augmented⟩)
    (c_augmented : PySem.W.codeIn K cd_augmented "augmented" = true)
    (k_augmented : PySem.W.keepIn K (.ref f_augmented) = true)
    (a_owners : PySem.W.nsIn K mainGlobals "owners" = some (some (.ref f_owners)))
    (l_owners : K.lookup f_owners = some ⟨oc_owners, od_owners, .func (PySem.W.fnOf "owners" "owners" (defArgs s_owners) (defBody s_owners) (defScope s_owners) .none kV_owners dc_owners pm_owners an_owners cd_owners ct_owners), sl_owners⟩)
    (c_owners : PySem.W.codeIn K cd_owners "owners" = true)
    (k_owners : PySem.W.keepIn K (.ref f_owners) = true)
    (a_without : PySem.W.nsIn K mainGlobals "without" = some (some (.ref f_without)))
    (l_without : K.lookup f_without = some ⟨oc_without, od_without, .func (PySem.W.fnOf "without" "without" (defArgs s_without) (defBody s_without) (defScope s_without) .none kV_without dc_without pm_without an_without cd_without ct_without), sl_without⟩)
    (c_without : PySem.W.codeIn K cd_without "without" = true)
    (k_without : PySem.W.keepIn K (.ref f_without) = true)
    (a_match : PySem.W.nsIn K mainGlobals "match" = some (some (.ref f_match)))
    (l_match : K.lookup f_match = some ⟨oc_match, od_match, .func (PySem.W.fnOf "match" "match" (defArgs s_match) (defBody s_match) (defScope s_match) .none kV_match dc_match pm_match an_match cd_match ct_match), sl_match⟩)
    (c_match : PySem.W.codeIn K cd_match "match" = true)
    (k_match : PySem.W.keepIn K (.ref f_match) = true)
    (a_law : PySem.W.nsIn K mainGlobals "law" = some (some (.ref f_law)))
    (l_law : K.lookup f_law = some ⟨oc_law, od_law, .func (PySem.W.fnOf "law" "law" (defArgs s_law) (defBody s_law) (defScope s_law) .none kV_law dc_law pm_law an_law cd_law ct_law), sl_law⟩)
    (c_law : PySem.W.codeIn K cd_law "law" = true)
    (k_law : PySem.W.keepIn K (.ref f_law) = true)
    (hn_class : PySem.W.specialIn K (.builtin "object.__class__") "__get__" = some (some (.builtin "getset_descriptor.__get__")))
    (ht_class : PySem.W.takesIn K (.builtin "object.__class__") = some true)
    (z_abs : PySem.W.nsIn K mainGlobals "abs" = some none)
    (z_dict : PySem.W.nsIn K mainGlobals "dict" = some none)
    (z_enumerate : PySem.W.nsIn K mainGlobals "enumerate" = some none)
    (z_int : PySem.W.nsIn K mainGlobals "int" = some none)
    (z_isinstance : PySem.W.nsIn K mainGlobals "isinstance" = some none)
    (z_len : PySem.W.nsIn K mainGlobals "len" = some none)
    (z_list : PySem.W.nsIn K mainGlobals "list" = some none)
    (z_range : PySem.W.nsIn K mainGlobals "range" = some none)
    (z_sorted : PySem.W.nsIn K mainGlobals "sorted" = some none)
    : ∃ (e : En) (fd : FuncData), e.K = K ∧ (∀ (s : Shared) (v : Value), BindsTo s fd ⟨[v], []⟩ [("_law_script", v)]) ∧ ∀ base : Heap, K.In base → base.Ns mainGlobals mg → FnOk l.prog w K mg base (L2.CX l.prog w) 42 fa fd ["_law_script"] (spOf e 1 m_law) := by
  have e := hfa.symm.trans (PySem.W.mg_of X G a_law)
  cases e
  have T : Txt w K mg ⟨f_law_draw, _, f_law_graph, _, f_law_try, _, f_law_most, _, f_law_least, _, f_law_stream, _, f_augmented, _, f_owners, _, f_without, _, f_match, _, fa, _⟩ :=
    { F_law_draw := fun_mk (st := s_law_draw) l_law_draw c_law_draw k_law_draw
      b_law_draw := (fun_mk (st := s_law_draw) l_law_draw c_law_draw k_law_draw).binds (ps := ["_law_stream_here", "_law_many"]) fun _ _ _ _ _ _ us hl => match us, hl with | [_, _], _ => rfl
      p_law_draw := k_law_draw
      m_law_draw := PySem.W.mg_of X G a_law_draw
      F_law_graph := fun_mk (st := s_law_graph) l_law_graph c_law_graph k_law_graph
      b_law_graph := (fun_mk (st := s_law_graph) l_law_graph c_law_graph k_law_graph).binds (ps := ["_law_stream_here"]) fun _ _ _ _ _ _ us hl => match us, hl with | [_], _ => rfl
      p_law_graph := k_law_graph
      m_law_graph := PySem.W.mg_of X G a_law_graph
      F_law_try := fun_mk (st := s_law_try) l_law_try c_law_try k_law_try
      b_law_try := (fun_mk (st := s_law_try) l_law_try c_law_try k_law_try).binds (ps := ["_law_joined", "_law_owner", "_law_name", "_law_seen"]) fun _ _ _ _ _ _ us hl => match us, hl with | [_, _, _, _], _ => rfl
      p_law_try := k_law_try
      m_law_try := PySem.W.mg_of X G a_law_try
      F_law_most := fun_mk (st := s_law_most) l_law_most c_law_most k_law_most
      b_law_most := (fun_mk (st := s_law_most) l_law_most c_law_most k_law_most).binds (ps := ["_law_joined", "_law_names", "_law_gone"]) fun _ _ _ _ _ _ us hl => match us, hl with | [_, _, _], _ => rfl
      p_law_most := k_law_most
      m_law_most := PySem.W.mg_of X G a_law_most
      F_law_least := fun_mk (st := s_law_least) l_law_least c_law_least k_law_least
      b_law_least := (fun_mk (st := s_law_least) l_law_least c_law_least k_law_least).binds (ps := ["_law_joined"]) fun _ _ _ _ _ _ us hl => match us, hl with | [_], _ => rfl
      p_law_least := k_law_least
      m_law_least := PySem.W.mg_of X G a_law_least
      F_law_stream := fun_mk (st := s_law_stream) l_law_stream c_law_stream k_law_stream
      b_law_stream := (fun_mk (st := s_law_stream) l_law_stream c_law_stream k_law_stream).binds (ps := ["_law_script"]) fun _ _ _ _ _ _ us hl => match us, hl with | [_], _ => rfl
      p_law_stream := k_law_stream
      m_law_stream := PySem.W.mg_of X G a_law_stream
      F_augmented := fun_mk (st := s_augmented) l_augmented c_augmented k_augmented
      b_augmented := (fun_mk (st := s_augmented) l_augmented c_augmented k_augmented).binds (ps := ["joined", "owner", "name", "seen"]) fun _ _ _ _ _ _ us hl => match us, hl with | [_, _, _, _], _ => rfl
      p_augmented := k_augmented
      m_augmented := PySem.W.mg_of X G a_augmented
      F_owners := fun_mk (st := s_owners) l_owners c_owners k_owners
      b_owners := (fun_mk (st := s_owners) l_owners c_owners k_owners).binds (ps := ["joined", "names"]) fun _ _ _ _ _ _ us hl => match us, hl with | [_, _], _ => rfl
      p_owners := k_owners
      m_owners := PySem.W.mg_of X G a_owners
      F_without := fun_mk (st := s_without) l_without c_without k_without
      b_without := (fun_mk (st := s_without) l_without c_without k_without).binds (ps := ["joined", "names", "used"]) fun _ _ _ _ _ _ us hl => match us, hl with | [_, _, _], _ => rfl
      p_without := k_without
      m_without := PySem.W.mg_of X G a_without
      F_match := fun_mk (st := s_match) l_match c_match k_match
      b_match := (fun_mk (st := s_match) l_match c_match k_match).binds (ps := ["pair"]) fun _ _ _ _ _ _ us hl => match us, hl with | [_], _ => rfl
      p_match := k_match
      m_match := PySem.W.mg_of X G a_match
      F_law := fun_mk (st := s_law) l_law c_law k_law
      b_law := (fun_mk (st := s_law) l_law c_law k_law).binds (ps := ["_law_script"]) fun _ _ _ _ _ _ us hl => match us, hl with | [_], _ => rfl
      p_law := k_law
      m_law := PySem.W.mg_of X G a_law
      n_abs := PySem.W.mg_none_of X G z_abs
      n_dict := PySem.W.mg_none_of X G z_dict
      n_enumerate := PySem.W.mg_none_of X G z_enumerate
      n_int := PySem.W.mg_none_of X G z_int
      n_isinstance := PySem.W.mg_none_of X G z_isinstance
      n_len := PySem.W.mg_none_of X G z_len
      n_list := PySem.W.mg_none_of X G z_list
      n_range := PySem.W.mg_none_of X G z_range
      n_sorted := PySem.W.mg_none_of X G z_sorted }
  exact ⟨enA K _, PySem.W.fnOf "law" "law" (defArgs s_law) (defBody s_law) (defScope s_law) .none kV_law dc_law pm_law an_law cd_law ct_law, rfl, fun s v => .of_eq rfl, fun base _ _ => ok_law T⟩
end LawP
open PySem PySem.W PyProof.Rows
set_option maxRecDepth 100000 in
set_option maxHeartbeats 0 in
theorem PySem.Challenge.cw_linkwork_k51_matchings_holds : PySem.Challenge.rw_linkwork_k51_matchings.Holds := by
  w_on; o_law; k_head; (case hw => w_witness2)
  k_fill
  refine Mi.law_walk (l := PySem.Challenge.rw_linkwork_k51_matchings) (k := 42) (x := "_law_script") (f := LawP.m_law) rfl rfl ⟨rfl, by decide, by decide⟩ (fun w h Y => PySem.W.kIn_of Y) LawP.law_ok ?F
  case F =>
    intro w mg fa h KX G hmg
    refine' LawP.all_mk KX G hmg ?a_law_draw ?l_law_draw ?c_law_draw ?k_law_draw ?a_law_graph ?l_law_graph ?c_law_graph ?k_law_graph ?a_law_try ?l_law_try ?c_law_try ?k_law_try ?a_law_most ?l_law_most ?c_law_most ?k_law_most ?a_law_least ?l_law_least ?c_law_least ?k_law_least ?a_law_stream ?l_law_stream ?c_law_stream ?k_law_stream ?a_augmented ?l_augmented ?c_augmented ?k_augmented ?a_owners ?l_owners ?c_owners ?k_owners ?a_without ?l_without ?c_without ?k_without ?a_match ?l_match ?c_match ?k_match ?a_law ?l_law ?c_law ?k_law ?hn_class ?ht_class ?z_abs ?z_dict ?z_enumerate ?z_int ?z_isinstance ?z_len ?z_list ?z_range ?z_sorted
    (case a_law_draw => k_is)
    (case l_law_draw => k_is)
    (case c_law_draw => k_is)
    (case k_law_draw => k_is)
    (case a_law_graph => k_is)
    (case l_law_graph => k_is)
    (case c_law_graph => k_is)
    (case k_law_graph => k_is)
    (case a_law_try => k_is)
    (case l_law_try => k_is)
    (case c_law_try => k_is)
    (case k_law_try => k_is)
    (case a_law_most => k_is)
    (case l_law_most => k_is)
    (case c_law_most => k_is)
    (case k_law_most => k_is)
    (case a_law_least => k_is)
    (case l_law_least => k_is)
    (case c_law_least => k_is)
    (case k_law_least => k_is)
    (case a_law_stream => k_is)
    (case l_law_stream => k_is)
    (case c_law_stream => k_is)
    (case k_law_stream => k_is)
    (case a_augmented => k_is)
    (case l_augmented => k_is)
    (case c_augmented => k_is)
    (case k_augmented => k_is)
    (case a_owners => k_is)
    (case l_owners => k_is)
    (case c_owners => k_is)
    (case k_owners => k_is)
    (case a_without => k_is)
    (case l_without => k_is)
    (case c_without => k_is)
    (case k_without => k_is)
    (case a_match => k_is)
    (case l_match => k_is)
    (case c_match => k_is)
    (case k_match => k_is)
    (case a_law => k_is)
    (case l_law => k_is)
    (case c_law => k_is)
    (case k_law => k_is)
    (case hn_class => k_is)
    (case ht_class => k_is)
    (case z_abs => k_is)
    (case z_dict => k_is)
    (case z_enumerate => k_is)
    (case z_int => k_is)
    (case z_isinstance => k_is)
    (case z_len => k_is)
    (case z_list => k_is)
    (case z_range => k_is)
    (case z_sorted => k_is)

end
