import PyProof.Rows.All
import Wide.All
import OpenK.AllK
import Wide.FinOn
import HandS.ForMost
import HandS.ForExc
import HandS.Lambda
import HandS.TryMany
import HandS.IsInst
import HandS.Style
import HandS.Flow
import HandS.TupAny
import HandS.TupMul
import HandS.Deep
import HandS.Codes
import HandS.Conv
import PySem.Challenge.RW_gridtide_k01_words_told
set_option Elab.async false
set_option linter.all false
set_option maxRecDepth 100000
/-! Part A. Trees of values, stores of changeable things, what they have to do with the abstract heap. -/
namespace GT
open PySem PySem.Spec PyProof.Rows L2

/-- a value as a tree -/
inductive PV where
  | non | bl (b : Bool) | int (i : Int) | str (x : Str) | tup (xs : List PV) | lst (xs : List PV) | fls (xs : List PV) | rng (lo hi : Int) | dic (ks vs : List PV) | glob (x : Str)
/-- a value in an environment: a tree, or a changeable thing of the store -/
inductive EV where
  | pv (p : PV) | ob (n : Nat)
inductive Ob where
  | lst (xs : List EV) | dic (ks : List PV) (vs : List EV) | ins (c : Str) (fs : List (Str × EV)) | frz (p : PV)
abbrev Store := List Ob
abbrev Env := List (Option EV)
/-- an exception: its class's name, its fields -/
structure PX where
  cls : Str
  fs : List (Str × PV)
inductive R (α : Type) where
  | stuck | ok (a : α) (st : Store) | exc (x : PX) (st : Store)
def R.bind {α β : Type} (r : R α) (k : α → Store → R β) : R β := match r with
  | .stuck => .stuck
  | .ok a st => k a st
  | .exc x st => .exc x st
@[simp] theorem R.bind_ok {α β : Type} (a : α) (st : Store) (k : α → Store → R β) : (R.ok a st).bind k = k a st := (rfl)
@[simp] theorem R.bind_stuck {α β : Type} (k : α → Store → R β) : (R.stuck : R α).bind k = .stuck := (rfl)
@[simp] theorem R.bind_exc {α β : Type} (x : PX) (st : Store) (k : α → Store → R β) : (R.exc x st : R α).bind k = .exc x st := (rfl)

structure Cg where
  K : PySem.W.Frag
  mg : Str → Option Value
  T : List (Addr × Str)

def keyOf : PV → Option Key
  | .int i => some (.inl i)
  | .str x => some (.inr x)
  | _ => none
def keysOf : List PV → Option (List Key)
  | [] => some []
  | p :: r => match keyOf p, keysOf r with
    | some k, some ks => some (k :: ks)
    | _, _ => none
def tkeyOf : PV → Option (List Key)
  | .tup xs => keysOf xs
  | _ => none
def tkeysOf : List PV → Option (List (List Key))
  | [] => some []
  | p :: r => match tkeyOf p, tkeysOf r with
    | some k, some ks => some (k :: ks)
    | _, _ => none
/-- at a stands a dict of these keys and values -/
def DicO (ks : List PV) (us : List V) (o : HO) : Prop :=
  us.length = ks.length ∧ ((∃ kk, keysOf ks = some kk ∧ o = .dK (kk.zip us)) ∨ ∃ kk, tkeysOf ks = some kk ∧ o = .dT (kk.zip us))

mutual
def RelPV (g : Cg) (G : Hp) : PV → V → Prop
  | .non, v => v = .non
  | .bl b, v => v = .bl b
  | .int i, v => v = .int i
  | .str x, v => v = .str x
  | .tup xs, v => ∃ a vs, v = .ref a ∧ SqT g.K G a vs ∧ RelPVs g G xs vs
  | .lst xs, v => ∃ a vs, v = .ref a ∧ G a = some (.lst vs) ∧ RelPVs g G xs vs
  | .fls xs, v => ∃ a vs, v = .ref a ∧ SqL g.K G a vs ∧ RelPVs g G xs vs
  | .rng lo hi, v => ∃ a, v = .ref a ∧ G a = some (.rng lo hi)
  | .dic ks ps, v => ∃ a us o, v = .ref a ∧ G a = some o ∧ DicO ks us o ∧ RelPVs g G ps us
  | .glob x, v => ∃ a, v = .ref a ∧ g.mg x = some (.ref a)
def RelPVs (g : Cg) (G : Hp) : List PV → List V → Prop
  | [], vs => vs = []
  | p :: ps, vs => ∃ v r, vs = v :: r ∧ RelPV g G p v ∧ RelPVs g G ps r
end

theorem SqT.mono {K : PySem.W.Frag} {H H' : Hp} {a : Addr} {xs : List V} (e : Same H H') (h : SqT K H a xs) : SqT K H' a xs := by
  rcases h with (h | ⟨o, h⟩) | h
  · exact .inl (.inl (e _ _ h))
  · exact .inl (.inr ⟨o, e _ _ h⟩)
  · exact .inr h

section
variable {g : Cg} {G G' : Hp}
mutual
theorem RelPV.mono (e : Same G G') : ∀ {p : PV} {v : V}, RelPV g G p v → RelPV g G' p v
  | .non, _, h => h
  | .bl _, _, h => h
  | .int _, _, h => h
  | .str _, _, h => h
  | .tup xs, _, h => by
    unfold RelPV at h ⊢
    obtain ⟨a, vs, h1, h2, h3⟩ := h
    exact ⟨a, vs, h1, SqT.mono e h2, RelPVs.mono e h3⟩
  | .lst xs, _, h => by
    unfold RelPV at h ⊢
    obtain ⟨a, vs, h1, h2, h3⟩ := h
    exact ⟨a, vs, h1, e _ _ h2, RelPVs.mono e h3⟩
  | .fls xs, _, h => by
    unfold RelPV at h ⊢
    obtain ⟨a, vs, h1, h2, h3⟩ := h
    exact ⟨a, vs, h1, e.seq h2, RelPVs.mono e h3⟩
  | .rng _ _, _, h => by
    unfold RelPV at h ⊢
    obtain ⟨a, h1, h2⟩ := h
    exact ⟨a, h1, e _ _ h2⟩
  | .dic ks ps, _, h => by
    unfold RelPV at h ⊢
    obtain ⟨a, us, o, h1, h2, h3, h4⟩ := h
    exact ⟨a, us, o, h1, e _ _ h2, h3, RelPVs.mono e h4⟩
  | .glob _, _, h => h
theorem RelPVs.mono (e : Same G G') : ∀ {ps : List PV} {vs : List V}, RelPVs g G ps vs → RelPVs g G' ps vs
  | [], _, h => h
  | p :: ps, _, h => by
    unfold RelPVs at h ⊢
    obtain ⟨v, r, h1, h2, h3⟩ := h
    exact ⟨v, r, h1, RelPV.mono e h2, RelPVs.mono e h3⟩
end
theorem RelPVs.length : ∀ {ps : List PV} {vs : List V}, RelPVs g G ps vs → vs.length = ps.length
  | [], _, h => by unfold RelPVs at h; subst h; rfl
  | p :: ps, _, h => by
    unfold RelPVs at h
    obtain ⟨v, r, rfl, h2, h3⟩ := h
    simp [RelPVs.length h3]
theorem RelPVs.get : ∀ {ps : List PV} {vs : List V} {i : Nat} {p : PV}, RelPVs g G ps vs → ps[i]? = some p → ∃ v, vs[i]? = some v ∧ RelPV g G p v
  | [], _, i, p, _, e => by simp at e
  | q :: ps, _, 0, p, h, e => by
    unfold RelPVs at h
    obtain ⟨v, r, rfl, h2, h3⟩ := h
    simp at e
    subst e
    exact ⟨v, rfl, h2⟩
  | q :: ps, _, i + 1, p, h, e => by
    unfold RelPVs at h
    obtain ⟨v, r, rfl, h2, h3⟩ := h
    obtain ⟨w, h4, h5⟩ := RelPVs.get (i := i) h3 (by simpa using e)
    exact ⟨w, by simpa using h4, h5⟩
theorem RelPVs.append : ∀ {ps qs : List PV} {vs us : List V}, RelPVs g G ps vs → RelPVs g G qs us → RelPVs g G (ps ++ qs) (vs ++ us)
  | [], _, _, _, h, h' => by unfold RelPVs at h; subst h; exact h'
  | p :: ps, _, _, _, h, h' => by
    unfold RelPVs at h
    obtain ⟨v, r, rfl, h2, h3⟩ := h
    show RelPVs g G (p :: (ps ++ _)) _
    unfold RelPVs
    exact ⟨v, _, rfl, h2, RelPVs.append h3 h'⟩
theorem RelPVs.take : ∀ {ps : List PV} {vs : List V} (n : Nat), RelPVs g G ps vs → RelPVs g G (ps.take n) (vs.take n)
  | _, _, 0, _ => by simp [RelPVs]
  | [], _, n + 1, h => by unfold RelPVs at h; subst h; simp [RelPVs]
  | p :: ps, _, n + 1, h => by
    unfold RelPVs at h
    obtain ⟨v, r, rfl, h2, h3⟩ := h
    simp only [List.take_succ_cons]
    unfold RelPVs
    exact ⟨v, _, rfl, h2, RelPVs.take n h3⟩
theorem RelPVs.drop : ∀ {ps : List PV} {vs : List V} (n : Nat), RelPVs g G ps vs → RelPVs g G (ps.drop n) (vs.drop n)
  | _, _, 0, h => h
  | [], _, n + 1, h => by unfold RelPVs at h; subst h; simp [RelPVs]
  | p :: ps, _, n + 1, h => by
    unfold RelPVs at h
    obtain ⟨v, r, rfl, h2, h3⟩ := h
    simpa using RelPVs.drop n h3
theorem RelPVs.nil : RelPVs g G [] [] := by unfold RelPVs; rfl
theorem RelPVs.cons {p : PV} {v : V} {ps : List PV} {vs : List V} (h : RelPV g G p v) (h' : RelPVs g G ps vs) : RelPVs g G (p :: ps) (v :: vs) := by unfold RelPVs; exact ⟨v, vs, rfl, h, h'⟩
theorem RelPVs.nil_inv {vs : List V} (h : RelPVs g G [] vs) : vs = [] := by unfold RelPVs at h; exact h
theorem RelPVs.cons_inv {p : PV} {ps : List PV} {vs : List V} (h : RelPVs g G (p :: ps) vs) : ∃ v r, vs = v :: r ∧ RelPV g G p v ∧ RelPVs g G ps r := by unfold RelPVs at h; exact h
theorem RelPVs.rev {ps : List PV} {vs : List V} (h : RelPVs g G ps vs) : RelPVs g G ps.reverse vs.reverse := by
  induction ps generalizing vs with
  | nil => unfold RelPVs at h; subst h; simpa using RelPVs.nil
  | cons p ps ih =>
    obtain ⟨v, r, rfl, h2, h3⟩ := h.cons_inv
    simp only [List.reverse_cons]
    exact (ih h3).append (.cons h2 .nil)
theorem RelPVs.rep {ps : List PV} {vs : List V} (h : RelPVs g G ps vs) : ∀ k : Nat, RelPVs g G (List.replicate k ps).flatten (List.replicate k vs).flatten
  | 0 => by simpa using RelPVs.nil
  | k + 1 => by
    simp only [List.replicate_succ, List.flatten_cons]
    exact h.append (RelPVs.rep h k)

def RelEV (g : Cg) (G : Hp) (m : List Addr) : EV → V → Prop
  | .pv p, v => RelPV g G p v
  | .ob n, v => ∃ a, m[n]? = some a ∧ v = .ref a
def RelEVs (g : Cg) (G : Hp) (m : List Addr) : List EV → List V → Prop
  | [], vs => vs = []
  | p :: ps, vs => ∃ v r, vs = v :: r ∧ RelEV g G m p v ∧ RelEVs g G m ps r
theorem pre_get {α : Type} {m m' : List α} (h : m <+: m') {n : Nat} {a : α} (e : m[n]? = some a) : m'[n]? = some a := by
  obtain ⟨t, rfl⟩ := h
  rw [List.getElem?_append_left (List.getElem?_eq_some_iff.mp e).1]
  exact e
variable {m m' : List Addr}
theorem RelEV.mono (e : Same G G') (hm : m <+: m') : ∀ {p : EV} {v : V}, RelEV g G m p v → RelEV g G' m' p v
  | .pv _, _, h => RelPV.mono e h
  | .ob _, _, h => by
    obtain ⟨a, h1, h2⟩ := h
    exact ⟨a, pre_get hm h1, h2⟩
theorem RelEVs.mono (e : Same G G') (hm : m <+: m') : ∀ {ps : List EV} {vs : List V}, RelEVs g G m ps vs → RelEVs g G' m' ps vs
  | [], _, h => h
  | p :: ps, _, h => by
    obtain ⟨v, r, h1, h2, h3⟩ := h
    exact ⟨v, r, h1, h2.mono e hm, RelEVs.mono e hm h3⟩
theorem RelEVs.length : ∀ {ps : List EV} {vs : List V}, RelEVs g G m ps vs → vs.length = ps.length
  | [], _, h => by cases h; rfl
  | p :: ps, _, h => by
    obtain ⟨v, r, rfl, h2, h3⟩ := h
    simp [RelEVs.length h3]
theorem RelEVs.get : ∀ {ps : List EV} {vs : List V} {i : Nat} {p : EV}, RelEVs g G m ps vs → ps[i]? = some p → ∃ v, vs[i]? = some v ∧ RelEV g G m p v
  | [], _, i, p, _, e => by simp at e
  | q :: ps, _, 0, p, h, e => by
    obtain ⟨v, r, rfl, h2, h3⟩ := h
    simp at e
    subst e
    exact ⟨v, rfl, h2⟩
  | q :: ps, _, i + 1, p, h, e => by
    obtain ⟨v, r, rfl, h2, h3⟩ := h
    obtain ⟨w, h4, h5⟩ := RelEVs.get (i := i) h3 (by simpa using e)
    exact ⟨w, by simpa using h4, h5⟩
theorem RelEVs.append : ∀ {ps qs : List EV} {vs us : List V}, RelEVs g G m ps vs → RelEVs g G m qs us → RelEVs g G m (ps ++ qs) (vs ++ us)
  | [], _, _, _, h, h' => by cases h; exact h'
  | p :: ps, _, _, _, h, h' => by
    obtain ⟨v, r, rfl, h2, h3⟩ := h
    exact ⟨v, _, rfl, h2, RelEVs.append h3 h'⟩
theorem RelEVs.set : ∀ {ps : List EV} {vs : List V} {i : Nat} {p : EV} {v : V}, RelEVs g G m ps vs → RelEV g G m p v → RelEVs g G m (ps.set i p) (vs.set i v)
  | [], _, _, _, _, h, _ => by cases h; exact rfl
  | q :: ps, _, 0, p, v, h, h' => by
    obtain ⟨w, r, rfl, h2, h3⟩ := h
    exact ⟨v, r, rfl, h', h3⟩
  | q :: ps, _, i + 1, p, v, h, h' => by
    obtain ⟨w, r, rfl, h2, h3⟩ := h
    exact ⟨w, _, rfl, h2, RelEVs.set h3 h'⟩
theorem RelEVs.eraseIdx : ∀ {ps : List EV} {vs : List V} (i : Nat), RelEVs g G m ps vs → RelEVs g G m (ps.eraseIdx i) (vs.eraseIdx i)
  | [], _, _, h => by cases h; exact rfl
  | q :: ps, _, 0, h => by
    obtain ⟨w, r, rfl, h2, h3⟩ := h
    exact h3
  | q :: ps, _, i + 1, h => by
    obtain ⟨w, r, rfl, h2, h3⟩ := h
    exact ⟨w, _, rfl, h2, RelEVs.eraseIdx i h3⟩
theorem RelEVs.dropLast : ∀ {ps : List EV} {vs : List V}, RelEVs g G m ps vs → RelEVs g G m ps.dropLast vs.dropLast
  | [], _, h => by cases h; exact rfl
  | [q], _, h => by
    obtain ⟨w, r, rfl, h2, h3⟩ := h
    cases h3
    exact rfl
  | q :: q' :: ps, _, h => by
    obtain ⟨w, r, rfl, h2, h3⟩ := h
    have h4 := RelEVs.dropLast h3
    obtain ⟨w', r', rfl, h5, h6⟩ := h3
    exact ⟨w, _, rfl, h2, h4⟩
/-- trees within -/
def pvsOf : List EV → Option (List PV)
  | [] => some []
  | .pv p :: r => match pvsOf r with
    | some ps => some (p :: ps)
    | none => none
  | .ob _ :: _ => none
theorem pvsOf_map (ps : List PV) : pvsOf (ps.map EV.pv) = some ps := by
  induction ps with
  | nil => rfl
  | cons p ps ih => simp [pvsOf, ih]
theorem RelEVs.pvs : ∀ {es : List EV} {ps : List PV} {vs : List V}, pvsOf es = some ps → RelEVs g G m es vs → RelPVs g G ps vs
  | [], ps, _, e, h => by
    simp [pvsOf] at e
    subst e
    cases h
    exact .nil
  | .pv p :: r, ps, _, e, h => by
    obtain ⟨v, r', rfl, h2, h3⟩ := h
    unfold pvsOf at e
    split at e
    · rename_i qs eq
      cases e
      exact .cons h2 (RelEVs.pvs eq h3)
    · cases e
  | .ob _ :: _, ps, _, e, h => by simp [pvsOf] at e
theorem RelPVs.evs : ∀ {ps : List PV} {vs : List V}, RelPVs g G ps vs → RelEVs g G m (ps.map EV.pv) vs
  | [], _, h => h.nil_inv
  | p :: ps, _, h => by
    obtain ⟨v, r, rfl, h2, h3⟩ := h.cons_inv
    exact ⟨v, r, rfl, h2, RelPVs.evs h3⟩
def RelFs (g : Cg) (G : Hp) : List (Str × PV) → List (Str × V) → Prop
  | [], vs => vs = []
  | p :: ps, vs => ∃ v r, vs = (p.1, v) :: r ∧ RelPV g G p.2 v ∧ RelFs g G ps r
theorem RelFs.mono (e : Same G G') : ∀ {ps : List (Str × PV)} {vs : List (Str × V)}, RelFs g G ps vs → RelFs g G' ps vs
  | [], _, h => h
  | p :: ps, _, h => by
    obtain ⟨v, r, h1, h2, h3⟩ := h
    exact ⟨v, r, h1, RelPV.mono e h2, RelFs.mono e h3⟩
theorem RelFs.look : ∀ {ps : List (Str × PV)} {vs : List (Str × V)} {f : Str} {p : PV}, RelFs g G ps vs → ps.lookup f = some p → ∃ v, vs.lookup f = some v ∧ RelPV g G p v
  | [], _, f, p, h, e => by simp at e
  | q :: ps, _, f, p, h, e => by
    obtain ⟨v, r, rfl, h2, h3⟩ := h
    obtain ⟨qf, qp⟩ := q
    rw [List.lookup_cons] at e ⊢
    cases hb : f == qf with
    | true =>
      rw [hb] at e
      simp only [Option.some.injEq] at e
      subst e
      exact ⟨v, rfl, h2⟩
    | false =>
      rw [hb] at e
      exact RelFs.look h3 e
def RelFe (g : Cg) (G : Hp) (m : List Addr) : List (Str × EV) → List (Str × V) → Prop
  | [], vs => vs = []
  | p :: ps, vs => ∃ v r, vs = (p.1, v) :: r ∧ RelEV g G m p.2 v ∧ RelFe g G m ps r
theorem RelFe.mono (e : Same G G') (hm : m <+: m') : ∀ {ps : List (Str × EV)} {vs : List (Str × V)}, RelFe g G m ps vs → RelFe g G' m' ps vs
  | [], _, h => h
  | p :: ps, _, h => by
    obtain ⟨v, r, h1, h2, h3⟩ := h
    exact ⟨v, r, h1, h2.mono e hm, RelFe.mono e hm h3⟩

/-- an exception in the abstract heap -/
def RelX (g : Cg) (G H : Hp) (x : PX) (cls : Value) (dd : Option Addr) : Prop :=
  ∃ C d vs, cls = .ref C ∧ g.mg x.cls = some (.ref C) ∧ dd = some d ∧ H d = some (.xd vs) ∧ RelFs g G x.fs vs

/-- a changeable thing at its address -/
def ObRel (g : Cg) (G : Hp) (m : List Addr) (F H : Hp) (a : Addr) : Ob → Prop
  | .lst xs => ∃ vs, H a = some (.lst vs) ∧ RelEVs g G m xs vs ∧ G a = none ∧ F a = none
  | .dic ks xs => ∃ us o, H a = some o ∧ DicO ks us o ∧ RelEVs g G m xs us ∧ G a = none ∧ F a = none
  | .ins c fs => ∃ C dx vs, g.mg c = some (.ref C) ∧ H a = some (.ins C dx vs) ∧ RelFe g G m fs vs ∧ G a = none ∧ F a = none ∧ H dx = some (.own a) ∧ G dx = none
  | .frz p => RelPV g G p (.ref a) ∧ ∃ u, G a = some u ∧ ∀ ps, u ≠ .tbl ps

structure Act where
  G0 : Hp
  F : Hp
structure HSim (g : Cg) (A : Act) (G : Hp) (m : List Addr) (st : Store) (H : Hp) : Prop where

  sub : Same G H
  frm : ∀ a o, A.F a = some o → (∃ u, H a = some u) ∧ ((∀ ps, o ≠ .tbl ps) → H a = some o)
  g0 : Same A.G0 G
  new : ∀ a o, G a = some o → A.G0 a = some o ∨ A.F a = none
  nod : m.Nodup
  len : m.length = st.length
  obj : ∀ (n : Nat) (ob : Ob), st[n]? = some ob → ∃ a : Addr, m[n]? = some a ∧ ObRel g G m A.F H a ob
  tabs : LamX.Tabs g.T H
def LocSim (g : Cg) (G : Hp) (m : List Addr) (ρ : Env) (σ : L2.St) : Prop :=
  ρ.length = σ.length ∧ ∀ (i : Nat) (v : EV), ρ[i]? = some (some v) → ∃ u, σ[i]? = some (some u) ∧ RelEV g G m v u
theorem LocSim.mono {ρ : Env} {σ : L2.St} (e : Same G G') (hm : m <+: m') (h : LocSim g G m ρ σ) : LocSim g G' m' ρ σ :=
  ⟨h.1, fun i v q => let ⟨u, h1, h2⟩ := h.2 i v q; ⟨u, h1, h2.mono e hm⟩⟩
theorem LocSim.set {ρ : Env} {σ : L2.St} {i : Nat} {v : EV} {u : V} (h : LocSim g G m ρ σ) (r : RelEV g G m v u) : LocSim g G m (ρ.set i (some v)) (σ.set i (some u)) := by
  refine ⟨by simp [h.1], fun j w q => ?_⟩
  by_cases e : i = j
  · subst e
    by_cases hl : i < ρ.length
    · rw [List.getElem?_set_self hl] at q
      cases q
      exact ⟨u, List.getElem?_set_self (by rw [← h.1]; exact hl), r⟩
    · rw [List.getElem?_eq_none (by simp; omega)] at q
      cases q
  · rw [List.getElem?_set_ne e] at q
    rw [List.getElem?_set_ne e]
    exact h.2 j w q
theorem LocSim.setNone {ρ : Env} {σ : L2.St} {i : Nat} (h : LocSim g G m ρ σ) : LocSim g G m (ρ.set i none) (σ.set i none) := by
  refine ⟨by simp [h.1], fun j w q => ?_⟩
  by_cases e : i = j
  · subst e
    by_cases hl : i < ρ.length
    · rw [List.getElem?_set_self hl] at q
      cases q
    · rw [List.getElem?_eq_none (by simp; omega)] at q
      cases q
  · rw [List.getElem?_set_ne e] at q
    rw [List.getElem?_set_ne e]
    exact h.2 j w q
theorem LocSim.forget {ρ : Env} {σ : L2.St} {i : Nat} (h : LocSim g G m ρ σ) : LocSim g G m (ρ.set i none) σ := by
  refine ⟨by simp [h.1], fun j w q => ?_⟩
  by_cases e : i = j
  · subst e
    by_cases hl : i < ρ.length
    · rw [List.getElem?_set_self hl] at q
      cases q
    · rw [List.getElem?_eq_none (by simp; omega)] at q
      cases q
  · rw [List.getElem?_set_ne e] at q
    exact h.2 j w q
end

theorem same_upd {G : Hp} {p : Addr} {o : HO} (h : G p = none) : Same G (upd G p o) := fun b u q => by rw [upd_ne (ne_of_none q h)]; exact q
theorem tabs_write {T : List (Addr × Str)} {H : Hp} {a : Addr} {u o : HO} (t : LamX.Tabs T H) (h : H a = some u) (h1 : ∀ ps, u ≠ .tbl ps) (h2 : ∀ φ, u ≠ .ext φ) : LamX.Tabs T (upd H a o) := fun p hp => by
  obtain ⟨ps, e1, e2, e3⟩ := t p hp
  refine ⟨ps, by rw [upd_ne (fun z => by rw [z, h] at e1; exact h1 ps (Option.some.inj e1))]; exact e1, e2, fun pos cv hc => ?_⟩
  obtain ⟨c, q1, q2⟩ := e3 pos cv hc
  exact ⟨c, q1, by rw [upd_ne (fun z => by rw [z, h] at q2; exact h2 _ (Option.some.inj q2))]; exact q2⟩

section
variable {g : Cg} {A : Act} {G : Hp} {m : List Addr} {st : Store} {H : Hp}
theorem HSim.gnone (h : HSim g A G m st H) {p : Addr} (hp : H p = none) : G p = none := by
  cases q : G p with
  | none => rfl
  | some o => rw [h.sub p o q] at hp; cases hp
theorem HSim.fnone (h : HSim g A G m st H) {p : Addr} (hp : H p = none) : A.F p = none := by
  cases q : A.F p with
  | none => rfl
  | some o =>
    obtain ⟨⟨u, e⟩, _⟩ := h.frm p o q
    rw [hp] at e; cases e
theorem ObRel.live {F : Hp} {a : Addr} {ob : Ob} (h : HSim g A G m st H) (r : ObRel g G m F H a ob) : ∃ u, H a = some u := by
  cases ob with
  | lst xs => obtain ⟨vs, e, _⟩ := r; exact ⟨_, e⟩
  | dic ks xs => obtain ⟨us, o, e, _⟩ := r; exact ⟨_, e⟩
  | ins c fs => obtain ⟨C, dx, vs, _, e, _⟩ := r; exact ⟨_, e⟩
  | frz p => obtain ⟨_, u, e, _⟩ := r; exact ⟨_, h.sub _ _ e⟩
theorem ObRel.mono {G' : Hp} {m' : List Addr} {F : Hp} {a : Addr} {ob : Ob} (e : Same G G') (hm : m <+: m') (hn : ∀ b, G b = none → (∃ u, H b = some u) → G' b = none) (r : ObRel g G m F H a ob) : ObRel g G' m' F H a ob := by
  cases ob with
  | lst xs => obtain ⟨vs, e1, e2, e3, e4⟩ := r; exact ⟨vs, e1, e2.mono e hm, hn _ e3 ⟨_, e1⟩, e4⟩
  | dic ks xs => obtain ⟨us, o, e0, e1, e2, e3, e4⟩ := r; exact ⟨us, o, e0, e1, e2.mono e hm, hn _ e3 ⟨_, e0⟩, e4⟩
  | ins c fs => obtain ⟨C, dx, vs, e0, e1, e2, e3, e4, e5, e6⟩ := r; exact ⟨C, dx, vs, e0, e1, e2.mono e hm, hn _ e3 ⟨_, e1⟩, e4, e5, hn _ e6 ⟨_, e5⟩⟩
  | frz p => obtain ⟨e1, u, e2, e3⟩ := r; exact ⟨e1.mono e, u, e _ _ e2, e3⟩
theorem ObRel.hp {H' : Hp} {F : Hp} {a : Addr} {ob : Ob} (k : ∀ b u, H b = some u → (b = a ∨ u = .own a) → H' b = some u) (r : ObRel g G m F H a ob) : ObRel g G m F H' a ob := by
  cases ob with
  | lst xs => obtain ⟨vs, e1, e2, e3, e4⟩ := r; exact ⟨vs, k _ _ e1 (.inl rfl), e2, e3, e4⟩
  | dic ks xs => obtain ⟨us, o, e0, e1, e2, e3, e4⟩ := r; exact ⟨us, o, k _ _ e0 (.inl rfl), e1, e2, e3, e4⟩
  | ins c fs => obtain ⟨C, dx, vs, e0, e1, e2, e3, e4, e5, e6⟩ := r; exact ⟨C, dx, vs, e0, k _ _ e1 (.inl rfl), e2, e3, e4, k _ _ e5 (.inr rfl), e6⟩
  | frz p => exact r
/-- a new thing of the trees -/
theorem HSim.alloc (h : HSim g A G m st H) {p : Addr} {o : HO} (hp : H p = none) : HSim g A (upd G p o) m st (upd H p o) := by
  have gp := h.gnone hp
  have fp := h.fnone hp
  have sG : Same G (upd G p o) := same_upd gp
  have sH : Same H (upd H p o) := same_upd hp
  refine ⟨fun b u q => ?_, fun a u q => ?_, fun b u q => sG _ _ (h.g0 _ _ q), fun a u q => ?_, h.nod, h.len, fun n ob q => ?_, h.tabs.ext sH⟩
  · by_cases e : b = p
    · subst e; rw [upd_same] at q ⊢; exact q
    · rw [upd_ne e] at q ⊢; exact h.sub _ _ q
  · obtain ⟨⟨w, e1⟩, e2⟩ := h.frm a u q
    exact ⟨⟨w, sH _ _ e1⟩, fun z => sH _ _ (e2 z)⟩
  · by_cases e : a = p
    · subst e; exact .inr fp
    · rw [upd_ne e] at q; exact h.new a u q
  · obtain ⟨a, e1, e2⟩ := h.obj n ob q
    refine ⟨a, e1, (e2.mono sG (List.prefix_refl _) fun b e ⟨u, e'⟩ => ?_).hp fun b u q _ => sH _ _ q⟩
    rw [upd_ne (ne_of_none e' hp)]; exact e
theorem HSim.fresh_m (h : HSim g A G m st H) {p : Addr} (hp : H p = none) : p ∉ m := fun hm => by
  obtain ⟨n, hn, e⟩ := List.getElem_of_mem hm
  have hl : n < st.length := by rw [← h.len]; exact hn
  obtain ⟨a, e1, e2⟩ := h.obj n st[n] (List.getElem?_eq_getElem hl)
  rw [List.getElem?_eq_getElem hn, e] at e1
  cases e1
  obtain ⟨u, e3⟩ := e2.live h
  rw [hp] at e3; cases e3
/-- something new that no tree and no store tells of -/
theorem HSim.junk (h : HSim g A G m st H) {p : Addr} {o : HO} (hp : H p = none) : HSim g A G m st (upd H p o) := by
  have sH : Same H (upd H p o) := same_upd hp
  refine ⟨fun b u q => sH _ _ (h.sub _ _ q), fun a u q => ?_, h.g0, h.new, h.nod, h.len, fun n ob q => ?_, h.tabs.ext sH⟩
  · obtain ⟨⟨w, e1⟩, e2⟩ := h.frm a u q
    exact ⟨⟨w, sH _ _ e1⟩, fun z => sH _ _ (e2 z)⟩
  · obtain ⟨a, e1, e2⟩ := h.obj n ob q
    exact ⟨a, e1, e2.hp fun b u q _ => sH _ _ q⟩
/-- a new changeable thing -/
theorem HSim.push (h : HSim g A G m st H) {p : Addr} {o : HO} {ob : Ob} (hp : H p = none) (r : ObRel g G (m ++ [p]) A.F (upd H p o) p ob) : HSim g A G (m ++ [p]) (st ++ [ob]) (upd H p o) := by
  have j := h.junk (o := o) hp
  refine ⟨j.sub, j.frm, j.g0, j.new, ?_, by simp [h.len], fun n ob' q => ?_, j.tabs⟩
  · rw [List.nodup_append]
    refine ⟨h.nod, by simp, fun a ha b hb => ?_⟩
    simp only [List.mem_singleton] at hb
    subst hb
    exact fun e => h.fresh_m hp (e ▸ ha)
  · by_cases hl : n < st.length
    · rw [List.getElem?_append_left hl] at q
      obtain ⟨a, e1, e2⟩ := j.obj n ob' q
      exact ⟨a, pre_get (List.prefix_append ..) e1, e2.mono (Same.refl _) (List.prefix_append ..) fun _ e _ => e⟩
    · have e : n = st.length := by
        have := (List.getElem?_eq_some_iff.mp q).1
        simp at this; omega
      subst e
      rw [List.getElem?_append_right (Nat.le_refl _)] at q
      simp at q
      subst q
      exact ⟨p, by rw [← h.len]; simp, r⟩
theorem nodup_get {m : List Addr} (h : m.Nodup) {i j : Nat} {a : Addr} (e1 : m[i]? = some a) (e2 : m[j]? = some a) : i = j := by
  obtain ⟨h1, q1⟩ := List.getElem?_eq_some_iff.mp e1
  obtain ⟨h2, q2⟩ := List.getElem?_eq_some_iff.mp e2
  exact (List.getElem_inj h).mp (q1.trans q2.symm)
/-- a changeable thing written (its own object alone) -/
theorem HSim.write (h : HSim g A G m st H) {n : Nat} {a : Addr} {u o : HO} {ob : Ob} (hm : m[n]? = some a) (hu : H a = some u) (hG : G a = none) (hF : A.F a = none) (n1 : ∀ ps, u ≠ .tbl ps) (n2 : ∀ φ, u ≠ .ext φ) (n3 : ∀ b, u ≠ .own b)
    (r : ObRel g G m A.F (upd H a o) a ob) : HSim g A G m (st.set n ob) (upd H a o) := by
  have nm : ∀ b, G b ≠ none → b ≠ a := fun b q z => q (z ▸ hG)
  refine ⟨fun b u q => ?_, fun b u q => ?_, h.g0, h.new, h.nod, by simp [h.len], fun k ob' q => ?_, tabs_write h.tabs hu n1 n2⟩
  · rw [upd_ne (nm b (by rw [q]; simp))]; exact h.sub _ _ q
  · have nb : b ≠ a := fun z => by rw [z, hF] at q; cases q
    rw [upd_ne nb]; exact h.frm b u q
  · by_cases e : n = k
    · subst e
      have hl : n < st.length := by rw [← h.len]; exact (List.getElem?_eq_some_iff.mp hm).1
      rw [List.getElem?_set_self hl] at q
      cases q
      exact ⟨a, hm, r⟩
    · rw [List.getElem?_set_ne e] at q
      obtain ⟨b, e1, e2⟩ := h.obj k ob' q
      have nb : b ≠ a := fun z => e (nodup_get h.nod hm (z ▸ e1))
      refine ⟨b, e1, e2.hp fun c w q' hc => ?_⟩
      rcases hc with rfl | rfl
      · rw [upd_ne nb]; exact q'
      · rw [upd_ne (fun z => by rw [z, hu] at q'; exact n3 _ (Option.some.inj q'))]; exact q'
/-- a changeable list becomes a tree -/
theorem HSim.freeze (h : HSim g A G m st H) {n : Nat} {a : Addr} {xs : List EV} {ps : List PV} (hs : st[n]? = some (.lst xs)) (hm : m[n]? = some a) (hp : pvsOf xs = some ps) :
    ∃ G', Same G G' ∧ HSim g A G' m (st.set n (.frz (.lst ps))) H ∧ RelPV g G' (.lst ps) (.ref a) := by
  obtain ⟨a', e1, vs, e2, e3, e4, e5⟩ := h.obj n _ hs
  rw [hm] at e1; cases e1
  have sG : Same G (upd G a (.lst vs)) := same_upd e4
  have rp : RelPV g (upd G a (.lst vs)) (.lst ps) (.ref a) := by
    unfold RelPV
    exact ⟨a, vs, rfl, upd_same, (e3.pvs hp).mono sG⟩
  refine ⟨upd G a (.lst vs), sG, ⟨fun b u q => ?_, h.frm, fun b u q => sG _ _ (h.g0 _ _ q), fun b u q => ?_, h.nod, by simp [h.len], fun k ob' q => ?_, h.tabs⟩, rp⟩
  · by_cases e : b = a
    · subst e; rw [upd_same] at q; cases q; exact e2
    · rw [upd_ne e] at q; exact h.sub _ _ q
  · by_cases e : b = a
    · subst e; exact .inr e5
    · rw [upd_ne e] at q; exact h.new b u q
  · by_cases e : n = k
    · subst e
      rw [List.getElem?_set_self (List.getElem?_eq_some_iff.mp hs).1] at q
      cases q
      exact ⟨a, hm, rp, _, upd_same, fun _ z => nomatch z⟩
    · rw [List.getElem?_set_ne e] at q
      obtain ⟨b, q1, q2⟩ := h.obj k ob' q
      refine ⟨b, q1, ?_⟩
      have nb : b ≠ a := fun z => e (nodup_get h.nod hm (z ▸ q1))
      cases ob' with
      | lst ys => obtain ⟨us, r1, r2, r3, r4⟩ := q2; exact ⟨us, r1, r2.mono sG (List.prefix_refl _), by rw [upd_ne nb]; exact r3, r4⟩
      | dic ks ys => obtain ⟨us, o, r0, r1, r2, r3, r4⟩ := q2; exact ⟨us, o, r0, r1, r2.mono sG (List.prefix_refl _), by rw [upd_ne nb]; exact r3, r4⟩
      | ins c fs =>
        obtain ⟨C, dx, us, r0, r1, r2, r3, r4, r5, r6⟩ := q2
        have nd : dx ≠ a := fun z => by rw [z, e2] at r5; cases r5
        exact ⟨C, dx, us, r0, r1, r2.mono sG (List.prefix_refl _), by rw [upd_ne nb]; exact r3, r4, r5, by rw [upd_ne nd]; exact r6⟩
      | frz p => obtain ⟨r1, u, r2, r3⟩ := q2; exact ⟨r1.mono sG, u, sG _ _ r2, r3⟩
end
end GT

/-! Part B. Readings by functions; expressions. -/
namespace GT
open PySem PySem.Spec PyProof.Rows L2

abbrev Rel (α β : Type) := Hp → List Addr → α → β → Prop
/-- what is wanted of an outcome -/
def Post {α β : Type} (g : Cg) (rel : Rel α β) (W : WX) (A : Act) (G : Hp) (m : List Addr) (σ : L2.St) (Q : β → Hp → Prop) : R α → Prop
  | .stuck => False
  | .ok v st' => ∀ G' m' u H', Same G G' → m <+: m' → HSim g A G' m' st' H' → rel G' m' v u → Q u H'
  | .exc x st' => ∀ G' m' H' cls dd, Same G G' → m <+: m' → HSim g A G' m' st' H' → RelX g G' H' x cls dd → W cls dd σ H'
abbrev D (α : Type) := Env → Store → R α
abbrev DE := D EV
abbrev DT := D Bool
abbrev DA := D (List EV)
/-- a reading by a function -/
def rd {α β : Type} (g : Cg) (rel : Rel α β) (W : WX) (d : D α) : L2.St → Hp → (β → Hp → Prop) → Prop := fun σ H Q =>
  ∃ A G m ρ st, HSim g A G m st H ∧ LocSim g G m ρ σ ∧ Post g rel W A G m σ Q (d ρ st)
abbrev rE (g : Cg) : Rel EV V := RelEV g
abbrev rA (g : Cg) : Rel (List EV) (List V) := RelEVs g
abbrev rB : Rel Bool Bool := fun _ _ a b => a = b
abbrev rdE (g : Cg) (W : WX) (d : DE) : TE := rd g (rE g) W d
abbrev rdA (g : Cg) (W : WX) (d : DA) : TA := rd g (rA g) W d
abbrev rdT (g : Cg) (W : WX) (d : DT) : TT := rd g rB W d

section
variable {α β γ δ : Type} {g : Cg} {rel : Rel α β} {rel' : Rel γ δ} {W : WX} {A : Act} {G G' : Hp} {m m' : List Addr} {σ : L2.St} {Q Q' : β → Hp → Prop} {H : Hp} {st : Store}
theorem Post.mono {r : R α} (e : Same G G') (hm : m <+: m') (h : Post g rel W A G m σ Q r) : Post g rel W A G' m' σ Q r := by
  cases r with
  | stuck => exact h
  | ok v st => exact fun G2 m2 u H2 s l => h G2 m2 u H2 (e.trans s) (hm.trans l)
  | exc x st => exact fun G2 m2 H2 c d s l => h G2 m2 H2 c d (e.trans s) (hm.trans l)
theorem Post.imp {r : R α} (h : Post g rel W A G m σ Q r) (k : ∀ u H, Q u H → Q' u H) : Post g rel W A G m σ Q' r := by
  cases r with
  | stuck => exact h
  | ok v st => exact fun G2 m2 u H2 s l x y => k _ _ (h G2 m2 u H2 s l x y)
  | exc x st => exact h
theorem Post.bind {Q : δ → Hp → Prop} {r : R α} {k : α → Store → R γ} (h : Post g rel' W A G m σ Q (r.bind k)) :
    Post g rel W A G m σ (fun u H' => ∃ G' m' v st', Same G G' ∧ m <+: m' ∧ HSim g A G' m' st' H' ∧ rel G' m' v u ∧ Post g rel' W A G' m' σ Q (k v st')) r := by
  cases r with
  | stuck => exact h
  | ok v st => exact fun G2 m2 u H2 s l x y => ⟨G2, m2, v, st, s, l, x, y, Post.mono s l h⟩
  | exc x st => exact h
theorem Post.ok {v : α} (h : Post g rel W A G m σ Q (.ok v st)) {u : β} (x : HSim g A G m st H) (r : rel G m v u) : Q u H := h G m u H (Same.refl _) (List.prefix_refl _) x r
theorem Post.ok' {v : α} (h : Post g rel W A G m σ Q (.ok v st)) {u : β} (s : Same G G') (l : m <+: m') (x : HSim g A G' m' st H) (r : rel G' m' v u) : Q u H := h G' m' u H s l x r
theorem rd.imp {d : D α} (h : rd g rel W d σ H Q) (k : ∀ u H, Q u H → Q' u H) : rd g rel W d σ H Q' := by
  obtain ⟨A, G, m, ρ, st, h1, h2, h3⟩ := h
  exact ⟨A, G, m, ρ, st, h1, h2, h3.imp k⟩
end

/-- weaker readings -/
theorem pe_w {X : Cx} {e : Expr} {t t' : TE} (h : PE X e t) (k : ∀ σ H Q, t' σ H Q → t σ H Q) : PE X e t' := ⟨fun pins s σ H Q I q => h.run pins s σ H Q I (k σ H Q q)⟩
theorem pt_w {X : Cx} {e : Expr} {t t' : TT} (h : PT X e t) (k : ∀ σ H Q, t' σ H Q → t σ H Q) : PT X e t' := ⟨fun pins s σ H Q I q => h.run pins s σ H Q I (k σ H Q q)⟩
theorem pw_w {X : Cx} {e : Expr} {t t' : TT} (h : PW X e t) (k : ∀ σ H Q, t' σ H Q → t σ H Q) : PW X e t' := ⟨fun w pins s σ H Q I q => h.run w pins s σ H Q I (k σ H Q q)⟩
theorem pa_w {X : Cx} {es : List Expr} {t t' : TA} (h : PA X es t) (k : ∀ σ H Q, t' σ H Q → t σ H Q) : PA X es t' := ⟨fun pos pins s σ H Q I q => h.run pos pins s σ H Q I (k σ H Q q)⟩
theorem ps_w {X : Cx} {st : Stmt} {t t' : TS} (h : PS X st t) (k : ∀ D σ H, t' D σ H → t D σ H) : PS X st t' := ⟨fun pins s σ H Q I q => h.run pins s σ H Q I (k Q σ H q)⟩
theorem pss_w {X : Cx} {st : List Stmt} {t t' : TS} (h : PSs X st t) (k : ∀ D σ H, t' D σ H → t D σ H) : PSs X st t' := ⟨fun pins s σ H Q I q => h.run pins s σ H Q I (k Q σ H q)⟩

/-! ### names, constants -/
def dVar (i : Nat) : DE := fun ρ st => match ρ[i]? with
  | some (some v) => .ok v st
  | _ => .stuck
def dC (p : PV) : DE := fun _ st => .ok (.pv p) st
section
variable {X : Cx} {T : List (Addr × Str)} {W : WX}
abbrev cg (X : Cx) (T : List (Addr × Str)) : Cg := ⟨X.K, X.mg, T⟩
theorem de_var (i : Nat) {x : Str} {pos : Pos} (hN : X.N[i]? = some x := by rfl) (hv : Vis X.env.scope x := by first | exact Or.inl rfl | exact Or.inr (Or.inl rfl) | exact Or.inr (Or.inr rfl)) (hd : (x == ("__debug__" : Str)) = false := by decide)
    (hcd : (x == ("__classdict__" : Str)) = false := by decide) : PE X (.Name x pos) (rdE (cg X T) W (dVar i)) := by
  refine pe_w (pe_var hN hv hd hcd) fun σ H Q h => ?_
  obtain ⟨A, G, m, ρ, st, h1, h2, h3⟩ := h
  unfold dVar at h3
  split at h3
  · rename_i v e
    obtain ⟨u, e1, r⟩ := h2.2 i v e
    exact ⟨u, e1, h3.ok h1 r⟩
  · exact h3.elim
/-- a value that hangs on nothing -/
theorem de_const {e : Expr} {v : V} {p : PV} (h : PE X e (tC v)) (r : ∀ G, RelPV (cg X T) G p v) : PE X e (rdE (cg X T) W (dC p)) := by
  refine pe_w h fun σ H Q h => ?_
  obtain ⟨A, G, m, ρ, st, h1, h2, h3⟩ := h
  exact h3.ok h1 (r G)
theorem de_int {i j pos} : PE X (.Constant (.int i) j pos) (rdE (cg X T) W (dC (.int i))) := de_const pe_int fun _ => rfl
theorem de_bl {b j pos} : PE X (.Constant (.bool b) j pos) (rdE (cg X T) W (dC (.bl b))) := de_const pe_bl fun _ => rfl
theorem de_non {j pos} : PE X (.Constant .none j pos) (rdE (cg X T) W (dC .non)) := de_const pe_non fun _ => rfl
theorem de_str {x j pos} : PE X (.Constant (.str x) j pos) (rdE (cg X T) W (dC (.str x))) := de_const pe_str fun _ => rfl
/-- a constant of the module -/
theorem de_glob {x : Str} {u : Value} {v : V} {p : PV} {pos : Pos} (hm : X.mg x = some u) (rv : RelV v u) (r : ∀ G, RelPV (cg X T) G p v) (hg : Gl X x := by rfl) (hd : (x == ("__debug__" : Str)) = false := by decide) : PE X (.Name x pos) (rdE (cg X T) W (dC p)) :=
  de_const (pe_glob hg hm rv hd) r

/-! ### operators of two, of one -/
def dOp2 (f : EV → EV → Store → R EV) (a b : DE) : DE := fun ρ st => (a ρ st).bind fun x st1 => (b ρ st1).bind fun y st2 => f x y st2
def dOp1 (f : EV → Store → R EV) (a : DE) : DE := fun ρ st => (a ρ st).bind fun x st1 => f x st1
/-- a function of values that agrees with a rule by values -/
def Ag2 (X : Cx) (T : List (Addr × Str)) (f : EV → EV → Store → R EV) (r : R2) : Prop :=
  ∀ (W : WX) (A : Act) (G : Hp) (m : List Addr) (st : Store) (H : Hp) (σ : L2.St) (x y : EV) (u v : V) (Q : VK), HSim (cg X T) A G m st H → RelEV (cg X T) G m x u → RelEV (cg X T) G m y v → Post (cg X T) (rE (cg X T)) W A G m σ Q (f x y st) → r u v H Q
def Ag1 (X : Cx) (T : List (Addr × Str)) (f : EV → Store → R EV) (r : V → Hp → VK → Prop) : Prop :=
  ∀ (W : WX) (A : Act) (G : Hp) (m : List Addr) (st : Store) (H : Hp) (σ : L2.St) (x : EV) (u : V) (Q : VK), HSim (cg X T) A G m st H → RelEV (cg X T) G m x u → Post (cg X T) (rE (cg X T)) W A G m σ Q (f x st) → r u H Q
def AgA (X : Cx) (T : List (Addr × Str)) (f : List EV → Store → R EV) (r : List V → Hp → VK → Prop) : Prop :=
  ∀ (W : WX) (A : Act) (G : Hp) (m : List Addr) (st : Store) (H : Hp) (σ : L2.St) (x : List EV) (u : List V) (Q : VK), HSim (cg X T) A G m st H → RelEVs (cg X T) G m x u → Post (cg X T) (rE (cg X T)) W A G m σ Q (f x st) → r u H Q
variable {da db : DE} {a b : Expr}
theorem rd_op2 {f : EV → EV → Store → R EV} {r : R2} (hf : Ag2 X T f r) {σ : L2.St} {H : Hp} {Q : VK} (h : rdE (cg X T) W (dOp2 f da db) σ H Q) : tOp r (rdE (cg X T) W da) (rdE (cg X T) W db) σ H Q := by
  obtain ⟨A, G, m, ρ, st, h1, h2, h3⟩ := h
  refine ⟨A, G, m, ρ, st, h1, h2, h3.bind.imp fun u H1 ⟨G1, m1, x, st1, s1, l1, k1, r1, q1⟩ => ?_⟩
  refine ⟨A, G1, m1, ρ, st1, k1, h2.mono s1 l1, q1.bind.imp fun v H2 ⟨G2, m2, y, st2, s2, l2, k2, r2, q2⟩ => ?_⟩
  exact hf W A G2 m2 st2 H2 σ x y u v Q k2 (r1.mono s2 l2) r2 q2
theorem rd_op1 {f : EV → Store → R EV} {r : V → Hp → VK → Prop} (hf : Ag1 X T f r) {σ : L2.St} {H : Hp} {Q : VK} (h : rdE (cg X T) W (dOp1 f da) σ H Q) : tUn r (rdE (cg X T) W da) σ H Q := by
  obtain ⟨A, G, m, ρ, st, h1, h2, h3⟩ := h
  refine ⟨A, G, m, ρ, st, h1, h2, h3.bind.imp fun u H1 ⟨G1, m1, x, st1, s1, l1, k1, r1, q1⟩ => ?_⟩
  exact hf W A G1 m1 st1 H1 σ x u Q k1 r1 q1
theorem de_op {op : Operator} {f : EV → EV → Store → R EV} {r : R2} {pos : Pos} (ho : OpR X (binaryOp op) r) (hf : Ag2 X T f r) (ha : PE X a (rdE (cg X T) W da)) (hb : PE X b (rdE (cg X T) W db)) : PE X (.BinOp a op b pos) (rdE (cg X T) W (dOp2 f da db)) :=
  pe_w (pe_op ho ha hb) fun _ _ _ h => rd_op2 hf h
theorem de_cmp {op : CmpOp} {f : EV → EV → Store → R EV} {r : R2} {pos : Pos} (ho : OpR X (compareOp op) r) (hf : Ag2 X T f r) (ha : PE X a (rdE (cg X T) W da)) (hb : PE X b (rdE (cg X T) W db)) (hm : behindInMarks op b = false) : PE X (.Compare a [op] [b] pos) (rdE (cg X T) W (dOp2 f da db)) :=
  pe_w (pe_cmpR ho ha hb hm) fun _ _ _ h => rd_op2 hf h
theorem de_ix {f : EV → EV → Store → R EV} {r : R2} {pos : Pos} (ho : IxR X r) (hf : Ag2 X T f r) (ha : PE X a (rdE (cg X T) W da)) (hb : PE X b (rdE (cg X T) W db)) (hs : PlainIx b) : PE X (.Subscript a b pos) (rdE (cg X T) W (dOp2 f da db)) :=
  pe_w (pe_ix ho ha hb hs) fun _ _ _ h => rd_op2 hf h
theorem de_un {op : UnaryOp} {f : EV → Store → R EV} {r : V → Hp → VK → Prop} {pos : Pos} (ho : UnR X (unaryOp op) r) (hf : Ag1 X T f r) (ha : PE X a (rdE (cg X T) W da)) : PE X (.UnaryOp op a pos) (rdE (cg X T) W (dOp1 f da)) :=
  pe_w (pe_un ho ha) fun _ _ _ h => rd_op1 hf h

/-! ### argument lists -/
def aNil : DA := fun _ st => .ok [] st
def aCons (a : DE) (r : DA) : DA := fun ρ st => (a ρ st).bind fun x st1 => (r ρ st1).bind fun xs st2 => .ok (x :: xs) st2
theorem da_nil : PA X [] (rdA (cg X T) W aNil) := pa_w pa_nil fun σ H Q h => by
  obtain ⟨A, G, m, ρ, st, h1, h2, h3⟩ := h
  exact h3.ok h1 rfl
theorem da_cons {e : Expr} {es : List Expr} {d : DE} {ds : DA} (ha : PE X e (rdE (cg X T) W d)) (hr : PA X es (rdA (cg X T) W ds)) (hs : starEach (e :: es) X.env = (false, eval e X.env) :: starEach es X.env := by rfl) : PA X (e :: es) (rdA (cg X T) W (aCons d ds)) := by
  refine pa_w (pa_cons ha hr hs) fun σ H Q h => ?_
  obtain ⟨A, G, m, ρ, st, h1, h2, h3⟩ := h
  refine ⟨A, G, m, ρ, st, h1, h2, h3.bind.imp fun u H1 ⟨G1, m1, x, st1, s1, l1, k1, r1, q1⟩ => ?_⟩
  refine ⟨A, G1, m1, ρ, st1, k1, h2.mono s1 l1, q1.bind.imp fun v H2 ⟨G2, m2, y, st2, s2, l2, k2, r2, q2⟩ => ?_⟩
  exact q2.ok k2 ⟨u, v, rfl, r1.mono s2 l2, r2⟩
def dApp (f : List EV → Store → R EV) (a : DA) : DE := fun ρ st => (a ρ st).bind fun xs st1 => f xs st1
theorem rd_app {f : List EV → Store → R EV} {r : List V → Hp → VK → Prop} (hf : AgA X T f r) {d : DA} {σ : L2.St} {H : Hp} {Q : VK} (h : rdE (cg X T) W (dApp f d) σ H Q) : rdA (cg X T) W d σ H fun vs H1 => r vs H1 Q := by
  obtain ⟨A, G, m, ρ, st, h1, h2, h3⟩ := h
  refine ⟨A, G, m, ρ, st, h1, h2, h3.bind.imp fun u H1 ⟨G1, m1, x, st1, s1, l1, k1, r1, q1⟩ => ?_⟩
  exact hf W A G1 m1 st1 H1 σ x u Q k1 r1 q1

/-! ### truth, tests -/
def truP : PV → Option Bool
  | .non => some false
  | .bl b => some b
  | .int i => some (i != 0)
  | .str x => if x.length ≤ sizeLine then some ((x.length : Int) != 0) else none
  | .tup xs => some (!xs.isEmpty)
  | .lst xs => some (!xs.isEmpty)
  | .fls xs => some (!xs.isEmpty)
  | _ => none
def truE (x : EV) (st : Store) : R Bool := match x with
  | .pv p => match truP p with
    | some b => .ok b st
    | none => .stuck
  | .ob n => match st[n]? with
    | some (.lst xs) => .ok (!xs.isEmpty) st
    | some (.frz (.lst xs)) => .ok (!xs.isEmpty) st
    | _ => .stuck
theorem isEmpty_rel {g : Cg} {G : Hp} {xs : List PV} {vs : List V} (h : RelPVs g G xs vs) : (!vs.isEmpty) = !xs.isEmpty := by
  have := h.length
  cases xs <;> cases vs <;> simp_all
theorem isEmpty_relE {g : Cg} {G : Hp} {m : List Addr} {xs : List EV} {vs : List V} (h : RelEVs g G m xs vs) : (!vs.isEmpty) = !xs.isEmpty := by
  have := h.length
  cases xs <;> cases vs <;> simp_all
theorem RelPV.lst_inv {g : Cg} {G : Hp} {xs : List PV} {v : V} (h : RelPV g G (.lst xs) v) : ∃ a vs, v = .ref a ∧ G a = some (.lst vs) ∧ RelPVs g G xs vs := by unfold RelPV at h; exact h
theorem RelPV.fls_inv {g : Cg} {G : Hp} {xs : List PV} {v : V} (h : RelPV g G (.fls xs) v) : ∃ a vs, v = .ref a ∧ SqL g.K G a vs ∧ RelPVs g G xs vs := by unfold RelPV at h; exact h
theorem RelPV.tup_inv {g : Cg} {G : Hp} {xs : List PV} {v : V} (h : RelPV g G (.tup xs) v) : ∃ a vs, v = .ref a ∧ SqT g.K G a vs ∧ RelPVs g G xs vs := by unfold RelPV at h; exact h
theorem RelPV.mk_lst {g : Cg} {G : Hp} {xs : List PV} {a : Addr} {vs : List V} (h : G a = some (.lst vs)) (r : RelPVs g G xs vs) : RelPV g G (.lst xs) (.ref a) := by unfold RelPV; exact ⟨a, vs, rfl, h, r⟩
theorem RelPV.mk_tup {g : Cg} {G : Hp} {xs : List PV} {a : Addr} {vs : List V} (h : SqT g.K G a vs) (r : RelPVs g G xs vs) : RelPV g G (.tup xs) (.ref a) := by unfold RelPV; exact ⟨a, vs, rfl, h, r⟩
theorem HSim.ob_lst {g : Cg} {A : Act} {G : Hp} {m : List Addr} {st : Store} {H : Hp} (h : HSim g A G m st H) {n : Nat} {xs : List EV} {v : V} (r : RelEV g G m (.ob n) v) (e : st[n]? = some (.lst xs)) :
    ∃ a vs, v = .ref a ∧ m[n]? = some a ∧ H a = some (.lst vs) ∧ RelEVs g G m xs vs ∧ G a = none ∧ A.F a = none := by
  obtain ⟨a, e1, rfl⟩ := r
  obtain ⟨a', e2, vs, q1, q2, q3, q4⟩ := h.obj n _ e
  rw [e1] at e2; cases e2
  exact ⟨a, vs, rfl, e1, q1, q2, q3, q4⟩
theorem HSim.ob_frz {g : Cg} {A : Act} {G : Hp} {m : List Addr} {st : Store} {H : Hp} (h : HSim g A G m st H) {n : Nat} {p : PV} {v : V} (r : RelEV g G m (.ob n) v) (e : st[n]? = some (.frz p)) : RelPV g G p v := by
  obtain ⟨a, e1, rfl⟩ := r
  obtain ⟨a', e2, q, _⟩ := h.obj n _ e
  rw [e1] at e2; cases e2
  exact q
theorem tru_rel {g : Cg} {A : Act} {G : Hp} {m : List Addr} {st : Store} {H : Hp} {σ : L2.St} {x : EV} {u : V} {Q : Bool → Hp → Prop} (hs : HSim g A G m st H) (r : RelEV g G m x u) (h : Post g rB W A G m σ Q (truE x st)) : ∃ k, TruV g.K u H k ∧ Q k H := by
  cases x with
  | pv p =>
    simp only [truE] at h
    cases hp : truP p with
    | none => rw [hp] at h; exact h.elim
    | some b =>
      rw [hp] at h
      refine ⟨b, ?_, h.ok hs rfl⟩
      cases p with
      | non => cases r; simp only [truP] at hp; cases hp; exact rfl
      | bl c => cases r; simp only [truP] at hp; cases hp; exact rfl
      | int i => cases r; simp only [truP] at hp; cases hp; exact rfl
      | str y =>
        cases r
        simp only [truP] at hp
        split at hp
        · cases hp; exact ⟨by assumption, rfl⟩
        · cases hp
      | tup xs =>
        obtain ⟨a, vs, rfl, q1, q2⟩ := RelPV.tup_inv r
        simp only [truP] at hp; cases hp
        exact .inr (.inl ⟨vs, SqT.mono hs.sub q1, (isEmpty_rel q2).symm⟩)
      | lst xs =>
        obtain ⟨a, vs, rfl, q1, q2⟩ := RelPV.lst_inv r
        simp only [truP] at hp; cases hp
        exact .inl ⟨vs, .of (hs.sub _ _ q1), (isEmpty_rel q2).symm⟩
      | fls xs =>
        obtain ⟨a, vs, rfl, q1, q2⟩ := RelPV.fls_inv r
        simp only [truP] at hp; cases hp
        exact .inl ⟨vs, hs.sub.seq q1, (isEmpty_rel q2).symm⟩
      | rng _ _ => cases hp
      | dic _ _ => cases hp
      | glob _ => cases hp
  | ob n =>
    simp only [truE] at h
    split at h
    · rename_i xs e
      obtain ⟨a, vs, rfl, _, q1, q2, _⟩ := hs.ob_lst r e
      exact ⟨_, .inl ⟨vs, .of q1, (isEmpty_relE q2).symm⟩, h.ok hs rfl⟩
    · rename_i xs e
      obtain ⟨a, vs, rfl, q1, q2⟩ := RelPV.lst_inv (hs.ob_frz r e)
      exact ⟨_, .inl ⟨vs, .of (hs.sub _ _ q1), (isEmpty_rel q2).symm⟩, h.ok hs rfl⟩
    · exact h.elim
def tTru (a : DE) : DT := fun ρ st => (a ρ st).bind fun x st1 => truE x st1
theorem dt_truth (ha : PE X a (rdE (cg X T) W da)) (he : ∀ whole, isTrue a X.env whole = (do let v ← whole; standAt a.pos; holding [v] (truthy v)) := by intro _; rfl) : PT X a (rdT (cg X T) W (tTru da)) := by
  refine pt_w (pt_truth ha he) fun σ H Q h => ?_
  obtain ⟨A, G, m, ρ, st, h1, h2, h3⟩ := h
  refine ⟨A, G, m, ρ, st, h1, h2, h3.bind.imp fun u H1 ⟨G1, m1, x, st1, s1, l1, k1, r1, q1⟩ => ?_⟩
  exact tru_rel k1 r1 q1
/-- a bool value as a test -/
def blE (x : EV) (st : Store) : R Bool := match x with
  | .pv (.bl b) => .ok b st
  | _ => .stuck
def tBl (a : DE) : DT := fun ρ st => (a ρ st).bind fun x st1 => blE x st1
theorem rd_bl {σ : L2.St} {H : Hp} {Q : Bool → Hp → Prop} (h : rdT (cg X T) W (tBl da) σ H Q) : tTest (rdE (cg X T) W da) σ H Q := by
  obtain ⟨A, G, m, ρ, st, h1, h2, h3⟩ := h
  refine ⟨A, G, m, ρ, st, h1, h2, h3.bind.imp fun u H1 ⟨G1, m1, x, st1, s1, l1, k1, r1, q1⟩ => ?_⟩
  unfold blE at q1
  split at q1
  · rename_i b
    cases r1
    exact ⟨b, rfl, q1.ok k1 rfl⟩
  · exact q1.elim
theorem dt_cmp {op : CmpOp} {f : EV → EV → Store → R EV} {r : R2} {pos : Pos} (ho : OpR X (compareOp op) r) (hf : Ag2 X T f r) (ha : PE X a (rdE (cg X T) W da)) (hb : PE X b (rdE (cg X T) W db)) (hm : behindInMarks op b = false) : PT X (.Compare a [op] [b] pos) (rdT (cg X T) W (tBl (dOp2 f da db))) := by
  refine pt_w (pt_cmpR ho ha hb hm) fun σ H Q h => ?_
  have h' := rd_bl h
  obtain ⟨A, G, m, ρ, st, h1, h2, h3⟩ := h'
  exact rd_op2 hf ⟨A, G, m, ρ, st, h1, h2, h3⟩
def tNotD (a : DT) : DT := fun ρ st => (a ρ st).bind fun b st1 => .ok (!b) st1
theorem dt_not {e : Expr} {d : DT} {pos : Pos} (ha : PT X e (rdT (cg X T) W d)) : PT X (.UnaryOp .Not e pos) (rdT (cg X T) W (tNotD d)) := by
  refine pt_w (pt_not ha) fun σ H Q h => ?_
  obtain ⟨A, G, m, ρ, st, h1, h2, h3⟩ := h
  refine ⟨A, G, m, ρ, st, h1, h2, h3.bind.imp fun u H1 ⟨G1, m1, x, st1, s1, l1, k1, r1, q1⟩ => ?_⟩
  have e : x = u := r1
  subst e
  exact q1.ok k1 rfl
def tAndD (a b : DT) : DT := fun ρ st => (a ρ st).bind fun c st1 => if c = true then b ρ st1 else .ok false st1
def tOrD (a b : DT) : DT := fun ρ st => (a ρ st).bind fun c st1 => if c = true then .ok true st1 else b ρ st1
theorem dw_and1 {d : DT} {pos : Pos} (ha : PT X a (rdT (cg X T) W d)) : PW X (.BoolOp .And [a] pos) (rdT (cg X T) W d) := pw_and1 ha
theorem dw_or1 {d : DT} {pos : Pos} (ha : PT X a (rdT (cg X T) W d)) : PW X (.BoolOp .Or [a] pos) (rdT (cg X T) W d) := pw_or1 ha
theorem dw_and {d d' : DT} {rest : List Expr} {pos : Pos} (ha : PT X a (rdT (cg X T) W d)) (hb : PW X (.BoolOp .And (b :: rest) pos) (rdT (cg X T) W d')) : PW X (.BoolOp .And (a :: b :: rest) pos) (rdT (cg X T) W (tAndD d d')) := by
  refine pw_w (pw_and ha hb) fun σ H Q h => ?_
  obtain ⟨A, G, m, ρ, st, h1, h2, h3⟩ := h
  refine ⟨A, G, m, ρ, st, h1, h2, h3.bind.imp fun u H1 ⟨G1, m1, x, st1, s1, l1, k1, r1, q1⟩ => ?_⟩
  have e : x = u := r1
  subst e
  cases x with
  | true => exact ⟨A, G1, m1, ρ, st1, k1, h2.mono s1 l1, q1⟩
  | false => exact q1.ok k1 rfl
theorem dw_or {d d' : DT} {rest : List Expr} {pos : Pos} (ha : PT X a (rdT (cg X T) W d)) (hb : PW X (.BoolOp .Or (b :: rest) pos) (rdT (cg X T) W d')) : PW X (.BoolOp .Or (a :: b :: rest) pos) (rdT (cg X T) W (tOrD d d')) := by
  refine pw_w (pw_or ha hb) fun σ H Q h => ?_
  obtain ⟨A, G, m, ρ, st, h1, h2, h3⟩ := h
  refine ⟨A, G, m, ρ, st, h1, h2, h3.bind.imp fun u H1 ⟨G1, m1, x, st1, s1, l1, k1, r1, q1⟩ => ?_⟩
  have e : x = u := r1
  subst e
  cases x with
  | true => exact q1.ok k1 rfl
  | false => exact ⟨A, G1, m1, ρ, st1, k1, h2.mono s1 l1, q1⟩
/-- and, or, not as values -/
def dAnd (a b : DE) : DE := fun ρ st => (a ρ st).bind fun x st1 => (truE x st1).bind fun c st2 => if c = true then b ρ st2 else .ok x st2
def dOr (a b : DE) : DE := fun ρ st => (a ρ st).bind fun x st1 => (truE x st1).bind fun c st2 => if c = true then .ok x st2 else b ρ st2
def dNot (a : DE) : DE := fun ρ st => (a ρ st).bind fun x st1 => (truE x st1).bind fun c st2 => .ok (.pv (.bl (!c))) st2
theorem truE_st {x : EV} {st st' : Store} {b : Bool} (h : truE x st = .ok b st') : st' = st := by
  unfold truE at h
  split at h
  · split at h
    · cases h; rfl
    · cases h
  · split at h
    · cases h; rfl
    · cases h; rfl
    · cases h
theorem truE_noexc {x : EV} {st st' : Store} {z : PX} : truE x st ≠ .exc z st' := fun h => by
  unfold truE at h
  split at h
  · split at h <;> cases h
  · split at h <;> cases h
theorem de_one {op} {d : DE} {pos : Pos} (h : PE X a (rdE (cg X T) W d)) : PE X (.BoolOp op [a] pos) (rdE (cg X T) W d) := pe_one h
theorem tru_step {β : Type} {g : Cg} {A : Act} {G : Hp} {m : List Addr} {st : Store} {H : Hp} {σ : L2.St} {x : EV} {u : V} {γ : Type} {rel : Rel γ β} {Q : β → Hp → Prop} {k : Bool → Store → R γ} (hs : HSim g A G m st H) (r : RelEV g G m x u)
    (h : Post g rel W A G m σ Q ((truE x st).bind k)) : ∃ c, TruV g.K u H c ∧ Post g rel W A G m σ Q (k c st) := by
  have h' : Post g rB W A G m σ (fun c H' => H' = H → Post g rel W A G m σ Q (k c st)) (truE x st) := by
    cases ht : truE x st with
    | stuck => rw [ht] at h; exact h
    | exc z st' => exact absurd ht truE_noexc
    | ok b st' =>
      rw [ht] at h
      have e := truE_st ht
      subst e
      intro G2 m2 c H2 _ _ _ e _
      have e : b = c := e
      subst e
      exact h
  obtain ⟨c, q1, q2⟩ := tru_rel hs r h'
  exact ⟨c, q1, q2 rfl⟩
theorem de_and {d d' : DE} {rest : List Expr} {pos : Pos} (ha : PE X a (rdE (cg X T) W d)) (hb : PE X (.BoolOp .And (b :: rest) pos) (rdE (cg X T) W d')) : PE X (.BoolOp .And (a :: b :: rest) pos) (rdE (cg X T) W (dAnd d d')) := by
  refine pe_w (pe_andT ha hb) fun σ H Q h => ?_
  obtain ⟨A, G, m, ρ, st, h1, h2, h3⟩ := h
  refine ⟨A, G, m, ρ, st, h1, h2, h3.bind.imp fun u H1 ⟨G1, m1, x, st1, s1, l1, k1, r1, q1⟩ => ?_⟩
  obtain ⟨c, t1, t2⟩ := tru_step k1 r1 q1
  refine ⟨c, t1, ?_⟩
  cases c with
  | true => exact ⟨A, G1, m1, ρ, st1, k1, h2.mono s1 l1, t2⟩
  | false => exact t2.ok k1 r1
theorem de_or {d d' : DE} {rest : List Expr} {pos : Pos} (ha : PE X a (rdE (cg X T) W d)) (hb : PE X (.BoolOp .Or (b :: rest) pos) (rdE (cg X T) W d')) : PE X (.BoolOp .Or (a :: b :: rest) pos) (rdE (cg X T) W (dOr d d')) := by
  refine pe_w (pe_orT ha hb) fun σ H Q h => ?_
  obtain ⟨A, G, m, ρ, st, h1, h2, h3⟩ := h
  refine ⟨A, G, m, ρ, st, h1, h2, h3.bind.imp fun u H1 ⟨G1, m1, x, st1, s1, l1, k1, r1, q1⟩ => ?_⟩
  obtain ⟨c, t1, t2⟩ := tru_step k1 r1 q1
  refine ⟨c, t1, ?_⟩
  cases c with
  | true => exact t2.ok k1 r1
  | false => exact ⟨A, G1, m1, ρ, st1, k1, h2.mono s1 l1, t2⟩
theorem de_not {d : DE} {pos : Pos} (ha : PE X a (rdE (cg X T) W d)) : PE X (.UnaryOp .Not a pos) (rdE (cg X T) W (dNot d)) := by
  refine pe_w (pe_notT ha) fun σ H Q h => ?_
  obtain ⟨A, G, m, ρ, st, h1, h2, h3⟩ := h
  refine ⟨A, G, m, ρ, st, h1, h2, h3.bind.imp fun u H1 ⟨G1, m1, x, st1, s1, l1, k1, r1, q1⟩ => ?_⟩
  obtain ⟨c, t1, t2⟩ := tru_step k1 r1 q1
  exact ⟨c, t1, t2.ok k1 rfl⟩
/-- a if t else b -/
def dIfE (c : DT) (a b : DE) : DE := fun ρ st => (c ρ st).bind fun k st1 => if k = true then a ρ st1 else b ρ st1
theorem de_if {c : Expr} {dc : DT} {pos : Pos} (hc : PT X c (rdT (cg X T) W dc)) (ha : PE X a (rdE (cg X T) W da)) (hb : PE X b (rdE (cg X T) W db)) : PE X (.IfExp c a b pos) (rdE (cg X T) W (dIfE dc da db)) := by
  refine pe_w (pe_ifExp hc ha hb) fun σ H Q h => ?_
  obtain ⟨A, G, m, ρ, st, h1, h2, h3⟩ := h
  refine ⟨A, G, m, ρ, st, h1, h2, h3.bind.imp fun u H1 ⟨G1, m1, x, st1, s1, l1, k1, r1, q1⟩ => ?_⟩
  have e : x = u := r1
  subst e
  cases x with
  | true => exact ⟨A, G1, m1, ρ, st1, k1, h2.mono s1 l1, q1⟩
  | false => exact ⟨A, G1, m1, ρ, st1, k1, h2.mono s1 l1, q1⟩
/-- a < b <= c -/
def dChain (f f' : EV → EV → Store → R EV) (a b c : DE) : DE := fun ρ st => (a ρ st).bind fun x st1 => (b ρ st1).bind fun y st2 => (f x y st2).bind fun z st3 => (blE z st3).bind fun k st4 => if k = true then (c ρ st4).bind fun w st5 => f' y w st5 else .ok (.pv (.bl false)) st4
theorem rd_chain {f f' : EV → EV → Store → R EV} {r r' : R2} {dc : DE} (hf : Ag2 X T f r) (hf' : Ag2 X T f' r') {σ : L2.St} {H : Hp} {Q : VK} (h : rdE (cg X T) W (dChain f f' da db dc) σ H Q) : tChain r r' (rdE (cg X T) W da) (rdE (cg X T) W db) (rdE (cg X T) W dc) σ H Q := by
  obtain ⟨A, G, m, ρ, st, h1, h2, h3⟩ := h
  refine ⟨A, G, m, ρ, st, h1, h2, h3.bind.imp fun u H1 ⟨G1, m1, x, st1, s1, l1, k1, r1, q1⟩ => ?_⟩
  refine ⟨A, G1, m1, ρ, st1, k1, h2.mono s1 l1, q1.bind.imp fun v H2 ⟨G2, m2, y, st2, s2, l2, k2, r2, q2⟩ => ?_⟩
  refine hf W A G2 m2 st2 H2 σ x y u v _ k2 (r1.mono s2 l2) r2 (q2.bind.imp fun z H3 ⟨G3, m3, zz, st3, s3, l3, k3, r3, q3⟩ => ?_)
  unfold blE at q3
  split at q3
  · rename_i b
    cases r3
    refine ⟨b, rfl, ?_⟩
    cases b with
    | true =>
      rw [if_pos rfl]
      refine ⟨A, G3, m3, ρ, st3, k3, ((h2.mono s1 l1).mono s2 l2).mono s3 l3, (show Post _ _ W A G3 m3 σ Q ((dc ρ st3).bind fun w st5 => f' y w st5) from q3).bind.imp fun w H4 ⟨G4, m4, ww, st4, s4, l4, k4, r4, q4⟩ => ?_⟩
      exact hf' W A G4 m4 st4 H4 σ y ww v w Q k4 ((r2.mono s3 l3).mono s4 l4) r4 q4
    | false =>
      rw [if_neg Bool.false_ne_true]
      exact (show Post _ _ W A G3 m3 σ Q (R.ok (EV.pv (PV.bl false)) st3) from q3).ok k3 rfl
  · exact q3.elim
theorem de_chain {op op' : CmpOp} {f f' : EV → EV → Store → R EV} {r r' : R2} {c : Expr} {dc : DE} {pos : Pos} (ho : OpR X (compareOp op) r) (ho' : OpR X (compareOp op') r') (hf : Ag2 X T f r) (hf' : Ag2 X T f' r') (ha : PE X a (rdE (cg X T) W da)) (hb : PE X b (rdE (cg X T) W db)) (hc : PE X c (rdE (cg X T) W dc))
    (hm : lastMarks [op, op'] [b, c] = false := by with_unfolding_all rfl) : PE X (.Compare a [op, op'] [b, c] pos) (rdE (cg X T) W (dChain f f' da db dc)) :=
  pe_w (pe_chain ho ho' ha hb hc hm) fun _ _ _ h => rd_chain hf hf' h
theorem dt_chain {op op' : CmpOp} {f f' : EV → EV → Store → R EV} {r r' : R2} {c : Expr} {dc : DE} {pos : Pos} (ho : OpR X (compareOp op) r) (ho' : OpR X (compareOp op') r') (hf : Ag2 X T f r) (hf' : Ag2 X T f' r') (ha : PE X a (rdE (cg X T) W da)) (hb : PE X b (rdE (cg X T) W db)) (hc : PE X c (rdE (cg X T) W dc))
    (hm : lastMarks [op, op'] [b, c] = false := by with_unfolding_all rfl) : PT X (.Compare a [op, op'] [b, c] pos) (rdT (cg X T) W (tBl (dChain f f' da db dc))) :=
  pt_w (pt_chain ho ho' ha hb hc hm) fun _ _ _ h => rd_chain hf hf' (rd_bl h)
end
end GT

/-! Part C. Operators by values. -/
namespace GT
open PySem PySem.Spec PyProof.Rows L2

/-! ### new things -/
section
variable {g : Cg} {W : WX} {A : Act} {G : Hp} {m : List Addr} {st : Store} {H : Hp} {σ : L2.St} {Q : VK}
theorem Post.newTup {xs : List PV} {vs : List V} (h : Post g (rE g) W A G m σ Q (.ok (.pv (.tup xs)) st)) (hs : HSim g A G m st H) (r : RelPVs g G xs vs) : ∀ p, H p = none → Q (.ref p) (upd H p (.tup vs)) := fun p hp =>
  h.ok' (same_upd (hs.gnone hp)) (List.prefix_refl _) (hs.alloc hp) (RelPV.mk_tup (.of upd_same) (r.mono (same_upd (hs.gnone hp))))
theorem Post.newLst {xs : List PV} {vs : List V} (h : Post g (rE g) W A G m σ Q (.ok (.pv (.lst xs)) st)) (hs : HSim g A G m st H) (r : RelPVs g G xs vs) : ∀ p, H p = none → Q (.ref p) (upd H p (.lst vs)) := fun p hp =>
  h.ok' (same_upd (hs.gnone hp)) (List.prefix_refl _) (hs.alloc hp) (RelPV.mk_lst upd_same (r.mono (same_upd (hs.gnone hp))))
theorem Post.newOb {xs : List EV} {vs : List V} (h : Post g (rE g) W A G m σ Q (.ok (.ob st.length) (st ++ [.lst xs]))) (hs : HSim g A G m st H) (r : RelEVs g G m xs vs) : ∀ p, H p = none → Q (.ref p) (upd H p (.lst vs)) := fun p hp =>
  h.ok' (Same.refl _) (List.prefix_append m [p]) (hs.push (ob := .lst xs) hp ⟨vs, upd_same, r.mono (Same.refl _) (List.prefix_append ..), hs.gnone hp, hs.fnone hp⟩) ⟨p, by rw [← hs.len]; simp, rfl⟩
/-- a new list, as a tree or as a changeable thing -/
def newL (o : Bool) (xs : List EV) (st : Store) : R EV := if o = true then .ok (.ob st.length) (st ++ [.lst xs]) else match pvsOf xs with
  | some ps => .ok (.pv (.lst ps)) st
  | none => .stuck
@[simp] theorem newL_o (xs : List EV) (st : Store) : newL true xs st = .ok (.ob st.length) (st ++ [.lst xs]) := (rfl)
@[simp] theorem newL_v (ps : List PV) (st : Store) : newL false (ps.map EV.pv) st = .ok (.pv (.lst ps)) st := by simp [newL, pvsOf_map]
theorem Post.newL {o : Bool} {xs : List EV} {vs : List V} (h : Post g (rE g) W A G m σ Q (newL o xs st)) (hs : HSim g A G m st H) (r : RelEVs g G m xs vs) : ∀ p, H p = none → Q (.ref p) (upd H p (.lst vs)) := by
  unfold GT.newL at h
  split at h
  · exact Post.newOb h hs r
  · split at h
    · rename_i ps e
      exact Post.newLst h hs (r.pvs e)
    · exact h.elim
/-- the items of a list -/
def asL (x : EV) (st : Store) : Option (List EV) := match x with
  | .pv (.lst xs) => some (xs.map EV.pv)
  | .ob n => match st[n]? with
    | some (.lst xs) => some xs
    | some (.frz (.lst xs)) => some (xs.map EV.pv)
    | _ => none
  | _ => none
theorem asL_rel {x : EV} {v : V} {xs : List EV} (hs : HSim g A G m st H) (r : RelEV g G m x v) (h : asL x st = some xs) : ∃ a vs, v = .ref a ∧ H a = some (.lst vs) ∧ RelEVs g G m xs vs := by
  unfold asL at h
  split at h
  · cases h
    obtain ⟨a, vs, rfl, q1, q2⟩ := RelPV.lst_inv r
    exact ⟨a, vs, rfl, hs.sub _ _ q1, q2.evs⟩
  · split at h
    · rename_i xs' e
      cases h
      obtain ⟨a, vs, rfl, _, q1, q2, _⟩ := hs.ob_lst r e
      exact ⟨a, vs, rfl, q1, q2⟩
    · rename_i xs' e
      cases h
      obtain ⟨a, vs, rfl, q1, q2⟩ := RelPV.lst_inv (hs.ob_frz r e)
      exact ⟨a, vs, rfl, hs.sub _ _ q1, q2.evs⟩
    · cases h
  · cases h
/-- the items of a list or a tuple, read -/
inductive Sq where
  | l | t
def asS (x : EV) (st : Store) : Option (Sq × List EV) := match x with
  | .pv (.lst xs) => some (.l, xs.map EV.pv)
  | .pv (.fls xs) => some (.l, xs.map EV.pv)
  | .pv (.tup xs) => some (.t, xs.map EV.pv)
  | .ob n => match st[n]? with
    | some (.lst xs) => some (.l, xs)
    | some (.frz (.lst xs)) => some (.l, xs.map EV.pv)
    | _ => none
  | _ => none
def SqE (K : PySem.W.Frag) (H : Hp) (a : Addr) (vs : List V) : Sq → Prop
  | .l => SqL K H a vs
  | .t => SqT K H a vs
theorem SqE.or {K : PySem.W.Frag} {H : Hp} {a : Addr} {vs : List V} : ∀ {q : Sq}, SqE K H a vs q → SqL K H a vs ∨ SqT K H a vs
  | .l, h => .inl h
  | .t, h => .inr h
theorem asS_rel {x : EV} {v : V} {q : Sq} {xs : List EV} (hs : HSim g A G m st H) (r : RelEV g G m x v) (h : asS x st = some (q, xs)) : ∃ a vs, v = .ref a ∧ SqE g.K H a vs q ∧ RelEVs g G m xs vs := by
  unfold asS at h
  split at h
  · cases h
    obtain ⟨a, vs, rfl, q1, q2⟩ := RelPV.lst_inv r
    exact ⟨a, vs, rfl, .of (hs.sub _ _ q1), q2.evs⟩
  · cases h
    obtain ⟨a, vs, rfl, q1, q2⟩ := RelPV.fls_inv r
    exact ⟨a, vs, rfl, hs.sub.seq q1, q2.evs⟩
  · cases h
    obtain ⟨a, vs, rfl, q1, q2⟩ := RelPV.tup_inv r
    exact ⟨a, vs, rfl, SqT.mono hs.sub q1, q2.evs⟩
  · split at h
    · rename_i xs' e
      cases h
      obtain ⟨a, vs, rfl, _, q1, q2, _⟩ := hs.ob_lst r e
      exact ⟨a, vs, rfl, .of q1, q2⟩
    · rename_i xs' e
      cases h
      obtain ⟨a, vs, rfl, q1, q2⟩ := RelPV.lst_inv (hs.ob_frz r e)
      exact ⟨a, vs, rfl, .of (hs.sub _ _ q1), q2.evs⟩
    · cases h
  · cases h
end

/-! ### lifting functions of trees -/
def p2 (f : PV → PV → Option PV) (x y : EV) (st : Store) : R EV := match x, y with
  | .pv p, .pv q => match f p q with
    | some r => .ok (.pv r) st
    | none => .stuck
  | _, _ => .stuck
def p1 (f : PV → Option PV) (x : EV) (st : Store) : R EV := match x with
  | .pv p => match f p with
    | some r => .ok (.pv r) st
    | none => .stuck
  | _ => .stuck
section
variable {X : Cx} {T : List (Addr × Str)}
/-- of two ints -/
def i2 (f : Int → Int → Option PV) : PV → PV → Option PV
  | .int i, .int j => f i j
  | _, _ => none
theorem p2_i2 {W : WX} {A : Act} {G : Hp} {m : List Addr} {st : Store} {H : Hp} {σ : L2.St} {Q : VK} {g : Cg} {f : Int → Int → Option PV} {x y : EV} {u v : V} (hs : HSim g A G m st H) (rx : RelEV g G m x u) (ry : RelEV g G m y v) (h : Post g (rE g) W A G m σ Q (p2 (i2 f) x y st)) :
    ∃ i j p, u = .int i ∧ v = .int j ∧ f i j = some p ∧ ∀ w, RelPV g G p w → Q w H := by
  unfold p2 at h
  split at h
  · rename_i p q
    split at h
    · rename_i r e
      unfold i2 at e
      split at e
      · rename_i i j
        cases rx
        cases ry
        exact ⟨i, j, r, rfl, rfl, e, fun w hw => h.ok hs hw⟩
      · cases e
    · exact h.elim
  · exact h.elim
theorem ag_i {C : Int → Int → Prop} {g : Int → Int → V} {f : Int → Int → Option PV} (hf : ∀ i j p, f i j = some p → C i j ∧ ∀ c G, RelPV c G p (g i j)) : Ag2 X T (p2 (i2 f)) (rI C g) := by
  intro W A G m st H σ x y u v Q hs rx ry h
  obtain ⟨i, j, p, rfl, rfl, e, k⟩ := p2_i2 hs rx ry h
  obtain ⟨c, r⟩ := hf i j p e
  exact ⟨i, j, rfl, rfl, c, k _ (r _ _)⟩
theorem ag_i0 {g : Int → Int → V} {f : Int → Int → Option PV} (hf : ∀ i j p, f i j = some p → ∀ c G, RelPV c G p (g i j)) : Ag2 X T (p2 (i2 f)) (rI0 g) := by
  intro W A G m st H σ x y u v Q hs rx ry h
  obtain ⟨i, j, p, rfl, rfl, e, k⟩ := p2_i2 hs rx ry h
  exact ⟨i, j, rfl, rfl, k _ (hf i j p e _ _)⟩
theorem Ag2.alt {f f' : EV → EV → Store → R EV} {r r' : R2} (h : Ag2 X T f r) (h' : Ag2 X T f' r') : Ag2 X T (fun x y st => match f x y st with | .stuck => f' x y st | z => z) (fun x y H Q => r x y H Q ∨ r' x y H Q) := by
  intro W A G m st H σ x y u v Q hs rx ry q
  cases e : f x y st with
  | stuck =>
    simp only [e] at q
    exact .inr (h' W A G m st H σ x y u v Q hs rx ry q)
  | ok a s =>
    simp only [e] at q
    exact .inl (h W A G m st H σ x y u v Q hs rx ry (by rw [e]; exact q))
  | exc z s =>
    simp only [e] at q
    exact .inl (h W A G m st H σ x y u v Q hs rx ry (by rw [e]; exact q))

/-! ### + -/
def addE (x y : EV) (st : Store) : R EV := match x, y with
  | .pv (.int i), .pv (.int j) => .ok (.pv (.int (i + j))) st
  | .pv (.str a), .pv (.str b) => if a.length + b.length ≤ sizeLine then .ok (.pv (.str (a ++ b))) st else .stuck
  | .pv (.tup xs), .pv (.tup ys) => if xs.length + ys.length ≤ sizeLine then .ok (.pv (.tup (xs ++ ys))) st else .stuck
  | x, y => match asL x st, asL y st with
    | some xs, some ys => if xs.length + ys.length ≤ sizeLine then newL false (xs ++ ys) st else .stuck
    | _, _ => .stuck
def rAdd4 (K : PySem.W.Frag) : R2 := fun x y H Q => ((rI0 fun i j => .int (i + j)) x y H Q ∨ (∃ i j, x = .str i ∧ y = .str j ∧ i.length + j.length ≤ sizeLine ∧ Q (.str (i ++ j)) H)) ∨ (rCatA K x y H Q ∨ rCat x y H Q)
theorem op_add4 : OpR X (binaryOp .Add) (rAdd4 X.K) := (op_add.or op_add_str).or (op_catA.or op_cat)
theorem ag_add : Ag2 X T addE (rAdd4 X.K) := by
  intro W A G m st H σ x y u v Q hs rx ry h
  unfold addE at h
  split at h
  · cases rx; cases ry
    exact .inl (.inl ⟨_, _, rfl, rfl, h.ok hs rfl⟩)
  · split at h
    · rename_i hz
      cases rx; cases ry
      exact .inl (.inr ⟨_, _, rfl, rfl, hz, h.ok hs rfl⟩)
    · exact h.elim
  · split at h
    · rename_i xs ys hz
      obtain ⟨a, vs, rfl, q1, q2⟩ := RelPV.tup_inv rx
      obtain ⟨b, us, rfl, q3, q4⟩ := RelPV.tup_inv ry
      refine .inr (.inl ⟨a, b, vs, us, rfl, rfl, SqT.mono hs.sub q1, SqT.mono hs.sub q3, by rw [q2.length, q4.length]; exact hz, fun e => ?_, fun _ e => ?_, fun _ _ => ?_⟩)
      · subst e
        have e2 : xs = [] := List.eq_nil_of_length_eq_zero (by rw [← q2.length]; rfl)
        subst e2
        exact h.ok hs (RelPV.mk_tup q3 (by simpa using q4))
      · subst e
        have e2 : ys = [] := List.eq_nil_of_length_eq_zero (by rw [← q4.length]; rfl)
        subst e2
        exact h.ok hs (RelPV.mk_tup q1 (by simpa using q2))
      · exact h.newTup hs (q2.append q4)
    · exact h.elim
  · split at h
    · rename_i xs ys e1 e2
      split at h
      · rename_i hz
        obtain ⟨a, vs, rfl, q1, q2⟩ := asL_rel hs rx e1
        obtain ⟨b, us, rfl, q3, q4⟩ := asL_rel hs ry e2
        exact .inr (.inr ⟨a, b, vs, us, rfl, rfl, q1, q3, by rw [q2.length, q4.length]; exact hz, h.newL hs (q2.append q4)⟩)
      · exact h.elim
    · exact h.elim

/-! ### - * % // -/
def subP : PV → PV → Option PV := i2 fun i j => some (.int (i - j))
theorem ag_sub : Ag2 X T (p2 subP) (rI0 fun i j => .int (i - j)) := ag_i0 fun i j p e c G => by cases e; rfl
def smI (i : Int) : Bool := decide (-18446744073709551616 < i) && decide (i < 18446744073709551616)
def mulP : PV → PV → Option PV := i2 fun i j => if smI i || smI j then some (.int (i * j)) else none
theorem ag_mul : Ag2 X T (p2 mulP) (rI CMul fun i j => .int (i * j)) := ag_i fun i j p e => by
  split at e
  · rename_i h
    cases e
    refine ⟨?_, fun _ _ => rfl⟩
    simp only [smI, Bool.or_eq_true, Bool.and_eq_true, decide_eq_true_eq] at h
    unfold CMul
    omega
  · cases e
def modP : PV → PV → Option PV := i2 fun i j => if 0 < j then some (.int (i % j)) else none
theorem ag_mod : Ag2 X T (p2 modP) (rI (fun _ j => 0 < j) fun i j => .int (i % j)) := ag_i fun i j p e => by
  split at e
  · rename_i h
    cases e
    exact ⟨h, fun _ _ => rfl⟩
  · cases e
def divP : PV → PV → Option PV := i2 fun i j => if 0 < j ∧ j < 1073741824 then some (.int (i / j)) else none
theorem ag_div : Ag2 X T (p2 divP) (rI CDiv fun i j => .int (i / j)) := ag_i fun i j p e => by
  split at e
  · rename_i h
    cases e
    exact ⟨h, fun _ _ => rfl⟩
  · cases e
def negP : PV → Option PV
  | .int i => some (.int (-i))
  | _ => none
theorem ag_neg : Ag1 X T (p1 negP) (rU fun i => .int (-i)) := by
  intro W A G m st H σ x u Q hs rx h
  unfold p1 at h
  split at h
  · split at h
    · rename_i e
      unfold negP at e
      split at e
      · cases e; cases rx
        exact ⟨_, rfl, h.ok hs rfl⟩
      · cases e
    · exact h.elim
  · exact h.elim

/-! ### order -/
def ltP : PV → PV → Option PV
  | .int i, .int j => some (.bl (decide (i < j)))
  | .str a, .str b => some (.bl (decide (a.cps.toList < b.cps.toList)))
  | _, _ => none
def leP : PV → PV → Option PV := i2 fun i j => some (.bl (decide (i ≤ j)))
def gtP : PV → PV → Option PV := i2 fun i j => some (.bl (decide (j < i)))
def geP : PV → PV → Option PV := i2 fun i j => some (.bl (decide (j ≤ i)))
def rLt2 : R2 := fun x y H Q => (rI0 fun i j => .bl (decide (i < j))) x y H Q ∨ ∃ i j, x = .str i ∧ y = .str j ∧ Q (.bl (decide (i.cps.toList < j.cps.toList))) H
theorem op_lt2 : OpR X (compareOp .Lt) rLt2 := op_lt.or op_lt_str
theorem ag_lt : Ag2 X T (p2 ltP) rLt2 := by
  intro W A G m st H σ x y u v Q hs rx ry h
  unfold p2 at h
  split at h
  · split at h
    · rename_i e
      unfold ltP at e
      split at e
      · cases e; cases rx; cases ry
        exact .inl ⟨_, _, rfl, rfl, h.ok hs rfl⟩
      · cases e; cases rx; cases ry
        exact .inr ⟨_, _, rfl, rfl, h.ok hs rfl⟩
      · cases e
    · exact h.elim
  · exact h.elim
theorem ag_le : Ag2 X T (p2 leP) (rI0 fun i j => .bl (decide (i ≤ j))) := ag_i0 fun i j p e c G => by cases e; rfl
theorem ag_gt : Ag2 X T (p2 gtP) (rI0 fun i j => .bl (decide (j < i))) := ag_i0 fun i j p e c G => by cases e; rfl
theorem ag_ge : Ag2 X T (p2 geP) (rI0 fun i j => .bl (decide (j ≤ i))) := ag_i0 fun i j p e c G => by cases e; rfl

/-! ### == -/
mutual
def toD : PV → Option PyData
  | .non => some .none
  | .bl b => some (.bool b)
  | .int i => some (.int i)
  | .str x => some (.str x)
  | .tup xs => (toDs xs).map .tuple
  | .lst xs => (toDs xs).map .list
  | .fls xs => (toDs xs).map .list
  | .rng _ _ => none
  | .dic _ _ => none
  | .glob _ => none
def toDs : List PV → Option (List PyData)
  | [] => some []
  | p :: r => match toD p, toDs r with
    | some d, some ds => some (d :: ds)
    | _, _ => none
end
mutual
theorem toD_dp {g : Cg} {G H : Hp} (hs : Same G H) : ∀ {p : PV} {d : PyData} {v : V}, toD p = some d → RelPV g G p v → Dp g.K H v d
  | .non, d, v, e, r => by unfold toD at e; cases e; cases r; exact .non
  | .bl b, d, v, e, r => by unfold toD at e; cases e; cases r; exact .bl b
  | .int i, d, v, e, r => by unfold toD at e; cases e; cases r; exact .int i
  | .str x, d, v, e, r => by unfold toD at e; cases e; cases r; exact .str x
  | .tup xs, d, v, e, r => by
    unfold toD at e
    cases h : toDs xs with
    | none => rw [h] at e; cases e
    | some ds =>
      rw [h] at e; cases e
      obtain ⟨a, vs, rfl, q1, q2⟩ := RelPV.tup_inv r
      exact .tup (SqT.mono hs q1) (toDs_dp hs h q2)
  | .lst xs, d, v, e, r => by
    unfold toD at e
    cases h : toDs xs with
    | none => rw [h] at e; cases e
    | some ds =>
      rw [h] at e; cases e
      obtain ⟨a, vs, rfl, q1, q2⟩ := RelPV.lst_inv r
      exact .lst (.of (hs _ _ q1)) (toDs_dp hs h q2)
  | .fls xs, d, v, e, r => by
    unfold toD at e
    cases h : toDs xs with
    | none => rw [h] at e; cases e
    | some ds =>
      rw [h] at e; cases e
      obtain ⟨a, vs, rfl, q1, q2⟩ := RelPV.fls_inv r
      exact .lst (hs.seq q1) (toDs_dp hs h q2)
  | .rng _ _, d, v, e, r => by unfold toD at e; cases e
  | .dic _ _, d, v, e, r => by unfold toD at e; cases e
  | .glob _, d, v, e, r => by unfold toD at e; cases e
theorem toDs_dp {g : Cg} {G H : Hp} (hs : Same G H) : ∀ {ps : List PV} {ds : List PyData} {vs : List V}, toDs ps = some ds → RelPVs g G ps vs → DpAll g.K H vs ds
  | [], ds, vs, e, r => by
    unfold toDs at e; cases e
    have := r.nil_inv
    subst this
    exact .nil
  | p :: ps, ds, vs, e, r => by
    obtain ⟨v, vr, rfl, r1, r2⟩ := r.cons_inv
    unfold toDs at e
    split at e
    · rename_i d1 ds1 e1 e2
      cases e
      exact .cons (toD_dp hs e1 r1) (toDs_dp hs e2 r2)
    · cases e
end
/-! equality of trees, as == tells it -/
mutual
def eqP : PV → PV → Bool
  | .non, .non => true
  | .bl a, .bl b => a == b
  | .bl a, .int j => (if a then 1 else 0) == j
  | .int i, .bl b => i == (if b then 1 else 0)
  | .int i, .int j => i == j
  | .str x, .str y => x == y
  | .lst xs, .lst ys => eqPs xs ys
  | .lst xs, .fls ys => eqPs xs ys
  | .fls xs, .lst ys => eqPs xs ys
  | .fls xs, .fls ys => eqPs xs ys
  | .tup xs, .tup ys => eqPs xs ys
  | _, _ => false
def eqPs : List PV → List PV → Bool
  | [], [] => true
  | x :: xs, y :: ys => eqP x y && eqPs xs ys
  | _, _ => false
end
mutual
def depP : PV → Nat
  | .tup xs => depPs xs + 1
  | .lst xs => depPs xs + 1
  | .fls xs => depPs xs + 1
  | _ => 0
def depPs : List PV → Nat
  | [] => 0
  | x :: xs => max (depP x) (depPs xs)
end
/-! nothing but data, no odd sign -/
mutual
def datP : PV → Bool
  | .non => true
  | .bl _ => true
  | .int _ => true
  | .str x => x.cps.all (· < 0x110000)
  | .tup xs => datPs xs
  | .lst xs => datPs xs
  | .fls xs => datPs xs
  | _ => false
def datPs : List PV → Bool
  | [] => true
  | x :: xs => datP x && datPs xs
end

mutual
theorem toD_of : ∀ {p : PV}, datP p = true → ∃ d, toD p = some d ∧ d.canLay0 = true ∧ d.depth = depP p
  | .non, _ => ⟨_, rfl, rfl, rfl⟩
  | .bl _, _ => ⟨_, rfl, rfl, rfl⟩
  | .int _, _ => ⟨_, rfl, rfl, rfl⟩
  | .str _, h => ⟨_, rfl, by unfold datP at h; unfold PyData.canLay0; exact h, rfl⟩
  | .tup xs, h => by
    unfold datP at h
    obtain ⟨ds, e, h1, h2⟩ := toDs_of h
    refine ⟨.tuple ds, by unfold toD; rw [e]; rfl, by unfold PyData.canLay0; exact h1, by unfold PyData.depth depP; rw [h2]⟩
  | .lst xs, h => by
    unfold datP at h
    obtain ⟨ds, e, h1, h2⟩ := toDs_of h
    refine ⟨.list ds, by unfold toD; rw [e]; rfl, by unfold PyData.canLay0; exact h1, by unfold PyData.depth depP; rw [h2]⟩
  | .fls xs, h => by
    unfold datP at h
    obtain ⟨ds, e, h1, h2⟩ := toDs_of h
    refine ⟨.list ds, by unfold toD; rw [e]; rfl, by unfold PyData.canLay0; exact h1, by unfold PyData.depth depP; rw [h2]⟩
  | .rng _ _, h => by unfold datP at h; cases h
  | .dic _ _, h => by unfold datP at h; cases h
  | .glob _, h => by unfold datP at h; cases h
theorem toDs_of : ∀ {ps : List PV}, datPs ps = true → ∃ ds, toDs ps = some ds ∧ PyData.canLayAll0 ds = true ∧ PyData.depthAll ds = depPs ps
  | [], _ => ⟨[], rfl, rfl, rfl⟩
  | p :: ps, h => by
    unfold datPs at h
    rw [Bool.and_eq_true] at h
    obtain ⟨d, e1, h1, h2⟩ := toD_of h.1
    obtain ⟨ds, e2, h3, h4⟩ := toDs_of h.2
    refine ⟨d :: ds, by unfold toDs; rw [e1, e2], by unfold PyData.canLayAll0; rw [h1, h3]; rfl, by unfold PyData.depthAll depPs; rw [h2, h4]⟩
end
mutual
theorem eqv_eqP : ∀ {p q : PV} {d e : PyData}, toD p = some d → toD q = some e → PyData.eqv d e = eqP p q
  | .non, q, d, e, h, h' => by
    unfold toD at h; cases h
    cases q <;> unfold toD at h' <;> simp only [Option.map_eq_some_iff, Option.some.injEq, reduceCtorEq] at h' <;> first | (obtain ⟨ds, _, rfl⟩ := h'; simp [PyData.eqv, eqP]) | (subst h'; simp [PyData.eqv, eqP])
  | .bl _, q, d, e, h, h' => by
    unfold toD at h; cases h
    cases q <;> unfold toD at h' <;> simp only [Option.map_eq_some_iff, Option.some.injEq, reduceCtorEq] at h' <;> first | (obtain ⟨ds, _, rfl⟩ := h'; simp [PyData.eqv, eqP]) | (subst h'; simp [PyData.eqv, eqP])
  | .int _, q, d, e, h, h' => by
    unfold toD at h; cases h
    cases q <;> unfold toD at h' <;> simp only [Option.map_eq_some_iff, Option.some.injEq, reduceCtorEq] at h' <;> first | (obtain ⟨ds, _, rfl⟩ := h'; simp [PyData.eqv, eqP]) | (subst h'; simp [PyData.eqv, eqP])
  | .str _, q, d, e, h, h' => by
    unfold toD at h; cases h
    cases q <;> unfold toD at h' <;> simp only [Option.map_eq_some_iff, Option.some.injEq, reduceCtorEq] at h' <;> first | (obtain ⟨ds, _, rfl⟩ := h'; simp [PyData.eqv, eqP]) | (subst h'; simp [PyData.eqv, eqP])
  | .tup xs, q, d, e, h, h' => by
    unfold toD at h
    simp only [Option.map_eq_some_iff] at h
    obtain ⟨ds, h1, rfl⟩ := h
    cases q <;> unfold toD at h' <;> simp only [Option.map_eq_some_iff, Option.some.injEq, reduceCtorEq] at h' <;> first | (obtain ⟨es, h2, rfl⟩ := h'; simp [PyData.eqv, eqP, eqv_eqPs h1 h2]; done) | (obtain ⟨es, h2, rfl⟩ := h'; simp [PyData.eqv, eqP]) | (subst h'; simp [PyData.eqv, eqP])
  | .lst xs, q, d, e, h, h' => by
    unfold toD at h
    simp only [Option.map_eq_some_iff] at h
    obtain ⟨ds, h1, rfl⟩ := h
    cases q <;> unfold toD at h' <;> simp only [Option.map_eq_some_iff, Option.some.injEq, reduceCtorEq] at h' <;> first | (obtain ⟨es, h2, rfl⟩ := h'; simp [PyData.eqv, eqP, eqv_eqPs h1 h2]; done) | (obtain ⟨es, h2, rfl⟩ := h'; simp [PyData.eqv, eqP]) | (subst h'; simp [PyData.eqv, eqP])
  | .fls xs, q, d, e, h, h' => by
    unfold toD at h
    simp only [Option.map_eq_some_iff] at h
    obtain ⟨ds, h1, rfl⟩ := h
    cases q <;> unfold toD at h' <;> simp only [Option.map_eq_some_iff, Option.some.injEq, reduceCtorEq] at h' <;> first | (obtain ⟨es, h2, rfl⟩ := h'; simp [PyData.eqv, eqP, eqv_eqPs h1 h2]; done) | (obtain ⟨es, h2, rfl⟩ := h'; simp [PyData.eqv, eqP]) | (subst h'; simp [PyData.eqv, eqP])
  | .rng _ _, _, _, _, h, _ => by unfold toD at h; cases h
  | .dic _ _, _, _, _, h, _ => by unfold toD at h; cases h
  | .glob _, _, _, _, h, _ => by unfold toD at h; cases h
theorem eqv_eqPs : ∀ {ps qs : List PV} {ds es : List PyData}, toDs ps = some ds → toDs qs = some es → PyData.eqvAll ds es = eqPs ps qs
  | [], [], ds, es, h, h' => by unfold toDs at h h'; cases h; cases h'; rfl
  | [], q :: qs, ds, es, h, h' => by
    unfold toDs at h h'; cases h
    split at h'
    · cases h'; simp [PyData.eqvAll, eqPs]
    · cases h'
  | p :: ps, [], ds, es, h, h' => by
    unfold toDs at h h'; cases h'
    split at h
    · cases h; simp [PyData.eqvAll, eqPs]
    · cases h
  | p :: ps, q :: qs, ds, es, h, h' => by
    unfold toDs at h h'
    split at h
    · rename_i d1 ds1 e1 e2
      cases h
      split at h'
      · rename_i d2 ds2 e3 e4
        cases h'
        unfold PyData.eqvAll eqPs
        rw [eqv_eqP e1 e3, eqv_eqPs e2 e4]
      · cases h'
    · cases h
end
/-- the tree that a value is just now -/
def snap (x : EV) (st : Store) : Option PV := match x with
  | .pv p => some p
  | .ob n => match st[n]? with
    | some (.lst xs) => (pvsOf xs).map .lst
    | some (.frz p) => some p
    | _ => none
def okP (p : PV) : Bool := datP p && decide (depP p ≤ 64)
theorem okP_shaped {p : PV} {d : PyData} (h : okP p = true) (e : toD p = some d) : SeqAt.shaped d = true := by
  unfold okP at h
  rw [Bool.and_eq_true, decide_eq_true_eq] at h
  obtain ⟨d', e', h1, h2⟩ := toD_of h.1
  rw [e] at e'; cases e'
  unfold SeqAt.shaped
  rw [h1, h2, Bool.true_and, decide_eq_true h.2]
theorem snap_dp {W : WX} {A : Act} {G : Hp} {m : List Addr} {st : Store} {H : Hp} {g : Cg} {x : EV} {v : V} {p : PV} {d : PyData} (hs : HSim g A G m st H) (r : RelEV g G m x v) (e : snap x st = some p) (e' : toD p = some d) : Dp g.K H v d := by
  unfold snap at e
  split at e
  · cases e; exact toD_dp hs.sub e' r
  · split at e
    · rename_i xs q
      obtain ⟨a, vs, rfl, _, q1, q2, _⟩ := hs.ob_lst r q
      simp only [Option.map_eq_some_iff] at e
      obtain ⟨ps, q3, rfl⟩ := e
      unfold toD at e'
      simp only [Option.map_eq_some_iff] at e'
      obtain ⟨ds, q4, rfl⟩ := e'
      exact .lst (.of q1) (toDs_dp hs.sub q4 (q2.pvs q3))
    · rename_i q
      cases e
      exact toD_dp hs.sub e' (hs.ob_frz r q)
    · cases e
/-- x == y (neg: x != y) -/
def eqE (neg : Bool) (x y : EV) (st : Store) : R EV := match snap x st, snap y st with
  | some p, some q => if okP p = true ∧ okP q = true then .ok (.pv (.bl (if neg = true then !eqP p q else eqP p q))) st else .stuck
  | _, _ => .stuck
theorem eq_step {W : WX} {A : Act} {G : Hp} {m : List Addr} {st : Store} {H : Hp} {σ : L2.St} {Q : VK} {g : Cg} {neg : Bool} {x y : EV} {u v : V} (hs : HSim g A G m st H) (rx : RelEV g G m x u) (ry : RelEV g G m y v) (h : Post g (rE g) W A G m σ Q (eqE neg x y st)) :
    ∃ d e, Dp g.K H u d ∧ Dp g.K H v e ∧ SeqAt.shaped d = true ∧ SeqAt.shaped e = true ∧ Q (.bl (if neg = true then !PyData.eqv d e else PyData.eqv d e)) H := by
  unfold eqE at h
  split at h
  · rename_i p q e1 e2
    split at h
    · rename_i hok
      obtain ⟨d, d1, _⟩ := toD_of (p := p) (by have := hok.1; unfold okP at this; rw [Bool.and_eq_true] at this; exact this.1)
      obtain ⟨e, d2, _⟩ := toD_of (p := q) (by have := hok.2; unfold okP at this; rw [Bool.and_eq_true] at this; exact this.1)
      refine ⟨d, e, snap_dp (W := W) hs rx e1 d1, snap_dp (W := W) hs ry e2 d2, okP_shaped hok.1 d1, okP_shaped hok.2 d2, ?_⟩
      rw [eqv_eqP d1 d2]
      exact h.ok hs rfl
    · exact h.elim
  · exact h.elim
theorem ag_eq : Ag2 X T (eqE false) (rEqD X.K) := fun W A G m st H σ x y u v Q hs rx ry h => eq_step hs rx ry h
theorem ag_ne : Ag2 X T (eqE true) (rNeD X.K) := fun W A G m st H σ x y u v Q hs rx ry h => eq_step hs rx ry h

/-! ### is None, is True, is False -/
def isPlainV : V → Bool
  | .non => true
  | .bl _ => true
  | _ => false
/-- y is None or a bool -/
def rIs (neg : Bool) : R2 := fun x y H Q => isPlainV y = true ∧ Q (.bl (if neg = true then !decide (x = y) else decide (x = y))) H
theorem rel_plain {x y : V} {v u : Value} (rx : RelV x v) (ry : RelV y u) (h : isPlainV y = true) : plainIs v u = true ∧ (v = u ↔ x = y) := by
  cases y with
  | non =>
    cases ry
    cases x <;> first | (cases rx; exact ⟨rfl, by simp⟩) | (obtain ⟨t, rfl⟩ := rx; exact ⟨rfl, by simp⟩)
  | bl b =>
    cases ry
    cases x <;> first | (cases rx; exact ⟨rfl, by simp⟩) | (obtain ⟨t, rfl⟩ := rx; exact ⟨rfl, by simp⟩)
  | _ => cases h
theorem op_is : OpR X (compareOp .Is) (rIs false) := by
  intro pins s σ H x y v u Q I rx ry h
  obtain ⟨hp, q⟩ := h
  obtain ⟨h1, h2⟩ := rel_plain rx ry hp
  simp only [Bool.false_eq_true, if_false] at q
  by_cases e : x = y
  · rw [h2.mpr e] at h1 ⊢
    exact wpAny_is_self h1 ⟨.bl true, H, I, rfl, by simpa [e] using q⟩
  · exact wpAny_is_other h1 (fun z => e (h2.mp z)) ⟨.bl false, H, I, rfl, by simpa [e] using q⟩
theorem op_isn : OpR X (compareOp .IsNot) (rIs true) := by
  intro pins s σ H x y v u Q I rx ry h
  obtain ⟨hp, q⟩ := h
  obtain ⟨h1, h2⟩ := rel_plain rx ry hp
  simp only [if_true] at q
  by_cases e : x = y
  · rw [h2.mpr e] at h1 ⊢
    exact wpAny_isNot_self h1 ⟨.bl false, H, I, rfl, by simpa [e] using q⟩
  · exact wpAny_isNot_other h1 (fun z => e (h2.mp z)) ⟨.bl true, H, I, rfl, by simpa [e] using q⟩
/-- whether a value is None, a bool -/
def isP : EV → PV → Bool
  | .pv .non, .non => true
  | .pv (.bl a), .bl b => a == b
  | _, _ => false
def isE (neg : Bool) (x y : EV) (st : Store) : R EV := match y with
  | .pv .non => .ok (.pv (.bl (if neg = true then !isP x .non else isP x .non))) st
  | .pv (.bl b) => .ok (.pv (.bl (if neg = true then !isP x (.bl b) else isP x (.bl b)))) st
  | _ => .stuck
theorem isP_rel {g : Cg} {G : Hp} {m : List Addr} {x : EV} {u : V} (r : RelEV g G m x u) : decide (u = .non) = isP x .non ∧ ∀ b, decide (u = .bl b) = isP x (.bl b) := by
  cases x with
  | ob n => obtain ⟨a, _, rfl⟩ := r; exact ⟨by simp [isP], fun b => by simp [isP]⟩
  | pv p =>
    cases p with
    | non => cases r; exact ⟨by simp [isP], fun b => by simp [isP]⟩
    | bl b => cases r; exact ⟨by simp [isP], fun c => by cases b <;> cases c <;> simp [isP]⟩
    | int i => cases r; exact ⟨by simp [isP], fun c => by simp [isP]⟩
    | str i => cases r; exact ⟨by simp [isP], fun c => by simp [isP]⟩
    | tup i => obtain ⟨a, vs, rfl, _⟩ := RelPV.tup_inv r; exact ⟨by simp [isP], fun b => by simp [isP]⟩
    | lst i => obtain ⟨a, vs, rfl, _⟩ := RelPV.lst_inv r; exact ⟨by simp [isP], fun b => by simp [isP]⟩
    | fls i => obtain ⟨a, vs, rfl, _⟩ := RelPV.fls_inv r; exact ⟨by simp [isP], fun b => by simp [isP]⟩
    | rng i j =>
      have r' : RelPV g G (.rng i j) u := r
      unfold RelPV at r'
      obtain ⟨a, rfl, _⟩ := r'; exact ⟨by simp [isP], fun b => by simp [isP]⟩
    | dic i j =>
      have r' : RelPV g G (.dic i j) u := r
      unfold RelPV at r'
      obtain ⟨a, _, _, rfl, _⟩ := r'; exact ⟨by simp [isP], fun b => by simp [isP]⟩
    | glob i =>
      have r' : RelPV g G (.glob i) u := r
      unfold RelPV at r'
      obtain ⟨a, rfl, _⟩ := r'; exact ⟨by simp [isP], fun b => by simp [isP]⟩
theorem ag_isg (neg : Bool) : Ag2 X T (isE neg) (rIs neg) := by
  intro W A G m st H σ x y u v Q hs rx ry h
  obtain ⟨q1, q2⟩ := isP_rel rx
  unfold isE at h
  split at h
  · cases ry
    exact ⟨rfl, by rw [q1]; exact h.ok hs rfl⟩
  · cases ry
    exact ⟨rfl, by rw [q2]; exact h.ok hs rfl⟩
  · exact h.elim
end
end GT

/-! Part D. Items, slices, membership, calls of built-ins. -/
namespace GT
open PySem PySem.Spec PyProof.Rows L2

section
variable {g : Cg} {G : Hp} {m : List Addr}
theorem ixN_atI {α : Type} {xs : List α} {i : Int} {v : α} (h : atI xs i = some v) : ∃ j, ixN xs.length i = some j ∧ xs[j]? = some v := by
  unfold atI at h
  cases e : ixN xs.length i with
  | none => rw [e] at h; cases h
  | some j => rw [e] at h; exact ⟨j, rfl, h⟩
theorem RelEVs.atI {xs : List EV} {vs : List V} {i : Int} {x : EV} (r : RelEVs g G m xs vs) (h : atI xs i = some x) : ∃ v, L2.atI vs i = some v ∧ RelEV g G m x v := by
  obtain ⟨j, h1, h2⟩ := ixN_atI h
  obtain ⟨v, h3, h4⟩ := r.get h2
  refine ⟨v, ?_, h4⟩
  unfold L2.atI
  rw [r.length, h1]
  exact h3
theorem RelPVs.cut {xs : List PV} {vs : List V} (r : RelPVs g G xs vs) (a b : Nat) : RelPVs g G ((xs.drop a).take b) ((vs.drop a).take b) := (r.drop a).take b
end
/-- x[lo:hi] of a list -/
def cutL {α : Type} (xs : List α) (lo hi : Option Int) : List α := (xs.drop (HT.sIx xs.length 0 lo)).take (HT.sIx xs.length xs.length hi - HT.sIx xs.length 0 lo)

section
variable {X : Cx} {T : List (Addr × Str)} {W : WX}
/-! ### x[i] -/
def ixE (x y : EV) (st : Store) : R EV := match y with
  | .pv (.int i) => match asS x st with
    | some (_, xs) => match atI xs i with
      | some v => .ok v st
      | none => .stuck
    | none => match x with
      | .pv (.str z) => if z.length ≤ sizeLine then (match atI z.cps.toList i with
        | some c => .ok (.pv (.str ⟨#[c]⟩)) st
        | none => .stuck) else .stuck
      | _ => .stuck
  | _ => .stuck
theorem ag_ix : Ag2 X T ixE (rIx X.K) := by
  intro W A G m st H σ x y u v Q hs rx ry h
  unfold ixE at h
  split at h
  · rename_i i
    cases ry
    split at h
    · rename_i q xs e
      split at h
      · rename_i w e2
        obtain ⟨a, vs, rfl, q1, q2⟩ := asS_rel hs rx e
        obtain ⟨z, q3, q4⟩ := q2.atI e2
        cases q with
        | l => exact .inl ⟨a, vs, i, z, rfl, rfl, q1, q3, h.ok hs q4⟩
        | t => exact .inr (.inl ⟨a, vs, i, z, rfl, rfl, q1, q3, h.ok hs q4⟩)
      · exact h.elim
    · split at h
      · rename_i z _
        cases rx
        split at h
        · rename_i hz
          split at h
          · rename_i c e
            exact .inr (.inr ⟨z, i, c, rfl, rfl, hz, e, h.ok hs rfl⟩)
          · exact h.elim
        · exact h.elim
      · exact h.elim
  · exact h.elim

/-! ### x[lo:hi] -/
def dO (o : Option DE) : D (Option Int) := fun ρ st => match o with
  | none => .ok none st
  | some d => (d ρ st).bind fun x st1 => match x with
    | .pv (.int i) => .ok (some i) st1
    | _ => .stuck
abbrev rO : Rel (Option Int) (Option Int) := fun _ _ a b => a = b
theorem do_none : PO X none (rd (cg X T) rO W (dO none)) := ⟨fun pins s σ H Q I h => by
  obtain ⟨A, G, m, ρ, st, h1, h2, h3⟩ := h
  exact po_none.run pins s σ H Q I (h3.ok h1 rfl)⟩
theorem do_some {e : Expr} {d : DE} (he : PE X e (rdE (cg X T) W d)) : PO X (some e) (rd (cg X T) rO W (dO (some d))) := ⟨fun pins s σ H Q I h => by
  refine (po_some he).run pins s σ H Q I ?_
  obtain ⟨A, G, m, ρ, st, h1, h2, h3⟩ := h
  refine ⟨A, G, m, ρ, st, h1, h2, h3.bind.imp fun u H1 ⟨G1, m1, x, st1, s1, l1, k1, r1, q1⟩ => ?_⟩
  split at q1
  · cases r1
    exact ⟨_, rfl, q1.ok k1 rfl⟩
  · exact q1.elim⟩
def dSl (f : EV → Option Int → Option Int → Store → R EV) (e : DE) (lo hi : Option DE) : DE := fun ρ st => (e ρ st).bind fun x st1 => (dO lo ρ st1).bind fun l st2 => (dO hi ρ st2).bind fun u st3 => f x l u st3
def slE (x : EV) (lo hi : Option Int) (st : Store) : R EV := match x with
  | .pv (.tup xs) => .ok (.pv (.tup (cutL xs lo hi))) st
  | .pv (.str z) => if z.length ≤ sizeLine then .ok (.pv (.str ⟨(cutL z.cps.toList lo hi).toArray⟩)) st else .stuck
  | x => match asS x st with
    | some (.l, xs) => newL false (cutL xs lo hi) st
    | _ => .stuck
def rSl3 (K : PySem.W.Frag) : V → Option Int → Option Int → Hp → VK → Prop := fun x lo hi H Q => rSlA K x lo hi H Q ∨ (rSlS x lo hi H Q ∨ rSlL K x lo hi H Q)
theorem sl_3 : SlR X (rSl3 X.K) := sl_tupA.or (sl_str.or sl_list)
theorem cutL_whole {α : Type} {xs : List α} {lo hi : Option Int} (h1 : HT.sIx xs.length 0 lo = 0) (h2 : HT.sIx xs.length xs.length hi = xs.length) : cutL xs lo hi = xs := by
  unfold cutL
  rw [h1, h2]
  simp
theorem cutL_rel {g : Cg} {G : Hp} {xs : List PV} {vs : List V} (r : RelPVs g G xs vs) (lo hi : Option Int) : RelPVs g G (cutL xs lo hi) (cutV vs lo hi) := by
  unfold cutL cutV
  rw [r.length]
  exact r.cut _ _
theorem RelEVs.cut {g : Cg} {G : Hp} {m : List Addr} : ∀ {xs : List EV} {vs : List V}, RelEVs g G m xs vs → ∀ a b : Nat, RelEVs g G m ((xs.drop a).take b) ((vs.drop a).take b) := by
  intro xs
  induction xs with
  | nil => intro vs r a b; cases r; simp [RelEVs]
  | cons x xs ih =>
    intro vs r a b
    obtain ⟨v, r', rfl, h2, h3⟩ := r
    cases a with
    | zero =>
      cases b with
      | zero => simp [RelEVs]
      | succ b => exact ⟨v, _, rfl, h2, by simpa using ih h3 0 b⟩
    | succ a => simpa using ih h3 a b
theorem ag_sl {A : Act} {G : Hp} {m : List Addr} {st : Store} {H : Hp} {σ : L2.St} {Q : VK} {x : EV} {u : V} {lo hi : Option Int} (hs : HSim (cg X T) A G m st H) (rx : RelEV (cg X T) G m x u) (h : Post (cg X T) (rE (cg X T)) W A G m σ Q (slE x lo hi st)) : rSl3 X.K u lo hi H Q := by
  unfold slE at h
  split at h
  · rename_i xs
    obtain ⟨a, vs, rfl, q1, q2⟩ := RelPV.tup_inv rx
    refine .inl ⟨a, vs, rfl, SqT.mono hs.sub q1, fun ⟨e1, e2⟩ => ?_, fun _ => h.newTup hs (cutL_rel q2 lo hi)⟩
    rw [q2.length] at e1 e2
    rw [cutL_whole e1 e2] at h
    exact h.ok hs rx
  · split at h
    · rename_i z hz
      cases rx
      refine .inr (.inl ⟨z, rfl, hz, ?_⟩)
      have e : cutS z lo hi = ⟨(cutL z.cps.toList lo hi).toArray⟩ := by
        unfold cutS cutL
        rw [Array.length_toList]
        rfl
      rw [e]
      exact h.ok hs rfl
    · exact h.elim
  · split at h
    · rename_i xs e
      obtain ⟨a, vs, rfl, q1, q2⟩ := asS_rel hs rx e
      refine .inr (.inr ⟨a, vs, rfl, q1, ?_⟩)
      refine h.newL hs ?_
      unfold cutL cutV
      rw [q2.length]
      exact q2.cut _ _
    · exact h.elim
theorem de_slice {e : Expr} {d : DE} {lo hi : Option Expr} {dl du : Option DE} {p2 pos : Pos} (he : PE X e (rdE (cg X T) W d)) (hl : PO X lo (rd (cg X T) rO W (dO dl))) (hu : PO X hi (rd (cg X T) rO W (dO du))) : PE X (.Subscript e (.Slice lo hi none p2) pos) (rdE (cg X T) W (dSl slE d dl du)) := by
  refine pe_w (pe_slice sl_3 he hl hu) fun σ H Q h => ?_
  obtain ⟨A, G, m, ρ, st, h1, h2, h3⟩ := h
  refine ⟨A, G, m, ρ, st, h1, h2, h3.bind.imp fun u H1 ⟨G1, m1, x, st1, s1, l1, k1, r1, q1⟩ => ?_⟩
  refine ⟨A, G1, m1, ρ, st1, k1, h2.mono s1 l1, q1.bind.imp fun v H2 ⟨G2, m2, y, st2, s2, l2, k2, r2, q2⟩ => ?_⟩
  refine ⟨A, G2, m2, ρ, st2, k2, (h2.mono s1 l1).mono s2 l2, q2.bind.imp fun w H3 ⟨G3, m3, z, st3, s3, l3, k3, r3, q3⟩ => ?_⟩
  have e2 : y = v := r2
  have e3 : z = w := r3
  subst e2 e3
  exact ag_sl k3 ((r1.mono s2 l2).mono s3 l3) q3

/-! ### in, not in -/
def flatP : PV → Bool
  | .non => true
  | .bl _ => true
  | .int _ => true
  | .str _ => true
  | _ => false
theorem flat_rel {g : Cg} {G : Hp} {p : PV} {v : V} (r : RelPV g G p v) (h : flatP p = true) : flatV v = true := by
  cases p with
  | non => cases r; rfl
  | bl _ => cases r; rfl
  | int _ => cases r; rfl
  | str _ => cases r; rfl
  | _ => cases h
theorem flats_rel {g : Cg} {G : Hp} : ∀ {ps : List PV} {vs : List V}, RelPVs g G ps vs → ps.all flatP = true → vs.all flatV = true
  | [], _, r, _ => by rw [r.nil_inv]; rfl
  | p :: ps, _, r, h => by
    obtain ⟨v, r', rfl, h2, h3⟩ := r.cons_inv
    rw [List.all_cons, Bool.and_eq_true] at h ⊢
    exact ⟨flat_rel h2 h.1, flats_rel h3 h.2⟩
theorem eqV_eqP {g : Cg} {G : Hp} {p q : PV} {v w : V} (r : RelPV g G p v) (r' : RelPV g G q w) (h : flatP p = true) (h' : flatP q = true) : eqV v w = eqP p q := by
  cases p <;> first | (cases h; done) | (cases q <;> first | (cases h'; done) | (cases r; cases r'; simp [eqV, eqP]))
theorem any_eqV {g : Cg} {G : Hp} {q : PV} {w : V} (r' : RelPV g G q w) (h' : flatP q = true) : ∀ {ps : List PV} {vs : List V}, RelPVs g G ps vs → ps.all flatP = true → inV w vs = ps.any fun p => eqP p q
  | [], _, r, _ => by rw [r.nil_inv]; rfl
  | p :: ps, _, r, h => by
    obtain ⟨v, r2, rfl, h2, h3⟩ := r.cons_inv
    rw [List.all_cons, Bool.and_eq_true] at h
    unfold inV
    rw [List.any_cons, List.any_cons, eqV_eqP h2 r' h.1 h']
    have := any_eqV r' h' h3 h.2
    unfold inV at this
    rw [this]
/-- whether a text stands in a text -/
def inS (a b : Str) : Bool := !(Builtin.Str.occurrences b a 0 b.length 1).isEmpty
def inE (neg : Bool) (x y : EV) (st : Store) : R EV := match x, y with
  | .pv (.str a), .pv (.str b) => .ok (.pv (.bl (if neg = true then !inS a b else inS a b))) st
  | x, y => match snap x st, asS y st with
    | some p, some (q, xs) => match pvsOf xs with
      | some ps =>
        if flatP p = true ∧ ps.all flatP = true then .ok (.pv (.bl (if neg = true then !(ps.any fun z => eqP z p) else ps.any fun z => eqP z p))) st
        else match q with
          | .l => if okP p = true ∧ okP (.lst ps) = true then .ok (.pv (.bl (if neg = true then !(ps.any fun z => eqP z p) else ps.any fun z => eqP z p))) st else .stuck
          | .t => .stuck
      | none => .stuck
    | _, _ => .stuck
def rIn3 (K : PySem.W.Frag) : R2 := fun x y H Q => (∃ i j, x = .str i ∧ y = .str j ∧ Q (.bl (!(Builtin.Str.occurrences j i 0 j.length 1).isEmpty)) H) ∨ (rIn K false x y H Q ∨ rInD K x y H Q)
def rNi3 (K : PySem.W.Frag) : R2 := fun x y H Q => (∃ i j, x = .str i ∧ y = .str j ∧ Q (.bl (!(!(Builtin.Str.occurrences j i 0 j.length 1).isEmpty))) H) ∨ (rIn K true x y H Q ∨ rNotInD K x y H Q)
theorem op_in3 (hu : X.A.units + 65 < cLine) : OpR X (compareOp .In) (rIn3 X.K) := op_in_str.or (op_in_seq.or (op_inD hu))
theorem op_ni3 (hu : X.A.units + 65 < cLine) : OpR X (compareOp .NotIn) (rNi3 X.K) := op_notin_str.or (op_notIn_seq.or (op_notInD hu))
theorem snap_flat {A : Act} {G : Hp} {m : List Addr} {st : Store} {H : Hp} {g : Cg} {x : EV} {v : V} {p : PV} (hs : HSim g A G m st H) (r : RelEV g G m x v) (e : snap x st = some p) (h : flatP p = true) : RelPV g G p v := by
  unfold snap at e
  split at e
  · cases e; exact r
  · split at e
    · rename_i xs q
      simp only [Option.map_eq_some_iff] at e
      obtain ⟨ps, q3, rfl⟩ := e
      cases h
    · rename_i q
      cases e
      exact hs.ob_frz r q
    · cases e
theorem anys_eqv {ps : List PV} {ds : List PyData} {p : PV} {d : PyData} (h : toDs ps = some ds) (h' : toD p = some d) : (ds.any fun z => PyData.eqv z d) = ps.any fun z => eqP z p := by
  induction ps generalizing ds with
  | nil => unfold toDs at h; cases h; rfl
  | cons q ps ih =>
    unfold toDs at h
    split at h
    · rename_i d1 ds1 e1 e2
      cases h
      rw [List.any_cons, List.any_cons, ih e2, eqv_eqP e1 h']
    · cases h
theorem in_step {A : Act} {G : Hp} {m : List Addr} {st : Store} {H : Hp} {σ : L2.St} {Q : VK} {g : Cg} {neg : Bool} {x y : EV} {u v : V} (hs : HSim g A G m st H) (rx : RelEV g G m x u) (ry : RelEV g G m y v) (h : Post g (rE g) W A G m σ Q (inE neg x y st)) :
    (∃ i j, u = .str i ∧ v = .str j ∧ Q (.bl (if neg = true then !inS i j else inS i j)) H) ∨ (rIn g.K neg u v H Q ∨ ∃ d ds, Dp g.K H u d ∧ Dp g.K H v (.list ds) ∧ SeqAt.shaped d = true ∧ SeqAt.shaped (.list ds) = true ∧ Q (.bl (if neg = true then !(ds.any fun z => PyData.eqv z d) else ds.any fun z => PyData.eqv z d)) H) := by
  unfold inE at h
  split at h
  · cases rx; cases ry
    exact .inl ⟨_, _, rfl, rfl, h.ok hs rfl⟩
  · split at h
    · rename_i p q xs e1 e2
      split at h
      · rename_i ps e3
        obtain ⟨a, vs, rfl, q1, q2⟩ := asS_rel hs ry e2
        have q2' := q2.pvs e3
        split at h
        · rename_i hf
          have rp := snap_flat hs rx e1 hf.1
          refine .inr (.inl ⟨a, vs, rfl, q1.or, flat_rel rp hf.1, flats_rel q2' hf.2, ?_⟩)
          have e4 := any_eqV rp hf.1 q2' hf.2
          cases neg with
          | true => simp only [if_true] at h ⊢; rw [e4]; exact h.ok hs rfl
          | false => simp only [Bool.false_eq_true, if_false] at h ⊢; rw [e4]; exact h.ok hs rfl
        · split at h
          · split at h
            · rename_i hok
              obtain ⟨d, d1, _⟩ := toD_of (p := p) (by have := hok.1; unfold okP at this; rw [Bool.and_eq_true] at this; exact this.1)
              obtain ⟨e, d2, _⟩ := toD_of (p := .lst ps) (by have := hok.2; unfold okP at this; rw [Bool.and_eq_true] at this; exact this.1)
              have d2' := d2
              unfold toD at d2'
              simp only [Option.map_eq_some_iff] at d2'
              obtain ⟨ds, d3, rfl⟩ := d2'
              refine .inr (.inr ⟨d, ds, snap_dp (W := W) hs rx e1 d1, .lst q1 (toDs_dp hs.sub d3 q2'), okP_shaped hok.1 d1, okP_shaped hok.2 d2, ?_⟩)
              rw [anys_eqv d3 d1]
              exact h.ok hs rfl
            · exact h.elim
          · exact h.elim
      · exact h.elim
    · exact h.elim
theorem ag_in : Ag2 X T (inE false) (rIn3 X.K) := fun W A G m st H σ x y u v Q hs rx ry h => in_step hs rx ry h
theorem ag_ni : Ag2 X T (inE true) (rNi3 X.K) := fun W A G m st H σ x y u v Q hs rx ry h => in_step hs rx ry h

/-! ### built-in functions and types, called -/
theorem de_callB {x : Str} {idS : String} {e : Expr} {es : List Expr} {d : DA} {f : List EV → Store → R EV} {r : List V → Hp → VK → Prop} {p pos : Pos} (hc : CallR X (.builtin idS) r) (hf : AgA X T f r) (hg : Gl X x) (hm : X.mg x = none) (hv : bootBuiltins x = some (.builtin idS)) (ha : PA X (e :: es) (rdA (cg X T) W d)) (hn : x ≠ "__name__" := by decide)
    (hdb : (x == ("__debug__" : Str)) = false := by decide) (he : starEach (e :: es) X.env = (false, eval e X.env) :: starEach es X.env := by rfl) (hpl : (backTo pos (starEach es X.env)).any (·.1) = false := by rfl) : PE X (.Call (.Name x p) (e :: es) [] pos) (rdE (cg X T) W (dApp f d)) :=
  pe_w (pe_callB hc hg hm hv ha hn hdb he hpl) fun _ _ _ h => rd_app hf h
theorem de_callT {x : Str} {idS : String} {e : Expr} {es : List Expr} {d : DA} {f : List EV → Store → R EV} {r : List V → Hp → VK → Prop} {p pos : Pos} (hc : CallR X (.type idS) r) (hf : AgA X T f r) (hg : Gl X x) (hm : X.mg x = none) (hv : bootBuiltins x = some (.type idS)) (ha : PA X (e :: es) (rdA (cg X T) W d)) (hn : x ≠ "__name__" := by decide)
    (hdb : (x == ("__debug__" : Str)) = false := by decide) (he : starEach (e :: es) X.env = (false, eval e X.env) :: starEach es X.env := by rfl) (hpl : (backTo pos (starEach es X.env)).any (·.1) = false := by rfl) : PE X (.Call (.Name x p) (e :: es) [] pos) (rdE (cg X T) W (dApp f d)) :=
  pe_w (pe_callTy hc hg hm hv ha hn hdb he hpl) fun _ _ _ h => rd_app hf h
/-- of one argument -/
def ap1 (f : EV → Store → R EV) (xs : List EV) (st : Store) : R EV := match xs with
  | [x] => f x st
  | _ => .stuck
def ap2 (f : EV → EV → Store → R EV) (xs : List EV) (st : Store) : R EV := match xs with
  | [x, y] => f x y st
  | _ => .stuck
theorem ag_ap1 {f : EV → Store → R EV} {r : V → Hp → VK → Prop} {r' : List V → Hp → VK → Prop} (hf : Ag1 X T f r) (h : ∀ u H Q, r u H Q → r' [u] H Q) : AgA X T (ap1 f) r' := by
  intro W A G m st H σ xs us Q hs rx q
  unfold ap1 at q
  split at q
  · obtain ⟨u, r1, rfl, h2, h3⟩ := rx
    cases h3
    exact h _ _ _ (hf W A G m st H σ _ u Q hs h2 q)
  · exact q.elim
theorem ag_ap2 {f : EV → EV → Store → R EV} {r : R2} {r' : List V → Hp → VK → Prop} (hf : Ag2 X T f r) (h : ∀ u v H Q, r u v H Q → r' [u, v] H Q) : AgA X T (ap2 f) r' := by
  intro W A G m st H σ xs us Q hs rx q
  unfold ap2 at q
  split at q
  · obtain ⟨u, r1, rfl, h2, v, r2, rfl, h3, h4⟩ := rx
    cases h4
    exact h _ _ _ _ (hf W A G m st H σ _ _ u v Q hs h2 h3 q)
  · exact q.elim
def lenE (x : EV) (st : Store) : R EV := match asS x st with
  | some (_, xs) => .ok (.pv (.int xs.length)) st
  | none => match x with
    | .pv (.str z) => if z.length ≤ sizeLine then .ok (.pv (.int z.length)) st else .stuck
    | _ => .stuck
theorem ag_len : AgA X T (ap1 lenE) (fun xs H Q => ∃ x n, xs = [x] ∧ LenV X.K x H n ∧ Q (.int n) H) := by
  refine ag_ap1 (r := fun x H Q => ∃ n, LenV X.K x H n ∧ Q (.int n) H) ?_ fun u H Q ⟨n, h1, h2⟩ => ⟨u, n, rfl, h1, h2⟩
  intro W A G m st H σ x u Q hs rx h
  unfold lenE at h
  split at h
  · rename_i q xs e
    obtain ⟨a, vs, rfl, q1, q2⟩ := asS_rel hs rx e
    refine ⟨xs.length, ?_, h.ok hs rfl⟩
    cases q with
    | l => exact .inl ⟨vs, q1, q2.length.symm⟩
    | t => exact .inr ⟨vs, q1, q2.length.symm⟩
  · split at h
    · split at h
      · rename_i hz
        cases rx
        exact ⟨_, ⟨hz, rfl⟩, h.ok hs rfl⟩
      · exact h.elim
    · exact h.elim
def intP : PV → Option PV
  | .int i => some (.int i)
  | .bl b => some (.int (if b then 1 else 0))
  | _ => none
theorem ag_int : AgA X T (ap1 (p1 intP)) (fun xs H Q => (∃ i, xs = [.int i] ∧ Q (.int i) H) ∨ ∃ k, xs = [.bl k] ∧ Q (.int (if k then 1 else 0)) H) := by
  refine ag_ap1 (r := fun x H Q => (∃ i, x = .int i ∧ Q (.int i) H) ∨ ∃ k, x = .bl k ∧ Q (.int (if k then 1 else 0)) H) ?_ fun u H Q h => ?_
  · intro W A G m st H σ x u Q hs rx h
    unfold p1 at h
    split at h
    · split at h
      · rename_i e
        unfold intP at e
        split at e
        · cases e; cases rx; exact .inl ⟨_, rfl, h.ok hs rfl⟩
        · cases e; cases rx; exact .inr ⟨_, rfl, h.ok hs rfl⟩
        · cases e
      · exact h.elim
    · exact h.elim
  · rcases h with ⟨i, rfl, q⟩ | ⟨k, rfl, q⟩
    · exact .inl ⟨i, rfl, q⟩
    · exact .inr ⟨k, rfl, q⟩
def absP : PV → Option PV
  | .int i => some (.int (if i < 0 then -i else i))
  | _ => none
theorem ag_abs : AgA X T (ap1 (p1 absP)) (fun xs H Q => ∃ i, xs = [.int i] ∧ Q (.int (if i < 0 then -i else i)) H) := by
  refine ag_ap1 (r := fun x H Q => ∃ i, x = .int i ∧ Q (.int (if i < 0 then -i else i)) H) ?_ fun u H Q ⟨i, h1, h2⟩ => ⟨i, by rw [h1], h2⟩
  intro W A G m st H σ x u Q hs rx h
  unfold p1 at h
  split at h
  · split at h
    · rename_i e
      unfold absP at e
      split at e
      · cases e; cases rx; exact ⟨_, rfl, h.ok hs rfl⟩
      · cases e
    · exact h.elim
  · exact h.elim
def max2P : PV → PV → Option PV := i2 fun i j => some (.int (if j > i then j else i))
def min2P : PV → PV → Option PV := i2 fun i j => some (.int (if j < i then j else i))
theorem ag_max2 : AgA X T (ap2 (p2 max2P)) (fun xs H Q => ∃ i j, xs = [.int i, .int j] ∧ Q (.int (if j > i then j else i)) H) :=
  ag_ap2 (r := rI0 fun i j => .int (if j > i then j else i)) (ag_i0 fun i j p e c G => by cases e; rfl) fun u v H Q ⟨i, j, h1, h2, h3⟩ => ⟨i, j, by rw [h1, h2], h3⟩
theorem ag_min2 : AgA X T (ap2 (p2 min2P)) (fun xs H Q => ∃ i j, xs = [.int i, .int j] ∧ Q (.int (if j < i then j else i)) H) :=
  ag_ap2 (r := rI0 fun i j => .int (if j < i then j else i)) (ag_i0 fun i j p e c G => by cases e; rfl) fun u v H Q ⟨i, j, h1, h2, h3⟩ => ⟨i, j, by rw [h1, h2], h3⟩
/-- tuple(x) -/
def tupE (x : EV) (st : Store) : R EV := match asS x st with
  | some (_, xs) => match pvsOf xs with
    | some ps => .ok (.pv (.tup ps)) st
    | none => .stuck
  | none => .stuck
theorem ag_tup : AgA X T (ap1 tupE) (fun xs H Q => ∃ p ys, xs = [.ref p] ∧ ((SqL X.K H p ys ∧ ∀ l, H l = none → Q (.ref l) (upd H l (.tup ys))) ∨ (SqT X.K H p ys ∧ Q (.ref p) H))) := by
  refine ag_ap1 (r := fun x H Q => ∃ p ys, x = .ref p ∧ ((SqL X.K H p ys ∧ ∀ l, H l = none → Q (.ref l) (upd H l (.tup ys))) ∨ (SqT X.K H p ys ∧ Q (.ref p) H))) ?_ fun u H Q ⟨p, ys, h1, h2⟩ => ⟨p, ys, by rw [h1], h2⟩
  intro W A G m st H σ x u Q hs rx h
  unfold tupE at h
  split at h
  · rename_i q xs e
    split at h
    · rename_i ps e2
      cases q with
      | l =>
        obtain ⟨a, vs, rfl, q1, q2⟩ := asS_rel hs rx e
        exact ⟨a, vs, rfl, .inl ⟨q1, h.newTup hs (q2.pvs e2)⟩⟩
      | t =>
        unfold asS at e
        split at e
        · cases e
        · cases e
        · cases e
          rw [pvsOf_map] at e2
          cases e2
          obtain ⟨a, vs, rfl, q1, q2⟩ := RelPV.tup_inv rx
          exact ⟨a, vs, rfl, .inr ⟨SqT.mono hs.sub q1, h.ok hs rx⟩⟩
        · split at e <;> cases e
        · cases e
    · exact h.elim
  · exact h.elim
/-- list(x) -/
def lstE (o : Bool) (x : EV) (st : Store) : R EV := match asS x st with
  | some (_, xs) => newL o xs st
  | none => .stuck
theorem ag_lst (o : Bool) : AgA X T (ap1 (lstE o)) (fun xs H Q => ∃ p ys, xs = [.ref p] ∧ (SqL X.K H p ys ∨ SqT X.K H p ys) ∧ ∀ l, H l = none → Q (.ref l) (upd H l (.lst ys))) := by
  refine ag_ap1 (r := fun x H Q => ∃ p ys, x = .ref p ∧ (SqL X.K H p ys ∨ SqT X.K H p ys) ∧ ∀ l, H l = none → Q (.ref l) (upd H l (.lst ys))) ?_ fun u H Q ⟨p, ys, h1, h2⟩ => ⟨p, ys, by rw [h1], h2⟩
  intro W A G m st H σ x u Q hs rx h
  unfold lstE at h
  split at h
  · rename_i q xs e
    obtain ⟨a, vs, rfl, q1, q2⟩ := asS_rel hs rx e
    exact ⟨a, vs, rfl, q1.or, h.newL hs q2⟩
  · exact h.elim
/-- ints, bools of a row of trees -/
def intsP : List PV → Option (List Int)
  | [] => some []
  | .int i :: r => match intsP r with
    | some is => some (i :: is)
    | none => none
  | _ => none
def blsP : List PV → Option (List Bool)
  | [] => some []
  | .bl i :: r => match blsP r with
    | some is => some (i :: is)
    | none => none
  | _ => none
@[simp] theorem intsP_map (ns : List Int) : intsP (ns.map PV.int) = some ns := by
  induction ns with
  | nil => rfl
  | cons n ns ih => simp [intsP, ih]
@[simp] theorem blsP_map (ns : List Bool) : blsP (ns.map PV.bl) = some ns := by
  induction ns with
  | nil => rfl
  | cons n ns ih => simp [blsP, ih]
theorem intsP_rel {g : Cg} {G : Hp} : ∀ {ps : List PV} {ns : List Int} {vs : List V}, intsP ps = some ns → RelPVs g G ps vs → vs = ns.map V.int
  | [], ns, vs, e, r => by unfold intsP at e; cases e; exact r.nil_inv
  | p :: ps, ns, vs, e, r => by
    obtain ⟨v, r', rfl, h2, h3⟩ := r.cons_inv
    cases p with
    | int i =>
      unfold intsP at e
      split at e
      · rename_i is e2
        cases e
        cases h2
        rw [List.map_cons, intsP_rel e2 h3]
      · cases e
    | _ => cases e
theorem blsP_rel {g : Cg} {G : Hp} : ∀ {ps : List PV} {ns : List Bool} {vs : List V}, blsP ps = some ns → RelPVs g G ps vs → vs = ns.map V.bl
  | [], ns, vs, e, r => by unfold blsP at e; cases e; exact r.nil_inv
  | p :: ps, ns, vs, e, r => by
    obtain ⟨v, r', rfl, h2, h3⟩ := r.cons_inv
    cases p with
    | bl i =>
      unfold blsP at e
      split at e
      · rename_i is e2
        cases e
        cases h2
        rw [List.map_cons, blsP_rel e2 h3]
      · cases e
    | _ => cases e
/-- a function of a list's trees -/
def onL (f : List PV → Option PV) (x : EV) (st : Store) : R EV := match asS x st with
  | some (.l, xs) => match pvsOf xs with
    | some ps => match f ps with
      | some p => .ok (.pv p) st
      | none => .stuck
    | none => .stuck
  | _ => .stuck
theorem onL_rel {A : Act} {G : Hp} {m : List Addr} {st : Store} {H : Hp} {σ : L2.St} {Q : VK} {g : Cg} {f : List PV → Option PV} {x : EV} {u : V} (hs : HSim g A G m st H) (rx : RelEV g G m x u) (h : Post g (rE g) W A G m σ Q (onL f x st)) :
    ∃ a vs ps p, u = .ref a ∧ SqL g.K H a vs ∧ RelPVs g G ps vs ∧ f ps = some p ∧ ∀ w, RelPV g G p w → Q w H := by
  unfold onL at h
  split at h
  · rename_i xs e
    split at h
    · rename_i ps e2
      split at h
      · rename_i p e3
        obtain ⟨a, vs, rfl, q1, q2⟩ := asS_rel hs rx e
        exact ⟨a, vs, ps, p, rfl, q1, q2.pvs e2, e3, fun w hw => h.ok hs hw⟩
      · exact h.elim
    · exact h.elim
  · exact h.elim
def sumP (ps : List PV) : Option PV := (intsP ps).map fun ns => .int ns.sum
theorem ag_sum : AgA X T (ap1 (onL sumP)) (rSum X.K) := by
  refine ag_ap1 (r := fun x H Q => rSum X.K [x] H Q) ?_ fun u H Q h => h
  intro W A G m st H σ x u Q hs rx h
  obtain ⟨a, vs, ps, p, rfl, q1, q2, q3, q4⟩ := onL_rel hs rx h
  unfold sumP at q3
  simp only [Option.map_eq_some_iff] at q3
  obtain ⟨ns, e, rfl⟩ := q3
  rw [intsP_rel e q2] at q1
  exact ⟨a, ns, rfl, q1, q4 _ rfl⟩
def allP (ps : List PV) : Option PV := (blsP ps).map fun ns => .bl (ns.all id)
def anyP (ps : List PV) : Option PV := (blsP ps).map fun ns => .bl (ns.any id)
theorem ag_all : AgA X T (ap1 (onL allP)) (rAll X.K) := by
  refine ag_ap1 (r := fun x H Q => rAll X.K [x] H Q) ?_ fun u H Q h => h
  intro W A G m st H σ x u Q hs rx h
  obtain ⟨a, vs, ps, p, rfl, q1, q2, q3, q4⟩ := onL_rel hs rx h
  unfold allP at q3
  simp only [Option.map_eq_some_iff] at q3
  obtain ⟨ns, e, rfl⟩ := q3
  rw [blsP_rel e q2] at q1
  exact ⟨a, ns, rfl, q1, q4 _ rfl⟩
theorem ag_any : AgA X T (ap1 (onL anyP)) (rAny X.K) := by
  refine ag_ap1 (r := fun x H Q => rAny X.K [x] H Q) ?_ fun u H Q h => h
  intro W A G m st H σ x u Q hs rx h
  obtain ⟨a, vs, ps, p, rfl, q1, q2, q3, q4⟩ := onL_rel hs rx h
  unfold anyP at q3
  simp only [Option.map_eq_some_iff] at q3
  obtain ⟨ns, e, rfl⟩ := q3
  rw [blsP_rel e q2] at q1
  exact ⟨a, ns, rfl, q1, q4 _ rfl⟩
/-- the greatest, the least int of a row that is not empty -/
def maxI : Int → List Int → Int
  | a, [] => a
  | a, b :: r => maxI (if a < b then b else a) r
def minI : Int → List Int → Int
  | a, [] => a
  | a, b :: r => minI (if b < a then b else a) r
theorem maxI_ge : ∀ (l : List Int) (a : Int), a ≤ maxI a l ∧ ∀ y ∈ l, y ≤ maxI a l
  | [], a => ⟨Int.le_refl _, fun y h => by cases h⟩
  | b :: r, a => by
    unfold maxI
    obtain ⟨h1, h2⟩ := maxI_ge r (if a < b then b else a)
    refine ⟨?_, fun y hy => ?_⟩
    · split at h1 <;> rename_i hc <;> simp only [hc, if_true, if_false] <;> omega
    · rcases List.mem_cons.mp hy with rfl | hy
      · split at h1 <;> rename_i hc <;> simp only [hc, if_true, if_false] <;> omega
      · exact h2 y hy
theorem maxI_mem : ∀ (l : List Int) (a : Int), maxI a l = a ∨ maxI a l ∈ l
  | [], a => .inl rfl
  | b :: r, a => by
    unfold maxI
    rcases maxI_mem r (if a < b then b else a) with h | h
    · rw [h]
      split
      · exact .inr (List.mem_cons_self ..)
      · exact .inl rfl
    · exact .inr (List.mem_cons_of_mem _ h)
theorem minI_le : ∀ (l : List Int) (a : Int), minI a l ≤ a ∧ ∀ y ∈ l, minI a l ≤ y
  | [], a => ⟨Int.le_refl _, fun y h => by cases h⟩
  | b :: r, a => by
    unfold minI
    obtain ⟨h1, h2⟩ := minI_le r (if b < a then b else a)
    refine ⟨?_, fun y hy => ?_⟩
    · split at h1 <;> rename_i hc <;> simp only [hc, if_true, if_false] <;> omega
    · rcases List.mem_cons.mp hy with rfl | hy
      · split at h1 <;> rename_i hc <;> simp only [hc, if_true, if_false] <;> omega
      · exact h2 y hy
theorem minI_mem : ∀ (l : List Int) (a : Int), minI a l = a ∨ minI a l ∈ l
  | [], a => .inl rfl
  | b :: r, a => by
    unfold minI
    rcases minI_mem r (if b < a then b else a) with h | h
    · rw [h]
      split
      · exact .inr (List.mem_cons_self ..)
      · exact .inl rfl
    · exact .inr (List.mem_cons_of_mem _ h)
def maxP (ps : List PV) : Option PV := match intsP ps with
  | some (n :: ns) => some (.int (maxI n ns))
  | _ => none
def minP (ps : List PV) : Option PV := match intsP ps with
  | some (n :: ns) => some (.int (minI n ns))
  | _ => none
theorem ag_max : AgA X T (ap1 (onL maxP)) (rMax X.K) := by
  refine ag_ap1 (r := fun x H Q => rMax X.K [x] H Q) ?_ fun u H Q h => h
  intro W A G m st H σ x u Q hs rx h
  obtain ⟨a, vs, ps, p, rfl, q1, q2, q3, q4⟩ := onL_rel hs rx h
  unfold maxP at q3
  split at q3
  · rename_i n ns e
    cases q3
    rw [intsP_rel e q2] at q1
    refine ⟨a, n :: ns, rfl, q1, by simp, fun z hz hy => ?_⟩
    obtain ⟨h1, h2⟩ := maxI_ge ns n
    have e1 : z ≤ maxI n ns := by
      rcases List.mem_cons.mp hz with rfl | hz
      · exact h1
      · exact h2 z hz
    have e2 : maxI n ns ≤ z := hy _ (by rcases maxI_mem ns n with e | e; · rw [e]; exact List.mem_cons_self ..
                                        · exact List.mem_cons_of_mem _ e)
    have : z = maxI n ns := by omega
    subst this
    exact q4 _ rfl
  · cases q3
theorem ag_min : AgA X T (ap1 (onL minP)) (rMin X.K) := by
  refine ag_ap1 (r := fun x H Q => rMin X.K [x] H Q) ?_ fun u H Q h => h
  intro W A G m st H σ x u Q hs rx h
  obtain ⟨a, vs, ps, p, rfl, q1, q2, q3, q4⟩ := onL_rel hs rx h
  unfold minP at q3
  split at q3
  · rename_i n ns e
    cases q3
    rw [intsP_rel e q2] at q1
    refine ⟨a, n :: ns, rfl, q1, by simp, fun z hz hy => ?_⟩
    obtain ⟨h1, h2⟩ := minI_le ns n
    have e1 : minI n ns ≤ z := by
      rcases List.mem_cons.mp hz with rfl | hz
      · exact h1
      · exact h2 z hz
    have e2 : z ≤ minI n ns := hy _ (by rcases minI_mem ns n with e | e; · rw [e]; exact List.mem_cons_self ..
                                        · exact List.mem_cons_of_mem _ e)
    have : z = minI n ns := by omega
    subst this
    exact q4 _ rfl
  · cases q3

/-! ### isinstance -/
inductive Ty where
  | non | bool | int | str | tuple | list | dict
  deriving DecidableEq
def Ty.name : Ty → String
  | .non => "NoneType" | .bool => "bool" | .int => "int" | .str => "str" | .tuple => "tuple" | .list => "list" | .dict => "dict"
def Ty.sub : Ty → Ty → Bool
  | .non, .non => true | .bool, .bool => true | .bool, .int => true | .int, .int => true | .str, .str => true | .tuple, .tuple => true | .list, .list => true | .dict, .dict => true
  | _, _ => false
theorem Ty.kit : ∀ t T : Ty, T ≠ .non → kitB t.name T.name = some (t.sub T) := by
  intro t T h
  cases T <;> first | exact absurd rfl h | (cases t <;> decide +kernel)
def tyE (x : EV) (st : Store) : Option Ty := match x with
  | .pv .non => some .non
  | .pv (.bl _) => some .bool
  | .pv (.int _) => some .int
  | .pv (.str _) => some .str
  | .pv (.tup _) => some .tuple
  | .pv (.lst _) => some .list
  | .ob n => match st[n]? with
    | some (.lst _) => some .list
    | some (.frz (.lst _)) => some .list
    | _ => none
  | _ => none
theorem tyx_tup {K : PySem.W.Frag} {H : Hp} {a : Addr} {vs : List V} (h : SqT K H a vs) : TyX K H (.ref a) (.type "tuple") := by
  rcases h with (h | ⟨o, h⟩) | ⟨o, its, n, h1, h2, _⟩
  · exact .base (.tup h)
  · exact .fTuple h
  · exact .kTuple h1 h2
theorem tyE_rel {A : Act} {G : Hp} {m : List Addr} {st : Store} {H : Hp} {g : Cg} {x : EV} {u : V} {t : Ty} (hs : HSim g A G m st H) (rx : RelEV g G m x u) (h : tyE x st = some t) : TyX g.K H u (.type t.name) := by
  unfold tyE at h
  split at h
  · cases h; cases rx; exact .base .non
  · cases h; cases rx; exact .base (.bl _)
  · cases h; cases rx; exact .base (.int _)
  · cases h; cases rx; exact .base (.str _)
  · cases h
    obtain ⟨a, vs, rfl, q1, q2⟩ := RelPV.tup_inv rx
    exact tyx_tup (SqT.mono hs.sub q1)
  · cases h
    obtain ⟨a, vs, rfl, q1, q2⟩ := RelPV.lst_inv rx
    exact .base (.lst (hs.sub _ _ q1))
  · split at h
    · rename_i e
      cases h
      obtain ⟨a, vs, rfl, _, q1, q2, _⟩ := hs.ob_lst rx e
      exact .base (.lst q1)
    · rename_i e
      cases h
      obtain ⟨a, vs, rfl, q1, q2⟩ := RelPV.lst_inv (hs.ob_frz rx e)
      exact .base (.lst (hs.sub _ _ q1))
    · cases h
  · cases h
def isiE (T : Ty) (x : EV) (st : Store) : R EV := match tyE x st with
  | some t => .ok (.pv (.bl (t.sub T))) st
  | none => .stuck
/-- isinstance(e, T) -/
theorem de_isi {e : Expr} {d : DE} {p p2 pos : Pos} (U : Ty) (hU : U ≠ .non) {x2 : Str} (he : PE X e (rdE (cg X T) W d)) (hg : Gl X "isinstance") (hm : X.mg "isinstance" = none) (hg2 : Gl X x2) (hm2 : X.mg x2 = none) (hv2 : bootBuiltins x2 = some (.type U.name)) (hn2 : x2 ≠ "__name__" := by decide) (hd2 : (x2 == ("__debug__" : Str)) = false := by decide)
    (hs1 : starEach (e :: [.Name x2 p2]) X.env = (false, eval e X.env) :: starEach [.Name x2 p2] X.env := by rfl) (hs2 : starEach (.Name x2 p2 :: []) X.env = (false, eval (.Name x2 p2) X.env) :: starEach [] X.env := by rfl) (hpl : (backTo pos (starEach [.Name x2 p2] X.env)).any (·.1) = false := by rfl) :
    PE X (.Call (.Name "isinstance" p) [e, .Name x2 p2] [] pos) (rdE (cg X T) W (dOp1 (isiE U) d)) := by
  refine pe_w (pe_callB call_isi hg hm boot_isinstance (pa_cons he (pa_cons (pe_bltn (v := .ty U.name) hg2 hm2 hv2 rfl hn2 hd2) pa_nil hs2) hs1) (he := hs1) (hpl := hpl)) fun σ H Q h => ?_
  obtain ⟨A, G, m, ρ, st, h1, h2, h3⟩ := h
  refine ⟨A, G, m, ρ, st, h1, h2, h3.bind.imp fun u H1 ⟨G1, m1, x, st1, s1, l1, k1, r1, q1⟩ => ?_⟩
  unfold isiE at q1
  split at q1
  · rename_i t e
    exact ⟨u, .ty U.name, .type t.name, .type U.name, t.sub U, rfl, .ty _, tyE_rel k1 r1 e, kit_ty (Ty.kit t U hU), q1.ok k1 rfl⟩
  · exact q1.elim
end
end GT

/-! Part E. Statements, targets, loops, comprehensions, calls. -/
namespace GT
open PySem PySem.Spec PyProof.Rows L2

inductive RS where
  | stuck | nx (ρ : Env) (st : Store) | rt (v : EV) (st : Store) | bk (ρ : Env) (st : Store) | ct (ρ : Env) (st : Store) | exc (x : PX) (ρ : Env) (st : Store)
abbrev DS := Env → Store → RS
def PostS (g : Cg) (W : WX) (A : Act) (G : Hp) (m : List Addr) (D : Ends) : RS → Prop
  | .stuck => False
  | .nx ρ st => ∀ G' m' σ' H', Same G G' → m <+: m' → HSim g A G' m' st H' → LocSim g G' m' ρ σ' → D.nx σ' H'
  | .rt v st => ∀ G' m' u H', Same G G' → m <+: m' → HSim g A G' m' st H' → RelEV g G' m' v u → D.rt u H'
  | .bk ρ st => ∀ G' m' σ' H', Same G G' → m <+: m' → HSim g A G' m' st H' → LocSim g G' m' ρ σ' → D.bk σ' H'
  | .ct ρ st => ∀ G' m' σ' H', Same G G' → m <+: m' → HSim g A G' m' st H' → LocSim g G' m' ρ σ' → D.ct σ' H'
  | .exc x ρ st => ∀ G' m' σ' H' cls dd, Same G G' → m <+: m' → HSim g A G' m' st H' → LocSim g G' m' ρ σ' → RelX g G' H' x cls dd → W cls dd σ' H'
def rdS (g : Cg) (W : WX) (d : DS) : TS := fun D σ H => ∃ A G m ρ st, HSim g A G m st H ∧ LocSim g G m ρ σ ∧ PostS g W A G m D (d ρ st)
section
variable {g : Cg} {W : WX} {A : Act} {G G' : Hp} {m m' : List Addr} {D D' : Ends} {σ : L2.St} {H : Hp} {st : Store} {ρ : Env}
theorem PostS.mono {r : RS} (e : Same G G') (hm : m <+: m') (h : PostS g W A G m D r) : PostS g W A G' m' D r := by
  cases r with
  | stuck => exact h
  | nx ρ st => exact fun G2 m2 u H2 s l => h G2 m2 u H2 (e.trans s) (hm.trans l)
  | rt v st => exact fun G2 m2 u H2 s l => h G2 m2 u H2 (e.trans s) (hm.trans l)
  | bk ρ st => exact fun G2 m2 u H2 s l => h G2 m2 u H2 (e.trans s) (hm.trans l)
  | ct ρ st => exact fun G2 m2 u H2 s l => h G2 m2 u H2 (e.trans s) (hm.trans l)
  | exc x ρ st => exact fun G2 m2 u H2 c d s l => h G2 m2 u H2 c d (e.trans s) (hm.trans l)
theorem PostS.nx' (h : PostS g W A G m D (.nx ρ st)) (x : HSim g A G m st H) (l : LocSim g G m ρ σ) : D.nx σ H := h G m σ H (Same.refl _) (List.prefix_refl _) x l
/-- an expression's outcome goes on -/
def R.toS {α : Type} (ρ : Env) (r : R α) (k : α → Store → RS) : RS := match r with
  | .stuck => .stuck
  | .ok a st => k a st
  | .exc x st => .exc x ρ st
@[simp] theorem R.toS_ok {α : Type} (ρ : Env) (a : α) (st : Store) (k : α → Store → RS) : (R.ok a st).toS ρ k = k a st := (rfl)
@[simp] theorem R.toS_stuck {α : Type} (ρ : Env) (k : α → Store → RS) : (R.stuck : R α).toS ρ k = .stuck := (rfl)
@[simp] theorem R.toS_exc {α : Type} (ρ : Env) (x : PX) (st : Store) (k : α → Store → RS) : (R.exc x st : R α).toS ρ k = .exc x ρ st := (rfl)
theorem PostS.bind {α β : Type} {rel : Rel α β} {r : R α} {k : α → Store → RS} (hl : LocSim g G m ρ σ) (h : PostS g W A G m D (r.toS ρ k)) :
    Post g rel W A G m σ (fun u H' => ∃ G' m' v st', Same G G' ∧ m <+: m' ∧ HSim g A G' m' st' H' ∧ rel G' m' v u ∧ PostS g W A G' m' D (k v st')) r := by
  cases r with
  | stuck => exact h
  | ok v st => exact fun G2 m2 u H2 s l x y => ⟨G2, m2, v, st, s, l, x, y, PostS.mono s l h⟩
  | exc x st => exact fun G2 m2 H2 c d s l hs hx => h G2 m2 σ H2 c d s l hs (hl.mono s l) hx
end

section
variable {X : Cx} {T : List (Addr × Str)} {W : WX}
/-! ### blocks, small statements -/
def sNil : DS := fun ρ st => .nx ρ st
def sSeq (a b : DS) : DS := fun ρ st => match a ρ st with
  | .nx ρ' st' => b ρ' st'
  | r => r
theorem dss_nil : PSs X [] (rdS (cg X T) W sNil) := pss_w pss_nil fun D σ H h => by
  obtain ⟨A, G, m, ρ, st, h1, h2, h3⟩ := h
  exact PostS.nx' h3 h1 h2
theorem dss_cons {s : Stmt} {r : List Stmt} {a b : DS} (h1 : PS X s (rdS (cg X T) W a)) (h2 : PSs X r (rdS (cg X T) W b)) : PSs X (s :: r) (rdS (cg X T) W (sSeq a b)) := by
  refine pss_w (pss_cons h1 h2) fun D σ H h => ?_
  obtain ⟨A, G, m, ρ, st, k1, k2, k3⟩ := h
  refine ⟨A, G, m, ρ, st, k1, k2, ?_⟩
  unfold sSeq at k3
  cases e : a ρ st with
  | nx ρ' st' =>
    rw [e] at k3
    exact fun G2 m2 σ2 H2 s l hs hl => ⟨A, G2, m2, ρ', st', hs, hl, PostS.mono s l k3⟩
  | stuck => rw [e] at k3; exact k3
  | rt v st' => rw [e] at k3; exact k3
  | bk ρ' st' => rw [e] at k3; exact k3
  | ct ρ' st' => rw [e] at k3; exact k3
  | exc x ρ' st' => rw [e] at k3; exact k3
theorem dss_one {s : Stmt} {a : DS} (h1 : PS X s (rdS (cg X T) W a)) : PSs X [s] (rdS (cg X T) W a) := pss_one h1
def sPass : DS := fun ρ st => .nx ρ st
def sBreak : DS := fun ρ st => .bk ρ st
def sCont : DS := fun ρ st => .ct ρ st
theorem ds_pass {pos : Pos} : PS X (.Pass pos) (rdS (cg X T) W sPass) := ps_w ps_pass fun D σ H h => by
  obtain ⟨A, G, m, ρ, st, h1, h2, h3⟩ := h
  exact PostS.nx' h3 h1 h2
theorem ds_break {pos : Pos} : PS X (.Break pos) (rdS (cg X T) W sBreak) := ps_w ps_break fun D σ H h => by
  obtain ⟨A, G, m, ρ, st, h1, h2, h3⟩ := h
  exact h3 G m σ H (Same.refl _) (List.prefix_refl _) h1 h2
theorem ds_cont {pos : Pos} : PS X (.Continue pos) (rdS (cg X T) W sCont) := ps_w ps_continue fun D σ H h => by
  obtain ⟨A, G, m, ρ, st, h1, h2, h3⟩ := h
  exact h3 G m σ H (Same.refl _) (List.prefix_refl _) h1 h2
def sExpr (d : DE) : DS := fun ρ st => (d ρ st).toS ρ fun _ st1 => .nx ρ st1
theorem ds_expr {e : Expr} {d : DE} {pos : Pos} (he : PE X e (rdE (cg X T) W d)) (hs : swapsWith e none pos.line X.env = pure false := by rfl) : PS X (.Expr e pos) (rdS (cg X T) W (sExpr d)) := by
  refine ps_w (ps_expr he hs) fun D σ H h => ?_
  obtain ⟨A, G, m, ρ, st, h1, h2, h3⟩ := h
  exact ⟨A, G, m, ρ, st, h1, h2, (PostS.bind (rel := rE (cg X T)) h2 h3).imp fun u H1 ⟨G1, m1, x, st1, s1, l1, k1, r1, q1⟩ => PostS.nx' q1 k1 (h2.mono s1 l1)⟩
def sRet (d : DE) : DS := fun ρ st => (d ρ st).toS ρ fun v st1 => .rt v st1
theorem ds_ret {e : Expr} {d : DE} {pos : Pos} (he : PE X e (rdE (cg X T) W d)) : PS X (.Return (some e) pos) (rdS (cg X T) W (sRet d)) := by
  refine ps_w (ps_ret he) fun D σ H h => ?_
  obtain ⟨A, G, m, ρ, st, h1, h2, h3⟩ := h
  exact ⟨A, G, m, ρ, st, h1, h2, (PostS.bind (rel := rE (cg X T)) h2 h3).imp fun u H1 ⟨G1, m1, x, st1, s1, l1, k1, r1, q1⟩ => q1 G1 m1 u H1 (Same.refl _) (List.prefix_refl _) k1 r1⟩
def sRetN : DS := fun _ st => .rt (.pv .non) st
theorem ds_retN {pos : Pos} : PS X (.Return none pos) (rdS (cg X T) W sRetN) := ps_w ps_retN fun D σ H h => by
  obtain ⟨A, G, m, ρ, st, h1, h2, h3⟩ := h
  exact h3 G m _ H (Same.refl _) (List.prefix_refl _) h1 rfl
def sIf (c : DT) (a b : DS) : DS := fun ρ st => (c ρ st).toS ρ fun k st1 => if k = true then a ρ st1 else b ρ st1
theorem ds_if {c : Expr} {a b : List Stmt} {dc : DT} {da db : DS} {pos : Pos} (hc : PT X c (rdT (cg X T) W dc)) (ha : PSs X a (rdS (cg X T) W da)) (hb : PSs X b (rdS (cg X T) W db)) : PS X (.If c a b pos) (rdS (cg X T) W (sIf dc da db)) := by
  refine ps_w (ps_if hc ha hb) fun D σ H h => ?_
  obtain ⟨A, G, m, ρ, st, h1, h2, h3⟩ := h
  refine ⟨A, G, m, ρ, st, h1, h2, (PostS.bind (rel := rB) h2 h3).imp fun u H1 ⟨G1, m1, x, st1, s1, l1, k1, r1, q1⟩ => ?_⟩
  have e : x = u := r1
  subst e
  cases x with
  | true => exact ⟨A, G1, m1, ρ, st1, k1, h2.mono s1 l1, q1⟩
  | false => exact ⟨A, G1, m1, ρ, st1, k1, h2.mono s1 l1, q1⟩
def sSet (i : Nat) (d : DE) : DS := fun ρ st => (d ρ st).toS ρ fun v st1 => .nx (ρ.set i (some v)) st1
theorem rd_set {i : Nat} {d : DE} {D : Ends} {σ : L2.St} {H : Hp} (h : rdS (cg X T) W (sSet i d) D σ H) : tAsg (rdE (cg X T) W d) (gName i) D σ H := by
  obtain ⟨A, G, m, ρ, st, h1, h2, h3⟩ := h
  exact ⟨A, G, m, ρ, st, h1, h2, (PostS.bind (rel := rE (cg X T)) h2 h3).imp fun u H1 ⟨G1, m1, x, st1, s1, l1, k1, r1, q1⟩ => PostS.nx' q1 k1 ((h2.mono s1 l1).set r1)⟩
theorem ds_set {i : Nat} {x : Str} {e : Expr} {d : DE} {pos pos' : Pos} (hN : X.N.Nodup) (he : PE X e (rdE (cg X T) W d)) (hi : X.N[i]? = some x := by rfl) (hx : Loc X.env.scope x := by first | exact Or.inl rfl | exact Or.inr rfl) (hs : swapsWith e (some (.Name x pos')) pos.line X.env = pure false := by rfl) (hf : X.fn x = true ∨ X.env.scope.names.lookup x = some .local := by first | exact .inl rfl | exact .inr rfl) :
    PS X (.Assign [.Name x pos'] e pos) (rdS (cg X T) W (sSet i d)) := ps_w (ps_set hN hi hx he hs hf) fun _ _ _ h => rd_set h
/-- a, b = x, y -/
def sPar2 (i j : Nat) (a : DA) : DS := fun ρ st => (a ρ st).toS ρ fun xs st1 => match xs with
  | [v, w] => .nx ((ρ.set i (some v)).set j (some w)) st1
  | _ => .stuck
theorem ds_par2 {i j : Nat} {x y : Str} {a b : Expr} {d : DA} {px py pt pos : Pos} {kt k2 pt2} (hc : X.calm = true) (hN : X.N.Nodup) (ha : PA X [a, b] (rdA (cg X T) W d)) (hi : X.N[i]? = some x := by rfl) (hj : X.N[j]? = some y := by rfl) (hij : i ≠ j := by decide)
    (hx : X.env.scope.names.lookup x = some .local := by rfl) (hy : X.env.scope.names.lookup y = some .local := by rfl)
    (hw : swappedStores [.Tuple [.Name x px, .Name y py] kt pt] (.Tuple [a, b] k2 pt2) X.env = pure (some [x, y]) := by rfl)
    (hs : swapsWithSole [.Tuple [.Name x px, .Name y py] kt pt] (.Tuple [a, b] k2 pt2) pos.line X.env = pure false := by rfl) :
    PS X (.Assign [.Tuple [.Name x px, .Name y py] kt pt] (.Tuple [a, b] k2 pt2) pos) (rdS (cg X T) W (sPar2 i j d)) := by
  refine ps_w (ps_par hc hN hi hj hij hx hy ha hw hs) fun D σ H h => ?_
  obtain ⟨A, G, m, ρ, st, h1, h2, h3⟩ := h
  refine ⟨A, G, m, ρ, st, h1, h2, (PostS.bind (rel := rA (cg X T)) h2 h3).imp fun u H1 ⟨G1, m1, xs, st1, s1, l1, k1, r1, q1⟩ => ?_⟩
  split at q1
  · obtain ⟨v1, r', rfl, ra, v2, r'', rfl, rb, rc⟩ := r1
    cases rc
    exact ⟨v1, v2, rfl, PostS.nx' q1 k1 (((h2.mono s1 l1).set ra).set rb)⟩
  · exact q1.elim
def sPar3 (i j l : Nat) (a : DA) : DS := fun ρ st => (a ρ st).toS ρ fun xs st1 => match xs with
  | [u, v, w] => .nx (((ρ.set i (some u)).set j (some v)).set l (some w)) st1
  | _ => .stuck
theorem ds_par3 {i j l : Nat} {x y z : Str} {a b c : Expr} {d : DA} {px py pz pt pos : Pos} {kt k2 pt2} (hc : X.calm = true) (hN : X.N.Nodup) (ha : PA X [a, b, c] (rdA (cg X T) W d)) (hi : X.N[i]? = some x := by rfl) (hj : X.N[j]? = some y := by rfl) (hl : X.N[l]? = some z := by rfl) (hij : i ≠ j := by decide) (hil : i ≠ l := by decide) (hjl : j ≠ l := by decide)
    (hx : X.env.scope.names.lookup x = some .local := by rfl) (hy : X.env.scope.names.lookup y = some .local := by rfl) (hz : X.env.scope.names.lookup z = some .local := by rfl)
    (hw : swappedStores [.Tuple [.Name x px, .Name y py, .Name z pz] kt pt] (.Tuple [a, b, c] k2 pt2) X.env = pure (some [x, y, z]) := by rfl)
    (hs : swapsWithSole [.Tuple [.Name x px, .Name y py, .Name z pz] kt pt] (.Tuple [a, b, c] k2 pt2) pos.line X.env = pure false := by rfl) :
    PS X (.Assign [.Tuple [.Name x px, .Name y py, .Name z pz] kt pt] (.Tuple [a, b, c] k2 pt2) pos) (rdS (cg X T) W (sPar3 i j l d)) := by
  refine ps_w (ps_par3 hc hN hi hj hl hij hil hjl hx hy hz ha hw hs) fun D σ H h => ?_
  obtain ⟨A, G, m, ρ, st, h1, h2, h3⟩ := h
  refine ⟨A, G, m, ρ, st, h1, h2, (PostS.bind (rel := rA (cg X T)) h2 h3).imp fun u H1 ⟨G1, m1, xs, st1, s1, l1, k1, r1, q1⟩ => ?_⟩
  split at q1
  · obtain ⟨v1, r', rfl, ra, v2, r'', rfl, rb, v3, r3, rfl, rc, rd'⟩ := r1
    cases rd'
    exact ⟨v1, v2, v3, rfl, PostS.nx' q1 k1 ((((h2.mono s1 l1).set ra).set rb).set rc)⟩
  · exact q1.elim

/-! ### targets of names -/
abbrev TgF := EV → Env → Option Env
/-- the kit's reading of a target does what f does, on the slots vs alone -/
def TgOk (g : Cg) (t : TG) (f : TgF) (vs : List Nat) : Prop :=
  ∀ (A : Act) (G : Hp) (m : List Addr) (st : Store) (H : Hp) (ρ ρ' : Env) (σ : L2.St) (x : EV) (v : V) (Q : L2.St → Hp → Prop), HSim g A G m st H → LocSim g G m ρ σ → RelEV g G m x v → f x ρ = some ρ' →
    (∀ σ', LocSim g G m ρ' σ' → σ'.length = σ.length → (∀ i, i ∉ vs → σ'[i]? = σ[i]?) → Q σ' H) → t v σ H Q
def TgsOk (g : Cg) (t : TGs) (n : Nat) (f : List EV → Env → Option Env) (vs : List Nat) : Prop :=
  (∀ xs ρ ρ', f xs ρ = some ρ' → xs.length = n) ∧
  ∀ (A : Act) (G : Hp) (m : List Addr) (st : Store) (H : Hp) (ρ ρ' : Env) (σ : L2.St) (xs : List EV) (us : List V) (Q : L2.St → Hp → Prop), HSim g A G m st H → LocSim g G m ρ σ → RelEVs g G m xs us → f xs ρ = some ρ' →
    (∀ σ', LocSim g G m ρ' σ' → σ'.length = σ.length → (∀ i, i ∉ vs → σ'[i]? = σ[i]?) → Q σ' H) → t us σ H Q
def fNm (i : Nat) : TgF := fun x ρ => some (ρ.set i (some x))
theorem tg_nm {g : Cg} (i : Nat) : TgOk g (gName i) (fNm i) [i] := by
  intro A G m st H ρ ρ' σ x v Q hs hl r e k
  cases e
  refine k _ (hl.set r) (by simp) fun j hj => ?_
  rw [List.getElem?_set_ne (by simpa using fun e => hj (by simp [e]))]
def fsNil : List EV → Env → Option Env := fun xs ρ => match xs with
  | [] => some ρ
  | _ => none
def fsCons (f : TgF) (r : List EV → Env → Option Env) : List EV → Env → Option Env := fun xs ρ => match xs with
  | x :: xs => match f x ρ with
    | some ρ' => r xs ρ'
    | none => none
  | [] => none
theorem tgs_nil {g : Cg} : TgsOk g gNil 0 fsNil [] := by
  refine ⟨fun xs ρ ρ' e => ?_, fun A G m st H ρ ρ' σ xs us Q hs hl r e k => ?_⟩
  · cases xs with
    | nil => rfl
    | cons => cases e
  · cases xs with
    | nil => cases e; cases r; exact ⟨rfl, k σ hl rfl fun _ _ => rfl⟩
    | cons => cases e
theorem tgs_cons {g : Cg} {t : TG} {ts : TGs} {n : Nat} {f : TgF} {fs : List EV → Env → Option Env} {v vs : List Nat} (h1 : TgOk g t f v) (h2 : TgsOk g ts n fs vs) : TgsOk g (gCons t ts) (n + 1) (fsCons f fs) (v ++ vs) := by
  refine ⟨fun xs ρ ρ' e => ?_, fun A G m st H ρ ρ' σ xs us Q hs hl r e k => ?_⟩
  · cases xs with
    | nil => cases e
    | cons x xs =>
      unfold fsCons at e
      simp only at e
      split at e
      · have := h2.1 _ _ _ e
        simp [this]
      · cases e
  · cases xs with
    | nil => cases e
    | cons x xs =>
      obtain ⟨u, ur, rfl, r1, r2⟩ := r
      unfold fsCons at e
      simp only at e
      split at e
      · rename_i ρ1 e1
        refine ⟨u, ur, rfl, h1 A G m st H ρ ρ1 σ x u _ hs hl r1 e1 fun σ1 l1 n1 k1 => ?_⟩
        refine h2.2 A G m st H ρ1 ρ' σ1 xs ur _ hs l1 r2 e fun σ2 l2 n2 k2 => k σ2 l2 (n2.trans n1) fun i hi => ?_
        simp only [List.mem_append, not_or] at hi
        rw [k2 i hi.2, k1 i hi.1]
      · cases e
def fTp (f : List EV → Env → Option Env) : TgF := fun x ρ => match x with
  | .pv (.tup xs) => f (xs.map EV.pv) ρ
  | _ => none
theorem tg_tp {K : PySem.W.Frag} {mg : Str → Option Value} {ts : TGs} {n : Nat} {fs : List EV → Env → Option Env} {vs : List Nat} (h : TgsOk ⟨K, mg, T⟩ ts n fs vs) : TgOk ⟨K, mg, T⟩ (gTup K n ts) (fTp fs) vs := by
  intro A G m st H ρ ρ' σ x v Q hs hl r e k
  unfold fTp at e
  split at e
  · rename_i xs
    obtain ⟨a, us, rfl, q1, q2⟩ := RelPV.tup_inv r
    have hn := h.1 _ _ _ e
    exact ⟨a, us, rfl, SqT.mono hs.sub q1, by rw [q2.length, ← hn, List.length_map], h.2 A G m st H ρ ρ' σ _ us Q hs hl q2.evs e k⟩
  · cases e
/-- a target of names = e -/
def sAsgT (f : TgF) (d : DE) : DS := fun ρ st => (d ρ st).toS ρ fun v st1 => match f v ρ with
  | some ρ' => .nx ρ' st1
  | none => .stuck
theorem rd_asgT {f : TgF} {d : DE} {t : TG} {vs : List Nat} (ht : TgOk (cg X T) t f vs) {D : Ends} {σ : L2.St} {H : Hp} (h : rdS (cg X T) W (sAsgT f d) D σ H) : tAsg (rdE (cg X T) W d) t D σ H := by
  obtain ⟨A, G, m, ρ, st, h1, h2, h3⟩ := h
  refine ⟨A, G, m, ρ, st, h1, h2, (PostS.bind (rel := rE (cg X T)) h2 h3).imp fun u H1 ⟨G1, m1, x, st1, s1, l1, k1, r1, q1⟩ => ?_⟩
  split at q1
  · rename_i ρ' e
    exact ht A G1 m1 st1 H1 ρ ρ' σ x u D.nx k1 (h2.mono s1 l1) r1 e fun σ' l _ _ => PostS.nx' q1 k1 l
  · exact q1.elim
theorem ds_asgT {tg e : Expr} {d : DE} {t : TG} {f : TgF} {vs : List Nat} {pos : Pos} (hg : PG X tg t) (ht : TgOk (cg X T) t f vs) (he : PE X e (rdE (cg X T) W d)) (hs : swapsWithSole [tg] e pos.line X.env = pure false := by rfl) (hw : swappedStores [tg] e X.env = pure none := by rfl)
    (h1 : (assignEach [tg] X.env).map (·.2) = [assign tg X.env] := by rfl) : PS X (.Assign [tg] e pos) (rdS (cg X T) W (sAsgT f d)) := ps_w (ps_asg he hg hs hw h1) fun _ _ _ h => rd_asgT ht h
/-- o[i] = e -/
def setLE (o i v : EV) (st : Store) : Option Store := match o, i with
  | .ob n, .pv (.int k) => match st[n]? with
    | some (.lst xs) => match ixN xs.length k with
      | some j => some (st.set n (.lst (xs.set j v)))
      | none => none
    | _ => none
  | _, _ => none
def sSetI (o i d : DE) : DS := fun ρ st => (d ρ st).toS ρ fun v st1 => (o ρ st1).toS ρ fun x st2 => (i ρ st2).toS ρ fun y st3 => match setLE x y v st3 with
  | some st4 => .nx ρ st4
  | none => .stuck
theorem vals_set {g : Cg} {A : Act} {G : Hp} {m : List Addr} {st st' : Store} {H : Hp} {x y v : EV} {u w z : V} (hs : HSim g A G m st H) (rx : RelEV g G m x u) (ry : RelEV g G m y w) (rv : RelEV g G m v z) (e : setLE x y v st = some st') :
    ∃ p xs k j, u = .ref p ∧ w = .int k ∧ H p = some (.lst xs) ∧ ixN xs.length k = some j ∧ HSim g A G m st' (upd H p (.lst (xs.set j z))) := by
  unfold setLE at e
  split at e
  · split at e
    · rename_i n k _ xs e1
      split at e
      · rename_i j e2
        cases e
        cases ry
        obtain ⟨a, vs, rfl, q0, q1, q2, q3, q4⟩ := hs.ob_lst rx e1
        refine ⟨a, vs, k, j, rfl, rfl, q1, by rw [q2.length]; exact e2, ?_⟩
        exact hs.write q0 q1 q3 q4 (fun _ z => nomatch z) (fun _ z => nomatch z) (fun _ z => nomatch z) ⟨_, upd_same, q2.set rv, q3, q4⟩
      · cases e
    · cases e
  · cases e
theorem ds_setI {o i e : Expr} {do' di d : DE} {pos tpos : Pos} (ho : PE X o (rdE (cg X T) W do')) (hi : PE X i (rdE (cg X T) W di)) (he : PE X e (rdE (cg X T) W d))
    (ha : ∀ v, assign (.Subscript o i tpos) X.env v = (do
      let ov ← holding [v] (eval o X.env)
      let iv ← holding [v, ov] (eval i X.env)
      standAt tpos
      holding [v, ov, iv] (setItem ov iv v)
      release [v, ov, iv] []) := by intro _; rfl) (hs : swapsWithSole [.Subscript o i tpos] e pos.line X.env = pure false := by rfl) (hw : swappedStores [.Subscript o i tpos] e X.env = pure none := by rfl)
    (h1 : (assignEach [.Subscript o i tpos] X.env).map (·.2) = [assign (.Subscript o i tpos) X.env] := by rfl) : PS X (.Assign [.Subscript o i tpos] e pos) (rdS (cg X T) W (sSetI do' di d)) := by
  refine ps_w (ps_asg he (pg_sub ho hi set_list ha) hs hw h1) fun D σ H h => ?_
  obtain ⟨A, G, m, ρ, st, h1, h2, h3⟩ := h
  refine ⟨A, G, m, ρ, st, h1, h2, (PostS.bind (rel := rE (cg X T)) h2 h3).imp fun u H1 ⟨G1, m1, v, st1, s1, l1, k1, r1, q1⟩ => ?_⟩
  refine ⟨A, G1, m1, ρ, st1, k1, h2.mono s1 l1, (PostS.bind (rel := rE (cg X T)) (h2.mono s1 l1) q1).imp fun ou H2 ⟨G2, m2, x, st2, s2, l2, k2, r2, q2⟩ => ?_⟩
  have h22 := (h2.mono s1 l1).mono s2 l2
  refine ⟨A, G2, m2, ρ, st2, k2, h22, (PostS.bind (rel := rE (cg X T)) h22 q2).imp fun iu H3 ⟨G3, m3, y, st3, s3, l3, k3, r3, q3⟩ => ?_⟩
  split at q3
  · rename_i st4 e4
    obtain ⟨p, xs, k, j, rfl, rfl, e5, e6, hs'⟩ := vals_set k3 (r2.mono s3 l3) r3 ((r1.mono s2 l2).mono s3 l3) e4
    exact ⟨p, xs, k, j, rfl, rfl, e5, e6, PostS.nx' q3 hs' (h22.mono s3 l3)⟩
  · exact q3.elim
/-- x op= e -/
def sAug (i : Nat) (f : EV → EV → Store → R EV) (d : DE) : DS := fun ρ st => match ρ[i]? with
  | some (some x) => (d ρ st).toS ρ fun y st1 => (f x y st1).toS ρ fun z st2 => .nx (ρ.set i (some z)) st2
  | _ => .stuck
theorem ds_aug {i : Nat} {x : Str} {e : Expr} {d : DE} {op : Operator} {f : EV → EV → Store → R EV} {r : R2} {pos pos' : Pos} (hN : X.N.Nodup) (ho : OpR X (inplaceOp op) r) (hf : Ag2 X T f r) (he : PE X e (rdE (cg X T) W d)) (hi : X.N[i]? = some x := by rfl) (hx : Loc X.env.scope x := by first | exact Or.inl rfl | exact Or.inr rfl)
    (hfn : X.fn x = true ∨ X.env.scope.names.lookup x = some .local := by first | exact .inl rfl | exact .inr rfl) :
    PS X (.AugAssign (.Name x pos') op e pos) (rdS (cg X T) W (sAug i f d)) := by
  refine ps_w (ps_aug (ti := r) hN hi hx he (fun pins s σ H x y v u Q I r1 r2 h => ho pins s σ H x y v u Q I r1 r2 h) hfn) fun D σ H h => ?_
  obtain ⟨A, G, m, ρ, st, h1, h2, h3⟩ := h
  unfold sAug at h3
  split at h3
  · rename_i v e
    obtain ⟨u, e1, rv⟩ := h2.2 i v e
    refine ⟨u, e1, A, G, m, ρ, st, h1, h2, (PostS.bind (rel := rE (cg X T)) h2 h3).imp fun w H1 ⟨G1, m1, y, st1, s1, l1, k1, r1, q1⟩ => ?_⟩
    refine hf W A G1 m1 st1 H1 σ v y u w _ k1 (rv.mono s1 l1) r1 ((PostS.bind (rel := rE (cg X T)) (h2.mono s1 l1) q1).imp fun z H2 ⟨G2, m2, zz, st2, s2, l2, k2, r2, q2⟩ => ?_)
    exact PostS.nx' q2 k2 (((h2.mono s1 l1).mono s2 l2).set r2)
  · exact h3.elim

/-! ### while -/
def sWhile (c : DT) (b : DS) : Nat → DS
  | 0 => fun _ _ => .stuck
  | n + 1 => fun ρ st => (c ρ st).toS ρ fun k st1 => if k = true then (match b ρ st1 with
      | .nx ρ' st' => sWhile c b n ρ' st'
      | .ct ρ' st' => sWhile c b n ρ' st'
      | .bk ρ' st' => .nx ρ' st'
      | r => r) else .nx ρ st1
theorem ds_while {c : Expr} {body : List Stmt} {dc : DT} {db : DS} {pos : Pos} (n : Nat) (hp : PassesOwn (model X.prog X.w) X.A X.env X.xe) (hc : PT X c (rdT (cg X T) W dc)) (hb : PSs X body (rdS (cg X T) W db)) : PS X (.While c body [] pos) (rdS (cg X T) W (sWhile dc db n)) := by
  refine ps_w (ps_while hp hc hb) fun D σ H h => ?_
  obtain ⟨A, G, m, ρ, st, h1, h2, h3⟩ := h
  refine ⟨fun k σ H => ∃ G m ρ st, HSim (cg X T) A G m st H ∧ LocSim (cg X T) G m ρ σ ∧ PostS (cg X T) W A G m D (sWhile dc db k ρ st), ⟨n, G, m, ρ, st, h1, h2, h3⟩, ?_⟩
  rintro k σ1 H1 ⟨G1, m1, ρ1, st1, k1, k2, k3⟩
  cases k with
  | zero => exact k3.elim
  | succ k =>
    refine ⟨A, G1, m1, ρ1, st1, k1, k2, (PostS.bind (rel := rB) k2 (show PostS _ W A G1 m1 D (R.toS ρ1 (dc ρ1 st1) _) from k3)).imp fun u H2 ⟨G2, m2, x, st2, s2, l2, j1, r2, q2⟩ => ?_⟩
    have e : x = u := r2
    subst e
    cases x with
    | false =>
      rw [if_neg Bool.false_ne_true] at q2 ⊢
      exact PostS.nx' q2 j1 (k2.mono s2 l2)
    | true =>
      rw [if_pos rfl] at q2 ⊢
      refine ⟨fun σ' H' => ∃ G m ρ st, HSim (cg X T) A G m st H' ∧ LocSim (cg X T) G m ρ σ' ∧ PostS (cg X T) W A G m D (sWhile dc db k ρ st), fun σ' H' q => ⟨k, Nat.lt_succ_self _, q⟩, ?_⟩
      refine ⟨A, G2, m2, ρ1, st2, j1, k2.mono s2 l2, ?_⟩
      cases e : db ρ1 st2 with
      | stuck => rw [e] at q2; exact q2
      | nx ρ' st' => rw [e] at q2; exact fun G3 m3 σ3 H3 s l hs hl => ⟨G3, m3, ρ', st', hs, hl, PostS.mono s l q2⟩
      | ct ρ' st' => rw [e] at q2; exact fun G3 m3 σ3 H3 s l hs hl => ⟨G3, m3, ρ', st', hs, hl, PostS.mono s l q2⟩
      | bk ρ' st' => rw [e] at q2; exact q2
      | rt v st' => rw [e] at q2; exact q2
      | exc x ρ' st' => rw [e] at q2; exact q2

/-! ### what is walked -/
def YOut (g : Cg) (G0 : Hp) (H : Hp) (x : V) (H' : Hp) (p : PV) : Prop := ∀ A G m st, Same G0 G → HSim g A G m st H → ∃ G1, Same G G1 ∧ HSim g A G1 m st H' ∧ RelPV g G1 p x
structure Yields (g : Cg) (G0 : Hp) (J : It) (xs : List PV) : Prop where
  go : ∀ i H, Same G0 H → i < xs.length → J.go i H
  stop : ∀ i H, Same G0 H → xs.length ≤ i → J.stop i H
  yld : ∀ i H x H' p, Same G0 H → J.yld i H x H' → xs[i]? = some p → YOut g G0 H x H' p
theorem YOut.same {g : Cg} {G0 H : Hp} {x : V} {p : PV} (h : RelPV g G0 p x) : YOut g G0 H x H p := fun A G m st s hs => ⟨G, Same.refl _, hs, h.mono s⟩
abbrev DI := D (List PV)
def PostI (g : Cg) (W : WX) (A : Act) (G : Hp) (m : List Addr) (σ : L2.St) (Rr : It → Hp → Prop) : R (List PV) → Prop
  | .stuck => False
  | .ok xs st' => ∀ G' m' H' J, Same G G' → m <+: m' → HSim g A G' m' st' H' → Yields g G' J xs → Rr J H'
  | .exc x st' => ∀ G' m' H' cls dd, Same G G' → m <+: m' → HSim g A G' m' st' H' → RelX g G' H' x cls dd → W cls dd σ H'
def rdI (g : Cg) (W : WX) (d : DI) : TI := fun σ H Rr => ∃ A G m ρ st, HSim g A G m st H ∧ LocSim g G m ρ σ ∧ PostI g W A G m σ Rr (d ρ st)
theorem PostI.bind {α β : Type} {g : Cg} {A : Act} {G : Hp} {m : List Addr} {σ : L2.St} {rel : Rel α β} {Rr : It → Hp → Prop} {r : R α} {k : α → Store → R (List PV)} (h : PostI g W A G m σ Rr (r.bind k)) :
    Post g rel W A G m σ (fun u H' => ∃ G' m' v st', Same G G' ∧ m <+: m' ∧ HSim g A G' m' st' H' ∧ rel G' m' v u ∧ PostI g W A G' m' σ Rr (k v st')) r := by
  cases r with
  | stuck => exact h
  | ok v st =>
    refine fun G2 m2 u H2 s l x y => ⟨G2, m2, v, st, s, l, x, y, ?_⟩
    have h : PostI g W A G m σ Rr (k v st) := h
    cases e : k v st with
    | stuck => rw [e] at h; exact h
    | ok xs st' => rw [e] at h; exact fun G3 m3 H3 J s3 l3 => h G3 m3 H3 J (s.trans s3) (l.trans l3)
    | exc z st' => rw [e] at h; exact fun G3 m3 H3 c d s3 l3 => h G3 m3 H3 c d (s.trans s3) (l.trans l3)
  | exc x st => exact h
/-- the trees of a row that is walked -/
def itE (x : EV) (st : Store) : R (List PV) := match x with
  | .pv (.tup xs) => .ok xs st
  | .pv (.lst xs) => .ok xs st
  | .pv (.fls xs) => .ok xs st
  | _ => .stuck
theorem rel_get {g : Cg} {G : Hp} {ps : List PV} {vs : List V} (r : RelPVs g G ps vs) {i : Nat} {p : PV} {v : V} (e1 : ps[i]? = some p) (e2 : vs[i]? = some v) : RelPV g G p v := by
  obtain ⟨w, h1, h2⟩ := r.get e1
  rw [e2] at h1; cases h1
  exact h2
theorem yl_list {g : Cg} {G : Hp} {ps : List PV} {vs : List V} {a : Addr} (r : RelPVs g G ps vs) (h : ∀ H, Same G H → SqL g.K H a vs) : Yields g G (Itl g.K a) ps where
  go := fun i H s hi => by
    have hi' : i < vs.length := by rw [r.length]; exact hi
    exact ⟨vs, vs[i], h H s, List.getElem?_eq_getElem hi'⟩
  stop := fun i H s hi => ⟨vs, h H s, by rw [r.length]; exact hi⟩
  yld := fun i H x H' p s y e => by
    obtain ⟨rfl, y⟩ := y
    exact YOut.same (rel_get r e (y vs (h _ s)))
theorem yl_tup {g : Cg} {G : Hp} {ps : List PV} {vs : List V} {a : Addr} (r : RelPVs g G ps vs) (h : ∀ H, Same G H → SqT g.K H a vs) : Yields g G (Itt g.K a) ps where
  go := fun i H s hi => by
    have hi' : i < vs.length := by rw [r.length]; exact hi
    exact ⟨vs, vs[i], h H s, List.getElem?_eq_getElem hi'⟩
  stop := fun i H s hi => ⟨vs, h H s, by rw [r.length]; exact hi⟩
  yld := fun i H x H' p s y e => by
    obtain ⟨rfl, y⟩ := y
    exact YOut.same (rel_get r e (y vs (h _ s)))
def dIt (d : DE) : DI := fun ρ st => (d ρ st).bind itE
/-- for .. in a list -/
def itL (x : EV) (st : Store) : R (List PV) := match x with
  | .pv (.lst xs) => .ok xs st
  | .pv (.fls xs) => .ok xs st
  | _ => .stuck
def itT (x : EV) (st : Store) : R (List PV) := match x with
  | .pv (.tup xs) => .ok xs st
  | _ => .stuck
theorem di_list {tg e : Expr} {d : DE} (he : PE X e (rdE (cg X T) W d)) : PI X tg e (rdI (cg X T) W fun ρ st => (d ρ st).bind itL) := ⟨fun pins s σ H Rr I h => by
  refine (pi_list he).run pins s σ H Rr I ?_
  obtain ⟨A, G, m, ρ, st, h1, h2, h3⟩ := h
  refine ⟨A, G, m, ρ, st, h1, h2, (PostI.bind (rel := rE (cg X T)) h3).imp fun u H1 ⟨G1, m1, x, st1, s1, l1, k1, r1, q1⟩ => ?_⟩
  unfold itL at q1
  split at q1
  · obtain ⟨a, vs, rfl, e1, e2⟩ := RelPV.lst_inv r1
    exact ⟨a, rfl, ⟨vs, .of (k1.sub _ _ e1)⟩, q1 G1 m1 H1 _ (Same.refl _) (List.prefix_refl _) k1 (yl_list e2 fun H s => .of (s _ _ e1))⟩
  · obtain ⟨a, vs, rfl, e1, e2⟩ := RelPV.fls_inv r1
    exact ⟨a, rfl, ⟨vs, k1.sub.seq e1⟩, q1 G1 m1 H1 _ (Same.refl _) (List.prefix_refl _) k1 (yl_list e2 fun H s => s.seq e1)⟩
  · exact q1.elim⟩
theorem di_tup {tg e : Expr} {d : DE} (he : PE X e (rdE (cg X T) W d)) : PI X tg e (rdI (cg X T) W fun ρ st => (d ρ st).bind itT) := ⟨fun pins s σ H Rr I h => by
  refine (pi_tup he).run pins s σ H Rr I ?_
  obtain ⟨A, G, m, ρ, st, h1, h2, h3⟩ := h
  refine ⟨A, G, m, ρ, st, h1, h2, (PostI.bind (rel := rE (cg X T)) h3).imp fun u H1 ⟨G1, m1, x, st1, s1, l1, k1, r1, q1⟩ => ?_⟩
  unfold itT at q1
  split at q1
  · obtain ⟨a, vs, rfl, e1, e2⟩ := RelPV.tup_inv r1
    exact ⟨a, rfl, ⟨vs, SqT.mono k1.sub e1⟩, q1 G1 m1 H1 _ (Same.refl _) (List.prefix_refl _) k1 (yl_tup e2 fun H s => SqT.mono s e1)⟩
  · exact q1.elim⟩
/-- lo, lo + 1, .. below hi -/
def rngL (lo hi : Int) : List PV := (List.range (hi - lo).toNat).map fun (k : Nat) => PV.int (lo + k)
@[simp] theorem rngL_length (lo hi : Int) : (rngL lo hi).length = (hi - lo).toNat := by simp [rngL]
theorem yl_range {g : Cg} {G : Hp} {lo hi : Int} : Yields g G (Itr lo (hi - lo).toNat) (rngL lo hi) where
  go := fun i H s h => by rw [rngL_length] at h; exact h
  stop := fun i H s h => by rw [rngL_length] at h; exact h
  yld := fun i H x H' p s y e => by
    obtain ⟨rfl, rfl⟩ := y
    refine YOut.same ?_
    unfold rngL at e
    rw [List.getElem?_map] at e
    simp only [Option.map_eq_some_iff] at e
    obtain ⟨k, e1, rfl⟩ := e
    have h1 := List.getElem?_eq_some_iff.mp e1
    obtain ⟨h2, h3⟩ := h1
    simp at h3
    subst h3
    rfl
def smallR (i : Int) : Bool := decide (-1000000000000 < i) && decide (i < 1000000000000)
def rg1E (xs : List EV) (st : Store) : R (List PV) := match xs with
  | [.pv (.int j)] => if smallR j = true then .ok (rngL 0 j) st else .stuck
  | _ => .stuck
def rg2E (xs : List EV) (st : Store) : R (List PV) := match xs with
  | [.pv (.int i), .pv (.int j)] => if smallR i = true ∧ smallR j = true then .ok (rngL i j) st else .stuck
  | _ => .stuck
theorem smallR_lt {i : Int} (h : smallR i = true) : -(2 ^ 62) ≤ i ∧ i < 2 ^ 62 := by
  unfold smallR at h
  simp only [Bool.and_eq_true, decide_eq_true_eq] at h
  omega
def iR1 (d : DA) : DI := fun ρ st => (d ρ st).bind rg1E
def iR2 (d : DA) : DI := fun ρ st => (d ρ st).bind rg2E
theorem di_range1 {tg a : Expr} {d : DA} {p pos : Pos} (hg : Gl X "range") (hm : X.mg "range" = none) (ha : PA X [a] (rdA (cg X T) W d)) (hs : starEach [a] X.env = [(false, eval a X.env)] := by rfl) : PI X tg (.Call (.Name "range" p) [a] [] pos) (rdI (cg X T) W (iR1 d)) := ⟨fun pins s σ H Rr I h => by
  refine (pi_range1 hg hm ha hs).run pins s σ H Rr I ?_
  obtain ⟨A, G, m, ρ, st, h1, h2, h3⟩ := h
  refine ⟨A, G, m, ρ, st, h1, h2, (PostI.bind (rel := rA (cg X T)) h3).imp fun u H1 ⟨G1, m1, x, st1, s1, l1, k1, r1, q1⟩ => ?_⟩
  unfold rg1E at q1
  split at q1
  · rename_i j
    split at q1
    · rename_i hj
      obtain ⟨v, r, rfl, ra, rb⟩ := r1
      cases ra; cases rb
      obtain ⟨b1, b2⟩ := smallR_lt hj
      refine ⟨j, rfl, b1, b2, q1 G1 m1 H1 _ (Same.refl _) (List.prefix_refl _) k1 ?_⟩
      have y := yl_range (g := cg X T) (G := G1) (lo := 0) (hi := j)
      rw [Int.sub_zero] at y
      exact y
    · exact q1.elim
  · exact q1.elim⟩
theorem di_range2 {tg a b : Expr} {d : DA} {p pos : Pos} (hg : Gl X "range") (hm : X.mg "range" = none) (ha : PA X [a, b] (rdA (cg X T) W d)) (hs : starEach [a, b] X.env = [(false, eval a X.env), (false, eval b X.env)] := by rfl) (hs2 : starEach [b] X.env = [(false, eval b X.env)] := by rfl) :
    PI X tg (.Call (.Name "range" p) [a, b] [] pos) (rdI (cg X T) W (iR2 d)) := ⟨fun pins s σ H Rr I h => by
  refine (pi_range2 hg hm ha hs hs2).run pins s σ H Rr I ?_
  obtain ⟨A, G, m, ρ, st, h1, h2, h3⟩ := h
  refine ⟨A, G, m, ρ, st, h1, h2, (PostI.bind (rel := rA (cg X T)) h3).imp fun u H1 ⟨G1, m1, x, st1, s1, l1, k1, r1, q1⟩ => ?_⟩
  unfold rg2E at q1
  split at q1
  · rename_i i j
    split at q1
    · rename_i hj
      obtain ⟨v, r, rfl, ra, w, r', rfl, rb, rc⟩ := r1
      cases ra; cases rb; cases rc
      obtain ⟨b1, b2⟩ := smallR_lt hj.1
      obtain ⟨b3, b4⟩ := smallR_lt hj.2
      exact ⟨i, j, rfl, ⟨b1, b2, b3, b4⟩, q1 G1 m1 H1 _ (Same.refl _) (List.prefix_refl _) k1 yl_range⟩
    · exact q1.elim
  · exact q1.elim⟩

/-! ### for -/
def forS (f : TgF) (b : DS) : List PV → DS
  | [] => fun ρ st => .nx ρ st
  | x :: xs => fun ρ st => match f (.pv x) ρ with
    | none => .stuck
    | some ρ1 => match b ρ1 st with
      | .nx ρ' st' => forS f b xs ρ' st'
      | .ct ρ' st' => forS f b xs ρ' st'
      | .bk ρ' st' => .nx ρ' st'
      | r => r
def sFor (it : DI) (f : TgF) (b : DS) : DS := fun ρ st => (it ρ st).toS ρ fun xs st1 => forS f b xs ρ st1
theorem PostS.bindI {g : Cg} {A : Act} {G : Hp} {m : List Addr} {ρ : Env} {σ : L2.St} {D : Ends} {r : R (List PV)} {k : List PV → Store → RS} (hl : LocSim g G m ρ σ) (h : PostS g W A G m D (r.toS ρ k)) :
    PostI g W A G m σ (fun J H' => ∃ G' m' xs st', Same G G' ∧ m <+: m' ∧ HSim g A G' m' st' H' ∧ Yields g G' J xs ∧ PostS g W A G' m' D (k xs st')) r := by
  cases r with
  | stuck => exact h
  | ok v st => exact fun G2 m2 H2 J s l x y => ⟨G2, m2, v, st, s, l, x, y, PostS.mono s l h⟩
  | exc x st => exact fun G2 m2 H2 c d s l hs hx => h G2 m2 σ H2 c d s l hs (hl.mono s l) hx
theorem ds_for {tg iter : Expr} {body : List Stmt} {it : DI} {t : TG} {f : TgF} {vs : List Nat} {db : DS} {pos : Pos} (hp : PassesOwn (model X.prog X.w) X.A X.env X.xe) (hc : X.calm = true) (hi : PI X tg iter (rdI (cg X T) W it)) (hg : PG X tg t) (ht : TgOk (cg X T) t f vs) (hb : PSs X body (rdS (cg X T) W db))
    (hs : ∀ x, foldedSetIterable iter X.env x = pure x := by intro _; rfl) : PS X (.For tg iter body [] pos) (rdS (cg X T) W (sFor it f db)) := by
  refine ps_w (ps_for hp hc hi hg hb hs) fun D σ H h => ?_
  obtain ⟨A, G, m, ρ, st, h1, h2, h3⟩ := h
  refine ⟨A, G, m, ρ, st, h1, h2, ?_⟩
  have h4 := PostS.bindI h2 h3
  revert h4
  cases e : it ρ st with
  | stuck => exact fun z => z
  | exc x st1 => exact fun z => z
  | ok xs st1 =>
    intro h4 G0 m0 H0 J s0 l0 hs0 hy
    have k : PostS (cg X T) W A G0 m0 D (forS f db xs ρ st1) := by
      have h3' : PostS (cg X T) W A G m D (R.toS ρ (it ρ st) fun xs st1 => forS f db xs ρ st1) := h3
      rw [e] at h3'
      exact PostS.mono s0 l0 h3'
    refine ⟨fun i n σ H => n = xs.length - i ∧ i ≤ xs.length ∧ ∃ G m ρ st, Same G0 G ∧ HSim (cg X T) A G m st H ∧ LocSim (cg X T) G m ρ σ ∧ PostS (cg X T) W A G m D (forS f db (xs.drop i) ρ st), ⟨_, rfl, Nat.zero_le _, G0, m0, ρ, st1, Same.refl _, hs0, h2.mono s0 l0, k⟩, ?_⟩
    rintro i n σ1 H1 ⟨rfl, hi', G1, m1, ρ1, st2, sg, q1, q2, q3⟩
    by_cases hlt : i < xs.length
    · have ed : xs.drop i = xs[i] :: xs.drop (i + 1) := List.drop_eq_getElem_cons hlt
      rw [ed] at q3
      refine .inr ⟨hy.go i H1 (sg.trans q1.sub) hlt, fun σ' H' => ∃ G m ρ st, Same G0 G ∧ HSim (cg X T) A G m st H' ∧ LocSim (cg X T) G m ρ σ' ∧ PostS (cg X T) W A G m D (forS f db (xs.drop (i + 1)) ρ st), fun σ' H' q => ⟨xs.length - (i + 1), by omega, rfl, by omega, q⟩, fun x H' y => ?_⟩
      obtain ⟨G2, s2, hs2, rp⟩ := hy.yld i H1 x H' xs[i] (sg.trans q1.sub) y (List.getElem?_eq_getElem hlt) A G1 m1 st2 sg q1
      unfold forS at q3
      cases ef : f (.pv xs[i]) ρ1 with
      | none => simp only [ef] at q3; exact q3.elim
      | some ρ2 =>
        simp only [ef] at q3
        refine ht A G2 m1 st2 H' ρ1 ρ2 σ1 (.pv xs[i]) x _ hs2 (q2.mono s2 (List.prefix_refl _)) rp ef fun σ2 l2 _ _ => ?_
        refine ⟨A, G2, m1, ρ2, st2, hs2, l2, ?_⟩
        have q4 := PostS.mono s2 (List.prefix_refl _) q3
        cases eb : db ρ2 st2 with
        | stuck => rw [eb] at q4; exact q4
        | nx ρ' st' => rw [eb] at q4; exact fun G3 m3 σ3 H3 s l hs hl => ⟨G3, m3, ρ', st', (sg.trans s2).trans s, hs, hl, PostS.mono s l q4⟩
        | ct ρ' st' => rw [eb] at q4; exact fun G3 m3 σ3 H3 s l hs hl => ⟨G3, m3, ρ', st', (sg.trans s2).trans s, hs, hl, PostS.mono s l q4⟩
        | bk ρ' st' => rw [eb] at q4; exact q4
        | rt v st' => rw [eb] at q4; exact q4
        | exc x ρ' st' => rw [eb] at q4; exact q4
    · have e : i = xs.length := by omega
      subst e
      rw [List.drop_length] at q3
      exact .inl ⟨hy.stop _ H1 (sg.trans q1.sub) (Nat.le_refl _), PostS.nx' q3 q1 q2⟩
end
end GT

/-! Part F. List comprehensions; displays; calls of defs. -/
namespace GT
open PySem PySem.Spec PyProof.Rows L2

/-! ### displays -/
section
variable {X : Cx} {T : List (Addr × Str)} {W : WX}
def tupD (xs : List EV) (st : Store) : R EV := if xs.length ≤ sizeLine then (match pvsOf xs with
  | some ps => .ok (.pv (.tup ps)) st
  | none => .stuck) else .stuck
def lstD (o : Bool) (xs : List EV) (st : Store) : R EV := if xs.length ≤ sizeLine then newL o xs st else .stuck
theorem de_tup {es : List Expr} {d : DA} {x1 pos} (h : PA X es (rdA (cg X T) W d)) : PE X (.Tuple es x1 pos) (rdE (cg X T) W (dApp tupD d)) := by
  refine pe_w (pe_tup h) fun σ H Q h => ?_
  obtain ⟨A, G, m, ρ, st, h1, h2, h3⟩ := h
  refine ⟨A, G, m, ρ, st, h1, h2, h3.bind.imp fun u H1 ⟨G1, m1, x, st1, s1, l1, k1, r1, q1⟩ => ?_⟩
  unfold tupD at q1
  split at q1
  · rename_i hz
    split at q1
    · rename_i ps e
      exact ⟨by rw [r1.length]; exact hz, q1.newTup k1 (r1.pvs e)⟩
    · exact q1.elim
  · exact q1.elim
theorem de_lst (o : Bool) {es : List Expr} {d : DA} {pos} (h : PA X es (rdA (cg X T) W d)) : PE X (.List es pos) (rdE (cg X T) W (dApp (lstD o) d)) := by
  refine pe_w (pe_lst h) fun σ H Q h => ?_
  obtain ⟨A, G, m, ρ, st, h1, h2, h3⟩ := h
  refine ⟨A, G, m, ρ, st, h1, h2, h3.bind.imp fun u H1 ⟨G1, m1, x, st1, s1, l1, k1, r1, q1⟩ => ?_⟩
  unfold lstD at q1
  split at q1
  · rename_i hz
    exact ⟨by rw [r1.length]; exact hz, q1.newL k1 r1⟩
  · exact q1.elim
end

/-! ### a new list that stands already -/
section
variable {g : Cg} {W : WX} {A : Act} {G : Hp} {m : List Addr} {st : Store} {H : Hp} {σ : L2.St} {Q : VK} {Da : Addr}
theorem HSim.adopt (h : HSim g A G m st H) {xs : List V} (hD : H Da = some (.lst xs)) (gD : G Da = none) (fD : A.F Da = none) (nm : Da ∉ m) : HSim g A (upd G Da (.lst xs)) m st H := by
  have sG : Same G (upd G Da (.lst xs)) := same_upd gD
  refine ⟨fun b u q => ?_, h.frm, fun b u q => sG _ _ (h.g0 _ _ q), fun b u q => ?_, h.nod, h.len, fun n ob q => ?_, h.tabs⟩
  · by_cases e : b = Da
    · subst e; rw [upd_same] at q; rw [hD]; exact q
    · rw [upd_ne e] at q; exact h.sub _ _ q
  · by_cases e : b = Da
    · subst e; exact .inr fD
    · rw [upd_ne e] at q; exact h.new b u q
  · obtain ⟨a, e1, e2⟩ := h.obj n ob q
    have na : a ≠ Da := fun z => nm (z ▸ List.mem_of_getElem? e1)
    refine ⟨a, e1, ?_⟩
    cases ob with
    | lst ys => obtain ⟨us, r1, r2, r3, r4⟩ := e2; exact ⟨us, r1, r2.mono sG (List.prefix_refl _), by rw [upd_ne na]; exact r3, r4⟩
    | dic ks ys => obtain ⟨us, o', r0, r1, r2, r3, r4⟩ := e2; exact ⟨us, o', r0, r1, r2.mono sG (List.prefix_refl _), by rw [upd_ne na]; exact r3, r4⟩
    | ins c fs =>
      obtain ⟨C, dx, us, r0, r1, r2, r3, r4, r5, r6⟩ := e2
      have nd : dx ≠ Da := fun z => by rw [z, hD] at r5; cases r5
      exact ⟨C, dx, us, r0, r1, r2.mono sG (List.prefix_refl _), by rw [upd_ne na]; exact r3, r4, r5, by rw [upd_ne nd]; exact r6⟩
    | frz p => obtain ⟨r1, u, r2, r3⟩ := e2; exact ⟨r1.mono sG, u, sG _ _ r2, r3⟩
theorem HSim.adoptOb (h : HSim g A G m st H) {xs : List V} {es : List EV} (hD : H Da = some (.lst xs)) (r : RelEVs g G m es xs) (gD : G Da = none) (fD : A.F Da = none) (nm : Da ∉ m) : HSim g A G (m ++ [Da]) (st ++ [.lst es]) H := by
  refine ⟨h.sub, h.frm, h.g0, h.new, ?_, by simp [h.len], fun n ob' q => ?_, h.tabs⟩
  · rw [List.nodup_append]
    refine ⟨h.nod, by simp, fun a ha b hb => ?_⟩
    simp only [List.mem_singleton] at hb
    subst hb
    exact fun e => nm (e ▸ ha)
  · by_cases hl : n < st.length
    · rw [List.getElem?_append_left hl] at q
      obtain ⟨a, e1, e2⟩ := h.obj n ob' q
      exact ⟨a, pre_get (List.prefix_append ..) e1, e2.mono (Same.refl _) (List.prefix_append ..) fun _ e _ => e⟩
    · have e : n = st.length := by
        have := (List.getElem?_eq_some_iff.mp q).1
        simp at this; omega
      subst e
      rw [List.getElem?_append_right (Nat.le_refl _)] at q
      simp at q
      subst q
      exact ⟨Da, by rw [← h.len]; simp, xs, hD, r.mono (Same.refl _) (List.prefix_append ..), gD, fD⟩
theorem Post.adopt {o : Bool} {es : List EV} {xs : List V} (h : Post g (rE g) W A G m σ Q (GT.newL o es st)) (hs : HSim g A G m st H) (hD : H Da = some (.lst xs)) (r : RelEVs g G m es xs) (gD : G Da = none) (fD : A.F Da = none) (nm : Da ∉ m) : Q (.ref Da) H := by
  unfold GT.newL at h
  split at h
  · exact h.ok' (Same.refl _) (List.prefix_append m [Da]) (hs.adoptOb hD r gD fD nm) ⟨Da, by rw [← hs.len]; simp, rfl⟩
  · split at h
    · rename_i ps e
      exact h.ok' (same_upd gD) (List.prefix_refl _) (hs.adopt hD gD fD nm) (RelPV.mk_lst upd_same ((r.pvs e).mono (same_upd gD)))
    · exact h.elim
/-- while a list is being made at Da -/
def Act.with (A : Act) (G : Hp) (Da : Addr) (o : HO) : Act := ⟨G, upd A.F Da o⟩
theorem HSim.enter (h : HSim g A G m st H) {o : HO} (hD : H Da = some o) (nm : Da ∉ m) : HSim g (A.with G Da o) G m st H := by
  refine ⟨h.sub, fun a u q => ?_, Same.refl _, fun a u q => .inl q, h.nod, h.len, fun n ob q => ?_, h.tabs⟩
  · have q : upd A.F Da o a = some u := q
    by_cases e : a = Da
    · subst e; rw [upd_same] at q; cases q; exact ⟨⟨_, hD⟩, fun _ => hD⟩
    · rw [upd_ne e] at q; exact h.frm a u q
  · obtain ⟨a, e1, e2⟩ := h.obj n ob q
    have na : a ≠ Da := fun z => nm (z ▸ List.mem_of_getElem? e1)
    have ef : upd A.F Da o a = A.F a := upd_ne na
    refine ⟨a, e1, ?_⟩
    cases ob with
    | lst ys => obtain ⟨us, r1, r2, r3, r4⟩ := e2; exact ⟨us, r1, r2, r3, ef.trans r4⟩
    | dic ks ys => obtain ⟨us, o', r0, r1, r2, r3, r4⟩ := e2; exact ⟨us, o', r0, r1, r2, r3, ef.trans r4⟩
    | ins c fs => obtain ⟨C, dx, us, r0, r1, r2, r3, r4, r5, r6⟩ := e2; exact ⟨C, dx, us, r0, r1, r2, r3, ef.trans r4, r5, r6⟩
    | frz p => exact e2
theorem HSim.leave (h : HSim g A G m st H) (fD : A.F Da = none) (gD : G Da = none) {o : HO} (ho : ∀ ps, o ≠ .tbl ps) {G' : Hp} {m' : List Addr} {st' : Store} {H' : Hp} (k : HSim g (A.with G Da o) G' m' st' H') : HSim g A G' m' st' H' ∧ H' Da = some o ∧ G' Da = none ∧ Da ∉ m' := by
  have fe : ∀ a, a ≠ Da → upd A.F Da o a = A.F a := fun a e => upd_ne e
  have hD : H' Da = some o := (k.frm Da o upd_same).2 ho
  have gD' : G' Da = none := by
    cases q : G' Da with
    | none => rfl
    | some u =>
      rcases k.new Da u q with z | z
      · have z : G Da = some u := z
        rw [gD] at z; cases z
      · have z : upd A.F Da o Da = none := z
        rw [upd_same] at z; cases z
  have ent : ∀ (n : Nat) (ob : Ob) (a : Addr), m'[n]? = some a → ObRel g G' m' (A.with G Da o).F H' a ob → a ≠ Da ∧ ObRel g G' m' A.F H' a ob := by
    intro n ob a e1 e2
    have nd : (A.with G Da o).F Da ≠ none := by
      show upd A.F Da o Da ≠ none
      rw [upd_same]
      simp
    cases ob with
    | lst ys =>
      obtain ⟨us, r1, r2, r3, r4⟩ := e2
      have na : a ≠ Da := fun z => nd (z ▸ r4)
      exact ⟨na, us, r1, r2, r3, (fe a na).symm.trans r4⟩
    | dic ks ys =>
      obtain ⟨us, o', r0, r1, r2, r3, r4⟩ := e2
      have na : a ≠ Da := fun z => nd (z ▸ r4)
      exact ⟨na, us, o', r0, r1, r2, r3, (fe a na).symm.trans r4⟩
    | ins c fs =>
      obtain ⟨C, dx, us, r0, r1, r2, r3, r4, r5, r6⟩ := e2
      have na : a ≠ Da := fun z => nd (z ▸ r4)
      exact ⟨na, C, dx, us, r0, r1, r2, r3, (fe a na).symm.trans r4, r5, r6⟩
    | frz p =>
      obtain ⟨r1, u, r2, r3⟩ := e2
      exact ⟨fun z => (by rw [z, gD'] at r2; cases r2), r1, u, r2, r3⟩
  refine ⟨⟨k.sub, fun a u q => k.frm a u ?_, fun b u q => k.g0 b u (h.g0 b u q), fun a u q => ?_, k.nod, k.len, fun n ob q => ?_, k.tabs⟩, hD, gD', fun hm => ?_⟩
  · have na : a ≠ Da := fun z => by rw [z, fD] at q; cases q
    exact (fe a na).trans q
  · rcases k.new a u q with z | z
    · exact h.new a u z
    · refine .inr ?_
      have na : a ≠ Da := fun z2 => by rw [z2, gD'] at q; cases q
      exact (fe a na).symm.trans z
  · obtain ⟨a, e1, e2⟩ := k.obj n ob q
    exact ⟨a, e1, (ent n ob a e1 e2).2⟩
  · obtain ⟨n, hn, e⟩ := List.getElem_of_mem hm
    have hl : n < st'.length := by rw [← k.len]; exact hn
    obtain ⟨a, e1, e2⟩ := k.obj n st'[n] (List.getElem?_eq_getElem hl)
    have e3 := e1
    rw [List.getElem?_eq_getElem hn, e] at e3
    cases e3
    exact (ent n _ _ e1 e2).1 rfl
/-- the list grows -/
theorem HSim.grow (h : HSim g A G m st H) {o o' : HO} (hD : H Da = some o) (gD : G Da = none) (fD : A.F Da = none) (nm : Da ∉ m) (n1 : ∀ ps, o ≠ .tbl ps) (n2 : ∀ φ, o ≠ .ext φ) (n3 : ∀ b, o ≠ .own b) : HSim g A G m st (upd H Da o') := by
  refine ⟨fun b u q => ?_, fun b u q => ?_, h.g0, h.new, h.nod, h.len, fun n ob q => ?_, tabs_write h.tabs hD n1 n2⟩
  · rw [upd_ne (fun z => by rw [z, gD] at q; cases q)]; exact h.sub _ _ q
  · rw [upd_ne (fun z => by rw [z, fD] at q; cases q)]; exact h.frm b u q
  · obtain ⟨a, e1, e2⟩ := h.obj n ob q
    have na : a ≠ Da := fun z => nm (z ▸ List.mem_of_getElem? e1)
    refine ⟨a, e1, e2.hp fun c w q' hc => ?_⟩
    rcases hc with rfl | rfl
    · rw [upd_ne na]; exact q'
    · rw [upd_ne (fun z => by rw [z, hD] at q'; exact n3 _ (Option.some.inj q'))]; exact q'
end

/-! ### comprehensions of one clause -/
def wipeE (ρ : Env) : List Nat → Env
  | [] => ρ
  | v :: vs => (wipeE ρ vs).set v none
theorem LocSim.wipe {g : Cg} {G : Hp} {m : List Addr} {ρ : Env} {σ : L2.St} (h : LocSim g G m ρ σ) : ∀ vs : List Nat, LocSim g G m (wipeE ρ vs) (L2.wipe σ vs)
  | [] => h
  | v :: vs => (LocSim.wipe h vs).setNone
theorem wipe_look (τ : L2.St) (i : Nat) : ∀ vs : List Nat, (L2.wipe τ vs)[i]? = if i ∈ vs then (if i < τ.length then some none else none) else τ[i]?
  | [] => by simp [L2.wipe]
  | v :: vs => by
    unfold L2.wipe
    rw [List.getElem?_set, wipe_length]
    by_cases e : v = i
    · subst e
      simp
    · have q : (i ∈ v :: vs) ↔ i ∈ vs := ⟨fun h => (List.mem_cons.mp h).resolve_left (fun z => e z.symm), List.mem_cons_of_mem _⟩
      rw [if_neg e, wipe_look τ i vs]
      simp only [q]
theorem wipe_get {σ σ' : L2.St} (hl : σ'.length = σ.length) (vs : List Nat) (h : ∀ i, i ∉ vs → σ'[i]? = σ[i]?) : L2.wipe σ' vs = L2.wipe σ vs := by
  apply List.ext_getElem?
  intro i
  rw [wipe_look, wipe_look, hl]
  split
  · rfl
  · rename_i hi; exact h i hi
def noX {α : Type} : R α → R α
  | .exc _ _ => .stuck
  | r => r
@[simp] theorem noX_ok {α : Type} (a : α) (st : Store) : noX (.ok a st) = .ok a st := (rfl)
@[simp] theorem noX_stuck {α : Type} : noX (.stuck : R α) = .stuck := (rfl)
def compL (f : TgF) (c : DT) (e : DE) (ρ : Env) : List PV → Store → R (List EV)
  | [], st => .ok [] st
  | x :: xs, st => match f (.pv x) ρ with
    | none => .stuck
    | some ρ1 => (c ρ1 st).bind fun b st1 => if b = true then (e ρ1 st1).bind fun v st2 => (compL f c e ρ xs st2).bind fun vs st3 => .ok (v :: vs) st3 else compL f c e ρ xs st1
def dComp (o : Bool) (it : DI) (f : TgF) (c : DT) (e : DE) (vs : List Nat) : DE := fun ρ st => (it ρ st).bind fun xs st1 => if xs.length ≤ sizeLine then (noX (compL f c e (wipeE ρ vs) xs st1)).bind fun ys st2 => newL o ys st2 else .stuck
def tTrue : DT := fun _ st => .ok true st
section
variable {g : Cg} {W : WX} {A : Act} {G : Hp} {m : List Addr} {st : Store} {H : Hp} {σ : L2.St} {Q : VK}
theorem Post.bindI {α β : Type} {rel : Rel α β} {Q : β → Hp → Prop} {r : R (List PV)} {k : List PV → Store → R α} (h : Post g rel W A G m σ Q (r.bind k)) :
    PostI g W A G m σ (fun J H' => ∃ G' m' xs st', Same G G' ∧ m <+: m' ∧ HSim g A G' m' st' H' ∧ Yields g G' J xs ∧ Post g rel W A G' m' σ Q (k xs st')) r := by
  cases r with
  | stuck => exact h
  | ok v st => exact fun G2 m2 H2 J s l x y => ⟨G2, m2, v, st, s, l, x, y, Post.mono s l h⟩
  | exc x st => exact h
theorem PostI.imp {R' R'' : It → Hp → Prop} {r : R (List PV)} (h : PostI g W A G m σ R' r) (k : ∀ J H, R' J H → R'' J H) : PostI g W A G m σ R'' r := by
  cases r with
  | stuck => exact h
  | ok v st => exact fun G2 m2 H2 J s l x y => k _ _ (h G2 m2 H2 J s l x y)
  | exc x st => exact h
/-- a wish of exceptions that there are not -/
theorem Post.noX {α β γ δ : Type} {rel : Rel α β} {rel' : Rel γ δ} {W' : WX} {Q : δ → Hp → Prop} {r : R α} {k : α → Store → R γ} {h : R γ} (e : h = (GT.noX r).bind k) (q : Post g rel' W A G m σ Q h) :
    Post g rel W' A G m σ (fun u H' => ∃ G' m' v st', Same G G' ∧ m <+: m' ∧ HSim g A G' m' st' H' ∧ rel G' m' v u ∧ r = .ok v st' ∧ Post g rel' W A G' m' σ Q (k v st')) r := by
  subst e
  cases r with
  | stuck => exact q
  | ok v st => exact fun G2 m2 u H2 s l x y => ⟨G2, m2, v, st, s, l, x, y, rfl, Post.mono s l q⟩
  | exc x st => exact q.elim
end
section
variable {X : Cx} {T : List (Addr × Str)} {W : WX}
theorem compL_cons {f : TgF} {c : DT} {e : DE} {ρ : Env} {x : PV} {xs : List PV} {st : Store} {ρ1 : Env} (h : f (.pv x) ρ = some ρ1) : compL f c e ρ (x :: xs) st = (c ρ1 st).bind fun b st1 => if b = true then (e ρ1 st1).bind fun v st2 => (compL f c e ρ xs st2).bind fun vs st3 => .ok (v :: vs) st3 else compL f c e ρ xs st1 := by
  show (match f (.pv x) ρ with
    | none => R.stuck
    | some ρ1 => _) = _
  rw [h]
theorem rd_comp {o : Bool} {it : DI} {t : TG} {f : TgF} {vs tv : List Nat} {c : DT} {e : DE} {tt : TT} (ht : TgOk (cg X T) t f tv) (hv : ∀ i ∈ tv, i ∈ vs)
    (hc : ∀ σ H Q, rdT (cg X T) (fun _ _ _ _ => False) c σ H Q → tt σ H Q) {σ : L2.St} {H : Hp} {Q : VK} (h : rdE (cg X T) W (dComp o it f c e vs) σ H Q) :
    tLc (rdI (cg X T) W it) t tt (rdE (cg X T) (fun _ _ _ _ => False) e) vs σ H Q := by
  obtain ⟨A, G, m, ρ, st, h1, h2, h3⟩ := h
  refine ⟨A, G, m, ρ, st, h1, h2, (Post.bindI h3).imp fun J H1 ⟨G1, m1, xs, st1, s1, l1, k1, hy, q1⟩ Da hDa => ?_⟩
  split at q1
  case isFalse => exact q1.elim
  rename_i hz
  have gD1 := k1.gnone hDa
  have fD := k1.fnone hDa
  have nm1 := k1.fresh_m hDa
  refine ⟨fun i n H => n = xs.length - i ∧ i ≤ xs.length ∧ ∃ G m st acc accV, Same G1 G ∧ m1 <+: m ∧ HSim (cg X T) A G m st H ∧ H Da = some (.lst accV) ∧ RelEVs (cg X T) G m acc accV ∧ G Da = none ∧ Da ∉ m ∧ acc.length ≤ i ∧ LocSim (cg X T) G m (wipeE ρ vs) (L2.wipe σ vs) ∧
      Post (cg X T) (rE (cg X T)) W A G m σ Q ((noX (compL f c e (wipeE ρ vs) (xs.drop i) st)).bind fun ys st2 => newL o (acc ++ ys) st2),
    ⟨_, rfl, Nat.zero_le _, G1, m1, st1, [], [], Same.refl _, List.prefix_refl _, k1.junk hDa, upd_same, rfl, gD1, nm1, Nat.le_refl _, (h2.mono s1 l1).wipe vs, q1⟩, ?_⟩
  rintro i n H2 ⟨rfl, hi, G2, m2, st2, acc, accV, sg, sm, k2, hD, ra, gD, nD, hacc, hl, q2⟩
  by_cases hlt : i < xs.length
  · have ed : xs.drop i = xs[i] :: xs.drop (i + 1) := List.drop_eq_getElem_cons hlt
    rw [ed] at q2
    refine .inr ⟨hy.go i H2 (sg.trans k2.sub) hlt, fun H => ∃ G m st acc accV, Same G1 G ∧ m1 <+: m ∧ HSim (cg X T) A G m st H ∧ H Da = some (.lst accV) ∧ RelEVs (cg X T) G m acc accV ∧ G Da = none ∧ Da ∉ m ∧ acc.length ≤ i + 1 ∧ LocSim (cg X T) G m (wipeE ρ vs) (L2.wipe σ vs) ∧
      Post (cg X T) (rE (cg X T)) W A G m σ Q ((noX (compL f c e (wipeE ρ vs) (xs.drop (i + 1)) st)).bind fun ys st2 => newL o (acc ++ ys) st2), fun H' q => ⟨xs.length - (i + 1), by omega, rfl, by omega, q⟩, fun x H' y => ?_⟩
    -- the item, with the list at Da held fast
    have ke := k2.enter hD nD
    obtain ⟨G3, s3, ks3, rp⟩ := hy.yld i H2 x H' xs[i] (sg.trans k2.sub) y (List.getElem?_eq_getElem hlt) _ G2 m2 st2 sg ke
    cases ef : f (.pv xs[i]) (wipeE ρ vs) with
    | none =>
      have z : compL f c e (wipeE ρ vs) (xs[i] :: xs.drop (i + 1)) st2 = .stuck := by
        show (match f (.pv xs[i]) (wipeE ρ vs) with
          | none => R.stuck
          | some ρ1 => _) = _
        rw [ef]
      rw [z] at q2
      exact q2.elim
    | some ρ1 =>
      rw [compL_cons ef] at q2
      refine ht _ G3 m2 st2 H' (wipeE ρ vs) ρ1 (L2.wipe σ vs) (.pv xs[i]) x _ ks3 (hl.mono s3 (List.prefix_refl _)) rp ef fun σ2 l2 n2 e2 => ?_
      refine ⟨?_, hc σ2 H' _ ?_⟩
      · have := wipe_get (σ := L2.wipe σ vs) (σ' := σ2) n2 vs fun j hj => e2 j fun z => hj (hv j z)
        rw [this]
        exact wipe_get (wipe_length σ vs) vs fun j hj => by rw [wipe_look, if_neg hj]
      · have ql : Post (cg X T) (rE (cg X T)) W A G2 m2 σ Q ((noX (((c ρ1 st2).bind fun b st1 => if b = true then (e ρ1 st1).bind fun v st2 => (compL f c e (wipeE ρ vs) (xs.drop (i + 1)) st2).bind fun vs st3 => .ok (v :: vs) st3 else compL f c e (wipeE ρ vs) (xs.drop (i + 1)) st1))).bind fun ys st2 => newL o (acc ++ ys) st2) := q2
        have l2' : LocSim (cg X T) G3 m2 ρ1 σ2 := l2
        refine ⟨_, G3, m2, ρ1, st2, ks3, l2', ?_⟩
        cases ec : c ρ1 st2 with
        | stuck => rw [ec] at ql; exact ql.elim
        | exc z stz => rw [ec] at ql; exact ql.elim
        | ok b st3 =>
          rw [ec] at ql
          intro G4 m4 b' H4 s4 l4 k4 eb
          have eb : b = b' := eb
          subst eb
          obtain ⟨k4', hD4, gD4, nD4⟩ := k2.leave (Da := Da) (o := .lst accV) fD gD (fun _ z => nomatch z) (⟨k4.sub, k4.frm, (s3.trans s4), fun a u q => by
            rcases k4.new a u q with z | z
            · exact .inl z
            · exact .inr z, k4.nod, k4.len, k4.obj, k4.tabs⟩)
          cases b with
          | false =>
            rw [if_neg Bool.false_ne_true]
            have ql' : Post (cg X T) (rE (cg X T)) W A G2 m2 σ Q ((noX (compL f c e (wipeE ρ vs) (xs.drop (i + 1)) st3)).bind fun ys st2 => newL o (acc ++ ys) st2) := ql
            exact ⟨G4, m4, st3, acc, accV, sg.trans (s3.trans s4), sm.trans l4, k4', hD4, ra.mono (s3.trans s4) l4, gD4, nD4, by omega, hl.mono (s3.trans s4) l4, ql'.mono (s3.trans s4) l4⟩
          | true =>
            rw [if_pos rfl]
            have ql' : Post (cg X T) (rE (cg X T)) W A G2 m2 σ Q ((noX ((e ρ1 st3).bind fun v st2 => (compL f c e (wipeE ρ vs) (xs.drop (i + 1)) st2).bind fun vs st3 => .ok (v :: vs) st3)).bind fun ys st2 => newL o (acc ++ ys) st2) := ql
            refine ⟨_, G4, m4, ρ1, st3, k4'.enter hD4 nD4, l2'.mono s4 l4, ?_⟩
            cases ee : e ρ1 st3 with
            | stuck => rw [ee] at ql'; exact ql'.elim
            | exc z stz => rw [ee] at ql'; exact ql'.elim
            | ok v st4 =>
              rw [ee] at ql'
              intro G5 m5 y' H5 s5 l5 k5 rv
              obtain ⟨k5', hD5, gD5, nD5⟩ := k4'.leave (Da := Da) (o := .lst accV) fD gD4 (fun _ z => nomatch z) k5
              refine ⟨accV, hD5, by rw [ra.length]; omega, G5, m5, st4, acc ++ [v], accV ++ [y'], sg.trans ((s3.trans s4).trans s5), sm.trans (l4.trans l5), k5'.grow hD5 gD5 fD nD5 (fun _ z => nomatch z) (fun _ z => nomatch z) (fun _ z => nomatch z), upd_same,
                (ra.mono ((s3.trans s4).trans s5) (l4.trans l5)).append ⟨y', [], rfl, rv, rfl⟩, gD5, nD5, by simp; omega, hl.mono ((s3.trans s4).trans s5) (l4.trans l5), ?_⟩
              have ql2 : Post (cg X T) (rE (cg X T)) W A G2 m2 σ Q ((noX ((compL f c e (wipeE ρ vs) (xs.drop (i + 1)) st4).bind fun vs st3 => .ok (v :: vs) st3)).bind fun ys st2 => newL o (acc ++ ys) st2) := ql'
              have ql3 := ql2.mono ((s3.trans s4).trans s5) (l4.trans l5)
              cases er : compL f c e (wipeE ρ vs) (xs.drop (i + 1)) st4 with
              | stuck => rw [er] at ql3; exact ql3
              | exc z stz => rw [er] at ql3; exact ql3
              | ok ws stw =>
                rw [er] at ql3
                have ql4 : Post (cg X T) (rE (cg X T)) W A G5 m5 σ Q (newL o (acc ++ v :: ws) stw) := ql3
                show Post (cg X T) (rE (cg X T)) W A G5 m5 σ Q (newL o (acc ++ [v] ++ ws) stw)
                rw [List.append_assoc]
                exact ql4
  · have ei : i = xs.length := by omega
    subst ei
    rw [List.drop_length] at q2
    refine .inl ⟨hy.stop _ H2 (sg.trans k2.sub) (Nat.le_refl _), ?_⟩
    have q3 : Post (cg X T) (rE (cg X T)) W A G2 m2 σ Q (newL o (acc ++ []) st2) := q2
    rw [List.append_nil] at q3
    exact q3.adopt k2 hD ra gD fD nD
theorem rd_true {σ : L2.St} {H : Hp} {Q : Bool → Hp → Prop} {g : Cg} {W : WX} (h : rdT g W tTrue σ H Q) : tYes σ H Q := by
  obtain ⟨A, G, m, ρ, st, h1, h2, h3⟩ := h
  exact h3.ok h1 rfl
abbrev WF : WX := fun _ _ _ _ => False
theorem de_comp (o : Bool) {elt tg iter : Expr} {scope : Scope} {own : List (Str × Nat)} {pos : Pos} {it : DI} {t : TG} {f : TgF} {tv : List Nat} {e : DE} (hc : X.calm = true) (hN : X.N.Nodup) (hi : PI X tg iter (rdI (cg X T) W it)) (ok : BlkOk X.N X.env.scope scope own)
    (ht : TgOk (cg X T) t f tv) (hv : ∀ i ∈ tv, i ∈ own.map (·.2))
    (hg : ∀ (s : Shared) (H : Hp) (C : Addr) (cl : List (Str × Addr)) (fp : List Addr), PG (X.blk s H scope (compEnvC scope cl C X.env) fp) tg t)
    (he : ∀ (s : Shared) (H : Hp) (C : Addr) (cl : List (Str × Addr)) (fp : List Addr), PE (X.blk s H scope (compEnvC scope cl C X.env) fp) elt (rdE (cg X T) WF e)) (hs : ∀ x, foldedSetIterable iter X.env x = pure x := by intro _; rfl) :
    PE X (.ListComp elt [⟨tg, iter, [], 0⟩] scope pos) (rdE (cg X T) W (dComp o it f tTrue e (own.map (·.2)))) :=
  pe_w (pe_lc hc hN hi ok hg (fun _ _ _ _ _ => pts_nil) he hs) fun _ _ _ h => rd_comp ht hv (fun _ _ _ q => rd_true q) h
theorem de_compIf (o : Bool) {elt tg iter cnd : Expr} {scope : Scope} {own : List (Str × Nat)} {pos : Pos} {it : DI} {t : TG} {f : TgF} {tv : List Nat} {c : DT} {e : DE} (hc : X.calm = true) (hN : X.N.Nodup) (hi : PI X tg iter (rdI (cg X T) W it)) (ok : BlkOk X.N X.env.scope scope own)
    (ht : TgOk (cg X T) t f tv) (hv : ∀ i ∈ tv, i ∈ own.map (·.2))
    (hg : ∀ (s : Shared) (H : Hp) (C : Addr) (cl : List (Str × Addr)) (fp : List Addr), PG (X.blk s H scope (compEnvC scope cl C X.env) fp) tg t)
    (hcd : ∀ (s : Shared) (H : Hp) (C : Addr) (cl : List (Str × Addr)) (fp : List Addr), PT (X.blk s H scope (compEnvC scope cl C X.env) fp) cnd (rdT (cg X T) WF c))
    (he : ∀ (s : Shared) (H : Hp) (C : Addr) (cl : List (Str × Addr)) (fp : List Addr), PE (X.blk s H scope (compEnvC scope cl C X.env) fp) elt (rdE (cg X T) WF e)) (hs : ∀ x, foldedSetIterable iter X.env x = pure x := by intro _; rfl) :
    PE X (.ListComp elt [⟨tg, iter, [cnd], 0⟩] scope pos) (rdE (cg X T) W (dComp o it f c e (own.map (·.2)))) :=
  pe_w (pe_lc hc hN hi ok hg (fun s H C cl fp => pts_one (hcd s H C cl fp)) he hs) fun _ _ _ h => rd_comp ht hv (fun _ _ _ q => q) h
/-- name = [.. for ..] -/
theorem ds_setComp (o : Bool) {i : Nat} {y : Str} {py : Pos} {elt tg iter : Expr} {scope : Scope} {own : List (Str × Nat)} {pos spos : Pos} {it : DI} {t : TG} {f : TgF} {tv : List Nat} {e : DE} (hc : X.calm = true) (hN : X.N.Nodup) (hi : PI X tg iter (rdI (cg X T) W it)) (ok : BlkOk X.N X.env.scope scope own)
    (ht : TgOk (cg X T) t f tv) (hv : ∀ i ∈ tv, i ∈ own.map (·.2))
    (hg : ∀ (s : Shared) (H : Hp) (C : Addr) (cl : List (Str × Addr)) (fp : List Addr), PG (X.blk s H scope (compEnvC scope cl C X.env) fp) tg t)
    (he : ∀ (s : Shared) (H : Hp) (C : Addr) (cl : List (Str × Addr)) (fp : List Addr), PE (X.blk s H scope (compEnvC scope cl C X.env) fp) elt (rdE (cg X T) WF e))
    (hy : X.N[i]? = some y := by rfl) (hyl : X.env.scope.names.lookup y = some .local := by rfl) (hsw : swapsWith (.ListComp elt [⟨tg, iter, [], 0⟩] scope pos) (some (.Name y py)) spos.line X.env = pure true := by first | exact sw_true rfl rfl rfl (by decide +kernel) | rfl) (hs : ∀ x, foldedSetIterable iter X.env x = pure x := by intro _; rfl) :
    PS X (.Assign [.Name y py] (.ListComp elt [⟨tg, iter, [], 0⟩] scope pos) spos) (rdS (cg X T) W (sSet i (dComp o it f tTrue e (own.map (·.2))))) :=
  ps_w (ps_setLc hc hN hy hyl hsw hi ok hg (fun _ _ _ _ _ => pts_nil) he hs) fun D σ H h => rd_comp ht hv (fun _ _ _ q => rd_true q) (rd_set h)
theorem ds_setCompIf (o : Bool) {i : Nat} {y : Str} {py : Pos} {elt tg iter cnd : Expr} {scope : Scope} {own : List (Str × Nat)} {pos spos : Pos} {it : DI} {t : TG} {f : TgF} {tv : List Nat} {c : DT} {e : DE} (hc : X.calm = true) (hN : X.N.Nodup) (hi : PI X tg iter (rdI (cg X T) W it)) (ok : BlkOk X.N X.env.scope scope own)
    (ht : TgOk (cg X T) t f tv) (hv : ∀ i ∈ tv, i ∈ own.map (·.2))
    (hg : ∀ (s : Shared) (H : Hp) (C : Addr) (cl : List (Str × Addr)) (fp : List Addr), PG (X.blk s H scope (compEnvC scope cl C X.env) fp) tg t)
    (hcd : ∀ (s : Shared) (H : Hp) (C : Addr) (cl : List (Str × Addr)) (fp : List Addr), PT (X.blk s H scope (compEnvC scope cl C X.env) fp) cnd (rdT (cg X T) WF c))
    (he : ∀ (s : Shared) (H : Hp) (C : Addr) (cl : List (Str × Addr)) (fp : List Addr), PE (X.blk s H scope (compEnvC scope cl C X.env) fp) elt (rdE (cg X T) WF e))
    (hy : X.N[i]? = some y := by rfl) (hyl : X.env.scope.names.lookup y = some .local := by rfl) (hsw : swapsWith (.ListComp elt [⟨tg, iter, [cnd], 0⟩] scope pos) (some (.Name y py)) spos.line X.env = pure true := by first | exact sw_true rfl rfl rfl (by decide +kernel) | rfl) (hs : ∀ x, foldedSetIterable iter X.env x = pure x := by intro _; rfl) :
    PS X (.Assign [.Name y py] (.ListComp elt [⟨tg, iter, [cnd], 0⟩] scope pos) spos) (rdS (cg X T) W (sSet i (dComp o it f c e (own.map (·.2))))) :=
  ps_w (ps_setLc hc hN hy hyl hsw hi ok hg (fun s H C cl fp => pts_one (hcd s H C cl fp)) he hs) fun D σ H h => rd_comp ht hv (fun _ _ _ q => q) (rd_set h)
end

/-! ### calls of defs -/
abbrev Sem := List EV → Store → R EV
/-- a def's body as a function of its arguments: np parameters, ns slots -/
def runB (np ns : Nat) (b : DS) : Sem := fun args st => if args.length = np then (match b (args.map some ++ List.replicate (ns - np) none) st with
  | .nx _ st' => .ok (.pv .non) st'
  | .rt v st' => .ok v st'
  | .exc x _ st' => .exc x st'
  | _ => .stuck) else .stuck
abbrev WE1 (E : XK) : WX := fun c d _ H => E c d H
/-- a def's promise by a function -/
def spD (g : Cg) (np : Nat) (sem : Sem) : Sp := fun vs H Q E => vs.length = np ∧ ∃ A G m st evs, HSim g A G m st H ∧ RelEVs g G m evs vs ∧ Post g (rE g) (WE1 E) A G m [] Q (sem evs st)
theorem RelEVs.env {g : Cg} {G : Hp} {m : List Addr} {evs : List EV} {vs : List V} (r : RelEVs g G m evs vs) (k : Nat) : LocSim g G m (evs.map some ++ List.replicate k none) (vs.map some ++ List.replicate k none) := by
  refine ⟨by simp [r.length], fun i v e => ?_⟩
  by_cases h : i < evs.length
  · rw [List.getElem?_append_left (by simpa using h), List.getElem?_map] at e
    simp only [Option.map_eq_some_iff] at e
    obtain ⟨w, e1, e2⟩ := e
    cases e2
    obtain ⟨u, q1, q2⟩ := r.get e1
    refine ⟨u, ?_, q2⟩
    rw [List.getElem?_append_left (by rw [List.length_map, r.length]; exact h), List.getElem?_map, q1]
    rfl
  · rw [List.getElem?_append_right (by simpa using h)] at e
    rw [List.getElem?_replicate] at e
    split at e <;> cases e
theorem rd_body {g : Cg} {np ns : Nat} {b : DS} {N : List Str} {vs : List V} {H : Hp} {Q : VK} {E : XK} (hN : N.length = ns) (h : spD g np (runB np ns b) vs H Q E) : rdS g (WE1 E) b { nx := fun _ H' => Q .non H', rt := Q } (L2.start N vs) H := by
  obtain ⟨hl, A, G, m, st, evs, h1, h2, h3⟩ := h
  unfold runB at h3
  split at h3
  · rename_i hn
    refine ⟨A, G, m, evs.map some ++ List.replicate (ns - np) none, st, h1, ?_, ?_⟩
    · unfold L2.start
      rw [hN, hl]
      exact h2.env _
    · cases e : b (evs.map some ++ List.replicate (ns - np) none) st with
      | stuck => rw [e] at h3; exact h3
      | nx ρ st' => rw [e] at h3; exact fun G' m' σ' H' s l hs _ => h3 G' m' _ H' s l hs rfl
      | rt v st' => rw [e] at h3; exact h3
      | bk ρ st' => rw [e] at h3; exact h3.elim
      | ct ρ st' => rw [e] at h3; exact h3.elim
      | exc x ρ st' => rw [e] at h3; exact fun G' m' σ' H' cls dd s l hs _ hx => h3 G' m' H' cls dd s l hs hx
  · exact h3.elim
/-- the def of the name x keeps its promise, n levels of calls being left -/
structure Cl (P : Program) (w : World) (K : PySem.W.Frag) (mg : Str → Option Value) (base : Heap) (T : List (Addr × Str)) (n : Nat) (x : Str) (np : Nat) (sem : Sem) : Prop where
  ex : ∃ f fd ps, FnOk P w K mg base (L2.CX P w) n f fd ps (spD ⟨K, mg, T⟩ np sem) ∧ mg x = some (.ref f) ∧ PySem.W.keepIn K (.ref f) = true ∧ Binds K fd ps []
/-- whether a value, a thing of the store speaks of the first n things alone -/
def clE (n : Nat) : EV → Bool
  | .pv _ => true
  | .ob k => decide (k < n)
def clO (n : Nat) : Ob → Bool
  | .lst xs => xs.all (clE n)
  | .dic _ xs => xs.all (clE n)
  | .ins _ fs => fs.all fun p => clE n p.2
  | .frz _ => true
/-- behind a call what it made for itself is forgotten -/
def trunc (n : Nat) (st : Store) : Store := if (st.take n).all (clO n) = true then st.take n else st
def callE (sem : Sem) (xs : List EV) (st : Store) : R EV := match sem xs st with
  | .ok v st' => if clE st.length v = true then .ok v (trunc st.length st') else .ok v st'
  | .exc x st' => .exc x (trunc st.length st')
  | .stuck => .stuck
/-- a call that gets and gives trees alone -/
def callP (sem : Sem) (xs : List EV) (st : Store) : R EV := match pvsOf xs with
  | some ps => match sem (ps.map EV.pv) [] with
    | .ok (.pv v) _ => .ok (.pv v) st
    | .exc x _ => .exc x st
    | _ => .stuck
  | none => .stuck
theorem RelEV.cut {g : Cg} {G : Hp} {m : List Addr} {n : Nat} {x : EV} {v : V} (h : RelEV g G m x v) (c : clE n x = true) : RelEV g G (m.take n) x v := by
  cases x with
  | pv p => exact h
  | ob k =>
    obtain ⟨a, e, r⟩ := h
    refine ⟨a, ?_, r⟩
    unfold clE at c
    rw [List.getElem?_take_of_lt (by simpa using c)]
    exact e
theorem RelEVs.cutm {g : Cg} {G : Hp} {m : List Addr} {n : Nat} : ∀ {xs : List EV} {vs : List V}, RelEVs g G m xs vs → xs.all (clE n) = true → RelEVs g G (m.take n) xs vs
  | [], _, h, _ => h
  | x :: xs, _, h, c => by
    obtain ⟨v, r, h1, h2, h3⟩ := h
    rw [List.all_cons, Bool.and_eq_true] at c
    exact ⟨v, r, h1, h2.cut c.1, RelEVs.cutm h3 c.2⟩
theorem RelFe.cutm {g : Cg} {G : Hp} {m : List Addr} {n : Nat} : ∀ {xs : List (Str × EV)} {vs : List (Str × V)}, RelFe g G m xs vs → (xs.all fun p => clE n p.2) = true → RelFe g G (m.take n) xs vs
  | [], _, h, _ => h
  | x :: xs, _, h, c => by
    obtain ⟨v, r, h1, h2, h3⟩ := h
    rw [List.all_cons, Bool.and_eq_true] at c
    exact ⟨v, r, h1, h2.cut c.1, RelFe.cutm h3 c.2⟩
theorem HSim.cut {g : Cg} {A : Act} {G : Hp} {m : List Addr} {st : Store} {H : Hp} (h : HSim g A G m st H) {n : Nat} (c : (st.take n).all (clO n) = true) : HSim g A G (m.take n) (st.take n) H := by
  refine ⟨h.sub, h.frm, h.g0, h.new, h.nod.sublist (List.take_sublist _ _), by simp [h.len], fun k ob q => ?_, h.tabs⟩
  have hk : k < n := by
    have := (List.getElem?_eq_some_iff.mp q).1
    simp at this; omega
  have q' : st[k]? = some ob := by rw [List.getElem?_take_of_lt hk] at q; exact q
  obtain ⟨a, e1, e2⟩ := h.obj k ob q'
  have co : clO n ob = true := List.all_eq_true.mp c ob (List.mem_of_getElem? q)
  refine ⟨a, by rw [List.getElem?_take_of_lt hk]; exact e1, ?_⟩
  cases ob with
  | lst ys => obtain ⟨us, r1, r2, r3⟩ := e2; exact ⟨us, r1, r2.cutm co, r3⟩
  | dic ks ys => obtain ⟨us, o', r0, r1, r2, r3⟩ := e2; exact ⟨us, o', r0, r1, r2.cutm co, r3⟩
  | ins cc fs => obtain ⟨C, dx, us, r0, r1, r2, r3⟩ := e2; exact ⟨C, dx, us, r0, r1, r2.cutm co, r3⟩
  | frz p => exact e2
theorem pre_take {α : Type} {m m' : List α} {n : Nat} (h : m <+: m') (e : m.length = n) : m <+: m'.take n := by
  obtain ⟨t, rfl⟩ := h
  subst e
  simp
theorem HSim.trunc {g : Cg} {A : Act} {G : Hp} {m m' : List Addr} {st : Store} {n : Nat} {H : Hp} (h : HSim g A G m' st H) (hm : m <+: m') (e : m.length = n) : ∃ m2, m <+: m2 ∧ HSim g A G m2 (GT.trunc n st) H ∧ (∀ x v, clE n x = true → RelEV g G m' x v → RelEV g G m2 x v) := by
  unfold GT.trunc
  split
  · rename_i c
    exact ⟨m'.take n, pre_take hm e, h.cut c, fun x v cx r => r.cut cx⟩
  · exact ⟨m', hm, h, fun x v _ r => r⟩
section
variable {X : Cx} {T : List (Addr × Str)} {W : WX} {n : Nat} {x : Str} {np : Nat} {sem : Sem} {e : Expr} {es : List Expr} {d : DA} {p pos : Pos}
theorem de_callE (c : Cl X.prog X.w X.K X.mg X.base T n x np sem) (hr : Room n X.A) (tk : Takes X W) (hg : Gl X x) (hnp : (e :: es).length = np) (ha : PA X (e :: es) (rdA (cg X T) W d)) (hdb : (x == ("__debug__" : Str)) = false := by decide) (he : starEach (e :: es) X.env = (false, eval e X.env) :: starEach es X.env := by rfl) (hpl : (backTo pos (starEach es X.env)).any (·.1) = false := by rfl)
    (hlen : ∀ xs st, sem xs st ≠ .stuck → xs.length = np) : PE X (.Call (.Name x p) (e :: es) [] pos) (rdE (cg X T) W (dApp (callE sem) d)) := by
  obtain ⟨f, fd, ps, F, hm, hk, hb⟩ := c.ex
  refine pe_w (pe_callS F hr hg hm hk hb (fun σ => passAt tk σ) ha hdb he hpl) fun σ H Q h => ?_
  obtain ⟨A, G, m, ρ, st, h1, h2, h3⟩ := h
  refine ⟨A, G, m, ρ, st, h1, h2, h3.bind.imp fun u H1 ⟨G1, m1, xs, st1, s1, l1, k1, r1, q1⟩ => ?_⟩
  have hml : m1.length = st1.length := k1.len
  unfold callE at q1
  cases es' : sem xs st1 with
  | stuck => rw [es'] at q1; exact q1.elim
  | ok v st' =>
    rw [es'] at q1
    refine ⟨by rw [r1.length]; exact hlen _ _ (by rw [es']; simp), A, G1, m1, st1, xs, k1, r1, ?_⟩
    rw [es']
    intro G2 m2 u2 H2 s2 l2 k2 rv
    simp only at q1
    split at q1
    · rename_i cv
      obtain ⟨m3, l3, k3, k4⟩ := k2.trunc l2 hml
      exact q1 G2 m3 u2 H2 s2 l3 k3 (k4 _ _ cv rv)
    · exact q1 G2 m2 u2 H2 s2 l2 k2 rv
  | exc z st' =>
    rw [es'] at q1
    refine ⟨by rw [r1.length]; exact hlen _ _ (by rw [es']; simp), A, G1, m1, st1, xs, k1, r1, ?_⟩
    rw [es']
    intro G2 m2 H2 cls dd s2 l2 k2 rx
    obtain ⟨m3, l3, k3, k4⟩ := k2.trunc l2 hml
    exact q1 G2 m3 H2 cls dd s2 l3 k3 rx
/-- a callee that knows nothing of the changeable things -/
theorem HSim.pure {g : Cg} {A : Act} {G : Hp} {m : List Addr} {st : Store} {H : Hp} (h : HSim g A G m st H) : HSim g ⟨G, H⟩ G [] [] H :=
  ⟨h.sub, fun a o q => ⟨⟨_, q⟩, fun _ => q⟩, Same.refl _, fun a o q => .inl q, List.nodup_nil, rfl, fun n ob q => by simp at q, h.tabs⟩
theorem HSim.back {g : Cg} {A : Act} {G : Hp} {m : List Addr} {st : Store} {H : Hp} (h : HSim g A G m st H) {G' : Hp} {m' : List Addr} {st' : Store} {H' : Hp} (k : HSim g ⟨G, H⟩ G' m' st' H') : HSim g A G' m st H' := by
  have gn : ∀ b, G b = none → (∃ u, H b = some u) → G' b = none := fun b e ⟨u, hu⟩ => by
    cases q : G' b with
    | none => rfl
    | some o =>
      rcases k.new b o q with z | z
      · have z : G b = some o := z
        rw [e] at z; cases z
      · have z : H b = none := z
        rw [hu] at z; cases z
  refine ⟨k.sub, fun a o q => ?_, fun a o q => k.g0 _ _ (h.g0 _ _ q), fun a o q => ?_, h.nod, h.len, fun n ob q => ?_, k.tabs⟩
  · obtain ⟨⟨u, e1⟩, e2⟩ := h.frm a o q
    refine ⟨(k.frm a u e1).1, fun z => ?_⟩
    exact (k.frm a o (e2 z)).2 z
  · rcases k.new a o q with z | z
    · exact h.new a o z
    · exact .inr (h.fnone z)
  · obtain ⟨a, e1, e2⟩ := h.obj n ob q
    refine ⟨a, e1, (e2.mono k.g0 (List.prefix_refl _) gn).hp fun b u hb hc => ?_⟩
    refine (k.frm b u hb).2 fun ps z => ?_
    subst z
    rcases hc with rfl | hc
    · cases ob with
      | lst ys => obtain ⟨us, r1, _⟩ := e2; rw [hb] at r1; cases r1
      | dic ks ys =>
        obtain ⟨us, o', r0, ⟨_, r1⟩, _⟩ := e2
        rw [hb] at r0
        rcases r1 with ⟨kk, _, r1⟩ | ⟨kk, _, r1⟩ <;> rw [r1] at r0 <;> cases r0
      | ins cc fs => obtain ⟨C, dx, us, _, r1, _⟩ := e2; rw [hb] at r1; cases r1
      | frz pp =>
        obtain ⟨_, u, r1, r3⟩ := e2
        have r2 := h.sub _ _ r1
        rw [hb] at r2
        cases r2
        exact r3 ps rfl
    · cases hc
theorem de_callP (c : Cl X.prog X.w X.K X.mg X.base T n x np sem) (hr : Room n X.A) (tk : Takes X W) (hg : Gl X x) (ha : PA X (e :: es) (rdA (cg X T) W d)) (hdb : (x == ("__debug__" : Str)) = false := by decide) (he : starEach (e :: es) X.env = (false, eval e X.env) :: starEach es X.env := by rfl) (hpl : (backTo pos (starEach es X.env)).any (·.1) = false := by rfl)
    (hlen : ∀ xs st, sem xs st ≠ .stuck → xs.length = np) : PE X (.Call (.Name x p) (e :: es) [] pos) (rdE (cg X T) W (dApp (callP sem) d)) := by
  obtain ⟨f, fd, ps, F, hm, hk, hb⟩ := c.ex
  refine pe_w (pe_callS F hr hg hm hk hb (fun σ => passAt tk σ) ha hdb he hpl) fun σ H Q h => ?_
  obtain ⟨A, G, m, ρ, st, h1, h2, h3⟩ := h
  refine ⟨A, G, m, ρ, st, h1, h2, h3.bind.imp fun u H1 ⟨G1, m1, xs, st1, s1, l1, k1, r1, q1⟩ => ?_⟩
  unfold callP at q1
  split at q1
  · rename_i pps ep
    have rp := r1.pvs ep
    cases es' : sem (pps.map EV.pv) [] with
    | stuck => rw [es'] at q1; exact q1.elim
    | ok v st' =>
      rw [es'] at q1
      refine ⟨by rw [rp.length, ← List.length_map (f := EV.pv)]; exact hlen _ _ (by rw [es']; simp), ⟨G1, H1⟩, G1, [], [], pps.map EV.pv, k1.pure, rp.evs, ?_⟩
      rw [es']
      intro G2 m2 u2 H2 s2 l2 k2 rv
      cases v with
      | ob k => exact q1.elim
      | pv v => exact q1 G2 m1 u2 H2 s2 (List.prefix_refl _) (k1.back k2) rv
    | exc z st' =>
      rw [es'] at q1
      refine ⟨by rw [rp.length, ← List.length_map (f := EV.pv)]; exact hlen _ _ (by rw [es']; simp), ⟨G1, H1⟩, G1, [], [], pps.map EV.pv, k1.pure, rp.evs, ?_⟩
      rw [es']
      intro G2 m2 H2 cls dd s2 l2 k2 rx
      exact q1 G2 m1 H2 cls dd s2 (List.prefix_refl _) (k1.back k2) rx
  · exact q1.elim
end
end GT

/-! Part G. Products of rows, freezing, walks of anything, methods of lists. -/
namespace GT
open PySem PySem.Spec PyProof.Rows L2

theorem tuple_mul1 (l : Addr) (items : Array Value) (n : Nat) (dd : Option Addr) (sl : Array (Option Value)) (u : Tok) :
    Meets (Builtin.«tuple.__mul__» ⟨[.ref l, .int 1 u], []⟩) (fun _ R s => s.heap.get? l = some { cls := .type "tuple", dict := dd, data := .seq items n, slots := sl } ∧ R (.ok (.ret (Value.ref l))) s) :=
  .of_wp fun prog w A R s h => by
    obtain ⟨hp, g, d, tk, os⟩ := s
    obtain ⟨hl, h⟩ := h
    have f1 := AutoSeq1.idx_int
    have c1 : (items.isEmpty || (1 : Int) == 1) = true := by simp
    wp_walk using wpAny_loadPart' hl
    exact ⟨_, rfl, h⟩
section
variable {X : Cx}
def rRepT1 (K : PySem.W.Frag) : R2 := fun x y H Q => ∃ l xs, x = .ref l ∧ y = .int 1 ∧ SqT K H l xs ∧ Q (.ref l) H
theorem op_repT1 : OpR X (binaryOp .Mult) (rRepT1 X.K) := by
  intro pins s σ H x y v u Q I rx ry h
  obtain ⟨l, xs, rfl, rfl, hT, q⟩ := h
  cases rx
  obtain ⟨t, rfl⟩ := ry
  obtain ⟨its, r, ⟨⟨cls, dd, data, sl⟩, ho, hc, n, hd⟩, hs⟩ := I.tuple hT
  simp only at hc hd
  subst hc hd
  exact wpAny_binaryOp_repeat_ref (T := "tuple") (U := "int") (by decide) ⟨_, ho, rfl⟩ (fun s' => typeIs_int s' 1 t) noFill_tuple_mul F.fills_int_mul F.slot_int_rmul repeat_tuple F.slot_int_index.lookup
    (call_meets F.slot_int_rmul (typeIs_int s 1 t) F.entry_int_rmul (F.args_int_rmul_2 _ _) (int_rmul_tuple 1 t l its.toArray n dd sl)
      ⟨ho, rfl, ⟨_, ho, rfl⟩, call_meets F.slot_tuple_mul ⟨_, ho, rfl⟩ F.entry_tuple_mul (F.args_tuple_mul_2 _ _) (tuple_mul1 l its.toArray n dd sl t) ⟨ho, ⟨.ref l, H, I, rfl, q⟩⟩⟩)
end
/-- a text, n times -/
def repS (x : Str) (n : Int) : Str := ⟨(List.replicate n.toNat x.cps).foldl (· ++ ·) #[]⟩
theorem repS_size (a : Array Nat) : ∀ (k : Nat) (acc : Array Nat), ((List.replicate k a).foldl (· ++ ·) acc).size = acc.size + k * a.size
  | 0, acc => by simp
  | k + 1, acc => by
    rw [List.replicate_succ, List.foldl_cons, repS_size a k, Array.size_append, Nat.succ_mul]
    omega
section
variable {X : Cx}
def rRepS : R2 := fun x y H Q => ∃ z n, x = .str z ∧ y = .int n ∧ 2 ≤ n ∧ n ≤ 100000 ∧ 0 < z.length ∧ z.length ≤ 100 ∧ Q (.str (repS z n)) H
theorem op_repS : OpR X (binaryOp .Mult) rRepS := by
  intro pins s σ H x y v u Q I rx ry h
  obtain ⟨z, n, rfl, rfl, h1, h2, h3, h4, q⟩ := h
  obtain ⟨t, rfl⟩ := rx
  obtain ⟨t', rfl⟩ := ry
  have e1 : (n == 1 || z.length == 0) = false := by
    rw [Bool.or_eq_false_iff]
    exact ⟨beq_eq_false_iff_ne.mpr (by omega), beq_eq_false_iff_ne.mpr (by omega)⟩
  have hm : z.length * n.toNat ≤ 100 * 100000 := Nat.mul_le_mul h4 (by omega)
  refine PySem.P.mul_str (by rw [decide_eq_false (by omega), decide_eq_false (by omega)]; rfl) (fun _ _ => ?_) (fun _ _ => ?_) ?_
  · have hd : (2 ^ 63 - 1) / 100000 ≤ ((2 ^ 63 - 1 : Int) / n) := by
      exact Int.le_ediv_of_mul_le (by omega) (by
        have : (2 ^ 63 - 1 : Int) / 100000 * n ≤ (2 ^ 63 - 1 : Int) / 100000 * 100000 := Int.mul_le_mul_of_nonneg_left (by omega) (by decide)
        have e : (2 ^ 63 - 1 : Int) / 100000 * 100000 ≤ 2 ^ 63 - 1 := by decide
        omega)
    have e : (2 ^ 63 - 1 : Int) / 100000 = 92233720368547 := by decide
    omega
  · show Builtin.Str.tooLong (z.length * n.toNat) = false
    unfold Builtin.Str.tooLong
    rw [sizeLine_eq]
    exact decide_eq_false (by omega)
  · rw [if_neg (by omega), if_neg (by rw [e1]; exact Bool.false_ne_true)]
    refine ⟨?_, .str _, H, I.tok _, ⟨_, rfl⟩, q⟩
    show ((List.replicate n.toNat z.cps).foldl (· ++ ·) #[]).size ≤ sizeLine
    rw [repS_size, sizeLine_eq]
    have e : z.cps.size = z.length := rfl
    rw [e, Nat.mul_comm]
    simp only [List.size_toArray, List.length_nil]
    omega
end
section
variable {X : Cx} {T : List (Addr × Str)} {W : WX}
/-! ### * -/
def mulE (x y : EV) (st : Store) : R EV := match x, y with
  | .pv (.int i), .pv (.int j) => if smI i || smI j then .ok (.pv (.int (i * j))) st else .stuck
  | .pv (.tup xs), .pv (.int k) => if k = 1 then .ok (.pv (.tup xs)) st else if xs ≠ [] ∧ 2 ≤ k ∧ k ≤ 1000 ∧ xs.length ≤ 1000 then .ok (.pv (.tup (List.replicate k.toNat xs).flatten)) st else .stuck
  | .pv (.str z), .pv (.int n) => if 2 ≤ n ∧ n ≤ 100000 ∧ 0 < z.length ∧ z.length ≤ 100 then .ok (.pv (.str (repS z n))) st else .stuck
  | x, .pv (.int k) => match asL x st with
    | some xs => match pvsOf xs with
      | some ps => if -1000000 < k ∧ k ≤ 1000000 ∧ xs.length * k.toNat ≤ sizeLine then .ok (.pv (.lst (List.replicate k.toNat ps).flatten)) st else .stuck
      | none => .stuck
    | none => .stuck
  | _, _ => .stuck
def rMul5 (K : PySem.W.Frag) : R2 := fun x y H Q => (((rI CMul fun i j => .int (i * j)) x y H Q ∨ rRepT1 K x y H Q) ∨ (rRepT K x y H Q ∨ rRepS x y H Q)) ∨ rRep x y H Q
theorem op_mul5 : OpR X (binaryOp .Mult) (rMul5 X.K) := ((op_mul.or op_repT1).or (op_repT.or op_repS)).or op_rep
theorem small64_C {i j : Int} (h : (smI i || smI j) = true) : CMul i j := by
  simp only [smI, Bool.or_eq_true, Bool.and_eq_true, decide_eq_true_eq] at h
  unfold CMul
  omega
theorem ag_mul5 : Ag2 X T mulE (rMul5 X.K) := by
  intro W A G m st H σ x y u v Q hs rx ry h
  unfold mulE at h
  split at h
  · split at h
    · rename_i hc
      cases rx; cases ry
      exact .inl (.inl (.inl ⟨_, _, rfl, rfl, small64_C hc, h.ok hs rfl⟩))
    · exact h.elim
  · obtain ⟨a, vs, rfl, q1, q2⟩ := RelPV.tup_inv rx
    cases ry
    split at h
    · rename_i e
      subst e
      exact .inl (.inl (.inr ⟨a, vs, rfl, rfl, SqT.mono hs.sub q1, h.ok hs rx⟩))
    · split at h
      · rename_i hc
        refine .inl (.inr (.inl ⟨a, _, vs, rfl, rfl, SqT.mono hs.sub q1, fun e => ?_, hc.2.1, hc.2.2.1, by rw [q2.length]; exact hc.2.2.2, h.newTup hs (q2.rep _)⟩))
        subst e
        exact hc.1 (List.eq_nil_of_length_eq_zero (by rw [← q2.length]; rfl))
      · exact h.elim
  · split at h
    · rename_i hc
      cases rx; cases ry
      exact .inl (.inr (.inr ⟨_, _, rfl, rfl, hc.1, hc.2.1, hc.2.2.1, hc.2.2.2, h.ok hs rfl⟩))
    · exact h.elim
  · split at h
    · rename_i xs e1
      split at h
      · rename_i ps e2
        split at h
        · rename_i hc
          obtain ⟨a, vs, rfl, q1, q2⟩ := asL_rel hs rx e1
          cases ry
          refine .inr ⟨a, _, vs, rfl, rfl, q1, by omega, by omega, by rw [q2.length]; exact hc.2.2, h.newLst hs ((q2.pvs e2).rep _)⟩
        · exact h.elim
      · exact h.elim
    · exact h.elim
  · exact h.elim

/-! ### freezing -/
def frzE (x : EV) (st : Store) : R EV := match x with
  | .pv p => .ok (.pv p) st
  | .ob n => match st[n]? with
    | some (.lst xs) => match pvsOf xs with
      | some ps => .ok (.pv (.lst ps)) (st.set n (.frz (.lst ps)))
      | none => .stuck
    | some (.frz p) => .ok (.pv p) st
    | _ => .stuck
/-- the value of e, from now on a tree -/
def dFrz (d : DE) : DE := fun ρ st => (d ρ st).bind frzE
theorem de_frz {e : Expr} {d : DE} (he : PE X e (rdE (cg X T) W d)) : PE X e (rdE (cg X T) W (dFrz d)) := by
  refine pe_w he fun σ H Q h => ?_
  obtain ⟨A, G, m, ρ, st, h1, h2, h3⟩ := h
  refine ⟨A, G, m, ρ, st, h1, h2, h3.bind.imp fun u H1 ⟨G1, m1, x, st1, s1, l1, k1, r1, q1⟩ => ?_⟩
  unfold frzE at q1
  split at q1
  · exact q1.ok k1 r1
  · split at q1
    · rename_i n xs e
      split at q1
      · rename_i ps ep
        obtain ⟨a, e1, rfl⟩ := r1
        obtain ⟨G2, s2, k2, r2⟩ := k1.freeze e e1 ep
        exact q1 G2 m1 _ H1 s2 (List.prefix_refl _) k2 r2
      · exact q1.elim
    · rename_i e
      exact q1.ok k1 (k1.ob_frz r1 e)
    · exact q1.elim

/-! ### walking a list, a tuple, a text -/
def strL (z : Str) : List PV := z.cps.toList.map fun c => PV.str ⟨#[c]⟩
def itA (x : EV) (st : Store) : R (List PV) := match x with
  | .pv (.lst xs) => .ok xs st
  | .pv (.fls xs) => .ok xs st
  | .pv (.tup xs) => .ok xs st
  | .pv (.str z) => .ok (strL z) st
  | _ => .stuck
theorem yl_str {g : Cg} {G : Hp} {z : Str} : Yields g G (Its z) (strL z) where
  go := fun i H s h => by
    have h' : i < z.cps.size := by simpa [strL] using h
    exact h'
  stop := fun i H s h => by
    have h' : z.cps.size ≤ i := by simpa [strL] using h
    exact h'
  yld := fun i H x H' p s y e => by
    obtain ⟨rfl, c, e1, rfl⟩ := y
    refine YOut.same ?_
    unfold strL at e
    rw [List.getElem?_map, Array.getElem?_toList, e1] at e
    cases e
    rfl
def iW (d : DE) : DI := fun ρ st => (d ρ st).bind itA
theorem di_any {tg e : Expr} {d : DE} (he : PE X e (rdE (cg X T) W d)) : PI X tg e (rdI (cg X T) W (iW d)) := ⟨fun pins s σ H Rr I h => by
  obtain ⟨A, G, m, ρ, st, h1, h2, h3⟩ := h
  have via_l : ∀ {q : R EV}, q = d ρ st → (∀ x st', q = .ok x st' → (∃ xs, x = .pv (.lst xs)) ∨ ∃ xs, x = .pv (.fls xs)) → wpAny (model X.prog X.w) X.A (eval e X.env) (fun v s1 => wpAny (model X.prog X.w) X.A (pyIter v) (PIE X pins σ tg Rr) X.xe s1) X.xe s := by
    intro q hq hk
    refine (di_list (X := X) (T := T) (tg := tg) he).run pins s σ H Rr I ⟨A, G, m, ρ, st, h1, h2, ?_⟩
    show PostI _ W A G m σ Rr ((d ρ st).bind itL)
    have h3 : PostI _ W A G m σ Rr ((d ρ st).bind itA) := h3
    rw [← hq] at h3 ⊢
    cases q with
    | stuck => exact h3
    | exc z st' => exact h3
    | ok x st' => rcases hk x st' rfl with ⟨xs, rfl⟩ | ⟨xs, rfl⟩ <;> exact h3
  cases ed : d ρ st with
  | stuck =>
    have h3 : PostI _ W A G m σ Rr ((d ρ st).bind itA) := h3
    rw [ed] at h3; exact h3.elim
  | exc z st' => exact via_l rfl (fun x st' e => by rw [ed] at e; cases e)
  | ok x st' =>
    have h3 : PostI _ W A G m σ Rr ((d ρ st).bind itA) := h3
    rw [ed] at h3
    have h3 : PostI _ W A G m σ Rr (itA x st') := h3
    unfold itA at h3
    split at h3
    · exact via_l rfl (fun x st' e => by rw [ed] at e; cases e; exact .inl ⟨_, rfl⟩)
    · exact via_l rfl (fun x st' e => by rw [ed] at e; cases e; exact .inr ⟨_, rfl⟩)
    · rename_i xs
      refine (di_tup (X := X) (T := T) (tg := tg) he).run pins s σ H Rr I ⟨A, G, m, ρ, st, h1, h2, ?_⟩
      show PostI _ W A G m σ Rr ((d ρ st).bind itT)
      rw [ed]
      exact h3
    · rename_i z _
      refine (pi_str he).run pins s σ H Rr I ⟨A, G, m, ρ, st, h1, h2, ?_⟩
      rw [ed]
      intro G2 m2 u H2 s2 l2 k2 r2
      have r2 : RelPV (cg X T) G2 (.str z) u := r2
      cases r2
      exact ⟨z, rfl, h3 G2 m2 H2 _ s2 l2 k2 yl_str⟩
    · exact h3.elim⟩

/-! ### methods of lists -/
/-- o.m(args), o of the type ty -/
def dBM (ok : EV → Store → Bool) (f : EV → List EV → Store → R EV) (o : DE) (a : DA) : DE := fun ρ st => (o ρ st).bind fun x st1 => if ok x st1 = true then (a ρ st1).bind fun xs st2 => f x xs st2 else .stuck
def isL (x : EV) (st : Store) : Bool := match x with
  | .pv (.lst _) => true
  | .pv (.fls _) => true
  | .ob n => match st[n]? with
    | some (.lst _) => true
    | some (.frz (.lst _)) => true
    | _ => false
  | _ => false
def isS (x : EV) (_ : Store) : Bool := match x with
  | .pv (.str _) => true
  | _ => false
def AgM (X : Cx) (T : List (Addr × Str)) (f : EV → List EV → Store → R EV) (r : V → List V → Hp → VK → Prop) : Prop :=
  ∀ (W : WX) (A : Act) (G : Hp) (m : List Addr) (st : Store) (H : Hp) (σ : L2.St) (x : EV) (u : V) (xs : List EV) (us : List V) (Q : VK), HSim (cg X T) A G m st H → RelEV (cg X T) G m x u → RelEVs (cg X T) G m xs us → Post (cg X T) (rE (cg X T)) W A G m σ Q (f x xs st) → r u us H Q
def TyOk (X : Cx) (T : List (Addr × Str)) (ok : EV → Store → Bool) (t : String) : Prop := ∀ (A : Act) (G : Hp) (m : List Addr) (st : Store) (H : Hp) (x : EV) (u : V), HSim (cg X T) A G m st H → RelEV (cg X T) G m x u → ok x st = true → tyV X.K t u H
theorem ty_L : TyOk X T isL "list" := by
  intro A G m st H x u hs r h
  unfold isL at h
  split at h
  · obtain ⟨a, vs, rfl, q1, q2⟩ := RelPV.lst_inv r
    exact .inl ⟨rfl, vs, .of (hs.sub _ _ q1)⟩
  · obtain ⟨a, vs, rfl, q1, q2⟩ := RelPV.fls_inv r
    exact .inl ⟨rfl, vs, hs.sub.seq q1⟩
  · split at h
    · rename_i e
      obtain ⟨a, vs, rfl, _, q1, q2, _⟩ := hs.ob_lst r e
      exact .inl ⟨rfl, vs, .of q1⟩
    · rename_i e
      obtain ⟨a, vs, rfl, q1, q2⟩ := RelPV.lst_inv (hs.ob_frz r e)
      exact .inl ⟨rfl, vs, .of (hs.sub _ _ q1)⟩
    · cases h
  · cases h
theorem ty_S : TyOk X T isS "str" := by
  intro A G m st H x u hs r h
  unfold isS at h
  split at h
  · cases r; exact rfl
  · cases h
theorem de_bm {t id : String} {name : Str} {ok : EV → Store → Bool} {f : EV → List EV → Store → R EV} {r : V → List V → Hp → VK → Prop} {o e : Expr} {es : List Expr} {do' : DE} {da : DA} {apos cpos : Pos} (pa : PlainAttrs t) (slot : Slot t name id) (hty : typeOf (.builtin id) = pure (.type "method_descriptor")) (hm : MtR X id r) (hk : TyOk X T ok t) (hf : AgM X T f r)
    (ho : PE X o (rdE (cg X T) W do')) (ha : PA X (e :: es) (rdA (cg X T) W da)) (hbase : attributeBase o name X.env (eval o X.env) = eval o X.env := by rfl)
    (hfew : ((backTo cpos (starEach (e :: es) X.env)).all (fun x => !x.1) && (backToKw cpos (keywordEach [] X.env)).all (fun x => x.1.isSome)
      && decide ((e :: es).length + ([] : List Keyword).length + (if ([] : List Keyword).isEmpty then 0 else 1) < 30)) = true := by rfl)
    (hline : (apos.endLine == cpos.line) = true := by rfl) (hs : starEach (e :: es) X.env = (false, eval e X.env) :: starEach es X.env := by rfl) (hplain : (backTo cpos (starEach es X.env)).any (·.1) = false := by rfl) :
    PE X (.Call (.Attribute o name apos) (e :: es) [] cpos) (rdE (cg X T) W (dBM ok f do' da)) := by
  refine pe_w (pe_bm pa slot hty hm ho ha hbase hfew hline hs hplain) fun σ H Q h => ?_
  obtain ⟨A, G, m, ρ, st, h1, h2, h3⟩ := h
  refine ⟨A, G, m, ρ, st, h1, h2, h3.bind.imp fun u H1 ⟨G1, m1, x, st1, s1, l1, k1, r1, q1⟩ => ?_⟩
  split at q1
  · rename_i hok
    refine ⟨hk A G1 m1 st1 H1 x u k1 r1 hok, A, G1, m1, ρ, st1, k1, h2.mono s1 l1, q1.bind.imp fun us H2 ⟨G2, m2, xs, st2, s2, l2, k2, r2, q2⟩ => ?_⟩
    exact hf W A G2 m2 st2 H2 σ x u xs us Q k2 (r1.mono s2 l2) r2 q2
  · exact q1.elim
theorem de_bm0 {t id : String} {name : Str} {ok : EV → Store → Bool} {f : EV → List EV → Store → R EV} {r : V → List V → Hp → VK → Prop} {o : Expr} {do' : DE} {apos cpos : Pos} (pa : PlainAttrs t) (slot : Slot t name id) (hty : typeOf (.builtin id) = pure (.type "method_descriptor")) (hm : MtR X id r) (hk : TyOk X T ok t) (hf : AgM X T f r)
    (ho : PE X o (rdE (cg X T) W do')) (hbase : attributeBase o name X.env (eval o X.env) = eval o X.env := by rfl) (hline : (apos.endLine == cpos.line) = true := by rfl) :
    PE X (.Call (.Attribute o name apos) [] [] cpos) (rdE (cg X T) W (dBM ok f do' aNil)) := by
  refine pe_w (pe_bm0 pa slot hty hm ho hbase hline) fun σ H Q h => ?_
  obtain ⟨A, G, m, ρ, st, h1, h2, h3⟩ := h
  refine ⟨A, G, m, ρ, st, h1, h2, h3.bind.imp fun u H1 ⟨G1, m1, x, st1, s1, l1, k1, r1, q1⟩ => ?_⟩
  split at q1
  · rename_i hok
    exact ⟨hk A G1 m1 st1 H1 x u k1 r1 hok, hf W A G1 m1 st1 H1 σ x u [] [] Q k1 r1 rfl q1⟩
  · exact q1.elim
def appE (x : EV) (xs : List EV) (st : Store) : R EV := match x, xs with
  | .ob n, [v] => match st[n]? with
    | some (.lst ys) => if ys.length < sizeLine then .ok (.pv .non) (st.set n (.lst (ys ++ [v]))) else .stuck
    | _ => .stuck
  | _, _ => .stuck
theorem ag_append : AgM X T appE rAppend := by
  intro W A G m st H σ x u xs us Q hs rx rxs h
  unfold appE at h
  split at h
  · rename_i n v
    obtain ⟨w, r', rfl, rv, rn⟩ := rxs
    cases rn
    split at h
    · rename_i ys e
      split at h
      · rename_i hz
        obtain ⟨a, vs, rfl, q0, q1, q2, q3, q4⟩ := hs.ob_lst rx e
        refine ⟨a, vs, w, rfl, rfl, q1, by rw [q2.length]; exact hz, ?_⟩
        exact h.ok (hs.write q0 q1 q3 q4 (fun _ z => nomatch z) (fun _ z => nomatch z) (fun _ z => nomatch z) ⟨_, upd_same, q2.append ⟨w, [], rfl, rv, rfl⟩, q3, q4⟩) rfl
      · exact h.elim
    · exact h.elim
  · exact h.elim
def popE (x : EV) (xs : List EV) (st : Store) : R EV := match x, xs with
  | .ob n, [] => match st[n]? with
    | some (.lst ys) => match ys[ys.length - 1]? with
      | some v => .ok v (st.set n (.lst ys.dropLast))
      | none => .stuck
    | _ => .stuck
  | _, _ => .stuck
theorem ag_pop : AgM X T popE rPop := by
  intro W A G m st H σ x u xs us Q hs rx rxs h
  unfold popE at h
  split at h
  · rename_i n
    cases rxs
    split at h
    · rename_i ys e
      split at h
      · rename_i v ev
        obtain ⟨a, vs, rfl, q0, q1, q2, q3, q4⟩ := hs.ob_lst rx e
        obtain ⟨w, e2, rw'⟩ := q2.get ev
        refine ⟨a, vs, w, rfl, rfl, q1, by rw [q2.length]; exact e2, ?_⟩
        exact h.ok (hs.write q0 q1 q3 q4 (fun _ z => nomatch z) (fun _ z => nomatch z) (fun _ z => nomatch z) ⟨_, upd_same, q2.dropLast, q3, q4⟩) rw'
      · exact h.elim
    · exact h.elim
  · exact h.elim
/-- the first place of an equal one -/
def findP (p : PV) : List PV → Nat → Option Nat
  | [], _ => none
  | x :: xs, i => if eqP x p = true then some i else findP p xs (i + 1)
theorem findP_spec {p : PV} : ∀ {xs : List PV} {i j : Nat}, findP p xs i = some j → i ≤ j ∧ (∃ z, xs[j - i]? = some z ∧ eqP z p = true) ∧ ∀ m z, m < j - i → xs[m]? = some z → eqP z p = false
  | [], _, _, h => by cases h
  | x :: xs, i, j, h => by
    unfold findP at h
    split at h
    · rename_i hx
      cases h
      exact ⟨Nat.le_refl _, ⟨x, by simp, hx⟩, fun m z hm => by omega⟩
    · rename_i hx
      obtain ⟨h1, ⟨z, h2, h3⟩, h4⟩ := findP_spec h
      have e : j - i = (j - (i + 1)) + 1 := by omega
      refine ⟨by omega, ⟨z, by rw [e]; simpa using h2, h3⟩, fun m z hm hz => ?_⟩
      cases m with
      | zero => simp at hz; subst hz; simpa using hx
      | succ m => exact h4 m z (by omega) (by simpa using hz)
def indE (x : EV) (xs : List EV) (st : Store) : R EV := match xs with
  | [y] => match asS x st, snap y st with
    | some (.l, ys), some p => match pvsOf ys with
      | some ps => if okP p = true ∧ okP (.lst ps) = true then (match findP p ps 0 with
        | some j => .ok (.pv (.int j)) st
        | none => .stuck) else .stuck
      | none => .stuck
    | _, _ => .stuck
  | _ => .stuck
theorem toDs_get {ps : List PV} {ds : List PyData} (h : toDs ps = some ds) : ∀ {i : Nat}, (∀ {p : PV}, ps[i]? = some p → ∃ d, ds[i]? = some d ∧ toD p = some d) ∧ (∀ {d : PyData}, ds[i]? = some d → ∃ p, ps[i]? = some p ∧ toD p = some d) := by
  induction ps generalizing ds with
  | nil => unfold toDs at h; cases h; intro i; exact ⟨fun e => by simp at e, fun e => by simp at e⟩
  | cons q ps ih =>
    unfold toDs at h
    split at h
    · rename_i d1 ds1 e1 e2
      cases h
      intro i
      cases i with
      | zero => exact ⟨fun e => by simp at e; subst e; exact ⟨_, rfl, e1⟩, fun e => by simp at e; subst e; exact ⟨_, rfl, e1⟩⟩
      | succ i => simpa using ih e2 (i := i)
    · cases h
theorem ag_index : AgM X T indE (rIndexD X.K) := by
  intro W A G m st H σ x u xs us Q hs rx rxs h
  unfold indE at h
  split at h
  · rename_i y
    obtain ⟨w, r', rfl, rv, rn⟩ := rxs
    cases rn
    split at h
    · rename_i ys p e1 e2
      split at h
      · rename_i ps e3
        split at h
        · rename_i hok
          split at h
          · rename_i j ej
            obtain ⟨a, vs, rfl, q1, q2⟩ := asS_rel hs rx e1
            obtain ⟨d, d1, _⟩ := toD_of (p := p) (by have := hok.1; unfold okP at this; rw [Bool.and_eq_true] at this; exact this.1)
            obtain ⟨dl, d2, _⟩ := toD_of (p := .lst ps) (by have := hok.2; unfold okP at this; rw [Bool.and_eq_true] at this; exact this.1)
            have d2' := d2
            unfold toD at d2'
            simp only [Option.map_eq_some_iff] at d2'
            obtain ⟨ds, d3, rfl⟩ := d2'
            obtain ⟨f1, ⟨z, f2, f3⟩, f4⟩ := findP_spec ej
            rw [Nat.sub_zero] at f2 f4
            obtain ⟨dz, g1, g2⟩ := (toDs_get d3).1 f2
            refine ⟨a, w, d, ds, j, dz, rfl, rfl, .lst q1 (toDs_dp hs.sub d3 (q2.pvs e3)), snap_dp (W := W) hs rv e2 d1, okP_shaped hok.2 d2, okP_shaped hok.1 d1, g1, by rw [eqv_eqP g2 d1]; exact f3, fun m' z' hm hz' => ?_, h.ok hs rfl⟩
            obtain ⟨pz, g3, g4⟩ := (toDs_get d3).2 hz'
            rw [eqv_eqP g4 d1]
            exact f4 m' pz hm g3
          · exact h.elim
        · exact h.elim
      · exact h.elim
    · exact h.elim
  · exact h.elim

/-! ### "..".join(list) -/
def strsP : List PV → Option (List Str)
  | [] => some []
  | .str i :: r => match strsP r with
    | some is => some (i :: is)
    | none => none
  | _ => none
@[simp] theorem strsP_map (ns : List Str) : strsP (ns.map PV.str) = some ns := by
  induction ns with
  | nil => rfl
  | cons n ns ih => simp [strsP, ih]
theorem strsP_rel {g : Cg} {G : Hp} : ∀ {ps : List PV} {ns : List Str} {vs : List V}, strsP ps = some ns → RelPVs g G ps vs → vs = ns.map V.str
  | [], ns, vs, e, r => by unfold strsP at e; cases e; exact r.nil_inv
  | p :: ps, ns, vs, e, r => by
    obtain ⟨v, r', rfl, h2, h3⟩ := r.cons_inv
    cases p with
    | str i =>
      unfold strsP at e
      split at e
      · rename_i is e2
        cases e
        cases h2
        rw [List.map_cons, strsP_rel e2 h3]
      · cases e
    | _ => cases e
def joinE (x : EV) (xs : List EV) (st : Store) : R EV := match x, xs with
  | .pv (.str a), [y] => match asS y st with
    | some (_, ys) => match pvsOf ys with
      | some ps => match strsP ps with
        | some zs => if (zs.map (·.length)).sum + zs.length * a.length ≤ 16777216 then .ok (.pv (.str (Txt.join a zs))) st else .stuck
        | none => .stuck
      | none => .stuck
    | none => .stuck
  | _, _ => .stuck
theorem ag_join : AgM X T joinE (fun x xs H Q => ∃ a p, ∃ ys : List Str, x = .str a ∧ xs = [.ref p] ∧ (SqL X.K H p (ys.map V.str) ∨ SqT X.K H p (ys.map V.str)) ∧
    (ys.map (·.length)).sum + ys.length * a.length ≤ 16777216 ∧ Q (.str (Txt.join a ys)) H) := by
  intro W A G m st H σ x u xs us Q hs rx rxs h
  unfold joinE at h
  split at h
  · rename_i a y
    obtain ⟨w, r', rfl, rv, rn⟩ := rxs
    cases rn
    cases rx
    split at h
    · rename_i q ys e1
      split at h
      · rename_i ps e2
        split at h
        · rename_i zs e3
          split at h
          · rename_i hz
            obtain ⟨p, vs, rfl, q1, q2⟩ := asS_rel hs rv e1
            rw [strsP_rel e3 (q2.pvs e2)] at q1
            exact ⟨a, p, zs, rfl, rfl, q1.or, hz, h.ok hs rfl⟩
          · exact h.elim
        · exact h.elim
      · exact h.elim
    · exact h.elim
  · exact h.elim
end
end GT

/-! Part H. Defs together; the module's names; the law's end. -/
namespace GT
open PySem PySem.Spec PyProof.Rows L2

/-- built-in names that stay what they are -/
structure Bi (mg : Str → Option Value) : Prop where
  len : mg "len" = none
  int : mg "int" = none
  str : mg "str" = none
  bool : mg "bool" = none
  isinstance : mg "isinstance" = none
  tuple : mg "tuple" = none
  list : mg "list" = none
  dict : mg "dict" = none
  sum : mg "sum" = none
  max : mg "max" = none
  min : mg "min" = none
  all : mg "all" = none
  any : mg "any" = none
  abs : mg "abs" = none
  sorted : mg "sorted" = none
  range : mg "range" = none
  enumerate : mg "enumerate" = none
  zip : mg "zip" = none
  repr : mg "repr" = none
/-- a constant of the module -/
def Kc (K : PySem.W.Frag) (mg : Str → Option Value) (T : List (Addr × Str)) (x : Str) (p : PV) : Prop := ∃ u v, mg x = some u ∧ RelV v u ∧ ∀ G, RelPV ⟨K, mg, T⟩ G p v
section
variable {X : Cx} {T : List (Addr × Str)} {W : WX}
theorem de_kc {x : Str} {p : PV} {pos : Pos} (h : Kc X.K X.mg T x p) (hg : Gl X x := by rfl) (hd : (x == ("__debug__" : Str)) = false := by decide) : PE X (.Name x pos) (rdE (cg X T) W (dC p)) := by
  obtain ⟨u, v, h1, h2, h3⟩ := h
  exact de_glob h1 h2 h3 hg hd
end
section
variable {P : Program} {w : World} {K : PySem.W.Frag} {mg : Str → Option Value} {base : Heap} {T : List (Addr × Str)}
theorem runB_len {np ns : Nat} {b : DS} {xs : List EV} {st : Store} (h : runB np ns b xs st ≠ .stuck) : xs.length = np := by
  unfold runB at h
  split at h
  · assumption
  · exact absurd rfl h
theorem Cl.zero {x : Str} {s : Stmt} {f : Addr} {fd : FuncData} {ps : List Str} {np : Nat} {sem : Sem} (F : Fun K x x s f fd) (hm : mg x = some (.ref f)) (hb : Binds K fd ps []) (hp : ps.length = np) (hz : ∀ xs st, sem xs st = .stuck) : Cl P w K mg base T 0 x np sem :=
  ⟨f, fd, ps, ⟨fun vs H Q E h => h.1.trans hp.symm, fun A outer s H args us vs Q E _ _ _ _ h => by
    obtain ⟨_, A, G, m, st, evs, _, _, h3⟩ := h
    rw [hz] at h3
    exact h3.elim⟩, hm, F.kp, hb⟩
theorem Cl.next {n : Nat} {x : Str} {s : Stmt} {f : Addr} {fd : FuncData} {N ps : List Str} {np ns : Nat} {b : DS} {sem : Sem} (F : Fun K x x s f fd) (sc : FnScope N ps (defScope s)) (hm : mg x = some (.ref f)) (hb : Binds K fd ps []) (hp : ps.length = np) (hN : N.length = ns) (hs : sem = runB np ns b)
    (hbody : ∀ (cdv : Value) (A : Around) (outer : List PySem.Env) (s1 : Shared) (H : Hp) (E : XK), Room n (A.deeper (envOfC x (defScope s) s1.heap.objs.size f cdv)) →
      PSs (cxOf (L2.CX P w) P w K mg base N x (defScope s) f cdv A outer s1 H E) (defBody s) (rdS ⟨K, mg, T⟩ (WE1 E) b)) : Cl P w K mg base T (n + 1) x np sem := by
  subst hs
  refine ⟨f, fd, ps, F.okX sc (fun vs H Q E h => h.1.trans hp.symm) (fun cdv A outer s1 H vs Q E hr h => ⟨_, hbody cdv A outer s1 H E hr, rd_body hN h⟩), hm, F.kp, hb⟩
end
/-- the script as a tree -/
theorem scr_rel {g : Cg} {G : Hp} : ∀ ns : List Int, RelPVs g G (ns.map PV.int) (ns.map V.int)
  | [] => .nil
  | n :: ns => .cons rfl (scr_rel ns)
/-- what the law's def promises, from what its function gives -/
theorem law_spn {n : Nat} {K : PySem.W.Frag} {mg : Str → Option Value} {T : List (Addr × Str)} {sem : Sem} (hsem : ∀ ns : List Int, ns.length ≤ n → ∃ st, sem [.pv (.fls (ns.map PV.int))] [] = .ok (.pv (.bl true)) st)
    {H : Hp} {a : Addr} {ns : List Int} (hl : ns.length ≤ n) (hS : SqL K H a (ns.map V.int)) (hT : LamX.Tabs T H) : spD ⟨K, mg, T⟩ 1 sem [.ref a] H (fun v _ => v = .bl true) fun _ _ _ => False := by
  obtain ⟨st, e⟩ := hsem ns hl
  refine ⟨rfl, ⟨H, H⟩, H, [], [], [.pv (.fls (ns.map PV.int))], ⟨Same.refl _, fun b o q => ⟨⟨_, q⟩, fun _ => q⟩, Same.refl _, fun b o q => .inl q, List.nodup_nil, rfl, fun n ob q => by simp at q, hT⟩, ⟨.ref a, [], rfl, ?_, rfl⟩, ?_⟩
  · show RelPV _ H _ _
    unfold RelPV
    exact ⟨a, _, rfl, hS, scr_rel ns⟩
  · rw [e]
    intro G m u H' _ _ _ r
    cases r
    rfl
/-- the goal that k_head leaves -/
theorem walk_law {l : PySem.W.OpenLaw} {n k : Nat} {q : Program} {loose : List Str} {XP : (Str → Option Value) → Heap → Prop} {YP : World → Heap → Prop} {d : DefRec} {K : Params → PySem.W.Frag} {x : Str} {sem : Sem}
    (hn : l.most = some n) (hn2 : n ≤ sizeLine) (hdf : d.params.defaults = []) (hr : Room k callerA)
    (hY : ∀ (w : World) (h : Heap), YP w h → (K w.params).In h)
    (F : ∀ (w : World) (mg : Str → Option Value) (fa : Addr) (h : Heap), (K w.params).In h → h.Ns mainGlobals mg → mg d.name = some (.ref fa) →
      ∃ fd : FuncData, (∀ (s : Shared) (u : Value), BindsTo s fd ⟨[u], []⟩ [(x, u)]) ∧
        ∀ base : Heap, (K w.params).In base → base.Ns mainGlobals mg → FnOk l.prog w (K w.params) mg base (L2.CX l.prog w) k fa fd [x] (spD ⟨K w.params, mg, []⟩ 1 sem))
    (hsem : ∀ ns : List Int, ns.length ≤ n → ∃ st, sem [.pv (.fls (ns.map PV.int))] [] = .ok (.pv (.bl true)) st) :
    PySem.W.WalkO q loose XP YP l.row.toRowW d [] (fun f vs => PySem.call f vs) := by
  refine Att.attach_call hn hdf fun w s₀ s₁ mg mb fa o pm cd doc a vs ns G Y ho hd hcd hmg hobj hints hlen hg => ?_
  have KX := hY w _ Y
  obtain ⟨fd, hb, hF⟩ := F w mg fa _ KX G.T.g hmg
  refine law_call KX G.T.g G.T.b G.T.builtins G.T.nolimit hg hobj hints (Nat.le_trans hlen hn2) hr hF hb (fun H hO hS => law_spn hsem hlen hS (fun p hp => absurd hp (by simp))) fun H e s' h => ?_
  obtain ⟨_, _, _, _, _, _, _, _, _, _, _, _, z⟩ := h
  exact z
end GT

/-! Part I. Evaluating bodies. -/
namespace GT
open PySem L2

section
variable {ρ : Env} {st : Store}
@[simp] theorem dVar_app (i : Nat) : dVar i ρ st = (match ρ[i]? with | some (some v) => .ok v st | _ => .stuck) := (rfl)
@[simp] theorem dC_app (p : PV) : dC p ρ st = .ok (.pv p) st := (rfl)
def kOp2 (f : EV → EV → Store → R EV) (b : DE) (ρ : Env) (x : EV) (st : Store) : R EV := (b ρ st).bind (f x)
@[simp] theorem kOp2_app (f : EV → EV → Store → R EV) (b : DE) (x : EV) : kOp2 f b ρ x st = (b ρ st).bind (f x) := (rfl)
@[simp] theorem dOp2_app (f : EV → EV → Store → R EV) (a b : DE) : dOp2 f a b ρ st = (a ρ st).bind (kOp2 f b ρ) := (rfl)
@[simp] theorem dOp1_app (f : EV → Store → R EV) (a : DE) : dOp1 f a ρ st = (a ρ st).bind f := (rfl)
@[simp] theorem aNil_app : aNil ρ st = .ok [] st := (rfl)
def kCons2 (x : EV) (xs : List EV) (st : Store) : R (List EV) := .ok (x :: xs) st
@[simp] theorem kCons2_app (x : EV) (xs : List EV) : kCons2 x xs st = .ok (x :: xs) st := (rfl)
def kCons (r : DA) (ρ : Env) (x : EV) (st : Store) : R (List EV) := (r ρ st).bind (kCons2 x)
@[simp] theorem kCons_app (r : DA) (x : EV) : kCons r ρ x st = (r ρ st).bind (kCons2 x) := (rfl)
@[simp] theorem aCons_app (a : DE) (r : DA) : aCons a r ρ st = (a ρ st).bind (kCons r ρ) := (rfl)
@[simp] theorem dApp_app (f : List EV → Store → R EV) (a : DA) : dApp f a ρ st = (a ρ st).bind f := (rfl)
@[simp] theorem tTru_app (a : DE) : tTru a ρ st = (a ρ st).bind truE := (rfl)
@[simp] theorem tBl_app (a : DE) : tBl a ρ st = (a ρ st).bind blE := (rfl)
def kNot (b : Bool) (st : Store) : R Bool := .ok (!b) st
@[simp] theorem kNot_app (b : Bool) : kNot b st = .ok (!b) st := (rfl)
@[simp] theorem tNotD_app (a : DT) : tNotD a ρ st = (a ρ st).bind kNot := (rfl)
def kAnd (b : DT) (ρ : Env) (c : Bool) (st : Store) : R Bool := if c = true then b ρ st else .ok false st
@[simp] theorem kAnd_app (b : DT) (c : Bool) : kAnd b ρ c st = if c = true then b ρ st else .ok false st := (rfl)
@[simp] theorem tAndD_app (a b : DT) : tAndD a b ρ st = (a ρ st).bind (kAnd b ρ) := (rfl)
def kOr (b : DT) (ρ : Env) (c : Bool) (st : Store) : R Bool := if c = true then .ok true st else b ρ st
@[simp] theorem kOr_app (b : DT) (c : Bool) : kOr b ρ c st = if c = true then .ok true st else b ρ st := (rfl)
@[simp] theorem tOrD_app (a b : DT) : tOrD a b ρ st = (a ρ st).bind (kOr b ρ) := (rfl)
@[simp] theorem tTrue_app : tTrue ρ st = .ok true st := (rfl)
def kdAnd2 (b : DE) (ρ : Env) (x : EV) (c : Bool) (st : Store) : R EV := if c = true then b ρ st else .ok x st
@[simp] theorem kdAnd2_app (b : DE) (x : EV) (c : Bool) : kdAnd2 b ρ x c st = if c = true then b ρ st else .ok x st := (rfl)
def kdAnd (b : DE) (ρ : Env) (x : EV) (st : Store) : R EV := (truE x st).bind (kdAnd2 b ρ x)
@[simp] theorem kdAnd_app (b : DE) (x : EV) : kdAnd b ρ x st = (truE x st).bind (kdAnd2 b ρ x) := (rfl)
@[simp] theorem dAnd_app (a b : DE) : dAnd a b ρ st = (a ρ st).bind (kdAnd b ρ) := (rfl)
def kdOr2 (b : DE) (ρ : Env) (x : EV) (c : Bool) (st : Store) : R EV := if c = true then .ok x st else b ρ st
@[simp] theorem kdOr2_app (b : DE) (x : EV) (c : Bool) : kdOr2 b ρ x c st = if c = true then .ok x st else b ρ st := (rfl)
def kdOr (b : DE) (ρ : Env) (x : EV) (st : Store) : R EV := (truE x st).bind (kdOr2 b ρ x)
@[simp] theorem kdOr_app (b : DE) (x : EV) : kdOr b ρ x st = (truE x st).bind (kdOr2 b ρ x) := (rfl)
@[simp] theorem dOr_app (a b : DE) : dOr a b ρ st = (a ρ st).bind (kdOr b ρ) := (rfl)
def kdNot2 (c : Bool) (st : Store) : R EV := .ok (.pv (.bl (!c))) st
@[simp] theorem kdNot2_app (c : Bool) : kdNot2 c st = .ok (.pv (.bl (!c))) st := (rfl)
def kdNot (x : EV) (st : Store) : R EV := (truE x st).bind kdNot2
@[simp] theorem kdNot_app (x : EV) : kdNot x st = (truE x st).bind kdNot2 := (rfl)
@[simp] theorem dNot_app (a : DE) : dNot a ρ st = (a ρ st).bind kdNot := (rfl)
def kIfE (a b : DE) (ρ : Env) (k : Bool) (st : Store) : R EV := if k = true then a ρ st else b ρ st
@[simp] theorem kIfE_app (a b : DE) (k : Bool) : kIfE a b ρ k st = if k = true then a ρ st else b ρ st := (rfl)
@[simp] theorem dIfE_app (c : DT) (a b : DE) : dIfE c a b ρ st = (c ρ st).bind (kIfE a b ρ) := (rfl)
def kCh4 (f' : EV → EV → Store → R EV) (c : DE) (ρ : Env) (y : EV) (k : Bool) (st : Store) : R EV := if k = true then (c ρ st).bind (f' y) else .ok (.pv (.bl false)) st
@[simp] theorem kCh4_app (f' : EV → EV → Store → R EV) (c : DE) (y : EV) (k : Bool) : kCh4 f' c ρ y k st = if k = true then (c ρ st).bind (f' y) else .ok (.pv (.bl false)) st := (rfl)
def kCh3 (f' : EV → EV → Store → R EV) (c : DE) (ρ : Env) (y z : EV) (st : Store) : R EV := (blE z st).bind (kCh4 f' c ρ y)
@[simp] theorem kCh3_app (f' : EV → EV → Store → R EV) (c : DE) (y z : EV) : kCh3 f' c ρ y z st = (blE z st).bind (kCh4 f' c ρ y) := (rfl)
def kCh2 (f f' : EV → EV → Store → R EV) (c : DE) (ρ : Env) (x y : EV) (st : Store) : R EV := (f x y st).bind (kCh3 f' c ρ y)
@[simp] theorem kCh2_app (f f' : EV → EV → Store → R EV) (c : DE) (x y : EV) : kCh2 f f' c ρ x y st = (f x y st).bind (kCh3 f' c ρ y) := (rfl)
def kCh1 (f f' : EV → EV → Store → R EV) (b c : DE) (ρ : Env) (x : EV) (st : Store) : R EV := (b ρ st).bind (kCh2 f f' c ρ x)
@[simp] theorem kCh1_app (f f' : EV → EV → Store → R EV) (b c : DE) (x : EV) : kCh1 f f' b c ρ x st = (b ρ st).bind (kCh2 f f' c ρ x) := (rfl)
@[simp] theorem dChain_app (f f' : EV → EV → Store → R EV) (a b c : DE) : dChain f f' a b c ρ st = (a ρ st).bind (kCh1 f f' b c ρ) := (rfl)
def kSl2 (f : EV → Option Int → Option Int → Store → R EV) (hi : Option DE) (ρ : Env) (x : EV) (l : Option Int) (st : Store) : R EV := (dO hi ρ st).bind (f x l)
@[simp] theorem kSl2_app (f : EV → Option Int → Option Int → Store → R EV) (hi : Option DE) (x : EV) (l : Option Int) : kSl2 f hi ρ x l st = (dO hi ρ st).bind (f x l) := (rfl)
def kSl1 (f : EV → Option Int → Option Int → Store → R EV) (lo hi : Option DE) (ρ : Env) (x : EV) (st : Store) : R EV := (dO lo ρ st).bind (kSl2 f hi ρ x)
@[simp] theorem kSl1_app (f : EV → Option Int → Option Int → Store → R EV) (lo hi : Option DE) (x : EV) : kSl1 f lo hi ρ x st = (dO lo ρ st).bind (kSl2 f hi ρ x) := (rfl)
@[simp] theorem dSl_app (f : EV → Option Int → Option Int → Store → R EV) (e : DE) (lo hi : Option DE) : dSl f e lo hi ρ st = (e ρ st).bind (kSl1 f lo hi ρ) := (rfl)
@[simp] theorem dO_none : dO none ρ st = .ok none st := (rfl)
def kO (x : EV) (st : Store) : R (Option Int) := match x with | .pv (.int i) => .ok (some i) st | _ => .stuck
@[simp] theorem kO_int (i : Int) : kO (.pv (.int i)) st = .ok (some i) st := (rfl)
@[simp] theorem dO_some (d : DE) : dO (some d) ρ st = (d ρ st).bind kO := (rfl)
def kBM (ok : EV → Store → Bool) (f : EV → List EV → Store → R EV) (a : DA) (ρ : Env) (x : EV) (st : Store) : R EV := if ok x st = true then (a ρ st).bind (f x) else .stuck
@[simp] theorem kBM_app (ok : EV → Store → Bool) (f : EV → List EV → Store → R EV) (a : DA) (x : EV) : kBM ok f a ρ x st = if ok x st = true then (a ρ st).bind (f x) else .stuck := (rfl)
@[simp] theorem dBM_app (ok : EV → Store → Bool) (f : EV → List EV → Store → R EV) (o : DE) (a : DA) : dBM ok f o a ρ st = (o ρ st).bind (kBM ok f a ρ) := (rfl)
@[simp] theorem dFrz_app (d : DE) : dFrz d ρ st = (d ρ st).bind frzE := (rfl)
@[simp] theorem iR1_app (d : DA) : iR1 d ρ st = (d ρ st).bind rg1E := (rfl)
@[simp] theorem iR2_app (d : DA) : iR2 d ρ st = (d ρ st).bind rg2E := (rfl)
@[simp] theorem iW_app (d : DE) : iW d ρ st = (d ρ st).bind itA := (rfl)
@[simp] theorem sNil_app : sNil ρ st = .nx ρ st := (rfl)
@[simp] theorem sPass_app : sPass ρ st = .nx ρ st := (rfl)
@[simp] theorem sBreak_app : sBreak ρ st = .bk ρ st := (rfl)
@[simp] theorem sCont_app : sCont ρ st = .ct ρ st := (rfl)
/-- a block goes on -/
def RS.seq (r : RS) (b : DS) : RS := match r with
  | .nx ρ' st' => b ρ' st'
  | r => r
@[simp] theorem RS.seq_nx (b : DS) : (RS.nx ρ st).seq b = b ρ st := (rfl)
@[simp] theorem RS.seq_rt (v : EV) (b : DS) : (RS.rt v st).seq b = .rt v st := (rfl)
@[simp] theorem RS.seq_stuck (b : DS) : RS.stuck.seq b = .stuck := (rfl)
@[simp] theorem RS.seq_exc (x : PX) (b : DS) : (RS.exc x ρ st).seq b = .exc x ρ st := (rfl)
@[simp] theorem RS.seq_bk (b : DS) : (RS.bk ρ st).seq b = .bk ρ st := (rfl)
@[simp] theorem RS.seq_ct (b : DS) : (RS.ct ρ st).seq b = .ct ρ st := (rfl)
@[simp] theorem sSeq_app (a b : DS) : sSeq a b ρ st = (a ρ st).seq b := (rfl)
def kNx (ρ : Env) (_ : EV) (st : Store) : RS := .nx ρ st
@[simp] theorem kNx_app (x : EV) : kNx ρ x st = .nx ρ st := (rfl)
@[simp] theorem sExpr_app (d : DE) : sExpr d ρ st = (d ρ st).toS ρ (kNx ρ) := (rfl)
@[simp] theorem sRet_app (d : DE) : sRet d ρ st = (d ρ st).toS ρ RS.rt := (rfl)
@[simp] theorem sRetN_app : sRetN ρ st = .rt (.pv .non) st := (rfl)
def kSIf (a b : DS) (ρ : Env) (k : Bool) (st : Store) : RS := if k = true then a ρ st else b ρ st
@[simp] theorem kSIf_app (a b : DS) (k : Bool) : kSIf a b ρ k st = if k = true then a ρ st else b ρ st := (rfl)
@[simp] theorem sIf_app (c : DT) (a b : DS) : sIf c a b ρ st = (c ρ st).toS ρ (kSIf a b ρ) := (rfl)
def kSet (i : Nat) (ρ : Env) (v : EV) (st : Store) : RS := .nx (ρ.set i (some v)) st
@[simp] theorem kSet_app (i : Nat) (v : EV) : kSet i ρ v st = .nx (ρ.set i (some v)) st := (rfl)
@[simp] theorem sSet_app (i : Nat) (d : DE) : sSet i d ρ st = (d ρ st).toS ρ (kSet i ρ) := (rfl)
def kPar2 (i j : Nat) (ρ : Env) (xs : List EV) (st : Store) : RS := match xs with | [v, w] => .nx ((ρ.set i (some v)).set j (some w)) st | _ => .stuck
@[simp] theorem kPar2_app (i j : Nat) (v w : EV) : kPar2 i j ρ [v, w] st = .nx ((ρ.set i (some v)).set j (some w)) st := (rfl)
@[simp] theorem sPar2_app (i j : Nat) (a : DA) : sPar2 i j a ρ st = (a ρ st).toS ρ (kPar2 i j ρ) := (rfl)
def kPar3 (i j l : Nat) (ρ : Env) (xs : List EV) (st : Store) : RS := match xs with | [u, v, w] => .nx (((ρ.set i (some u)).set j (some v)).set l (some w)) st | _ => .stuck
@[simp] theorem kPar3_app (i j l : Nat) (u v w : EV) : kPar3 i j l ρ [u, v, w] st = .nx (((ρ.set i (some u)).set j (some v)).set l (some w)) st := (rfl)
@[simp] theorem sPar3_app (i j l : Nat) (a : DA) : sPar3 i j l a ρ st = (a ρ st).toS ρ (kPar3 i j l ρ) := (rfl)
def kAsg (f : TgF) (ρ : Env) (v : EV) (st : Store) : RS := match f v ρ with | some ρ' => .nx ρ' st | none => .stuck
@[simp] theorem kAsg_app (f : TgF) (v : EV) : kAsg f ρ v st = (match f v ρ with | some ρ' => .nx ρ' st | none => .stuck) := (rfl)
@[simp] theorem sAsgT_app (f : TgF) (d : DE) : sAsgT f d ρ st = (d ρ st).toS ρ (kAsg f ρ) := (rfl)
def kSI3 (ρ : Env) (v x y : EV) (st : Store) : RS := match setLE x y v st with | some st4 => .nx ρ st4 | none => .stuck
@[simp] theorem kSI3_app (v x y : EV) : kSI3 ρ v x y st = (match setLE x y v st with | some st4 => .nx ρ st4 | none => .stuck) := (rfl)
def kSI2 (i : DE) (ρ : Env) (v x : EV) (st : Store) : RS := (i ρ st).toS ρ (kSI3 ρ v x)
@[simp] theorem kSI2_app (i : DE) (v x : EV) : kSI2 i ρ v x st = (i ρ st).toS ρ (kSI3 ρ v x) := (rfl)
def kSI1 (o i : DE) (ρ : Env) (v : EV) (st : Store) : RS := (o ρ st).toS ρ (kSI2 i ρ v)
@[simp] theorem kSI1_app (o i : DE) (v : EV) : kSI1 o i ρ v st = (o ρ st).toS ρ (kSI2 i ρ v) := (rfl)
@[simp] theorem sSetI_app (o i d : DE) : sSetI o i d ρ st = (d ρ st).toS ρ (kSI1 o i ρ) := (rfl)
def kAug (i : Nat) (f : EV → EV → Store → R EV) (ρ : Env) (x y : EV) (st : Store) : RS := (f x y st).toS ρ (kSet i ρ)
@[simp] theorem kAug_app (i : Nat) (f : EV → EV → Store → R EV) (x y : EV) : kAug i f ρ x y st = (f x y st).toS ρ (kSet i ρ) := (rfl)
@[simp] theorem sAug_app (i : Nat) (f : EV → EV → Store → R EV) (d : DE) : sAug i f d ρ st = (match ρ[i]? with | some (some x) => (d ρ st).toS ρ (kAug i f ρ x) | _ => .stuck) := (rfl)
def kFor (f : TgF) (b : DS) (ρ : Env) (xs : List PV) (st : Store) : RS := forS f b xs ρ st
@[simp] theorem kFor_app (f : TgF) (b : DS) (xs : List PV) : kFor f b ρ xs st = forS f b xs ρ st := (rfl)
@[simp] theorem sFor_app (it : DI) (f : TgF) (b : DS) : sFor it f b ρ st = (it ρ st).toS ρ (kFor f b ρ) := (rfl)
def kComp (o : Bool) (f : TgF) (c : DT) (e : DE) (vs : List Nat) (ρ : Env) (xs : List PV) (st : Store) : R EV := if xs.length ≤ sizeLine then (noX (compL f c e (wipeE ρ vs) xs st)).bind (newL o) else .stuck
@[simp] theorem kComp_app (o : Bool) (f : TgF) (c : DT) (e : DE) (vs : List Nat) (xs : List PV) : kComp o f c e vs ρ xs st = if xs.length ≤ sizeLine then (noX (compL f c e (wipeE ρ vs) xs st)).bind (newL o) else .stuck := (rfl)
@[simp] theorem dComp_app (o : Bool) (it : DI) (f : TgF) (c : DT) (e : DE) (vs : List Nat) : dComp o it f c e vs ρ st = (it ρ st).bind (kComp o f c e vs ρ) := (rfl)
@[simp] theorem fNm_app (i : Nat) (x : EV) : fNm i x ρ = some (ρ.set i (some x)) := (rfl)
@[simp] theorem fsNil_app : fsNil [] ρ = some ρ := (rfl)
@[simp] theorem fsCons_app (f : TgF) (r : List EV → Env → Option Env) (x : EV) (xs : List EV) : fsCons f r (x :: xs) ρ = (match f x ρ with | some ρ' => r xs ρ' | none => none) := (rfl)
@[simp] theorem fTp_app (f : List EV → Env → Option Env) (xs : List PV) : fTp f (.pv (.tup xs)) ρ = f (xs.map EV.pv) ρ := (rfl)
@[simp] theorem wipeE_nil : wipeE ρ [] = ρ := (rfl)
@[simp] theorem wipeE_cons (v : Nat) (vs : List Nat) : wipeE ρ (v :: vs) = (wipeE ρ vs).set v none := (rfl)
@[simp] theorem forS_nil (f : TgF) (b : DS) : forS f b [] ρ st = .nx ρ st := (rfl)
theorem forS_cons (f : TgF) (b : DS) (x : PV) (xs : List PV) : forS f b (x :: xs) ρ st = (match f (.pv x) ρ with
    | none => .stuck
    | some ρ1 => match b ρ1 st with
      | .nx ρ' st' => forS f b xs ρ' st'
      | .ct ρ' st' => forS f b xs ρ' st'
      | .bk ρ' st' => .nx ρ' st'
      | r => r) := rfl
@[simp] theorem compL_nil (f : TgF) (c : DT) (e : DE) : compL f c e ρ [] st = .ok [] st := (rfl)
theorem compL_one (f : TgF) (c : DT) (e : DE) (x : PV) (xs : List PV) : compL f c e ρ (x :: xs) st = (match f (.pv x) ρ with
    | none => .stuck
    | some ρ1 => (c ρ1 st).bind fun b st1 => if b = true then (e ρ1 st1).bind fun v st2 => (compL f c e ρ xs st2).bind fun vs st3 => .ok (v :: vs) st3 else compL f c e ρ xs st1) := rfl
end
/-! values -/
section
variable {st : Store}
@[simp] theorem p2_pv (f : PV → PV → Option PV) (p q : PV) : p2 f (.pv p) (.pv q) st = (match f p q with | some r => .ok (.pv r) st | none => .stuck) := (rfl)
@[simp] theorem p1_pv (f : PV → Option PV) (p : PV) : p1 f (.pv p) st = (match f p with | some r => .ok (.pv r) st | none => .stuck) := (rfl)
@[simp] theorem i2_int (f : Int → Int → Option PV) (i j : Int) : i2 f (.int i) (.int j) = f i j := (rfl)
@[simp] theorem blE_bl (b : Bool) : blE (.pv (.bl b)) st = .ok b st := (rfl)
@[simp] theorem truE_pv (p : PV) : truE (.pv p) st = (match truP p with | some b => .ok b st | none => .stuck) := (rfl)
@[simp] theorem truP_bl (b : Bool) : truP (.bl b) = some b := (rfl)
@[simp] theorem truP_non : truP .non = some false := (rfl)
@[simp] theorem truP_int (i : Int) : truP (.int i) = some (i != 0) := (rfl)
@[simp] theorem truP_tup (xs : List PV) : truP (.tup xs) = some (!xs.isEmpty) := (rfl)
@[simp] theorem truP_lst (xs : List PV) : truP (.lst xs) = some (!xs.isEmpty) := (rfl)
@[simp] theorem subP_int (i j : Int) : subP (.int i) (.int j) = some (.int (i - j)) := (rfl)
@[simp] theorem modP_int (i j : Int) : modP (.int i) (.int j) = if 0 < j then some (.int (i % j)) else none := (rfl)
@[simp] theorem divP_int (i j : Int) : divP (.int i) (.int j) = if 0 < j ∧ j < 1073741824 then some (.int (i / j)) else none := (rfl)
@[simp] theorem negP_int (i : Int) : negP (.int i) = some (.int (-i)) := (rfl)
@[simp] theorem ltP_int (i j : Int) : ltP (.int i) (.int j) = some (.bl (decide (i < j))) := (rfl)
@[simp] theorem leP_int (i j : Int) : leP (.int i) (.int j) = some (.bl (decide (i ≤ j))) := (rfl)
@[simp] theorem gtP_int (i j : Int) : gtP (.int i) (.int j) = some (.bl (decide (j < i))) := (rfl)
@[simp] theorem geP_int (i j : Int) : geP (.int i) (.int j) = some (.bl (decide (j ≤ i))) := (rfl)
@[simp] theorem addE_int (i j : Int) : addE (.pv (.int i)) (.pv (.int j)) st = .ok (.pv (.int (i + j))) st := (rfl)
@[simp] theorem mulE_int (i j : Int) : mulE (.pv (.int i)) (.pv (.int j)) st = if smI i || smI j then .ok (.pv (.int (i * j))) st else .stuck := (rfl)
@[simp] theorem intP_int (i : Int) : intP (.int i) = some (.int i) := (rfl)
@[simp] theorem ap1_one (f : EV → Store → R EV) (x : EV) : ap1 f [x] st = f x st := (rfl)
@[simp] theorem ap2_two (f : EV → EV → Store → R EV) (x y : EV) : ap2 f [x, y] st = f x y st := (rfl)
@[simp] theorem isiE_pv (T : Ty) (p : PV) : isiE T (.pv p) st = (match tyE (.pv p) st with | some t => .ok (.pv (.bl (t.sub T))) st | none => .stuck) := (rfl)
@[simp] theorem tyE_non : tyE (.pv .non) st = some .non := (rfl)
@[simp] theorem tyE_bl (b : Bool) : tyE (.pv (.bl b)) st = some .bool := (rfl)
@[simp] theorem tyE_int (b : Int) : tyE (.pv (.int b)) st = some .int := (rfl)
@[simp] theorem tyE_str (b : Str) : tyE (.pv (.str b)) st = some .str := (rfl)
@[simp] theorem tyE_tup (b : List PV) : tyE (.pv (.tup b)) st = some .tuple := (rfl)
@[simp] theorem tyE_lst (b : List PV) : tyE (.pv (.lst b)) st = some .list := (rfl)
@[simp] theorem sub_non (T : Ty) : Ty.sub .non T = decide (T = .non) := by cases T <;> rfl
@[simp] theorem sub_bool (T : Ty) : Ty.sub .bool T = (decide (T = .bool) || decide (T = .int)) := by cases T <;> rfl
@[simp] theorem sub_int (T : Ty) : Ty.sub .int T = decide (T = .int) := by cases T <;> rfl
@[simp] theorem sub_str (T : Ty) : Ty.sub .str T = decide (T = .str) := by cases T <;> rfl
@[simp] theorem sub_tuple (T : Ty) : Ty.sub .tuple T = decide (T = .tuple) := by cases T <;> rfl
@[simp] theorem sub_list (T : Ty) : Ty.sub .list T = decide (T = .list) := by cases T <;> rfl
@[simp] theorem lenE_tup (b : List PV) : lenE (.pv (.tup b)) st = .ok (.pv (.int b.length)) st := by simp [lenE, asS]
@[simp] theorem lenE_lst (b : List PV) : lenE (.pv (.lst b)) st = .ok (.pv (.int b.length)) st := by simp [lenE, asS]
@[simp] theorem lenE_fls (b : List PV) : lenE (.pv (.fls b)) st = .ok (.pv (.int b.length)) st := by simp [lenE, asS]
theorem smI_of {i : Int} (h : -18446744073709551616 < i) (h' : i < 18446744073709551616) : smI i = true := by simp [smI, h, h']
@[simp] theorem smI_lit (n : Nat) : smI (no_index (@OfNat.ofNat Int n instOfNat)) = decide (n < 18446744073709551616) := by
  have e : (@OfNat.ofNat Int n instOfNat) = (n : Int) := rfl
  rw [e]
  by_cases h : n < 18446744073709551616
  · rw [decide_eq_true h]; exact smI_of (by omega) (by omega)
  · rw [decide_eq_false h]
    simp only [smI, Bool.and_eq_false_iff, decide_eq_false_iff_not]
    right; omega
@[simp] theorem smI_neg (i : Int) : smI (-i) = smI i := by
  simp only [smI]
  rw [Bool.eq_iff_iff]
  simp only [Bool.and_eq_true, decide_eq_true_eq]
  omega
theorem atI_map {α β : Type} (f : α → β) (xs : List α) (i : Int) : atI (xs.map f) i = (atI xs i).map f := by
  unfold atI
  rw [List.length_map]
  cases ixN xs.length i with
  | none => rfl
  | some j => simp
@[simp] theorem ixE_tup (b : List PV) (i : Int) : ixE (.pv (.tup b)) (.pv (.int i)) st = (match atI b i with | some v => .ok (.pv v) st | none => .stuck) := by
  simp only [ixE, asS, atI_map]
  cases atI b i <;> rfl
@[simp] theorem ixE_lst (b : List PV) (i : Int) : ixE (.pv (.lst b)) (.pv (.int i)) st = (match atI b i with | some v => .ok (.pv v) st | none => .stuck) := by
  simp only [ixE, asS, atI_map]
  cases atI b i <;> rfl
@[simp] theorem ixE_fls (b : List PV) (i : Int) : ixE (.pv (.fls b)) (.pv (.int i)) st = (match atI b i with | some v => .ok (.pv v) st | none => .stuck) := by
  simp only [ixE, asS, atI_map]
  cases atI b i <;> rfl
@[simp] theorem newL_nil : newL false [] st = .ok (.pv (.lst [])) st := (rfl)
@[simp] theorem newL_pvs (ps : List PV) : newL false (ps.map EV.pv) st = .ok (.pv (.lst ps)) st := newL_v ps st
@[simp] theorem newL_cons (p : PV) (es : List EV) : newL false (.pv p :: es) st = (match pvsOf es with | some ps => .ok (.pv (.lst (p :: ps))) st | none => .stuck) := by
  simp only [newL, pvsOf]
  cases pvsOf es <;> rfl
@[simp] theorem pvsOf_nil : pvsOf [] = some [] := (rfl)
@[simp] theorem pvsOf_cons (p : PV) (es : List EV) : pvsOf (.pv p :: es) = (match pvsOf es with | some ps => some (p :: ps) | none => none) := (rfl)
end

/-! ### what holds behind -/
structure R.P {α : Type} (r : R α) (Q : α → Store → Prop) : Prop where
  h : match r with
  | .ok a st => Q a st
  | _ => False
@[simp] theorem R.P_ok {α : Type} (a : α) (st : Store) (Q : α → Store → Prop) : (R.ok a st).P Q = Q a st := propext ⟨fun h => h.h, fun h => ⟨h⟩⟩
@[simp] theorem R.P_stuck {α : Type} (Q : α → Store → Prop) : (R.stuck : R α).P Q = False := propext ⟨fun h => h.h, fun h => ⟨h⟩⟩
@[simp] theorem R.P_exc {α : Type} (x : PX) (st : Store) (Q : α → Store → Prop) : (R.exc x st : R α).P Q = False := propext ⟨fun h => h.h, fun h => ⟨h⟩⟩
def KP {α β : Type} (k : α → Store → R β) (Q : β → Store → Prop) (a : α) (st : Store) : Prop := (k a st).P Q
@[simp] theorem KP_app {α β : Type} (k : α → Store → R β) (Q : β → Store → Prop) (a : α) (st : Store) : KP k Q a st = (k a st).P Q := (rfl)
@[simp] theorem R.P_bind {α β : Type} (r : R α) (k : α → Store → R β) (Q : β → Store → Prop) : (r.bind k).P Q = r.P (KP k Q) := by cases r <;> simp
theorem R.P.imp {α : Type} {r : R α} {Q Q' : α → Store → Prop} (h : r.P Q) (k : ∀ a st, Q a st → Q' a st) : r.P Q' := by
  cases r with
  | ok a st => rw [R.P_ok] at h ⊢; exact k a st h
  | stuck => exact ⟨h.h⟩
  | exc x st => exact ⟨h.h⟩
theorem R.P.ex {α : Type} {r : R α} {Q : α → Store → Prop} (h : r.P Q) : ∃ a st, r = .ok a st ∧ Q a st := by
  cases r with
  | ok a st => exact ⟨a, st, rfl, h.h⟩
  | stuck => exact h.h.elim
  | exc x st => exact h.h.elim
/-- going on, handing back, break, continue -/
structure RS.P4 (r : RS) (N : Env → Store → Prop) (T : EV → Store → Prop) (B C : Env → Store → Prop) : Prop where
  h : match r with
  | .nx ρ st => N ρ st
  | .rt v st => T v st
  | .bk ρ st => B ρ st
  | .ct ρ st => C ρ st
  | _ => False
section
variable {N : Env → Store → Prop} {T : EV → Store → Prop} {B C : Env → Store → Prop}
@[simp] theorem RS.P4_nx (ρ : Env) (st : Store) : (RS.nx ρ st).P4 N T B C = N ρ st := propext ⟨fun h => h.h, fun h => ⟨h⟩⟩
@[simp] theorem RS.P4_rt (v : EV) (st : Store) : (RS.rt v st).P4 N T B C = T v st := propext ⟨fun h => h.h, fun h => ⟨h⟩⟩
@[simp] theorem RS.P4_bk (ρ : Env) (st : Store) : (RS.bk ρ st).P4 N T B C = B ρ st := propext ⟨fun h => h.h, fun h => ⟨h⟩⟩
@[simp] theorem RS.P4_ct (ρ : Env) (st : Store) : (RS.ct ρ st).P4 N T B C = C ρ st := propext ⟨fun h => h.h, fun h => ⟨h⟩⟩
@[simp] theorem RS.P4_stuck : RS.stuck.P4 N T B C = False := propext ⟨fun h => h.h, fun h => ⟨h⟩⟩
@[simp] theorem RS.P4_exc (x : PX) (ρ : Env) (st : Store) : (RS.exc x ρ st).P4 N T B C = False := propext ⟨fun h => h.h, fun h => ⟨h⟩⟩
def KS {α : Type} (k : α → Store → RS) (N : Env → Store → Prop) (T : EV → Store → Prop) (B C : Env → Store → Prop) (a : α) (st : Store) : Prop := (k a st).P4 N T B C
@[simp] theorem KS_app {α : Type} (k : α → Store → RS) (a : α) (st : Store) : KS k N T B C a st = (k a st).P4 N T B C := (rfl)
def Nx (b : DS) (N : Env → Store → Prop) (T : EV → Store → Prop) (B C : Env → Store → Prop) (ρ : Env) (st : Store) : Prop := (b ρ st).P4 N T B C
@[simp] theorem Nx_app (b : DS) (ρ : Env) (st : Store) : Nx b N T B C ρ st = (b ρ st).P4 N T B C := (rfl)
@[simp] theorem RS.P4_toS {α : Type} (r : R α) (ρ : Env) (k : α → Store → RS) : (r.toS ρ k).P4 N T B C = r.P (KS k N T B C) := by cases r <;> simp
@[simp] theorem RS.P4_seq (r : RS) (b : DS) : (r.seq b).P4 N T B C = r.P4 (Nx b N T B C) T B C := by cases r <;> simp
theorem forS_P {f : TgF} {b : DS} {xs : List PV} {ρ : Env} {st : Store} (I : Nat → Env → Store → Prop) (h0 : I 0 ρ st)
    (hs : ∀ (i : Nat) (x : PV) (ρ : Env) (st : Store), xs[i]? = some x → I i ρ st → ∃ ρ1, f (.pv x) ρ = some ρ1 ∧ (b ρ1 st).P4 (I (i + 1)) T N (I (i + 1))) (hd : ∀ ρ st, I xs.length ρ st → N ρ st) : (forS f b xs ρ st).P4 N T B C := by
  induction xs generalizing ρ st I with
  | nil => exact ⟨hd ρ st h0⟩
  | cons x xs ih =>
    obtain ⟨ρ1, e, h⟩ := hs 0 x ρ st rfl h0
    rw [forS_cons, e]
    simp only
    have go : ∀ ρ' st', I 1 ρ' st' → (forS f b xs ρ' st').P4 N T B C := fun ρ' st' h1 =>
      ih (fun i => I (i + 1)) h1 (fun i y ρ st hy hi => hs (i + 1) y ρ st (by simpa using hy) hi) (fun ρ st q => hd ρ st (by simpa using q))
    cases e2 : b ρ1 st with
    | nx ρ' st' => rw [e2] at h; exact go _ _ h.h
    | ct ρ' st' => rw [e2] at h; exact go _ _ h.h
    | bk ρ' st' => rw [e2] at h; exact ⟨h.h⟩
    | rt v st' => rw [e2] at h; exact ⟨h.h⟩
    | stuck => rw [e2] at h; exact ⟨h.h⟩
    | exc z ρ' st' => rw [e2] at h; exact ⟨h.h⟩
theorem compL_P {f : TgF} {c : DT} {e : DE} {ρ : Env} {Q : List EV → Store → Prop} {xs : List PV} {st : Store} (I : Nat → List EV → Store → Prop) (h0 : I 0 [] st)
    (hs : ∀ (i : Nat) (x : PV) (acc : List EV) (st : Store), xs[i]? = some x → I i acc st → ∃ ρ1, f (.pv x) ρ = some ρ1 ∧ (c ρ1 st).P fun k st1 => if k = true then (e ρ1 st1).P fun v st2 => I (i + 1) (acc ++ [v]) st2 else I (i + 1) acc st1)
    (hd : ∀ acc st, I xs.length acc st → Q acc st) : (compL f c e ρ xs st).P Q := by
  suffices h : ∀ (xs : List PV) (I : Nat → List EV → Store → Prop) (acc : List EV) (st : Store), I 0 acc st →
      (∀ (i : Nat) (x : PV) (acc : List EV) (st : Store), xs[i]? = some x → I i acc st → ∃ ρ1, f (.pv x) ρ = some ρ1 ∧ (c ρ1 st).P fun k st1 => if k = true then (e ρ1 st1).P fun v st2 => I (i + 1) (acc ++ [v]) st2 else I (i + 1) acc st1) →
      (∀ acc st, I xs.length acc st → Q acc st) → (compL f c e ρ xs st).P fun ys st' => Q (acc ++ ys) st' by
    simpa using h xs I [] st h0 hs hd
  intro xs
  induction xs with
  | nil => intro I acc st h0 _ hd; simpa using hd acc st h0
  | cons x xs ih =>
    intro I acc st h0 hs hd
    obtain ⟨ρ1, e1, h⟩ := hs 0 x acc st rfl h0
    rw [compL_one, e1]
    simp only [R.P_bind]
    refine h.imp fun k st1 hk => ?_
    cases k with
    | true =>
      simp only [if_true, R.P_bind, R.P_ok, KP] at hk ⊢
      refine hk.imp fun v st2 hv => ?_
      have := ih (fun i => I (i + 1)) (acc ++ [v]) st2 hv (fun i y acc st hy hi => hs (i + 1) y acc st (by simpa using hy) hi) (fun acc st q => hd acc st (by simpa using q))
      simp only [KP_app, R.P_bind]
      exact this.imp fun a st h => by simpa [KP] using h
    | false =>
      simp only [Bool.false_eq_true, if_false, KP] at hk ⊢
      exact ih (fun i => I (i + 1)) acc st1 hk (fun i y acc st hy hi => hs (i + 1) y acc st (by simpa using hy) hi) (fun acc st q => hd acc st (by simpa using q))
end
theorem R.P.noX {α : Type} {r : R α} {Q : α → Store → Prop} (h : r.P Q) : (noX r).P Q := by
  cases r with
  | ok a st => exact ⟨h.h⟩
  | stuck => exact ⟨h.h⟩
  | exc x st => exact h.h.elim
@[simp] theorem R.P_noX {α : Type} (r : R α) (Q : α → Store → Prop) : (noX r).P Q = r.P Q := by cases r <;> simp [noX]
theorem runB_P {np ns : Nat} {b : DS} {args : List EV} {st : Store} {Q : EV → Store → Prop} (hn : args.length = np)
    (h : (b (args.map some ++ List.replicate (ns - np) none) st).P4 (fun _ st' => Q (.pv .non) st') Q (fun _ _ => False) fun _ _ => False) : (runB np ns b args st).P Q := by
  unfold runB
  rw [if_pos hn]
  cases e : b (args.map some ++ List.replicate (ns - np) none) st with
  | nx ρ' st' => rw [e] at h; exact ⟨h.h⟩
  | rt v st' => rw [e] at h; exact ⟨h.h⟩
  | stuck => rw [e] at h; exact ⟨h.h⟩
  | bk ρ st => rw [e] at h; exact ⟨h.h⟩
  | ct ρ st => rw [e] at h; exact ⟨h.h⟩
  | exc z ρ st => rw [e] at h; exact ⟨h.h⟩
theorem callE_len {sem : Sem} {xs : List EV} {st st' : Store} {v : PV} (h : sem xs st = .ok (.pv v) st') (hl : st'.length = st.length) : callE sem xs st = .ok (.pv v) st' := by
  unfold callE
  rw [h]
  simp only [clE, if_true]
  unfold trunc
  rw [← hl, List.take_length]
  split <;> rfl
theorem callP_eq {sem : Sem} {ps : List PV} {st st' : Store} {v : PV} (h : sem (ps.map EV.pv) [] = .ok (.pv v) st') : callP sem (ps.map EV.pv) st = .ok (.pv v) st := by
  unfold callP
  rw [pvsOf_map]
  simp only
  rw [h]
theorem callP_1 {sem : Sem} {p : PV} {st st' : Store} {v : PV} (h : sem [.pv p] [] = .ok (.pv v) st') : callP sem [.pv p] st = .ok (.pv v) st := callP_eq (ps := [p]) h
theorem callP_2 {sem : Sem} {p q : PV} {st st' : Store} {v : PV} (h : sem [.pv p, .pv q] [] = .ok (.pv v) st') : callP sem [.pv p, .pv q] st = .ok (.pv v) st := callP_eq (ps := [p, q]) h
theorem callP_3 {sem : Sem} {p q r : PV} {st st' : Store} {v : PV} (h : sem [.pv p, .pv q, .pv r] [] = .ok (.pv v) st') : callP sem [.pv p, .pv q, .pv r] st = .ok (.pv v) st := callP_eq (ps := [p, q, r]) h
theorem callP_4 {sem : Sem} {p q r s : PV} {st st' : Store} {v : PV} (h : sem [.pv p, .pv q, .pv r, .pv s] [] = .ok (.pv v) st') : callP sem [.pv p, .pv q, .pv r, .pv s] st = .ok (.pv v) st := callP_eq (ps := [p, q, r, s]) h
/-- a pure def's function, told by what it gives -/
def Giv (sem : Sem) (ps : List PV) (v : PV) : Prop := ∃ st', sem (ps.map EV.pv) [] = .ok (.pv v) st'
theorem Giv.call {sem : Sem} {ps : List PV} {v : PV} {st : Store} (h : Giv sem ps v) : callP sem (ps.map EV.pv) st = .ok (.pv v) st := by
  obtain ⟨st', e⟩ := h
  exact callP_eq e
theorem Giv.call1 {sem : Sem} {p : PV} {v : PV} {st : Store} (h : Giv sem [p] v) : callP sem [.pv p] st = .ok (.pv v) st := h.call
theorem Giv.call2 {sem : Sem} {p q : PV} {v : PV} {st : Store} (h : Giv sem [p, q] v) : callP sem [.pv p, .pv q] st = .ok (.pv v) st := h.call
theorem Giv.call3 {sem : Sem} {p q r : PV} {v : PV} {st : Store} (h : Giv sem [p, q, r] v) : callP sem [.pv p, .pv q, .pv r] st = .ok (.pv v) st := h.call
theorem Giv.call4 {sem : Sem} {p q r s : PV} {v : PV} {st : Store} (h : Giv sem [p, q, r, s] v) : callP sem [.pv p, .pv q, .pv r, .pv s] st = .ok (.pv v) st := h.call
theorem Giv.call5 {sem : Sem} {p q r s t : PV} {v : PV} {st : Store} (h : Giv sem [p, q, r, s, t] v) : callP sem [.pv p, .pv q, .pv r, .pv s, .pv t] st = .ok (.pv v) st := h.call
theorem Giv.of {np ns : Nat} {b : DS} {ps : List PV} {v : PV} (hn : ps.length = np) (h : (b ((ps.map EV.pv).map some ++ List.replicate (ns - np) none) []).P4 (fun _ _ => PV.non = v) (fun w _ => w = .pv v) (fun _ _ => False) fun _ _ => False) : Giv (runB np ns b) ps v := by
  have q : (runB np ns b (ps.map EV.pv) []).P fun w _ => w = .pv v := runB_P (by simpa using hn) (by
    generalize e : b ((ps.map EV.pv).map some ++ List.replicate (ns - np) none) [] = r at h ⊢
    cases r with
    | nx ρ st => simp only [RS.P4_nx] at h ⊢; rw [h]
    | _ => exact ⟨h.h⟩)
  obtain ⟨a, st, e, rfl⟩ := q.ex
  exact ⟨st, e⟩
end GT

/-! Part J. More about loops, comparisons, boxes. -/
namespace GT
open PySem L2
section
variable {st : Store}
@[simp] theorem okP_int (i : Int) : okP (.int i) = true := (rfl)
@[simp] theorem okP_bl (i : Bool) : okP (.bl i) = true := (rfl)
@[simp] theorem okP_non : okP .non = true := (rfl)
@[simp] theorem snap_pv (p : PV) : snap (.pv p) st = some p := (rfl)
@[simp] theorem eqP_int (i j : Int) : eqP (.int i) (.int j) = (i == j) := by unfold eqP; rfl
@[simp] theorem eqP_str (i j : Str) : eqP (.str i) (.str j) = (i == j) := by unfold eqP; rfl
@[simp] theorem eqP_bl (i j : Bool) : eqP (.bl i) (.bl j) = (i == j) := by unfold eqP; rfl
theorem eqE_pv (neg : Bool) (p q : PV) : eqE neg (.pv p) (.pv q) st = if okP p = true ∧ okP q = true then .ok (.pv (.bl (if neg = true then !eqP p q else eqP p q))) st else .stuck := rfl
@[simp] theorem eqE_int (i j : Int) : eqE false (.pv (.int i)) (.pv (.int j)) st = .ok (.pv (.bl (i == j))) st := by simp [eqE_pv]
@[simp] theorem neE_int (i j : Int) : eqE true (.pv (.int i)) (.pv (.int j)) st = .ok (.pv (.bl (i != j))) st := by simp [eqE_pv, bne]
@[simp] theorem isE_non (x : EV) (neg : Bool) : isE neg x (.pv .non) st = .ok (.pv (.bl (if neg = true then !isP x .non else isP x .non))) st := (rfl)
@[simp] theorem isE_bl (x : EV) (neg b : Bool) : isE neg x (.pv (.bl b)) st = .ok (.pv (.bl (if neg = true then !isP x (.bl b) else isP x (.bl b)))) st := (rfl)
@[simp] theorem isP_nn : isP (.pv .non) .non = true := (rfl)
@[simp] theorem isP_bb (a b : Bool) : isP (.pv (.bl a)) (.bl b) = (a == b) := (rfl)
@[simp] theorem isP_in (i : Int) : isP (.pv (.int i)) .non = false := (rfl)
@[simp] theorem isP_ib (i : Int) (b : Bool) : isP (.pv (.int i)) (.bl b) = false := (rfl)
@[simp] theorem isP_sn (i : Str) : isP (.pv (.str i)) .non = false := (rfl)
@[simp] theorem isP_sb (i : Str) (b : Bool) : isP (.pv (.str i)) (.bl b) = false := (rfl)
@[simp] theorem isP_tn (i : List PV) : isP (.pv (.tup i)) .non = false := (rfl)
@[simp] theorem isP_tb (i : List PV) (b : Bool) : isP (.pv (.tup i)) (.bl b) = false := (rfl)
@[simp] theorem isP_ln (i : List PV) : isP (.pv (.lst i)) .non = false := (rfl)
@[simp] theorem isP_lb (i : List PV) (b : Bool) : isP (.pv (.lst i)) (.bl b) = false := (rfl)
@[simp] theorem isP_bn (b : Bool) : isP (.pv (.bl b)) .non = false := (rfl)
@[simp] theorem isP_nb (b : Bool) : isP (.pv .non) (.bl b) = false := (rfl)
theorem smallR_of {i : Int} (h : -1000000000000 < i) (h' : i < 1000000000000) : smallR i = true := by
  unfold smallR
  simp only [Bool.and_eq_true, decide_eq_true_eq]
  omega
theorem rg1E_int {j : Int} (h : smallR j = true) : rg1E [.pv (.int j)] st = .ok (rngL 0 j) st := by simp [rg1E, h]
theorem rg2E_int {i j : Int} (h0 : smallR i = true) (h : smallR j = true) : rg2E [.pv (.int i), .pv (.int j)] st = .ok (rngL i j) st := by simp [rg2E, h, h0]
@[simp] theorem rg1_lit (n : Nat) (h : n < 1000000000000) : rg1E [.pv (.int (no_index (@OfNat.ofNat Int n instOfNat)))] st = .ok (rngL 0 (@OfNat.ofNat Int n instOfNat)) st := by
  have e : (@OfNat.ofNat Int n instOfNat) = (n : Int) := rfl
  rw [e]
  exact rg1E_int (smallR_of (by omega) (by omega))
@[simp] theorem rg1_nat (n : Nat) (h : n < 1000000000000) : rg1E [.pv (.int (n : Int))] st = .ok (rngL 0 n) st := rg1E_int (smallR_of (by omega) (by omega))
@[simp] theorem itA_tup (b : List PV) : itA (.pv (.tup b)) st = .ok b st := (rfl)
@[simp] theorem itA_lst (b : List PV) : itA (.pv (.lst b)) st = .ok b st := (rfl)
@[simp] theorem itA_fls (b : List PV) : itA (.pv (.fls b)) st = .ok b st := (rfl)
@[simp] theorem itE_tup (b : List PV) : itE (.pv (.tup b)) st = .ok b st := (rfl)
@[simp] theorem itE_lst (b : List PV) : itE (.pv (.lst b)) st = .ok b st := (rfl)
@[simp] theorem itE_fls (b : List PV) : itE (.pv (.fls b)) st = .ok b st := (rfl)
@[simp] theorem isL_lst (b : List PV) : isL (.pv (.lst b)) st = true := (rfl)
@[simp] theorem isS_str (b : Str) : isS (.pv (.str b)) st = true := (rfl)
@[simp] theorem frzE_pv (p : PV) : frzE (.pv p) st = .ok (.pv p) st := (rfl)
@[simp] theorem szl : sizeLine = 16777216 := by decide
@[simp] theorem tupD_eq (xs : List EV) : tupD xs st = if xs.length ≤ 16777216 then (match pvsOf xs with | some ps => .ok (.pv (.tup ps)) st | none => .stuck) else .stuck := by unfold tupD; rw [szl]; try (split <;> first | rfl | (cases pvsOf xs <;> rfl))
@[simp] theorem lstD_eq (o : Bool) (xs : List EV) : lstD o xs st = if xs.length ≤ 16777216 then newL o xs st else .stuck := by unfold lstD; rw [szl]
end
theorem atI_lt' {α : Type} {xs : List α} {i : Int} (h0 : 0 ≤ i) (h : i < xs.length) : atI xs i = some (xs[i.toNat]'(by omega)) := by
  unfold atI ixN
  rw [if_pos h0, if_pos h]
  simp
theorem rngL_get {lo hi : Int} {i : Nat} {x : PV} (h : (rngL lo hi)[i]? = some x) : x = .int (lo + i) ∧ lo + i < hi := by
  unfold rngL at h
  rw [List.getElem?_map, Option.map_eq_some_iff] at h
  obtain ⟨a, h1, rfl⟩ := h
  rw [List.getElem?_eq_some_iff] at h1
  obtain ⟨h1, h2⟩ := h1
  simp only [List.length_range, List.getElem_range] at h1 h2
  subst h2
  exact ⟨rfl, by omega⟩
theorem rngL_nil {lo hi : Int} (h : hi ≤ lo) : rngL lo hi = [] := by
  unfold rngL
  rw [show (hi - lo).toNat = 0 by omega]; rfl
section
variable {N : Env → Store → Prop} {T : EV → Store → Prop} {B C : Env → Store → Prop}
/-- for over a range -/
theorem forR_P {j : Nat} {b : DS} {lo hi : Int} {ρ : Env} {st : Store} (I : Int → Env → Store → Prop) (hlh : lo ≤ hi) (h0 : I lo ρ st)
    (hs : ∀ (k : Int) (ρ : Env) (st : Store), lo ≤ k → k < hi → I k ρ st → (b (ρ.set j (some (.pv (.int k)))) st).P4 (I (k + 1)) T N (I (k + 1))) (hd : ∀ ρ st, I hi ρ st → N ρ st) : (forS (fNm j) b (rngL lo hi) ρ st).P4 N T B C := by
  refine forS_P (fun i => I (lo + i)) (by simpa using h0) (fun i x ρ st hx hi => ?_) (fun ρ st h => ?_)
  · obtain ⟨rfl, h2⟩ := rngL_get hx
    refine ⟨_, rfl, ?_⟩
    have := hs (lo + i) ρ st (by omega) h2 hi
    rw [show lo + (i : Int) + 1 = lo + ((i + 1 : Nat) : Int) by omega] at this
    exact this
  · rw [rngL_length, show lo + ((hi - lo).toNat : Int) = hi by omega] at h
    exact hd ρ st h
theorem P4_imp {N' : Env → Store → Prop} {T' : EV → Store → Prop} {B' C' : Env → Store → Prop} {r : RS} (h : r.P4 N' T' B' C') (hN : ∀ ρ st, N' ρ st → N ρ st) (hT : ∀ ρ st, T' ρ st → T ρ st) (hB : ∀ ρ st, B' ρ st → B ρ st) (hC : ∀ ρ st, C' ρ st → C ρ st) : r.P4 N T B C := by
  cases r with
  | nx ρ st => exact ⟨hN _ _ h.h⟩
  | rt ρ st => exact ⟨hT _ _ h.h⟩
  | bk ρ st => exact ⟨hB _ _ h.h⟩
  | ct ρ st => exact ⟨hC _ _ h.h⟩
  | stuck => exact ⟨h.h⟩
  | exc x ρ st => exact ⟨h.h⟩
/-- while, with something that gets less -/
theorem while_P {c : DT} {b : DS} (I : Nat → Env → Store → Prop)
    (hs : ∀ (n : Nat) (ρ : Env) (st : Store), I n ρ st → (c ρ st).P fun k st1 => if k = true then (b ρ st1).P4 (fun ρ' st' => ∃ m, m < n ∧ I m ρ' st') T N (fun ρ' st' => ∃ m, m < n ∧ I m ρ' st') else N ρ st1) :
    ∀ (f n : Nat) (ρ : Env) (st : Store), I n ρ st → n < f → (sWhile c b f ρ st).P4 N T B C := by
  intro f
  induction f with
  | zero => intro n ρ st _ h; omega
  | succ f ih =>
    intro n ρ st hi hn
    unfold sWhile
    have h := hs n ρ st hi
    rw [RS.P4_toS]
    refine h.imp fun k st1 hk => ?_
    rw [KS_app]
    cases k with
    | false => simpa using hk
    | true =>
      simp only [if_true] at hk ⊢
      cases e2 : b ρ st1 with
      | nx ρ' st' => rw [e2] at hk; obtain ⟨m, hm, h2⟩ := hk.h; exact ih m ρ' st' h2 (by omega)
      | ct ρ' st' => rw [e2] at hk; obtain ⟨m, hm, h2⟩ := hk.h; exact ih m ρ' st' h2 (by omega)
      | bk ρ' st' => rw [e2] at hk; exact ⟨hk.h⟩
      | rt v st' => rw [e2] at hk; exact ⟨hk.h⟩
      | stuck => rw [e2] at hk; exact ⟨hk.h⟩
      | exc z ρ' st' => rw [e2] at hk; exact ⟨hk.h⟩
end
/-- a comprehension that touches nothing -/
theorem compL_pure {f : TgF} {c : DT} {e : DE} {ρ : Env} {st : Store} (p : PV → Bool) (g : PV → PV) : ∀ (xs : List PV), (∀ x ∈ xs, ∃ ρ1, f (.pv x) ρ = some ρ1 ∧ c ρ1 st = .ok (p x) st ∧ (p x = true → e ρ1 st = .ok (.pv (g x)) st)) →
    compL f c e ρ xs st = .ok (((xs.filter p).map g).map EV.pv) st := by
  intro xs
  induction xs with
  | nil => intro _; rfl
  | cons x xs ih =>
    intro h
    obtain ⟨ρ1, e1, e2, e3⟩ := h x (List.mem_cons_self ..)
    have hi := ih fun y hy => h y (List.mem_cons_of_mem _ hy)
    rw [compL_one, e1]
    simp only [e2, R.bind_ok]
    cases hp : p x with
    | true =>
      simp [e3 hp, hi, hp]
    | false => simp [hi, hp]
/-- over a range, with no test -/
theorem compR_pure {j : Nat} {c : DT} {e : DE} {ρ : Env} {st : Store} (lo hi : Int) (p : Int → Bool) (g : Int → PV) (h : ∀ k : Int, lo ≤ k → k < hi → c (ρ.set j (some (.pv (.int k)))) st = .ok (p k) st ∧ (p k = true → e (ρ.set j (some (.pv (.int k)))) st = .ok (.pv (g k)) st)) :
    compL (fNm j) c e ρ (rngL lo hi) st = .ok (((((List.range (hi - lo).toNat).map fun (k : Nat) => lo + (k : Int)).filter p).map g).map EV.pv) st := by
  have q := compL_pure (f := fNm j) (c := c) (e := e) (ρ := ρ) (st := st) (fun x => match x with | .int k => p k | _ => false) (fun x => match x with | .int k => g k | _ => .non) (rngL lo hi) (fun x hx => by
    obtain ⟨i, hi, e⟩ := List.mem_iff_getElem.mp hx
    have := rngL_get (lo := lo) (hi := _) (i := i) (x := x) (by rw [List.getElem?_eq_getElem hi, e])
    obtain ⟨rfl, h2⟩ := this
    exact ⟨_, rfl, h (lo + i) (by omega) h2⟩)
  rw [q]
  congr 2
  unfold rngL
  rw [List.filter_map, List.filter_map]
  simp only [List.map_map]
  rfl
@[simp] theorem atI_nat {α : Type} (xs : List α) (k : Nat) : atI xs (k : Int) = xs[k]? := by
  by_cases h : (k : Int) < xs.length
  · rw [atI_lt' (by omega) h]
    simp
  · unfold atI ixN
    rw [if_pos (by omega), if_neg h]
    simp
    omega
/-- over range(n), with no test -/
theorem compN_pure {j : Nat} {e : DE} {ρ : Env} {st : Store} (n : Nat) (g : Nat → PV) (h : ∀ k : Nat, k < n → e (ρ.set j (some (.pv (.int k)))) st = .ok (.pv (g k)) st) :
    compL (fNm j) tTrue e ρ (rngL 0 n) st = .ok ((List.range n).map fun k => EV.pv (g k)) st := by
  rw [show ((List.range n).map fun k => EV.pv (g k)) = ((List.range n).map g).map EV.pv by rw [List.map_map]; rfl]
  rw [compR_pure 0 n (fun _ => true) (fun k => g k.toNat) fun k k0 k1 => ⟨rfl, fun _ => ?_⟩]
  · congr 2
    simp only [Int.sub_zero, Int.toNat_natCast]
    rw [List.filter_eq_self.mpr (by simp), List.map_map]
    congr 1
    funext k
    simp
  · have := h k.toNat (by omega)
    rw [show ((k.toNat : Nat) : Int) = k by omega] at this
    exact this
@[simp] theorem newL_map {α : Type} (f : α → PV) (xs : List α) (st : Store) : newL false (xs.map fun x => EV.pv (f x)) st = .ok (.pv (.lst (xs.map f))) st := by
  have := newL_v (xs.map f) st
  rw [List.map_map] at this
  exact this
/-- an environment of n places, some of them known -/
def At (n : Nat) (fix : List (Nat × EV)) (ρ : Env) : Prop := ρ.length = n ∧ ∀ p ∈ fix, ρ[p.1]? = some (some p.2)
theorem At.mk {n : Nat} {f : List (Nat × EV)} {ρ : Env} (h : ρ.length = n) (h2 : ∀ p ∈ f, ρ[p.1]? = some (some p.2)) : At n f ρ := ⟨h, h2⟩
end GT

/-! Helpers of the laws. -/
namespace PB
open PySem L2 GT
/-- _law_digits(script, first, last); slots: 0 script, 1 first, 2 last, 3 digits, 4 k, 5 cell, 6 turn, 7 seed -/
def B__law_digits : DS :=
    (sSeq (sSet 3 (dApp (lstD true) aNil))
    (sSeq (sFor (iR2 (aCons (dVar 1) (aCons (dVar 2) aNil))) (fNm 4) (sSeq (sSet 5 (dIfE (tBl (dOp2 (p2 ltP) (dVar 4) (dApp (ap1 lenE) (aCons (dVar 0) aNil)))) (dOp2 ixE (dVar 0) (dVar 4)) (dC (.int 0))))
    (sSeq (sIf (tBl (dOp2 (p2 ltP) (dVar 5) (dC (.int 0)))) (sSet 5 (dOp2 (p2 subP) (dC (.int 1)) (dOp2 mulE (dC (.int 2)) (dVar 5)))) sNil)
    (sIf (tBl (dOp2 (p2 geP) (dVar 5) (dC (.int 1000000000000000000)))) (sFor (iR1 (aCons (dC (.int 60)) aNil)) (fNm 6) (sIf (tBl (dOp2 (p2 gtP) (dVar 5) (dC (.int 0)))) (sSeq (sExpr (dBM isL appE (dVar 3) (aCons (dOp2 (p2 modP) (dApp (ap1 (p1 intP)) (aCons (dVar 5) aNil)) (dC (.int 1009))) aNil)))
    (sSet 5 (dOp2 (p2 divP) (dVar 5) (dC (.int 1009))))) sNil)) (sSeq (sSet 7 (dOp2 (p2 modP) (dApp (ap1 (p1 intP)) (aCons (dOp2 addE (dOp2 addE (dOp2 mulE (dVar 5) (dC (.int 40699))) (dOp2 mulE (dVar 4) (dC (.int 52769)))) (dC (.int 31))) aNil)) (dC (.int 2147483399))))
    (sFor (iR1 (aCons (dC (.int 12)) aNil)) (fNm 6) (sSeq (sSet 7 (dOp2 (p2 modP) (dApp (ap1 (p1 intP)) (aCons (dOp2 addE (dOp2 addE (dOp2 mulE (dVar 7) (dC (.int 40014))) (dOp2 mulE (dC (.int 11)) (dVar 6))) (dC (.int 7))) aNil)) (dC (.int 2147483563))))
    (sExpr (dBM isL appE (dVar 3) (aCons (dOp2 (p2 modP) (dApp (ap1 (p1 intP)) (aCons (dOp2 (p2 divP) (dVar 7) (dC (.int 1013))) aNil)) (dC (.int 1009))) aNil))))))))))
    (sRet (dFrz (dVar 3)))))
/-- _law_draw(box, many); slots: 0 box, 1 many, 2 at -/
def B__law_draw : DS :=
    (sSeq (sSet 2 (dOp2 ixE (dVar 0) (dC (.int 1))))
    (sSeq (sSetI (dVar 0) (dC (.int 1)) (dOp2 addE (dVar 2) (dC (.int 1))))
    (sSeq (sIf (tBl (dOp2 (p2 ltP) (dVar 2) (dApp (ap1 lenE) (aCons (dOp2 ixE (dVar 0) (dC (.int 0))) aNil)))) (sRet (dOp2 (p2 modP) (dApp (ap1 (p1 intP)) (aCons (dOp2 ixE (dOp2 ixE (dVar 0) (dC (.int 0))) (dVar 2)) aNil)) (dVar 1))) sNil)
    (sRet (dOp2 (p2 modP) (dApp (ap1 (p1 intP)) (aCons (dOp2 addE (dOp2 addE (dOp2 addE (dOp2 mulE (dOp2 mulE (dVar 2) (dVar 2)) (dC (.int 3))) (dOp2 mulE (dVar 2) (dC (.int 4)))) (dOp2 (p2 divP) (dVar 2) (dC (.int 3)))) (dC (.int 1))) aNil)) (dVar 1))))))
/-- _law_pick(box, things); slots: 0 box, 1 things -/
def B__law_pick (c__law_draw : Sem) : DS :=
    (sRet (dOp2 ixE (dVar 1) (dApp (callE c__law_draw) (aCons (dVar 0) (aCons (dApp (ap1 lenE) (aCons (dVar 1) aNil)) aNil)))))
/-- _law_like(given, due); slots: 0 given, 1 due, 2 .0, 3 k -/
def B__law_like (c__law_like : Sem) : DS :=
    (sSeq (sIf (tTru (dOp1 (isiE .tuple) (dVar 1))) (sSeq (sIf (tOrD (tNotD (tTru (dOp1 (isiE .tuple) (dVar 0)))) (tBl (dOp2 (eqE true) (dApp (ap1 lenE) (aCons (dVar 0) aNil)) (dApp (ap1 lenE) (aCons (dVar 1) aNil))))) (sRet (dC (.bl false))) sNil)
    (sRet (dOp2 (eqE false) (dComp false (iR1 (aCons (dApp (ap1 lenE) (aCons (dVar 1) aNil)) aNil)) (fNm 3) (tNotD (tTru (dApp (callP c__law_like) (aCons (dOp2 ixE (dVar 0) (dVar 3)) (aCons (dOp2 ixE (dVar 1) (dVar 3)) aNil))))) (dC (.int 1)) [2, 3]) (dApp (lstD false) aNil)))) sNil)
    (sSeq (sIf (tBl (dOp2 (isE false) (dVar 1) (dC .non))) (sRet (dOp2 (isE false) (dVar 0) (dC .non))) sNil)
    (sSeq (sIf (tBl (dOp2 (isE false) (dVar 1) (dC (.bl true)))) (sRet (dOp2 (isE false) (dVar 0) (dC (.bl true)))) sNil)
    (sSeq (sIf (tBl (dOp2 (isE false) (dVar 1) (dC (.bl false)))) (sRet (dOp2 (isE false) (dVar 0) (dC (.bl false)))) sNil)
    (sSeq (sIf (tTru (dOp1 (isiE .str) (dVar 1))) (sRet (dAnd (dOp1 (isiE .str) (dVar 0)) (dOp2 (eqE false) (dBM isS joinE (dC (.str "")) (aCons (dApp (lstD false) (aCons (dVar 0) aNil)) aNil)) (dVar 1)))) sNil)
    (sRet (dAnd (dOp1 (isiE .int) (dVar 0)) (dAnd (dNot (dOp1 (isiE .bool) (dVar 0))) (dOp2 (eqE false) (dVar 0) (dVar 1))))))))))
/-- _law_word(box); slots: 0 box, 1 kind -/
def B__law_word (c__law_draw : Sem) : DS :=
    (sSeq (sSet 1 (dApp (callE c__law_draw) (aCons (dVar 0) (aCons (dC (.int 6)) aNil))))
    (sSeq (sIf (tBl (dOp2 (p2 ltP) (dVar 1) (dC (.int 3)))) (sRet (dApp (callE c__law_draw) (aCons (dVar 0) (aCons (dC (.int 4)) aNil)))) sNil)
    (sSeq (sIf (tBl (dOp2 (eqE false) (dVar 1) (dC (.int 3)))) (sRet (dOp2 (p2 subP) (dC (.int 65535)) (dApp (callE c__law_draw) (aCons (dVar 0) (aCons (dC (.int 3)) aNil))))) sNil)
    (sRet (dOp2 (p2 modP) (dApp (ap1 (p1 intP)) (aCons (dOp2 addE (dOp2 mulE (dApp (callE c__law_draw) (aCons (dVar 0) (aCons (dC (.int 1009)) aNil))) (dC (.int 1009))) (dApp (callE c__law_draw) (aCons (dVar 0) (aCons (dC (.int 1009)) aNil)))) aNil)) (dC (.int 65536)))))))
/-! the box: the digits, the next place -/
def boxO (ds : List Int) (at' : Int) : Ob := .lst [.pv (.lst (ds.map PV.int)), .pv (.int at')]
@[simp] theorem clO_box (n : Nat) (ds : List Int) (a : Int) : clO n (boxO ds a) = true := (rfl)
@[simp] theorem atI_0 {α : Type} (x : α) (xs : List α) : atI (x :: xs) 0 = some x := by simp [atI, ixN]
@[simp] theorem atI_1 {α : Type} (x y : α) (xs : List α) : atI (x :: y :: xs) 1 = some y := by
  simp only [atI, ixN, List.length_cons]
  rw [if_pos (by decide), if_pos (by omega)]
  rfl
theorem atI_lt {α : Type} {xs : List α} {i : Int} (h0 : 0 ≤ i) (h : i < xs.length) : atI xs i = some (xs[i.toNat]'(by omega)) := by
  unfold atI ixN
  rw [if_pos h0, if_pos h]
  simp
theorem draw_run (ds : List Int) (a many : Int) (r : Store) (h0 : 0 ≤ a) (h1 : a < 1000000000) (hm : 0 < many) :
    ∃ d, 0 ≤ d ∧ d < many ∧ runB 2 3 B__law_draw [.ob 0, .pv (.int many)] (boxO ds a :: r) = .ok (.pv (.int d)) (boxO ds (a + 1) :: r) := by
  by_cases h : a < ds.length
  · refine ⟨ds[a.toNat]'(by omega) % many, Int.emod_nonneg _ (by omega), Int.emod_lt_of_pos _ hm, ?_⟩
    have e := atI_lt h0 h
    simp [runB, B__law_draw, ixE, asS, boxO, setLE, ixN, lenE, h, hm, e, atI_map]
  · refine ⟨(a * a * 3 + a * 4 + a / 3 + 1) % many, Int.emod_nonneg _ (by omega), Int.emod_lt_of_pos _ hm, ?_⟩
    have e1 : smI a = true := smI_of (by omega) (by omega)
    simp [runB, B__law_draw, ixE, asS, boxO, setLE, ixN, lenE, h, hm, e1]

/-- the store of a law: the box with at least n draws left, then the rest -/
def BX (n : Int) (r st : Store) : Prop := ∃ ds a, 0 ≤ a ∧ a + n < 1000000000 ∧ st = boxO ds a :: r
theorem trunc_box (ds : List Int) (a : Int) (r : Store) (hr : r.all (clO (r.length + 1)) = true) : trunc (r.length + 1) (boxO ds a :: r) = boxO ds a :: r := by
  unfold trunc
  simp
theorem trunc_self (st : Store) : trunc st.length st = st := by
  unfold trunc
  split
  · simp
  · rfl
theorem callE_eq {sem : Sem} {xs : List EV} {st st' : Store} {p : PV} (h : sem xs st = .ok (.pv p) st') (hl : st'.length = st.length) : callE sem xs st = .ok (.pv p) st' := callE_len h hl
theorem draw_P {many : Int} {r st : Store} {Q : EV → Store → Prop} {n : Int} (hn : 0 ≤ n) (hb : BX (n + 1) r st) (hm : 0 < many)
    (h : ∀ d st', 0 ≤ d → d < many → BX n r st' → Q (.pv (.int d)) st') : (callE (runB 2 3 B__law_draw) [.ob 0, .pv (.int many)] st).P Q := by
  obtain ⟨ds, a, h0, h1, rfl⟩ := hb
  obtain ⟨d, d0, d1, e⟩ := draw_run ds a many r h0 (by omega) hm
  rw [callE_len e rfl]
  exact ⟨h d _ d0 d1 ⟨ds, a + 1, by omega, by omega, rfl⟩⟩
theorem pick_P {xs : List PV} {r st : Store} {Q : EV → Store → Prop} {n : Int} (hn : 0 ≤ n) (hb : BX (n + 1) r st) (hm : 0 < xs.length)
    (h : ∀ x st', x ∈ xs → BX n r st' → Q (.pv x) st') : (callE (runB 2 2 (B__law_pick (runB 2 3 B__law_draw))) [.ob 0, .pv (.lst xs)] st).P Q := by
  obtain ⟨ds, a, h0, h1, rfl⟩ := hb
  obtain ⟨d, d0, d1, e⟩ := draw_run ds a xs.length r h0 (by omega) (by omega)
  have e2 : runB 2 2 (B__law_pick (runB 2 3 B__law_draw)) [.ob 0, .pv (.lst xs)] (boxO ds a :: r) = .ok (.pv (xs[d.toNat]'(by omega))) (boxO ds (a + 1) :: r) := by
    simp [runB, B__law_pick, callE_len e rfl, atI_lt d0 (by simpa using d1)]
  rw [callE_len e2 rfl]
  exact ⟨h _ _ (List.getElem_mem _) ⟨ds, a + 1, by omega, by omega, rfl⟩⟩
theorem pickT_P {xs : List PV} {r st : Store} {Q : EV → Store → Prop} {n : Int} (hn : 0 ≤ n) (hb : BX (n + 1) r st) (hm : 0 < xs.length)
    (h : ∀ x st', x ∈ xs → BX n r st' → Q (.pv x) st') : (callE (runB 2 2 (B__law_pick (runB 2 3 B__law_draw))) [.ob 0, .pv (.tup xs)] st).P Q := by
  obtain ⟨ds, a, h0, h1, rfl⟩ := hb
  obtain ⟨d, d0, d1, e⟩ := draw_run ds a xs.length r h0 (by omega) (by omega)
  have e2 : runB 2 2 (B__law_pick (runB 2 3 B__law_draw)) [.ob 0, .pv (.tup xs)] (boxO ds a :: r) = .ok (.pv (xs[d.toNat]'(by omega))) (boxO ds (a + 1) :: r) := by
    simp [runB, B__law_pick, callE_len e rfl, atI_lt d0 (by simpa using d1)]
  rw [callE_len e2 rfl]
  exact ⟨h _ _ (List.getElem_mem _) ⟨ds, a + 1, by omega, by omega, rfl⟩⟩

theorem BX.two {n : Int} {r st : Store} {x : Ob} (h : BX n r st) : st.length = r.length + 1 := by
  obtain ⟨ds, a, _, _, rfl⟩ := h
  rfl
theorem callE_P {sem : Sem} {xs : List EV} {st : Store} {Q : EV → Store → Prop} (h : (sem xs st).P fun v st' => (∃ p, v = .pv p) ∧ st'.length = st.length ∧ Q v st') : (callE sem xs st).P Q := by
  obtain ⟨v, st', e, ⟨p, rfl⟩, hl, q⟩ := h.ex
  rw [callE_len e hl]
  exact ⟨q⟩
theorem BX.len {n m : Int} {r st st' : Store} (h : BX n r st) (h' : BX m r st') : st.length = st'.length := by
  obtain ⟨ds, a, _, _, rfl⟩ := h
  obtain ⟨ds', a', _, _, rfl⟩ := h'
  rfl
theorem BX.mono {n m : Int} {r st : Store} (h : BX n r st) (hm : m ≤ n) : BX m r st := by
  obtain ⟨ds, a, h0, h1, rfl⟩ := h
  exact ⟨ds, a, h0, by omega, rfl⟩
theorem word_P {r st : Store} {Q : EV → Store → Prop} {n : Int} (hn : 0 ≤ n) (hb : BX (n + 3) r st)
    (h : ∀ d st', 0 ≤ d → d < 65536 → BX n r st' → Q (.pv (.int d)) st') : (callE (runB 1 2 (B__law_word (runB 2 3 B__law_draw))) [.ob 0] st).P Q := by
  refine callE_P (runB_P rfl ?_)
  simp [B__law_word]
  refine draw_P (n := n + 2) (by omega) (by rwa [show n + 2 + 1 = n + 3 by omega]) (by omega) fun k s1 k0 k1 b1 => ?_
  simp
  by_cases c1 : k < 3
  · simp [c1]
    refine draw_P (n := n + 1) (by omega) (by rwa [show n + 1 + 1 = n + 2 by omega]) (by omega) fun d s2 d0 d1 b2 => ?_
    exact ⟨⟨_, rfl⟩, b2.len hb, h d s2 d0 (by omega) (b2.mono (by omega))⟩
  · by_cases c2 : k = 3
    · simp [c1, c2]
      refine draw_P (n := n + 1) (by omega) (by rwa [show n + 1 + 1 = n + 2 by omega]) (by omega) fun d s2 d0 d1 b2 => ?_
      simp
      exact ⟨b2.len hb, h (65535 - d) s2 (by omega) (by omega) (b2.mono (by omega))⟩
    · simp [c1, c2]
      refine draw_P (n := n + 1) (by omega) (by rwa [show n + 1 + 1 = n + 2 by omega]) (by omega) fun d s2 d0 d1 b2 => ?_
      simp
      refine draw_P (n := n) (by omega) b2 (by omega) fun d' s3 d0' d1' b3 => ?_
      simp
      exact ⟨b3.len hb, h _ s3 (by omega) (by omega) b3⟩
/-! likeness -/
mutual
/-- trees that are like themselves -/
def likP : PV → Bool
  | .non => true
  | .bl _ => true
  | .int _ => true
  | .str s => decide (s.length ≤ 16777216) && s.cps.all (· < 0x110000)
  | .tup xs => decide (xs.length < 1000000) && likPs xs
  | _ => false
def likPs : List PV → Bool
  | [] => true
  | x :: xs => likP x && likPs xs
end
theorem likPs_mem {xs : List PV} (h : likPs xs = true) {x : PV} (hx : x ∈ xs) : likP x = true := by
  induction xs with
  | nil => cases hx
  | cons y ys ih =>
    unfold likPs at h
    rw [Bool.and_eq_true] at h
    rcases List.mem_cons.mp hx with rfl | hx
    · exact h.1
    · exact ih h.2 hx
theorem depPs_mem {xs : List PV} {x : PV} (hx : x ∈ xs) : depP x ≤ depPs xs := by
  induction xs with
  | nil => cases hx
  | cons y ys ih =>
    unfold depPs
    rcases List.mem_cons.mp hx with rfl | hx
    · omega
    · have := ih hx; omega
theorem rngL_mem {lo hi : Int} {x : PV} (h : x ∈ rngL lo hi) : ∃ k, x = .int k ∧ lo ≤ k ∧ k < hi := by
  obtain ⟨i, hi, rfl⟩ := List.mem_iff_getElem.mp h
  have := rngL_get (List.getElem?_eq_getElem hi)
  exact ⟨_, this.1, by omega, this.2⟩
theorem likP_str {s : Str} (h : likP (.str s) = true) : okP (.str s) = true ∧ s.length ≤ 16777216 := by
  unfold likP at h
  rw [Bool.and_eq_true, decide_eq_true_eq] at h
  exact ⟨by unfold okP; unfold datP; rw [h.2]; simp [depP], h.1⟩
theorem glued_one (a s : Str) : Txt.join a [s] = s := rfl
theorem joinE_one (s : Str) (st : Store) (h : s.length ≤ 16777216) : joinE (.pv (.str "")) [.pv (.lst [.str s])] st = .ok (.pv (.str s)) st := by
  have e : ([s].map (·.length)).sum + [s].length * Str.length "" ≤ 16777216 := by
    have : Str.length "" = 0 := rfl
    rw [this]
    simpa using h
  simp only [joinE, asS, List.map, pvsOf, strsP]
  simp only [List.map] at e
  rw [if_pos e]
  rfl
theorem like_str {c : Sem} {s : Str} (h : likP (.str s) = true) : Giv (runB 2 4 (B__law_like c)) [.str s, .str s] (.bl true) := by
  obtain ⟨e, l⟩ := likP_str h
  refine Giv.of rfl ?_
  simp [B__law_like, joinE_one s [] l, eqE_pv, e]
theorem like_int {c : Sem} (i : Int) : Giv (runB 2 4 (B__law_like c)) [.int i, .int i] (.bl true) := Giv.of rfl (by simp [B__law_like])
theorem like_bl {c : Sem} (b : Bool) : Giv (runB 2 4 (B__law_like c)) [.bl b, .bl b] (.bl true) := Giv.of rfl (by cases b <;> simp [B__law_like])
theorem like_non {c : Sem} : Giv (runB 2 4 (B__law_like c)) [.non, .non] (.bl true) := Giv.of rfl (by simp [B__law_like])
theorem likP_tup {xs : List PV} : likP (.tup xs) = (decide (xs.length < 1000000) && likPs xs) := by unfold likP; rfl
theorem depP_tup {xs : List PV} : depP (.tup xs) = depPs xs + 1 := by unfold depP; rfl
theorem like_tup {c : Sem} {xs : List PV} (hl : xs.length < 1000000) (h : ∀ x ∈ xs, Giv c [x, x] (.bl true)) : Giv (runB 2 4 (B__law_like c)) [.tup xs, .tup xs] (.bl true) := by
  refine Giv.of rfl ?_
  have e0 : rg1E [EV.pv (PV.int xs.length)] [] = .ok (rngL 0 xs.length) [] := rg1E_int (smallR_of (by omega) (by omega))
  have e1 : compL (fNm 3) (tNotD (tTru (dApp (callP c) (aCons (dOp2 ixE (dVar 0) (dVar 3)) (aCons (dOp2 ixE (dVar 1) (dVar 3)) aNil))))) (dC (.int 1)) [some (.pv (.tup xs)), some (.pv (.tup xs)), none, none] (rngL 0 xs.length) [] = .ok [] [] := by
    rw [compR_pure 0 xs.length (fun _ => false) (fun _ => .non)]
    · simp
    · intro k k0 k1
      have g := h _ (List.getElem_mem (l := xs) (n := k.toNat) (by omega))
      simp [atI_lt k0 k1, g.call2]
  have e2 : xs.length ≤ 16777216 := by omega
  simp only [B__law_like]
  simp [e0, e1, e2]
  simp [eqE_pv, okP, datP, datPs, depP, depPs, eqP, eqPs]
theorem like_refl {L : Nat → Sem} (hL : ∀ n, L (n + 1) = runB 2 4 (B__law_like (L n))) : ∀ (n : Nat) (p : PV), depP p ≤ n → likP p = true → Giv (L (n + 1)) [p, p] (.bl true) := by
  intro n
  induction n with
  | zero =>
    intro p hd hp
    rw [hL]
    cases p with
    | tup xs => rw [depP_tup] at hd; omega
    | str s => exact like_str hp
    | int i => exact like_int i
    | bl b => exact like_bl b
    | non => exact like_non
    | _ => unfold likP at hp; cases hp
  | succ n ih =>
    intro p hd hp
    cases p with
    | tup xs =>
      rw [likP_tup, Bool.and_eq_true, decide_eq_true_eq] at hp
      rw [depP_tup] at hd
      rw [hL]
      exact like_tup hp.1 fun x hx => ih x (by have := depPs_mem hx; omega) (likPs_mem hp.2 hx)
    | str s => rw [hL]; exact like_str hp
    | int i => rw [hL]; exact like_int i
    | bl b => rw [hL]; exact like_bl b
    | non => rw [hL]; exact like_non
    | _ => unfold likP at hp; cases hp
/-! the digits -/
def idL (L : List Int) : List EV := L.map fun i => .pv (.int i)
theorem idL_app (L : List Int) (i : Int) : idL L ++ [.pv (.int i)] = idL (L ++ [i]) := by simp [idL]
@[simp] theorem idL_len (L : List Int) : (idL L).length = L.length := by simp [idL]
theorem pvsOf_idL (L : List Int) : pvsOf (idL L) = some (L.map PV.int) := by
  have e : idL L = (L.map PV.int).map EV.pv := by simp [idL]
  rw [e, pvsOf_map]
theorem digits_giv (ns : List Int) (lo hi : Int) (h0 : 0 ≤ lo) (h1 : lo ≤ hi) (h2 : hi < 100000) : ∃ ds : List Int, Giv (runB 3 8 B__law_digits) [.fls (ns.map PV.int), .int lo, .int hi] (.lst (ds.map PV.int)) := by
  suffices q : (runB 3 8 B__law_digits [.pv (.fls (ns.map PV.int)), .pv (.int lo), .pv (.int hi)] []).P fun v _ => ∃ ds : List Int, v = .pv (.lst (ds.map PV.int)) by
    obtain ⟨v, st, e, ds, rfl⟩ := q.ex
    exact ⟨ds, st, e⟩
  refine runB_P rfl ?_
  have e0 : ∀ st, rg2E [EV.pv (PV.int lo), EV.pv (PV.int hi)] st = .ok (rngL lo hi) st := fun st => rg2E_int (smallR_of (by omega) (by omega)) (smallR_of (by omega) (by omega))
  simp only [B__law_digits]
  simp [e0]
  refine forR_P (fun k ρ st => ∃ a b c d, ∃ L : List Int, ρ = [some (.pv (.fls (ns.map PV.int))), some (.pv (.int lo)), some (.pv (.int hi)), some (.ob 0), a, b, c, d] ∧ st = [.lst (idL L)] ∧ (L.length : Int) ≤ 60 * (k - lo)) h1 ⟨_, _, _, _, [], rfl, rfl, by simp⟩ ?_ ?_
  · rintro k ρ st k0 k1 ⟨a, b, c, d, L, rfl, rfl, hL⟩
    have e1 : ∃ x : Int, (dIfE (tBl (dOp2 (p2 ltP) (dVar 4) (dApp (ap1 lenE) (aCons (dVar 0) aNil)))) (dOp2 ixE (dVar 0) (dVar 4)) (dC (.int 0))) [some (.pv (.fls (ns.map PV.int))), some (.pv (.int lo)), some (.pv (.int hi)), some (.ob 0), some (.pv (.int k)), b, c, d] [.lst (idL L)] = .ok (.pv (.int x)) [.lst (idL L)] := by
      by_cases hk : k < ns.length
      · refine ⟨ns[k.toNat]'(by omega), ?_⟩
        simp [hk, atI_map, atI_lt (show 0 ≤ k by omega) hk]
      · exact ⟨0, by simp [hk]⟩
    obtain ⟨x, e1⟩ := e1
    have e2 : ∃ x' : Int, (sIf (tBl (dOp2 (p2 ltP) (dVar 5) (dC (.int 0)))) (sSet 5 (dOp2 (p2 subP) (dC (.int 1)) (dOp2 mulE (dC (.int 2)) (dVar 5)))) sNil) [some (.pv (.fls (ns.map PV.int))), some (.pv (.int lo)), some (.pv (.int hi)), some (.ob 0), some (.pv (.int k)), some (.pv (.int x)), c, d] [.lst (idL L)] = .nx [some (.pv (.fls (ns.map PV.int))), some (.pv (.int lo)), some (.pv (.int hi)), some (.ob 0), some (.pv (.int k)), some (.pv (.int x')), c, d] [.lst (idL L)] := by
      by_cases hk : x < 0
      · exact ⟨1 - 2 * x, by simp [hk]⟩
      · exact ⟨x, by simp [hk]⟩
    obtain ⟨x', e2⟩ := e2
    rw [sSeq_app, RS.P4_seq, sSet_app]
    simp only [List.set_cons_zero, List.set_cons_succ]
    rw [e1, R.toS_ok, kSet_app, RS.P4_nx, Nx_app, sSeq_app, RS.P4_seq]
    simp only [List.set_cons_zero, List.set_cons_succ]
    rw [e2, RS.P4_nx, Nx_app]
    by_cases hx : 1000000000000000000 ≤ x'
    · simp [hx]
      refine forR_P (fun t ρ st => ∃ y e, ∃ M : List Int, ρ = [some (.pv (.fls (ns.map PV.int))), some (.pv (.int lo)), some (.pv (.int hi)), some (.ob 0), some (.pv (.int k)), some (.pv (.int y)), e, d] ∧ st = [.lst (idL M)] ∧ (M.length : Int) ≤ 60 * (k - lo) + t) (by omega) ⟨_, _, L, rfl, rfl, by omega⟩ ?_ ?_
      · rintro t ρ st t0 t1 ⟨y, e, M, rfl, rfl, hM⟩
        by_cases hy : 0 < y
        · simp [hy, isL, appE, show M.length < 16777216 by omega]
          exact ⟨M ++ [_], idL_app _ _, by simp; omega⟩
        · simp [hy]
          exact ⟨M, rfl, by omega⟩
      · rintro ρ st ⟨y, e, M, rfl, rfl, hM⟩
        simp
        exact ⟨M, rfl, by omega⟩
    · simp [hx]
      refine forR_P (fun t ρ st => ∃ y e, ∃ M : List Int, ρ = [some (.pv (.fls (ns.map PV.int))), some (.pv (.int lo)), some (.pv (.int hi)), some (.ob 0), some (.pv (.int k)), some (.pv (.int x')), e, some (.pv (.int y))] ∧ st = [.lst (idL M)] ∧ (M.length : Int) ≤ 60 * (k - lo) + t) (by omega) ⟨_, _, L, rfl, rfl, by omega⟩ ?_ ?_
      · rintro t ρ st t0 t1 ⟨y, e, M, rfl, rfl, hM⟩
        simp [isL, appE, show M.length < 16777216 by omega]
        exact ⟨M ++ [_], idL_app _ _, by simp; omega⟩
      · rintro ρ st ⟨y, e, M, rfl, rfl, hM⟩
        simp
        exact ⟨M, rfl, by omega⟩
  · rintro ρ st ⟨a, b, c, d, L, rfl, rfl, hL⟩
    simp [frzE, pvsOf_idL]
    exact ⟨_, rfl⟩
end PB

/-! Numbers. -/
namespace PB
open PySem L2 GT
/-- is_integer(thing); slots: 0 thing -/
def B_is_integer : DS :=
    (sRet (dAnd (dOp1 (isiE .int) (dVar 0)) (dNot (dOp1 (isiE .bool) (dVar 0)))))
/-- is_word(thing); slots: 0 thing -/
def B_is_word (c_is_integer : Sem) : DS :=
    (sRet (dAnd (dApp (callP c_is_integer) (aCons (dVar 0) aNil)) (dChain (p2 leP) (p2 ltP) (dC (.int 0)) (dVar 0) (dC (.int 65536)))))
/-- word_power(base, exponent); slots: 0 base, 1 exponent, 2 found -/
def B_word_power : DS :=
    (sSeq (sPar2 2 0 (aCons (dC (.int 1)) (aCons (dOp2 (p2 modP) (dVar 0) (dC (.int 65536))) aNil)))
    (sSeq (sWhile (tBl (dOp2 (p2 gtP) (dVar 1) (dC (.int 0)))) (sSeq (sIf (tBl (dOp2 (eqE false) (dOp2 (p2 modP) (dVar 1) (dC (.int 2))) (dC (.int 1)))) (sSet 2 (dOp2 (p2 modP) (dOp2 mulE (dVar 2) (dVar 0)) (dC (.int 65536)))) sNil)
    (sPar2 0 1 (aCons (dOp2 (p2 modP) (dOp2 mulE (dVar 0) (dVar 0)) (dC (.int 65536))) (aCons (dOp2 (p2 divP) (dVar 1) (dC (.int 2))) aNil)))) 100000)
    (sRet (dVar 2))))
/-- binomial(whole, part); slots: 0 whole, 1 part, 2 found, 3 at -/
def B_binomial : DS :=
    (sSeq (sIf (tOrD (tBl (dOp2 (p2 ltP) (dVar 1) (dC (.int 0)))) (tBl (dOp2 (p2 gtP) (dVar 1) (dVar 0)))) (sRet (dC (.int 0))) sNil)
    (sSeq (sSet 2 (dC (.int 1)))
    (sSeq (sFor (iR1 (aCons (dVar 1) aNil)) (fNm 3) (sSet 2 (dOp2 (p2 divP) (dOp2 mulE (dVar 2) (dOp2 (p2 subP) (dVar 0) (dVar 3))) (dOp2 addE (dVar 3) (dC (.int 1))))))
    (sRet (dVar 2)))))
theorem is_integer_int (i : Int) : Giv (runB 1 1 B_is_integer) [.int i] (.bl true) := Giv.of rfl (by simp [B_is_integer])
/-- not a number -/
def oddP : PV → Bool
  | .int _ => false
  | .non => true
  | .bl _ => true
  | .str _ => true
  | .tup _ => true
  | .lst _ => true
  | _ => false
theorem is_integer_odd (p : PV) (h : oddP p = true) : Giv (runB 1 1 B_is_integer) [p] (.bl false) := by
  refine Giv.of rfl ?_
  cases p <;> first | (simp [B_is_integer]; done) | (simp [oddP] at h)
theorem is_word_int (i : Int) : Giv (runB 1 1 (B_is_word (runB 1 1 B_is_integer))) [.int i] (.bl (decide (0 ≤ i ∧ i < 65536))) := by
  refine Giv.of rfl ?_
  simp [B_is_word, (is_integer_int i).call1]
  by_cases h : 0 ≤ i <;> simp [h]
theorem is_word_odd (p : PV) (h : oddP p = true) : Giv (runB 1 1 (B_is_word (runB 1 1 B_is_integer))) [p] (.bl false) := by
  refine Giv.of rfl ?_
  simp [B_is_word, (is_integer_odd p h).call1]
theorem pow_mod (a M : Int) (n : Nat) : (a % M) ^ n % M = a ^ n % M := by
  induction n with
  | zero => simp
  | succ n ih => rw [Int.pow_succ, Int.pow_succ, Int.mul_emod, ih, Int.emod_emod_of_dvd _ (Int.dvd_refl M), ← Int.mul_emod]
theorem mul_mod_l (a b M : Int) : a % M * b % M = a * b % M := by rw [Int.mul_emod, Int.emod_emod_of_dvd _ (Int.dvd_refl M), ← Int.mul_emod]
theorem mul_mod_r (a b M : Int) : a * (b % M) % M = a * b % M := by rw [Int.mul_emod, Int.emod_emod_of_dvd _ (Int.dvd_refl M), ← Int.mul_emod]
theorem pw_step (f c x M : Int) (hp : 0 < x) : (if x % 2 = 1 then f * c % M else f) * (c * c % M) ^ (x / 2).toNat % M = f * c ^ x.toNat % M := by
  have e1 : (f' : Int) → f' * (c * c % M) ^ (x / 2).toNat % M = f' * (c * c) ^ (x / 2).toNat % M := fun f' => by
    rw [Int.mul_emod, pow_mod, ← Int.mul_emod]
  rw [e1]
  have e2 : (c * c) ^ (x / 2).toNat = c ^ ((x / 2).toNat * 2) := by
    rw [Nat.mul_comm, Int.pow_mul]; congr 1; rw [show (2 : Nat) = 1 + 1 from rfl, Int.pow_succ, Int.pow_succ]; simp
  rw [e2]
  split
  · rename_i h
    rw [mul_mod_l, Int.mul_assoc]
    have : x.toNat = (x / 2).toNat * 2 + 1 := by omega
    rw [this, Int.pow_succ, Int.mul_comm (c ^ _) c]
  · have : x.toNat = (x / 2).toNat * 2 := by omega
    rw [this]
def WI (b e : Int) (n : Nat) (ρ : GT.Env) (st : Store) : Prop := ∃ f c x : Int, ρ = [some (.pv (.int c)), some (.pv (.int x)), some (.pv (.int f))] ∧ 0 ≤ x ∧ x < 2 ^ n ∧ 0 ≤ f ∧ f < 65536 ∧ 0 ≤ c ∧ c < 65536 ∧ f * c ^ x.toNat % 65536 = b ^ e.toNat % 65536
theorem word_power_giv (b e : Int) (h0 : 0 ≤ e) (h1 : e < 2 ^ 64) : Giv (runB 2 3 B_word_power) [.int b, .int e] (.int (b ^ e.toNat % 65536)) := by
  refine Giv.of rfl ?_
  simp [B_word_power]
  refine while_P (WI b e) ?_ _ 64 _ _ ⟨1, b % 65536, e, rfl, h0, by exact_mod_cast h1, by omega, by omega, by omega, by omega, ?_⟩ (by omega)
  · rintro n ρ st ⟨f, c, x, rfl, x0, x1, f0, f1, c0, c1, hx⟩
    by_cases hp : 0 < x
    · have hn : 0 < n := by
        rcases Nat.eq_zero_or_pos n with rfl | h
        · simp at x1; omega
        · exact h
      have hsm : smI f = true := smI_of (by omega) (by omega)
      have hsc : smI c = true := smI_of (by omega) (by omega)
      have x2 : x / 2 < 2 ^ (n - 1) := by
        obtain ⟨m, rfl⟩ : ∃ m, n = m + 1 := ⟨n - 1, by omega⟩
        rw [Int.pow_succ] at x1
        simp only [Nat.add_sub_cancel]
        omega
      have st := pw_step f c x 65536 hp
      by_cases hodd : x % 2 = 1
      · simp [hp, hodd, hsm, hsc]
        rw [if_pos hodd] at st
        exact ⟨n - 1, by omega, f * c % 65536, c * c % 65536, x / 2, rfl, by omega, x2, by omega, by omega, by omega, by omega, by rw [st, hx]⟩
      · simp [hp, hodd, hsm, hsc]
        rw [if_neg hodd] at st
        exact ⟨n - 1, by omega, f, c * c % 65536, x / 2, rfl, by omega, x2, by omega, by omega, by omega, by omega, by rw [st, hx]⟩
    · have : x = 0 := by omega
      subst this
      simp
      simp at hx
      omega
  · rw [Int.one_mul, pow_mod]
/-! choosing -/
def ch : Nat → Nat → Int
  | _, 0 => 1
  | 0, _ + 1 => 0
  | n + 1, k + 1 => ch n k + ch n (k + 1)
@[simp] theorem ch_zero (n : Nat) : ch n 0 = 1 := by cases n <;> rfl
theorem ch_step (n : Nat) : ∀ k : Nat, ch n (k + 1) * (k + 1) = ch n k * (n - k) := by
  induction n with
  | zero =>
    intro k
    cases k with
    | zero => simp [ch]
    | succ k => simp [ch]
  | succ n ih =>
    intro k
    cases k with
    | zero =>
      have := ih 0
      simp only [ch, ch_zero] at this ⊢
      simp at this ⊢
      omega
    | succ k =>
      have h1 := ih (k + 1)
      have h2 := ih k
      simp only [ch] at h1 h2 ⊢
      simp only [Int.natCast_add, Int.natCast_one] at h1 h2 ⊢
      generalize ch n (k + 1 + 1) = A at *
      generalize ch n (k + 1) = B at *
      generalize ch n k = C at *
      have e1 : (B + A) * ((k : Int) + 1 + 1) = B * (k + 1 + 1) + B * (n - (k + 1)) := by rw [Int.add_mul, h1]
      have e2 : (C + B) * ((n : Int) + 1 - (k + 1)) = B * (k + 1) + B * (n + 1 - (k + 1)) := by rw [Int.add_mul, h2]; congr 2; omega
      rw [e1, e2, ← Int.mul_add, ← Int.mul_add]
      congr 1
      omega
theorem ch_out (n : Nat) : ∀ k : Nat, n < k → ch n k = 0 := by
  induction n with
  | zero => intro k h; cases k with | zero => omega | succ k => rfl
  | succ n ih =>
    intro k h
    cases k with
    | zero => omega
    | succ k => simp only [ch]; rw [ih k (by omega), ih (k + 1) (by omega)]; rfl
def BII (w : Nat) (p : Int) (k : Int) (ρ : GT.Env) (st : Store) : Prop := ∃ x, ρ = [some (.pv (.int w)), some (.pv (.int p)), some (.pv (.int (ch w k.toNat))), x]
theorem binomial_out (w p : Int) (h : p < 0 ∨ w < p) : Giv (runB 2 4 B_binomial) [.int w, .int p] (.int 0) := by
  refine Giv.of rfl ?_
  simp [B_binomial]
  by_cases h0 : p < 0
  · simp [h0]
  · have : w < p := by omega
    simp [h0, this]
theorem binomial_in (w : Nat) (p : Nat) (h : p ≤ w) (h2 : w < 1000000) : Giv (runB 2 4 B_binomial) [.int w, .int p] (.int (ch w p)) := by
  refine Giv.of rfl ?_
  simp [B_binomial]
  have c1 : ¬ ((p : Int) < 0) := by omega
  have c2 : ¬ (w < p) := by omega
  simp [c1, c2, show p < 1000000000000 by omega]
  refine forR_P (lo := 0) (hi := p) (BII w p) (by omega) ⟨none, by simp⟩ ?_ ?_
  · rintro k ρ st k0 k1 ⟨x, rfl⟩
    have hs : smI ((w : Int) - k) = true := smI_of (by omega) (by omega)
    have q := ch_step w k.toNat
    have e : ch w k.toNat * (w - k) / (k + 1) = ch w (k + 1).toNat := by
      rw [show (k + 1).toNat = k.toNat + 1 by omega]
      rw [show ((k.toNat : Int)) = k by omega] at q
      rw [← q, Int.mul_ediv_cancel _ (by omega)]
    simp [hs, show 0 < k + 1 ∧ k + 1 < 1073741824 by omega, e]
    exact ⟨_, rfl⟩
  · rintro ρ st ⟨x, rfl⟩
    simp
end PB

namespace LW
open PySem PySem.Spec PyProof.Rows L2 GT PB
def top (i : Nat) : Stmt := PySem.Challenge.pw_gridtide_k01_words_told.main.body.getD i (.Pass ⟨0, 0, 0, 0⟩)
abbrev s_0 : Stmt := top 2
abbrev N_0 : List Str := ["thing"]
theorem sc_0 : FnScope N_0 ["thing"] (defScope s_0) := ⟨rfl, rfl, rfl, by decide +kernel, rfl, by decide +kernel, by decide +kernel⟩
abbrev s_1 : Stmt := top 3
abbrev N_1 : List Str := ["thing"]
theorem sc_1 : FnScope N_1 ["thing"] (defScope s_1) := ⟨rfl, rfl, rfl, by decide +kernel, rfl, by decide +kernel, by decide +kernel⟩
abbrev s_2 : Stmt := top 4
abbrev N_2 : List Str := ["base", "exponent", "found"]
theorem sc_2 : FnScope N_2 ["base", "exponent"] (defScope s_2) := ⟨rfl, rfl, rfl, by decide +kernel, rfl, by decide +kernel, by decide +kernel⟩
abbrev s_3 : Stmt := top 5
abbrev N_3 : List Str := ["whole", "part", "found", "at"]
theorem sc_3 : FnScope N_3 ["whole", "part"] (defScope s_3) := ⟨rfl, rfl, rfl, by decide +kernel, rfl, by decide +kernel, by decide +kernel⟩
abbrev s_4 : Stmt := top 7
abbrev N_4 : List Str := ["script", "first", "last", "digits", "k", "cell", "turn", "seed"]
theorem sc_4 : FnScope N_4 ["script", "first", "last"] (defScope s_4) := ⟨rfl, rfl, rfl, by decide +kernel, rfl, by decide +kernel, by decide +kernel⟩
abbrev s_5 : Stmt := top 8
abbrev N_5 : List Str := ["box", "many", "at"]
theorem sc_5 : FnScope N_5 ["box", "many"] (defScope s_5) := ⟨rfl, rfl, rfl, by decide +kernel, rfl, by decide +kernel, by decide +kernel⟩
abbrev s_6 : Stmt := top 9
abbrev N_6 : List Str := ["box", "things"]
theorem sc_6 : FnScope N_6 ["box", "things"] (defScope s_6) := ⟨rfl, rfl, rfl, by decide +kernel, rfl, by decide +kernel, by decide +kernel⟩
abbrev s_7 : Stmt := top 10
abbrev N_7 : List Str := ["given", "due", ".0", "k"]
theorem sc_7 : FnScope N_7 ["given", "due"] (defScope s_7) := ⟨rfl, rfl, rfl, by decide +kernel, rfl, by decide +kernel, by decide +kernel⟩
abbrev s_8 : Stmt := top 11
abbrev N_8 : List Str := ["box", "kind"]
theorem sc_8 : FnScope N_8 ["box"] (defScope s_8) := ⟨rfl, rfl, rfl, by decide +kernel, rfl, by decide +kernel, by decide +kernel⟩
abbrev s_9 : Stmt := top 12
abbrev N_9 : List Str := ["script", "box", "turn", "word", "exponent", "due", "k", "whole", "row", "part", "odd", ".0", "at"]
theorem sc_9 : FnScope N_9 ["script"] (defScope s_9) := ⟨rfl, rfl, rfl, by decide +kernel, rfl, by decide +kernel, by decide +kernel⟩
/-! the bodies -/
def B_law_l0 : DS :=
    (sSet 5 (dOp2 (p2 modP) (dApp (ap1 (p1 intP)) (aCons (dOp2 mulE (dVar 5) (dVar 3)) aNil)) (dC (.int 65536))))
def B_law_l1 (c_word_power : Sem) (c__law_draw : Sem) (c__law_pick : Sem) (c__law_like : Sem) (c__law_word : Sem) : DS :=
    (sSeq (sPar3 3 4 5 (aCons (dApp (callE c__law_word) (aCons (dVar 1) aNil)) (aCons (dApp (callE c__law_draw) (aCons (dVar 1) (aCons (dApp (callE c__law_pick) (aCons (dVar 1) (aCons (dApp (lstD false) (aCons (dC (.int 4)) (aCons (dC (.int 20)) (aCons (dC (.int 120)) aNil)))) aNil))) aNil))) (aCons (dC (.int 1)) aNil))))
    (sSeq (sFor (iR1 (aCons (dVar 4) aNil)) (fNm 6) (B_law_l0))
    (sIf (tNotD (tTru (dApp (callP c__law_like) (aCons (dApp (callP c_word_power) (aCons (dVar 3) (aCons (dVar 4) aNil))) (aCons (dVar 5) aNil))))) (sRet (dC (.bl false))) sNil)))
def B_law_l2 : DS :=
    (sSet 8 (dComp false (iR1 (aCons (dOp2 addE (dApp (ap1 lenE) (aCons (dVar 8) aNil)) (dC (.int 1))) aNil)) (fNm 12) tTrue (dOp2 addE (dIfE (tBl (dOp2 (p2 gtP) (dVar 12) (dC (.int 0)))) (dOp2 ixE (dVar 8) (dOp2 (p2 subP) (dVar 12) (dC (.int 1)))) (dC (.int 0))) (dIfE (tBl (dOp2 (p2 ltP) (dVar 12) (dApp (ap1 lenE) (aCons (dVar 8) aNil)))) (dOp2 ixE (dVar 8) (dVar 12)) (dC (.int 0)))) [11, 12]))
def B_law_l3 (c_binomial : Sem) (c__law_like : Sem) : DS :=
    (sIf (tNotD (tTru (dApp (callP c__law_like) (aCons (dApp (callP c_binomial) (aCons (dVar 7) (aCons (dVar 9) aNil))) (aCons (dIfE (tBl (dChain (p2 leP) (p2 leP) (dC (.int 0)) (dVar 9) (dVar 7))) (dOp2 ixE (dVar 8) (dVar 9)) (dC (.int 0))) aNil))))) (sRet (dC (.bl false))) sNil)
def B_law_l4 (c_is_word : Sem) : DS :=
    (sIf (tBl (dOp2 (isE true) (dApp (callP c_is_word) (aCons (dVar 3) aNil)) (dC (.bl true)))) (sRet (dC (.bl false))) sNil)
def B_law_l5 (c_is_word : Sem) : DS :=
    (sIf (tBl (dOp2 (isE true) (dApp (callP c_is_word) (aCons (dVar 10) aNil)) (dC (.bl false)))) (sRet (dC (.bl false))) sNil)
/-- law(script); slots: 0 script, 1 box, 2 turn, 3 word, 4 exponent, 5 due, 6 k, 7 whole, 8 row, 9 part, 10 odd, 11 .0, 12 at -/
def B_law (c_is_word : Sem) (c_word_power : Sem) (c_binomial : Sem) (c__law_digits : Sem) (c__law_draw : Sem) (c__law_pick : Sem) (c__law_like : Sem) (c__law_word : Sem) : DS :=
    (sSeq (sSet 1 (dApp (lstD true) (aCons (dApp (callP c__law_digits) (aCons (dVar 0) (aCons (dC (.int 0)) (aCons (dC (.int 63)) aNil)))) (aCons (dC (.int 0)) aNil))))
    (sSeq (sFor (iR1 (aCons (dC (.int 4)) aNil)) (fNm 2) (B_law_l1 c_word_power c__law_draw c__law_pick c__law_like c__law_word))
    (sSeq (sAsgT (fTp (fsCons (fNm 7) (fsCons (fNm 8) fsNil))) (dApp tupD (aCons (dApp (callE c__law_draw) (aCons (dVar 1) (aCons (dC (.int 31)) aNil))) (aCons (dApp (lstD false) (aCons (dC (.int 1)) aNil)) aNil))))
    (sSeq (sFor (iR1 (aCons (dVar 7) aNil)) (fNm 6) (B_law_l2))
    (sSeq (sFor (iR2 (aCons (dOp1 (p1 negP) (dC (.int 2))) (aCons (dOp2 addE (dVar 7) (dC (.int 3))) aNil))) (fNm 9) (B_law_l3 c_binomial c__law_like))
    (sSeq (sFor (iW (dApp tupD (aCons (dC (.int 0)) (aCons (dC (.int 1)) (aCons (dC (.int 65535)) (aCons (dApp (callE c__law_word) (aCons (dVar 1) aNil)) aNil)))))) (fNm 3) (B_law_l4 c_is_word))
    (sSeq (sFor (iW (dApp tupD (aCons (dOp1 (p1 negP) (dC (.int 1))) (aCons (dC (.int 65536)) (aCons (dC (.bl true)) (aCons (dC (.bl false)) (aCons (dC .non) (aCons (dC (.str "1")) (aCons (dApp tupD (aCons (dC (.int 1)) aNil)) (aCons (dOp2 addE (dC (.int 70000)) (dApp (callE c__law_draw) (aCons (dVar 1) (aCons (dC (.int 1009)) aNil)))) aNil)))))))))) (fNm 10) (B_law_l5 c_is_word))
    (sRet (dC (.bl true))))))))))
def bodies (S : Nat → Sem) : Nat → Sem
  | 0 => runB 1 1 B_is_integer
  | 1 => runB 1 1 (B_is_word (S 0))
  | 2 => runB 2 3 B_word_power
  | 3 => runB 2 4 B_binomial
  | 4 => runB 3 8 B__law_digits
  | 5 => runB 2 3 B__law_draw
  | 6 => runB 2 2 (B__law_pick (S 5))
  | 7 => runB 2 4 (B__law_like (S 7))
  | 8 => runB 1 2 (B__law_word (S 5))
  | 9 => runB 1 13 (B_law (S 1) (S 2) (S 3) (S 4) (S 5) (S 6) (S 7) (S 8))
  | _ => fun _ _ => .stuck
def sem : Nat → Nat → Sem
  | 0 => fun _ _ _ => .stuck
  | n + 1 => bodies (sem n)
theorem sem_0 (n : Nat) : sem (n + 1) 0 = runB 1 1 B_is_integer := rfl
theorem sem_len_0 (n : Nat) (xs : List EV) (st : Store) (h : sem n 0 xs st ≠ .stuck) : xs.length = 1 := by
  cases n with
  | zero => exact absurd rfl h
  | succ n => exact runB_len h
theorem sem_1 (n : Nat) : sem (n + 1) 1 = runB 1 1 (B_is_word (sem n 0)) := rfl
theorem sem_len_1 (n : Nat) (xs : List EV) (st : Store) (h : sem n 1 xs st ≠ .stuck) : xs.length = 1 := by
  cases n with
  | zero => exact absurd rfl h
  | succ n => exact runB_len h
theorem sem_2 (n : Nat) : sem (n + 1) 2 = runB 2 3 B_word_power := rfl
theorem sem_len_2 (n : Nat) (xs : List EV) (st : Store) (h : sem n 2 xs st ≠ .stuck) : xs.length = 2 := by
  cases n with
  | zero => exact absurd rfl h
  | succ n => exact runB_len h
theorem sem_3 (n : Nat) : sem (n + 1) 3 = runB 2 4 B_binomial := rfl
theorem sem_len_3 (n : Nat) (xs : List EV) (st : Store) (h : sem n 3 xs st ≠ .stuck) : xs.length = 2 := by
  cases n with
  | zero => exact absurd rfl h
  | succ n => exact runB_len h
theorem sem_4 (n : Nat) : sem (n + 1) 4 = runB 3 8 B__law_digits := rfl
theorem sem_len_4 (n : Nat) (xs : List EV) (st : Store) (h : sem n 4 xs st ≠ .stuck) : xs.length = 3 := by
  cases n with
  | zero => exact absurd rfl h
  | succ n => exact runB_len h
theorem sem_5 (n : Nat) : sem (n + 1) 5 = runB 2 3 B__law_draw := rfl
theorem sem_len_5 (n : Nat) (xs : List EV) (st : Store) (h : sem n 5 xs st ≠ .stuck) : xs.length = 2 := by
  cases n with
  | zero => exact absurd rfl h
  | succ n => exact runB_len h
theorem sem_6 (n : Nat) : sem (n + 1) 6 = runB 2 2 (B__law_pick (sem n 5)) := rfl
theorem sem_len_6 (n : Nat) (xs : List EV) (st : Store) (h : sem n 6 xs st ≠ .stuck) : xs.length = 2 := by
  cases n with
  | zero => exact absurd rfl h
  | succ n => exact runB_len h
theorem sem_7 (n : Nat) : sem (n + 1) 7 = runB 2 4 (B__law_like (sem n 7)) := rfl
theorem sem_len_7 (n : Nat) (xs : List EV) (st : Store) (h : sem n 7 xs st ≠ .stuck) : xs.length = 2 := by
  cases n with
  | zero => exact absurd rfl h
  | succ n => exact runB_len h
theorem sem_8 (n : Nat) : sem (n + 1) 8 = runB 1 2 (B__law_word (sem n 5)) := rfl
theorem sem_len_8 (n : Nat) (xs : List EV) (st : Store) (h : sem n 8 xs st ≠ .stuck) : xs.length = 1 := by
  cases n with
  | zero => exact absurd rfl h
  | succ n => exact runB_len h
theorem sem_9 (n : Nat) : sem (n + 1) 9 = runB 1 13 (B_law (sem n 1) (sem n 2) (sem n 3) (sem n 4) (sem n 5) (sem n 6) (sem n 7) (sem n 8)) := rfl
theorem sem_len_9 (n : Nat) (xs : List EV) (st : Store) (h : sem n 9 xs st ≠ .stuck) : xs.length = 1 := by
  cases n with
  | zero => exact absurd rfl h
  | succ n => exact runB_len h
structure Kcs (K : PySem.W.Frag) (mg : Str → Option Value) (T : List (Addr × Str)) : Prop where
  k_WORDS : Kc K mg T "WORDS" (.int 65536)
structure All (P : Program) (w : World) (K : PySem.W.Frag) (mg : Str → Option Value) (base : Heap) (T : List (Addr × Str)) (n : Nat) : Prop where
  c0 : Cl P w K mg base T n "is_integer" 1 (sem n 0)
  c1 : Cl P w K mg base T n "is_word" 1 (sem n 1)
  c2 : Cl P w K mg base T n "word_power" 2 (sem n 2)
  c3 : Cl P w K mg base T n "binomial" 2 (sem n 3)
  c4 : Cl P w K mg base T n "_law_digits" 3 (sem n 4)
  c5 : Cl P w K mg base T n "_law_draw" 2 (sem n 5)
  c6 : Cl P w K mg base T n "_law_pick" 2 (sem n 6)
  c7 : Cl P w K mg base T n "_law_like" 2 (sem n 7)
  c8 : Cl P w K mg base T n "_law_word" 1 (sem n 8)
  c9 : Cl P w K mg base T n "law" 1 (sem n 9)
section
variable {P : Program} {w : World} {K : PySem.W.Frag} {mg : Str → Option Value} {base : Heap} {T : List (Addr × Str)}
set_option maxHeartbeats 4000000 in
theorem d_0 {n : Nat} (IH : All P w K mg base T n) (B : Bi mg) (C : Kcs K mg T) {f : Addr} {cdv : Value} {A : Around} {outer : List PySem.Env} {s1 : Shared} {H : Hp} {E : XK} (hr : Room n (A.deeper (envOfC "is_integer" (defScope s_0) s1.heap.objs.size f cdv))) :
    PSs (cxOf (L2.CX P w) P w K mg base N_0 "is_integer" (defScope s_0) f cdv A outer s1 H E) (defBody s_0) (rdS ⟨K, mg, T⟩ (WE1 E) B_is_integer) := by
  have hu : (cxOf (L2.CX P w) P w K mg base N_0 "is_integer" (defScope s_0) f cdv A outer s1 H E).A.units + 64 < cLine := hr.units
  have hu5 : (cxOf (L2.CX P w) P w K mg base N_0 "is_integer" (defScope s_0) f cdv A outer s1 H E).A.units + 65 < cLine := by have := hr.un; show (A.deeper (envOfC "is_integer" (defScope s_0) s1.heap.objs.size f cdv)).units + 65 < cLine; omega
  have tk : Takes (cxOf (L2.CX P w) P w K mg base N_0 "is_integer" (defScope s_0) f cdv A outer s1 H E) (WE1 E) := takes_of rfl rfl rfl rfl
  have hP : PassesOwn (model P w) (cxOf (L2.CX P w) P w K mg base N_0 "is_integer" (defScope s_0) f cdv A outer s1 H E).A (cxOf (L2.CX P w) P w K mg base N_0 "is_integer" (defScope s_0) f cdv A outer s1 H E).env (cxOf (L2.CX P w) P w K mg base N_0 "is_integer" (defScope s_0) f cdv A outer s1 H E).xe := passes_of rfl
  exact (dss_one (ds_ret (de_and (de_isi .int (by decide) (de_var 0) rfl B.isinstance rfl B.int boot_int) (de_one (de_not (de_isi .bool (by decide) (de_var 0) rfl B.isinstance rfl B.bool boot_bool))))))
set_option maxHeartbeats 4000000 in
theorem d_1 {n : Nat} (IH : All P w K mg base T n) (B : Bi mg) (C : Kcs K mg T) {f : Addr} {cdv : Value} {A : Around} {outer : List PySem.Env} {s1 : Shared} {H : Hp} {E : XK} (hr : Room n (A.deeper (envOfC "is_word" (defScope s_1) s1.heap.objs.size f cdv))) :
    PSs (cxOf (L2.CX P w) P w K mg base N_1 "is_word" (defScope s_1) f cdv A outer s1 H E) (defBody s_1) (rdS ⟨K, mg, T⟩ (WE1 E) (B_is_word (sem n 0))) := by
  have hu : (cxOf (L2.CX P w) P w K mg base N_1 "is_word" (defScope s_1) f cdv A outer s1 H E).A.units + 64 < cLine := hr.units
  have hu5 : (cxOf (L2.CX P w) P w K mg base N_1 "is_word" (defScope s_1) f cdv A outer s1 H E).A.units + 65 < cLine := by have := hr.un; show (A.deeper (envOfC "is_word" (defScope s_1) s1.heap.objs.size f cdv)).units + 65 < cLine; omega
  have tk : Takes (cxOf (L2.CX P w) P w K mg base N_1 "is_word" (defScope s_1) f cdv A outer s1 H E) (WE1 E) := takes_of rfl rfl rfl rfl
  have hP : PassesOwn (model P w) (cxOf (L2.CX P w) P w K mg base N_1 "is_word" (defScope s_1) f cdv A outer s1 H E).A (cxOf (L2.CX P w) P w K mg base N_1 "is_word" (defScope s_1) f cdv A outer s1 H E).env (cxOf (L2.CX P w) P w K mg base N_1 "is_word" (defScope s_1) f cdv A outer s1 H E).xe := passes_of rfl
  exact (dss_one (ds_ret (de_and (de_callP IH.c0 hr tk rfl (da_cons (de_var 0) da_nil) (hlen := sem_len_0 n)) (de_one (de_chain op_le op_lt2 ag_le ag_lt de_int (de_var 0) (de_kc C.k_WORDS))))))
set_option maxHeartbeats 4000000 in
theorem d_2 {n : Nat} (IH : All P w K mg base T n) (B : Bi mg) (C : Kcs K mg T) {f : Addr} {cdv : Value} {A : Around} {outer : List PySem.Env} {s1 : Shared} {H : Hp} {E : XK} (hr : Room n (A.deeper (envOfC "word_power" (defScope s_2) s1.heap.objs.size f cdv))) :
    PSs (cxOf (L2.CX P w) P w K mg base N_2 "word_power" (defScope s_2) f cdv A outer s1 H E) (defBody s_2) (rdS ⟨K, mg, T⟩ (WE1 E) B_word_power) := by
  have hu : (cxOf (L2.CX P w) P w K mg base N_2 "word_power" (defScope s_2) f cdv A outer s1 H E).A.units + 64 < cLine := hr.units
  have hu5 : (cxOf (L2.CX P w) P w K mg base N_2 "word_power" (defScope s_2) f cdv A outer s1 H E).A.units + 65 < cLine := by have := hr.un; show (A.deeper (envOfC "word_power" (defScope s_2) s1.heap.objs.size f cdv)).units + 65 < cLine; omega
  have tk : Takes (cxOf (L2.CX P w) P w K mg base N_2 "word_power" (defScope s_2) f cdv A outer s1 H E) (WE1 E) := takes_of rfl rfl rfl rfl
  have hP : PassesOwn (model P w) (cxOf (L2.CX P w) P w K mg base N_2 "word_power" (defScope s_2) f cdv A outer s1 H E).A (cxOf (L2.CX P w) P w K mg base N_2 "word_power" (defScope s_2) f cdv A outer s1 H E).env (cxOf (L2.CX P w) P w K mg base N_2 "word_power" (defScope s_2) f cdv A outer s1 H E).xe := passes_of rfl
  exact (dss_cons (ds_par2 (i := 2) (j := 0) rfl sc_2.nd (da_cons de_int (da_cons (de_op op_mod ag_mod (de_var 0) (de_kc C.k_WORDS)) da_nil)))
    (dss_cons (ds_while 100000 hP (dt_cmp op_gt ag_gt (de_var 1) de_int (nomark _)) (dss_cons (ds_if (dt_cmp (op_eqD hu) ag_eq (de_op op_mod ag_mod (de_var 1) de_int) de_int (nomark _)) (dss_one (ds_set (i := 2) sc_2.nd (de_op op_mod ag_mod (de_op op_mul5 ag_mul5 (de_var 2) (de_var 0)) (de_kc C.k_WORDS)))) dss_nil)
    (dss_one (ds_par2 (i := 0) (j := 1) rfl sc_2.nd (da_cons (de_op op_mod ag_mod (de_op op_mul5 ag_mul5 (de_var 0) (de_var 0)) (de_kc C.k_WORDS)) (da_cons (de_op op_fdiv ag_div (de_var 1) de_int) da_nil))))))
    (dss_one (ds_ret (de_var 2)))))
set_option maxHeartbeats 4000000 in
theorem d_3 {n : Nat} (IH : All P w K mg base T n) (B : Bi mg) (C : Kcs K mg T) {f : Addr} {cdv : Value} {A : Around} {outer : List PySem.Env} {s1 : Shared} {H : Hp} {E : XK} (hr : Room n (A.deeper (envOfC "binomial" (defScope s_3) s1.heap.objs.size f cdv))) :
    PSs (cxOf (L2.CX P w) P w K mg base N_3 "binomial" (defScope s_3) f cdv A outer s1 H E) (defBody s_3) (rdS ⟨K, mg, T⟩ (WE1 E) B_binomial) := by
  have hu : (cxOf (L2.CX P w) P w K mg base N_3 "binomial" (defScope s_3) f cdv A outer s1 H E).A.units + 64 < cLine := hr.units
  have hu5 : (cxOf (L2.CX P w) P w K mg base N_3 "binomial" (defScope s_3) f cdv A outer s1 H E).A.units + 65 < cLine := by have := hr.un; show (A.deeper (envOfC "binomial" (defScope s_3) s1.heap.objs.size f cdv)).units + 65 < cLine; omega
  have tk : Takes (cxOf (L2.CX P w) P w K mg base N_3 "binomial" (defScope s_3) f cdv A outer s1 H E) (WE1 E) := takes_of rfl rfl rfl rfl
  have hP : PassesOwn (model P w) (cxOf (L2.CX P w) P w K mg base N_3 "binomial" (defScope s_3) f cdv A outer s1 H E).A (cxOf (L2.CX P w) P w K mg base N_3 "binomial" (defScope s_3) f cdv A outer s1 H E).env (cxOf (L2.CX P w) P w K mg base N_3 "binomial" (defScope s_3) f cdv A outer s1 H E).xe := passes_of rfl
  exact (dss_cons (ds_if (PW.pt (dw_or (dt_cmp op_lt2 ag_lt (de_var 1) de_int (nomark _)) (dw_or1 (dt_cmp op_gt ag_gt (de_var 1) (de_var 0) (nomark _))))) (dss_one (ds_ret de_int)) dss_nil)
    (dss_cons (ds_set (i := 2) sc_3.nd de_int)
    (dss_cons (ds_for hP rfl (di_range1 rfl B.range (da_cons (de_var 1) da_nil)) (pg_name (i := 3) sc_3.nd rfl (Or.inl rfl)) (tg_nm 3) (dss_one (ds_set (i := 2) sc_3.nd (de_op op_fdiv ag_div (de_op op_mul5 ag_mul5 (de_var 2) (de_op op_sub ag_sub (de_var 0) (de_var 3))) (de_op op_add4 ag_add (de_var 3) de_int)))))
    (dss_one (ds_ret (de_var 2))))))
set_option maxHeartbeats 4000000 in
theorem d_4 {n : Nat} (IH : All P w K mg base T n) (B : Bi mg) (C : Kcs K mg T) {f : Addr} {cdv : Value} {A : Around} {outer : List PySem.Env} {s1 : Shared} {H : Hp} {E : XK} (hr : Room n (A.deeper (envOfC "_law_digits" (defScope s_4) s1.heap.objs.size f cdv))) :
    PSs (cxOf (L2.CX P w) P w K mg base N_4 "_law_digits" (defScope s_4) f cdv A outer s1 H E) (defBody s_4) (rdS ⟨K, mg, T⟩ (WE1 E) B__law_digits) := by
  have hu : (cxOf (L2.CX P w) P w K mg base N_4 "_law_digits" (defScope s_4) f cdv A outer s1 H E).A.units + 64 < cLine := hr.units
  have hu5 : (cxOf (L2.CX P w) P w K mg base N_4 "_law_digits" (defScope s_4) f cdv A outer s1 H E).A.units + 65 < cLine := by have := hr.un; show (A.deeper (envOfC "_law_digits" (defScope s_4) s1.heap.objs.size f cdv)).units + 65 < cLine; omega
  have tk : Takes (cxOf (L2.CX P w) P w K mg base N_4 "_law_digits" (defScope s_4) f cdv A outer s1 H E) (WE1 E) := takes_of rfl rfl rfl rfl
  have hP : PassesOwn (model P w) (cxOf (L2.CX P w) P w K mg base N_4 "_law_digits" (defScope s_4) f cdv A outer s1 H E).A (cxOf (L2.CX P w) P w K mg base N_4 "_law_digits" (defScope s_4) f cdv A outer s1 H E).env (cxOf (L2.CX P w) P w K mg base N_4 "_law_digits" (defScope s_4) f cdv A outer s1 H E).xe := passes_of rfl
  exact (dss_cons (ds_set (i := 3) sc_4.nd (de_lst true da_nil))
    (dss_cons (ds_for hP rfl (di_range2 rfl B.range (da_cons (de_var 1) (da_cons (de_var 2) da_nil))) (pg_name (i := 4) sc_4.nd rfl (Or.inl rfl)) (tg_nm 4) (dss_cons (ds_set (i := 5) sc_4.nd (de_if (dt_cmp op_lt2 ag_lt (de_var 4) (de_callB call_len ag_len rfl B.len PySem.boot_len (da_cons (de_var 0) da_nil)) (nomark _)) (de_ix ix_seq ag_ix (de_var 0) (de_var 4) (fun _ _ => rfl)) de_int))
    (dss_cons (ds_if (dt_cmp op_lt2 ag_lt (de_var 5) de_int (nomark _)) (dss_one (ds_set (i := 5) sc_4.nd (de_op op_sub ag_sub de_int (de_op op_mul5 ag_mul5 de_int (de_var 5))))) dss_nil)
    (dss_one (ds_if (dt_cmp op_ge ag_ge (de_var 5) de_int (nomark _)) (dss_one (ds_for hP rfl (di_range1 rfl B.range (da_cons de_int da_nil)) (pg_name (i := 6) sc_4.nd rfl (Or.inl rfl)) (tg_nm 6) (dss_one (ds_if (dt_cmp op_gt ag_gt (de_var 5) de_int (nomark _)) (dss_cons (ds_expr (de_bm PySem.F.plainAttrs_list PySem.F.slot_list_append PySem.F.type_list_append mt_append ty_L ag_append (de_var 3) (da_cons (de_op op_mod ag_mod (de_callT call_int1 ag_int rfl B.int boot_int (da_cons (de_var 5) da_nil)) de_int) da_nil)))
    (dss_one (ds_set (i := 5) sc_4.nd (de_op op_fdiv ag_div (de_var 5) de_int)))) dss_nil)))) (dss_cons (ds_set (i := 7) sc_4.nd (de_op op_mod ag_mod (de_callT call_int1 ag_int rfl B.int boot_int (da_cons (de_op op_add4 ag_add (de_op op_add4 ag_add (de_op op_mul5 ag_mul5 (de_var 5) de_int) (de_op op_mul5 ag_mul5 (de_var 4) de_int)) de_int) da_nil)) de_int))
    (dss_one (ds_for hP rfl (di_range1 rfl B.range (da_cons de_int da_nil)) (pg_name (i := 6) sc_4.nd rfl (Or.inl rfl)) (tg_nm 6) (dss_cons (ds_set (i := 7) sc_4.nd (de_op op_mod ag_mod (de_callT call_int1 ag_int rfl B.int boot_int (da_cons (de_op op_add4 ag_add (de_op op_add4 ag_add (de_op op_mul5 ag_mul5 (de_var 7) de_int) (de_op op_mul5 ag_mul5 de_int (de_var 6))) de_int) da_nil)) de_int))
    (dss_one (ds_expr (de_bm PySem.F.plainAttrs_list PySem.F.slot_list_append PySem.F.type_list_append mt_append ty_L ag_append (de_var 3) (da_cons (de_op op_mod ag_mod (de_callT call_int1 ag_int rfl B.int boot_int (da_cons (de_op op_fdiv ag_div (de_var 7) de_int) da_nil)) de_int) da_nil)))))))))))))
    (dss_one (ds_ret (de_frz (de_var 3))))))
set_option maxHeartbeats 4000000 in
theorem d_5 {n : Nat} (IH : All P w K mg base T n) (B : Bi mg) (C : Kcs K mg T) {f : Addr} {cdv : Value} {A : Around} {outer : List PySem.Env} {s1 : Shared} {H : Hp} {E : XK} (hr : Room n (A.deeper (envOfC "_law_draw" (defScope s_5) s1.heap.objs.size f cdv))) :
    PSs (cxOf (L2.CX P w) P w K mg base N_5 "_law_draw" (defScope s_5) f cdv A outer s1 H E) (defBody s_5) (rdS ⟨K, mg, T⟩ (WE1 E) B__law_draw) := by
  have hu : (cxOf (L2.CX P w) P w K mg base N_5 "_law_draw" (defScope s_5) f cdv A outer s1 H E).A.units + 64 < cLine := hr.units
  have hu5 : (cxOf (L2.CX P w) P w K mg base N_5 "_law_draw" (defScope s_5) f cdv A outer s1 H E).A.units + 65 < cLine := by have := hr.un; show (A.deeper (envOfC "_law_draw" (defScope s_5) s1.heap.objs.size f cdv)).units + 65 < cLine; omega
  have tk : Takes (cxOf (L2.CX P w) P w K mg base N_5 "_law_draw" (defScope s_5) f cdv A outer s1 H E) (WE1 E) := takes_of rfl rfl rfl rfl
  have hP : PassesOwn (model P w) (cxOf (L2.CX P w) P w K mg base N_5 "_law_draw" (defScope s_5) f cdv A outer s1 H E).A (cxOf (L2.CX P w) P w K mg base N_5 "_law_draw" (defScope s_5) f cdv A outer s1 H E).env (cxOf (L2.CX P w) P w K mg base N_5 "_law_draw" (defScope s_5) f cdv A outer s1 H E).xe := passes_of rfl
  exact (dss_cons (ds_set (i := 2) sc_5.nd (de_ix ix_seq ag_ix (de_var 0) de_int (fun _ _ => rfl)))
    (dss_cons (ds_setI (de_var 0) de_int (de_op op_add4 ag_add (de_var 2) de_int))
    (dss_cons (ds_if (dt_cmp op_lt2 ag_lt (de_var 2) (de_callB call_len ag_len rfl B.len PySem.boot_len (da_cons (de_ix ix_seq ag_ix (de_var 0) de_int (fun _ _ => rfl)) da_nil)) (nomark _)) (dss_one (ds_ret (de_op op_mod ag_mod (de_callT call_int1 ag_int rfl B.int boot_int (da_cons (de_ix ix_seq ag_ix (de_ix ix_seq ag_ix (de_var 0) de_int (fun _ _ => rfl)) (de_var 2) (fun _ _ => rfl)) da_nil)) (de_var 1)))) dss_nil)
    (dss_one (ds_ret (de_op op_mod ag_mod (de_callT call_int1 ag_int rfl B.int boot_int (da_cons (de_op op_add4 ag_add (de_op op_add4 ag_add (de_op op_add4 ag_add (de_op op_mul5 ag_mul5 (de_op op_mul5 ag_mul5 (de_var 2) (de_var 2)) de_int) (de_op op_mul5 ag_mul5 (de_var 2) de_int)) (de_op op_fdiv ag_div (de_var 2) de_int)) de_int) da_nil)) (de_var 1)))))))
set_option maxHeartbeats 4000000 in
theorem d_6 {n : Nat} (IH : All P w K mg base T n) (B : Bi mg) (C : Kcs K mg T) {f : Addr} {cdv : Value} {A : Around} {outer : List PySem.Env} {s1 : Shared} {H : Hp} {E : XK} (hr : Room n (A.deeper (envOfC "_law_pick" (defScope s_6) s1.heap.objs.size f cdv))) :
    PSs (cxOf (L2.CX P w) P w K mg base N_6 "_law_pick" (defScope s_6) f cdv A outer s1 H E) (defBody s_6) (rdS ⟨K, mg, T⟩ (WE1 E) (B__law_pick (sem n 5))) := by
  have hu : (cxOf (L2.CX P w) P w K mg base N_6 "_law_pick" (defScope s_6) f cdv A outer s1 H E).A.units + 64 < cLine := hr.units
  have hu5 : (cxOf (L2.CX P w) P w K mg base N_6 "_law_pick" (defScope s_6) f cdv A outer s1 H E).A.units + 65 < cLine := by have := hr.un; show (A.deeper (envOfC "_law_pick" (defScope s_6) s1.heap.objs.size f cdv)).units + 65 < cLine; omega
  have tk : Takes (cxOf (L2.CX P w) P w K mg base N_6 "_law_pick" (defScope s_6) f cdv A outer s1 H E) (WE1 E) := takes_of rfl rfl rfl rfl
  have hP : PassesOwn (model P w) (cxOf (L2.CX P w) P w K mg base N_6 "_law_pick" (defScope s_6) f cdv A outer s1 H E).A (cxOf (L2.CX P w) P w K mg base N_6 "_law_pick" (defScope s_6) f cdv A outer s1 H E).env (cxOf (L2.CX P w) P w K mg base N_6 "_law_pick" (defScope s_6) f cdv A outer s1 H E).xe := passes_of rfl
  exact (dss_one (ds_ret (de_ix ix_seq ag_ix (de_var 1) (de_callE IH.c5 hr tk rfl rfl (da_cons (de_var 0) (da_cons (de_callB call_len ag_len rfl B.len PySem.boot_len (da_cons (de_var 1) da_nil)) da_nil)) (hlen := sem_len_5 n)) (fun _ _ => rfl))))
set_option maxHeartbeats 4000000 in
theorem d_7 {n : Nat} (IH : All P w K mg base T n) (B : Bi mg) (C : Kcs K mg T) {f : Addr} {cdv : Value} {A : Around} {outer : List PySem.Env} {s1 : Shared} {H : Hp} {E : XK} (hr : Room n (A.deeper (envOfC "_law_like" (defScope s_7) s1.heap.objs.size f cdv))) :
    PSs (cxOf (L2.CX P w) P w K mg base N_7 "_law_like" (defScope s_7) f cdv A outer s1 H E) (defBody s_7) (rdS ⟨K, mg, T⟩ (WE1 E) (B__law_like (sem n 7))) := by
  have hu : (cxOf (L2.CX P w) P w K mg base N_7 "_law_like" (defScope s_7) f cdv A outer s1 H E).A.units + 64 < cLine := hr.units
  have hu5 : (cxOf (L2.CX P w) P w K mg base N_7 "_law_like" (defScope s_7) f cdv A outer s1 H E).A.units + 65 < cLine := by have := hr.un; show (A.deeper (envOfC "_law_like" (defScope s_7) s1.heap.objs.size f cdv)).units + 65 < cLine; omega
  have tk : Takes (cxOf (L2.CX P w) P w K mg base N_7 "_law_like" (defScope s_7) f cdv A outer s1 H E) (WE1 E) := takes_of rfl rfl rfl rfl
  have hP : PassesOwn (model P w) (cxOf (L2.CX P w) P w K mg base N_7 "_law_like" (defScope s_7) f cdv A outer s1 H E).A (cxOf (L2.CX P w) P w K mg base N_7 "_law_like" (defScope s_7) f cdv A outer s1 H E).env (cxOf (L2.CX P w) P w K mg base N_7 "_law_like" (defScope s_7) f cdv A outer s1 H E).xe := passes_of rfl
  exact (dss_cons (ds_if (dt_truth (de_isi .tuple (by decide) (de_var 1) rfl B.isinstance rfl B.tuple boot_tuple)) (dss_cons (ds_if (PW.pt (dw_or (dt_not (dt_truth (de_isi .tuple (by decide) (de_var 0) rfl B.isinstance rfl B.tuple boot_tuple))) (dw_or1 (dt_cmp (op_neD hu) ag_ne (de_callB call_len ag_len rfl B.len PySem.boot_len (da_cons (de_var 0) da_nil)) (de_callB call_len ag_len rfl B.len PySem.boot_len (da_cons (de_var 1) da_nil)) (nomark _))))) (dss_one (ds_ret de_bl)) dss_nil)
    (dss_one (ds_ret (de_cmp (op_eqD hu) ag_eq (de_compIf (own := [(".0", 2), ("k", 3)]) false rfl sc_7.nd (di_range1 rfl B.range (da_cons (de_callB call_len ag_len rfl B.len PySem.boot_len (da_cons (de_var 1) da_nil)) da_nil)) (blkOk_by (N := N_7) (sc := defScope s_7) (by decide +kernel)) (tg_nm 3) (by decide) (fun _ _ _ _ _ => (pg_name (i := 3) sc_7.nd rfl (Or.inl rfl))) (fun _ _ _ _ _ => (dt_not (dt_truth (de_callP IH.c7 hr takes0 rfl (da_cons (de_ix ix_seq ag_ix (de_var 0) (de_var 3) (fun _ _ => rfl)) (da_cons (de_ix ix_seq ag_ix (de_var 1) (de_var 3) (fun _ _ => rfl)) da_nil)) (hlen := sem_len_7 n))))) (fun _ _ _ _ _ => de_int)) (de_lst false da_nil) (nomark _))))) dss_nil)
    (dss_cons (ds_if (dt_cmp op_is (ag_isg false) (de_var 1) de_non (nomark _)) (dss_one (ds_ret (de_cmp op_is (ag_isg false) (de_var 0) de_non (nomark _)))) dss_nil)
    (dss_cons (ds_if (dt_cmp op_is (ag_isg false) (de_var 1) de_bl (nomark _)) (dss_one (ds_ret (de_cmp op_is (ag_isg false) (de_var 0) de_bl (nomark _)))) dss_nil)
    (dss_cons (ds_if (dt_cmp op_is (ag_isg false) (de_var 1) de_bl (nomark _)) (dss_one (ds_ret (de_cmp op_is (ag_isg false) (de_var 0) de_bl (nomark _)))) dss_nil)
    (dss_cons (ds_if (dt_truth (de_isi .str (by decide) (de_var 1) rfl B.isinstance rfl B.str boot_str)) (dss_one (ds_ret (de_and (de_isi .str (by decide) (de_var 0) rfl B.isinstance rfl B.str boot_str) (de_one (de_cmp (op_eqD hu) ag_eq (de_bm PySem.F.plainAttrs_str PySem.F.slot_str_join PySem.F.type_str_join mt_join ty_S ag_join de_str (da_cons (de_lst false (da_cons (de_var 0) da_nil)) da_nil)) (de_var 1) (nomark _)))))) dss_nil)
    (dss_one (ds_ret (de_and (de_isi .int (by decide) (de_var 0) rfl B.isinstance rfl B.int boot_int) (de_and (de_not (de_isi .bool (by decide) (de_var 0) rfl B.isinstance rfl B.bool boot_bool)) (de_one (de_cmp (op_eqD hu) ag_eq (de_var 0) (de_var 1) (nomark _))))))))))))
set_option maxHeartbeats 4000000 in
theorem d_8 {n : Nat} (IH : All P w K mg base T n) (B : Bi mg) (C : Kcs K mg T) {f : Addr} {cdv : Value} {A : Around} {outer : List PySem.Env} {s1 : Shared} {H : Hp} {E : XK} (hr : Room n (A.deeper (envOfC "_law_word" (defScope s_8) s1.heap.objs.size f cdv))) :
    PSs (cxOf (L2.CX P w) P w K mg base N_8 "_law_word" (defScope s_8) f cdv A outer s1 H E) (defBody s_8) (rdS ⟨K, mg, T⟩ (WE1 E) (B__law_word (sem n 5))) := by
  have hu : (cxOf (L2.CX P w) P w K mg base N_8 "_law_word" (defScope s_8) f cdv A outer s1 H E).A.units + 64 < cLine := hr.units
  have hu5 : (cxOf (L2.CX P w) P w K mg base N_8 "_law_word" (defScope s_8) f cdv A outer s1 H E).A.units + 65 < cLine := by have := hr.un; show (A.deeper (envOfC "_law_word" (defScope s_8) s1.heap.objs.size f cdv)).units + 65 < cLine; omega
  have tk : Takes (cxOf (L2.CX P w) P w K mg base N_8 "_law_word" (defScope s_8) f cdv A outer s1 H E) (WE1 E) := takes_of rfl rfl rfl rfl
  have hP : PassesOwn (model P w) (cxOf (L2.CX P w) P w K mg base N_8 "_law_word" (defScope s_8) f cdv A outer s1 H E).A (cxOf (L2.CX P w) P w K mg base N_8 "_law_word" (defScope s_8) f cdv A outer s1 H E).env (cxOf (L2.CX P w) P w K mg base N_8 "_law_word" (defScope s_8) f cdv A outer s1 H E).xe := passes_of rfl
  exact (dss_cons (ds_set (i := 1) sc_8.nd (de_callE IH.c5 hr tk rfl rfl (da_cons (de_var 0) (da_cons de_int da_nil)) (hlen := sem_len_5 n)))
    (dss_cons (ds_if (dt_cmp op_lt2 ag_lt (de_var 1) de_int (nomark _)) (dss_one (ds_ret (de_callE IH.c5 hr tk rfl rfl (da_cons (de_var 0) (da_cons de_int da_nil)) (hlen := sem_len_5 n)))) dss_nil)
    (dss_cons (ds_if (dt_cmp (op_eqD hu) ag_eq (de_var 1) de_int (nomark _)) (dss_one (ds_ret (de_op op_sub ag_sub de_int (de_callE IH.c5 hr tk rfl rfl (da_cons (de_var 0) (da_cons de_int da_nil)) (hlen := sem_len_5 n))))) dss_nil)
    (dss_one (ds_ret (de_op op_mod ag_mod (de_callT call_int1 ag_int rfl B.int boot_int (da_cons (de_op op_add4 ag_add (de_op op_mul5 ag_mul5 (de_callE IH.c5 hr tk rfl rfl (da_cons (de_var 0) (da_cons de_int da_nil)) (hlen := sem_len_5 n)) de_int) (de_callE IH.c5 hr tk rfl rfl (da_cons (de_var 0) (da_cons de_int da_nil)) (hlen := sem_len_5 n))) da_nil)) de_int))))))
set_option maxHeartbeats 4000000 in
theorem d_9 {n : Nat} (IH : All P w K mg base T n) (B : Bi mg) (C : Kcs K mg T) {f : Addr} {cdv : Value} {A : Around} {outer : List PySem.Env} {s1 : Shared} {H : Hp} {E : XK} (hr : Room n (A.deeper (envOfC "law" (defScope s_9) s1.heap.objs.size f cdv))) :
    PSs (cxOf (L2.CX P w) P w K mg base N_9 "law" (defScope s_9) f cdv A outer s1 H E) (defBody s_9) (rdS ⟨K, mg, T⟩ (WE1 E) (B_law (sem n 1) (sem n 2) (sem n 3) (sem n 4) (sem n 5) (sem n 6) (sem n 7) (sem n 8))) := by
  have hu : (cxOf (L2.CX P w) P w K mg base N_9 "law" (defScope s_9) f cdv A outer s1 H E).A.units + 64 < cLine := hr.units
  have hu5 : (cxOf (L2.CX P w) P w K mg base N_9 "law" (defScope s_9) f cdv A outer s1 H E).A.units + 65 < cLine := by have := hr.un; show (A.deeper (envOfC "law" (defScope s_9) s1.heap.objs.size f cdv)).units + 65 < cLine; omega
  have tk : Takes (cxOf (L2.CX P w) P w K mg base N_9 "law" (defScope s_9) f cdv A outer s1 H E) (WE1 E) := takes_of rfl rfl rfl rfl
  have hP : PassesOwn (model P w) (cxOf (L2.CX P w) P w K mg base N_9 "law" (defScope s_9) f cdv A outer s1 H E).A (cxOf (L2.CX P w) P w K mg base N_9 "law" (defScope s_9) f cdv A outer s1 H E).env (cxOf (L2.CX P w) P w K mg base N_9 "law" (defScope s_9) f cdv A outer s1 H E).xe := passes_of rfl
  exact (dss_cons (ds_set (i := 1) sc_9.nd (de_lst true (da_cons (de_callP IH.c4 hr tk rfl (da_cons (de_var 0) (da_cons de_int (da_cons de_int da_nil))) (hlen := sem_len_4 n)) (da_cons de_int da_nil))))
    (dss_cons (ds_for hP rfl (di_range1 rfl B.range (da_cons de_int da_nil)) (pg_name (i := 2) sc_9.nd rfl (Or.inl rfl)) (tg_nm 2) (dss_cons (ds_par3 (i := 3) (j := 4) (l := 5) rfl sc_9.nd (da_cons (de_callE IH.c8 hr tk rfl rfl (da_cons (de_var 1) da_nil) (hlen := sem_len_8 n)) (da_cons (de_callE IH.c5 hr tk rfl rfl (da_cons (de_var 1) (da_cons (de_callE IH.c6 hr tk rfl rfl (da_cons (de_var 1) (da_cons (de_lst false (da_cons de_int (da_cons de_int (da_cons de_int da_nil)))) da_nil)) (hlen := sem_len_6 n)) da_nil)) (hlen := sem_len_5 n)) (da_cons de_int da_nil))))
    (dss_cons (ds_for hP rfl (di_range1 rfl B.range (da_cons (de_var 4) da_nil)) (pg_name (i := 6) sc_9.nd rfl (Or.inl rfl)) (tg_nm 6) (dss_one (ds_set (i := 5) sc_9.nd (de_op op_mod ag_mod (de_callT call_int1 ag_int rfl B.int boot_int (da_cons (de_op op_mul5 ag_mul5 (de_var 5) (de_var 3)) da_nil)) de_int))))
    (dss_one (ds_if (dt_not (dt_truth (de_callP IH.c7 hr tk rfl (da_cons (de_callP IH.c2 hr tk rfl (da_cons (de_var 3) (da_cons (de_var 4) da_nil)) (hlen := sem_len_2 n)) (da_cons (de_var 5) da_nil)) (hlen := sem_len_7 n)))) (dss_one (ds_ret de_bl)) dss_nil)))))
    (dss_cons (ds_asgT (pg_tup rfl (pgs_cons (pg_name (i := 7) sc_9.nd rfl (Or.inl rfl)) (pgs_cons (pg_name (i := 8) sc_9.nd rfl (Or.inr rfl)) pgs_nil))) (tg_tp (tgs_cons (tg_nm 7) (tgs_cons (tg_nm 8) tgs_nil))) (de_tup (da_cons (de_callE IH.c5 hr tk rfl rfl (da_cons (de_var 1) (da_cons de_int da_nil)) (hlen := sem_len_5 n)) (da_cons (de_lst false (da_cons de_int da_nil)) da_nil))))
    (dss_cons (ds_for hP rfl (di_range1 rfl B.range (da_cons (de_var 7) da_nil)) (pg_name (i := 6) sc_9.nd rfl (Or.inl rfl)) (tg_nm 6) (dss_one (ds_set (i := 8) sc_9.nd (de_comp (own := [(".0", 11), ("at", 12)]) false rfl sc_9.nd (di_range1 rfl B.range (da_cons (de_op op_add4 ag_add (de_callB call_len ag_len rfl B.len PySem.boot_len (da_cons (de_var 8) da_nil)) de_int) da_nil)) (blkOk_by (N := N_9) (sc := defScope s_9) (by decide +kernel)) (tg_nm 12) (by decide) (fun _ _ _ _ _ => (pg_name (i := 12) sc_9.nd rfl (Or.inl rfl))) (fun _ _ _ _ _ => (de_op op_add4 ag_add (de_if (dt_cmp op_gt ag_gt (de_var 12) de_int (nomark _)) (de_ix ix_seq ag_ix (de_var 8) (de_op op_sub ag_sub (de_var 12) de_int) (fun _ _ => rfl)) de_int) (de_if (dt_cmp op_lt2 ag_lt (de_var 12) (de_callB call_len ag_len rfl B.len PySem.boot_len (da_cons (de_var 8) da_nil)) (nomark _)) (de_ix ix_seq ag_ix (de_var 8) (de_var 12) (fun _ _ => rfl)) de_int)))))))
    (dss_cons (ds_for hP rfl (di_range2 rfl B.range (da_cons (de_un un_neg ag_neg de_int) (da_cons (de_op op_add4 ag_add (de_var 7) de_int) da_nil))) (pg_name (i := 9) sc_9.nd rfl (Or.inl rfl)) (tg_nm 9) (dss_one (ds_if (dt_not (dt_truth (de_callP IH.c7 hr tk rfl (da_cons (de_callP IH.c3 hr tk rfl (da_cons (de_var 7) (da_cons (de_var 9) da_nil)) (hlen := sem_len_3 n)) (da_cons (de_if (dt_chain op_le op_le ag_le ag_le de_int (de_var 9) (de_var 7)) (de_ix ix_seq ag_ix (de_var 8) (de_var 9) (fun _ _ => rfl)) de_int) da_nil)) (hlen := sem_len_7 n)))) (dss_one (ds_ret de_bl)) dss_nil)))
    (dss_cons (ds_for hP rfl (di_any (de_tup (da_cons de_int (da_cons de_int (da_cons de_int (da_cons (de_callE IH.c8 hr tk rfl rfl (da_cons (de_var 1) da_nil) (hlen := sem_len_8 n)) da_nil)))))) (pg_name (i := 3) sc_9.nd rfl (Or.inl rfl)) (tg_nm 3) (dss_one (ds_if (dt_cmp op_isn (ag_isg true) (de_callP IH.c1 hr tk rfl (da_cons (de_var 3) da_nil) (hlen := sem_len_1 n)) de_bl (nomark _)) (dss_one (ds_ret de_bl)) dss_nil)))
    (dss_cons (ds_for hP rfl (di_any (de_tup (da_cons (de_un un_neg ag_neg de_int) (da_cons de_int (da_cons de_bl (da_cons de_bl (da_cons de_non (da_cons de_str (da_cons (de_tup (da_cons de_int da_nil)) (da_cons (de_op op_add4 ag_add de_int (de_callE IH.c5 hr tk rfl rfl (da_cons (de_var 1) (da_cons de_int da_nil)) (hlen := sem_len_5 n))) da_nil)))))))))) (pg_name (i := 10) sc_9.nd rfl (Or.inl rfl)) (tg_nm 10) (dss_one (ds_if (dt_cmp op_isn (ag_isg true) (de_callP IH.c1 hr tk rfl (da_cons (de_var 10) da_nil) (hlen := sem_len_1 n)) de_bl (nomark _)) (dss_one (ds_ret de_bl)) dss_nil)))
    (dss_one (ds_ret de_bl)))))))))
end
end LW

namespace LW
open PySem L2 GT PB
theorem Z.l13 {f : List (Nat × EV)} {ρ : GT.Env} (h : At 13 f ρ) : ∃ x0 x1 x2 x3 x4 x5 x6 x7 x8 x9 x10 x11 x12, ρ = [x0, x1, x2, x3, x4, x5, x6, x7, x8, x9, x10, x11, x12] ∧ ∀ p ∈ f, [x0, x1, x2, x3, x4, x5, x6, x7, x8, x9, x10, x11, x12][p.1]? = some (some p.2) := by
  obtain ⟨h, h2⟩ := h
  match ρ, h with
  | [x0, x1, x2, x3, x4, x5, x6, x7, x8, x9, x10, x11, x12], _ => exact ⟨x0, x1, x2, x3, x4, x5, x6, x7, x8, x9, x10, x11, x12, rfl, h2⟩
abbrev dig : Sem := runB 3 8 B__law_digits
abbrev draw : Sem := runB 2 3 B__law_draw
abbrev pick : Sem := runB 2 2 (B__law_pick draw)
abbrev like : Sem := runB 2 4 (B__law_like (sem 58 7))
abbrev word : Sem := runB 1 2 (B__law_word draw)
abbrev isw : Sem := runB 1 1 (B_is_word (runB 1 1 B_is_integer))
abbrev pow : Sem := runB 2 3 B_word_power
abbrev bin : Sem := runB 2 4 B_binomial
abbrev TT : EV → Store → Prop := fun v _ => v = .pv (.bl true)
abbrev FF : GT.Env → Store → Prop := fun _ _ => False
def I1 (s : EV) (k : Int) (ρ : GT.Env) (st : Store) : Prop := At 13 [(0, s), (1, .ob 0)] ρ ∧ BX (900000 - 10 * k) [] st
def I2 (s : EV) (w e m : Int) (k : Int) (ρ : GT.Env) (st : Store) : Prop := At 13 [(0, s), (1, .ob 0), (3, .pv (.int w)), (4, .pv (.int e)), (5, .pv (.int (w ^ k.toNat % 65536)))] ρ ∧ BX m [] st
theorem l0 (s : EV) (w e m : Int) (w0 : 0 ≤ w) (w1 : w < 65536) (e0 : 0 ≤ e) (ρ : GT.Env) (st : Store) (h : I2 s w e m 0 ρ st) : (forS (fNm 6) B_law_l0 (rngL 0 e) ρ st).P4 (I2 s w e m e) TT FF FF := by
  refine forR_P (I2 s w e m) (by omega) h ?_ fun ρ st h => h
  rintro t ρ st t0 t1 ⟨hρ, hb⟩
  obtain ⟨x0, x1, x2, x3, x4, x5, x6, x7, x8, x9, x10, x11, x12, rfl, hf⟩ := Z.l13 hρ
  simp at hf
  obtain ⟨rfl, rfl, rfl, rfl, rfl⟩ := hf
  simp [B_law_l0, show smI w = true from smI_of (by omega) (by omega)]
  refine ⟨.mk rfl ?_, hb⟩
  simp
  rw [show (t + 1).toNat = t.toNat + 1 by omega, Int.pow_succ, mul_mod_l]
theorem l1 (s : EV) (ρ : GT.Env) (st : Store) (h : I1 s 0 ρ st) : (forS (fNm 2) (B_law_l1 pow draw pick like word) (rngL 0 4) ρ st).P4 (I1 s 4) TT FF FF := by
  refine forR_P (I1 s) (by omega) h ?_ fun ρ st h => h
  rintro k ρ st k0 k1 ⟨hρ, hb⟩
  obtain ⟨x0, x1, x2, x3, x4, x5, x6, x7, x8, x9, x10, x11, x12, rfl, hf⟩ := Z.l13 hρ
  simp at hf
  obtain ⟨rfl, rfl⟩ := hf
  simp [B_law_l1]
  refine word_P (n := 900000 - 10 * k - 3) (by omega) (hb.mono (by omega)) fun w s1 w0 w1 b1 => ?_
  simp
  refine pick_P (n := 900000 - 10 * k - 4) (by omega) (b1.mono (by omega)) (by simp) fun e s2 he b2 => ?_
  obtain ⟨m, rfl, m0, m1⟩ : ∃ m : Int, e = .int m ∧ 0 < m ∧ m < 1000 := by
    simp at he
    rcases he with rfl | rfl | rfl <;> exact ⟨_, rfl, by omega, by omega⟩
  simp
  refine draw_P (n := 900000 - 10 * k - 5) (by omega) (b2.mono (by omega)) m0 fun e s3 e0 e1 b3 => ?_
  simp [rg1E_int (smallR_of (show -1000000000000 < e by omega) (by omega))]
  refine P4_imp (l0 s w e (900000 - 10 * k - 5) w0 w1 e0 _ _ ⟨.mk rfl (by simp), b3⟩) ?_ (fun _ _ h => h) (fun _ _ h => h.elim) (fun _ _ h => h.elim)
  rintro ρ st ⟨hρ, hb⟩
  obtain ⟨x0, x1, x2, x3, x4, x5, x6, x7, x8, x9, x10, x11, x12, rfl, hf⟩ := Z.l13 hρ
  simp at hf
  obtain ⟨rfl, rfl, rfl, rfl, rfl⟩ := hf
  have hl := like_int (c := sem 58 7) (w ^ e.toNat % 65536)
  simp [(word_power_giv w e e0 (by omega)).call2, hl.call2]
  exact ⟨.mk rfl (by simp), hb.mono (by omega)⟩
def rowP (t : Nat) : PV := .lst ((List.range (t + 1)).map fun a => .int (ch t a))
def I3 (s : EV) (w : Nat) (k : Int) (ρ : GT.Env) (st : Store) : Prop := At 13 [(0, s), (1, .ob 0), (7, .pv (.int w)), (8, .pv (rowP k.toNat))] ρ ∧ BX 800000 [] st
theorem l2 (s : EV) (w : Nat) (hw : w < 31) (ρ : GT.Env) (st : Store) (h : I3 s w 0 ρ st) : (forS (fNm 6) B_law_l2 (rngL 0 w) ρ st).P4 (I3 s w w) TT FF FF := by
  refine forR_P (I3 s w) (by omega) h ?_ fun ρ st h => h
  rintro t ρ st t0 t1 ⟨hρ, hb⟩
  obtain ⟨t, rfl⟩ : ∃ v : Nat, t = v := ⟨t.toNat, by omega⟩
  obtain ⟨x0, x1, x2, x3, x4, x5, x6, x7, x8, x9, x10, x11, x12, rfl, hf⟩ := Z.l13 hρ
  simp at hf
  obtain ⟨rfl, rfl, rfl, rfl⟩ := hf
  have e0 : rg1E [.pv (.int ((t : Int) + 1 + 1))] st = .ok (rngL 0 ((t + 2 : Nat) : Int)) st := by
    rw [show ((t : Int) + 1 + 1) = ((t + 2 : Nat) : Int) by omega]
    exact rg1E_int (smallR_of (by omega) (by omega))
  have e1 := compN_pure (j := 12) (e := (dOp2 addE
                  (dIfE (tBl (dOp2 (p2 gtP) (dVar 12) (dC (PV.int 0))))
                    (dOp2 ixE (dVar 8) (dOp2 (p2 subP) (dVar 12) (dC (PV.int 1)))) (dC (PV.int 0)))
                  (dIfE (tBl (dOp2 (p2 ltP) (dVar 12) (dApp (ap1 lenE) (aCons (dVar 8) aNil))))
                    (dOp2 ixE (dVar 8) (dVar 12)) (dC (PV.int 0))))) (ρ := [some s, some (EV.ob 0), x2, x3, x4, x5, some (EV.pv (PV.int ↑t)), some (EV.pv (PV.int ↑w)),
                  some (EV.pv (PV.lst (List.map (fun a => PV.int (ch t a)) (List.range (t + 1))))), x9, x10, none, none]) (st := st) (t + 2) (fun k => .int (ch (t + 1) k)) ?_
  · rw [Int.natCast_add] at e1
    simp at e1
    simp [B_law_l2, rowP, e0, e1, show (t : Int) + 2 ≤ 16777216 by omega]
    exact ⟨.mk rfl (by simp [rowP, show ((t : Int) + 1).toNat = t + 1 by omega]), hb⟩
  · intro k hk
    cases k with
    | zero => simp [ch, show atI (List.map (fun a => PV.int (ch t a)) (List.range (t + 1))) 0 = some (.int 1) from by rw [atI_lt (by omega) (by simp)]; simp]
    | succ k =>
      have a1 : ((k : Int) + 1) - 1 = k := by omega
      by_cases hk2 : k + 1 < t + 1
      · have a2 : atI (List.map (fun a => PV.int (ch t a)) (List.range (t + 1))) ((k : Int) + 1) = some (.int (ch t (k + 1))) := by
          rw [show ((k : Int) + 1) = ((k + 1 : Nat) : Int) by omega, atI_lt (by omega) (by simp; omega)]
          simp
        simp [a1, a2, List.getElem?_range, show k < t + 1 by omega, show (0 : Int) < (k : Int) + 1 by omega, show (k : Int) + 1 < (t : Int) + 1 by omega, ch]
      · have : ch t (k + 1) = 0 := ch_out _ _ (by omega)
        simp [a1, List.getElem?_range, show k < t + 1 by omega, show (0 : Int) < (k : Int) + 1 by omega, show ¬ (k : Int) + 1 < (t : Int) + 1 by omega, ch, this]
theorem l3 (s : EV) (w : Nat) (hw : w < 31) (ρ : GT.Env) (st : Store) (h : I3 s w w ρ st) : (forS (fNm 9) (B_law_l3 bin like) (rngL (-2) (w + 3)) ρ st).P4 (I3 s w w) TT FF FF := by
  refine forR_P (fun _ => I3 s w w) (by omega) h ?_ fun ρ st h => h
  rintro t ρ st t0 t1 ⟨hρ, hb⟩
  obtain ⟨x0, x1, x2, x3, x4, x5, x6, x7, x8, x9, x10, x11, x12, rfl, hf⟩ := Z.l13 hρ
  simp at hf
  obtain ⟨rfl, rfl, rfl, rfl⟩ := hf
  by_cases c1 : t < 0 ∨ w < t
  · have hl := like_int (c := sem 58 7) 0
    have hn : ¬ (0 ≤ t ∧ t ≤ w) := by omega
    have e : (if 0 ≤ t then R.ok (EV.pv (PV.bl (decide (t ≤ (w : Int))))) st else R.ok (EV.pv (PV.bl false)) st) = R.ok (EV.pv (PV.bl false)) st := by
      split
      · rw [decide_eq_false (by omega)]
      · rfl
    simp [B_law_l3, (binomial_out w t c1).call2, e, hl.call2]
    exact ⟨.mk rfl (by simp), hb⟩
  · obtain ⟨t, rfl⟩ : ∃ v : Nat, t = v := ⟨t.toNat, by omega⟩
    have hl := like_int (c := sem 58 7) (ch w t)
    have hn : t ≤ w := by omega
    simp [B_law_l3, (binomial_in w t hn (by omega)).call2, hn, rowP, atI_lt (show (0 : Int) ≤ t by omega) (show (t : Int) < (List.map (fun a => PV.int (ch w a)) (List.range (w + 1))).length by simp; omega), hl.call2]
    exact ⟨.mk rfl (by simp [rowP]), hb⟩
def I4 (s : EV) (ρ : GT.Env) (st : Store) : Prop := At 13 [(0, s), (1, .ob 0)] ρ ∧ BX 600000 [] st
theorem l4 (s : EV) (x : Int) (x0 : 0 ≤ x) (x1 : x < 65536) (ρ : GT.Env) (st : Store) (h : I4 s ρ st) : (forS (fNm 3) (B_law_l4 isw) [.int 0, .int 1, .int 65535, .int x] ρ st).P4 (I4 s) TT FF FF := by
  refine forS_P (fun _ => I4 s) h ?_ fun ρ st h => h
  rintro i y ρ st hi ⟨hρ, hb⟩
  obtain ⟨x0, x1, x2, x3, x4, x5, x6, x7, x8, x9, x10, x11, x12, rfl, hf⟩ := Z.l13 hρ
  simp at hf
  obtain ⟨rfl, rfl⟩ := hf
  obtain ⟨v, rfl, v0, v1⟩ : ∃ v : Int, y = .int v ∧ 0 ≤ v ∧ v < 65536 := by
    have := List.mem_of_getElem? hi
    simp at this
    rcases this with rfl | rfl | rfl | rfl <;> exact ⟨_, rfl, by omega, by omega⟩
  simp [B_law_l4, (is_word_int v).call1, v0, v1]
  exact ⟨.mk rfl (by simp), hb⟩
def I5 (s : EV) (ρ : GT.Env) (st : Store) : Prop := At 13 [(0, s), (1, .ob 0)] ρ ∧ BX 500000 [] st
theorem l5 (s : EV) (x : Int) (x0 : 0 ≤ x) (ρ : GT.Env) (st : Store) (h : I5 s ρ st) : (forS (fNm 10) (B_law_l5 isw) [.int (-1), .int 65536, .bl true, .bl false, .non, .str "1", .tup [.int 1],   .int (70000 + x)] ρ st).P4 (I5 s) TT FF FF := by
  refine forS_P (fun _ => I5 s) h ?_ fun ρ st h => h
  rintro i y ρ st hi ⟨hρ, hb⟩
  obtain ⟨x0, x1, x2, x3, x4, x5, x6, x7, x8, x9, x10, x11, x12, rfl, hf⟩ := Z.l13 hρ
  simp at hf
  obtain ⟨rfl, rfl⟩ := hf
  have g : Giv isw [y] (.bl false) := by
    have := List.mem_of_getElem? hi
    simp at this
    rcases this with rfl | rfl | rfl | rfl | rfl | rfl | rfl | rfl
    · have := is_word_int (-1); simpa using this
    · have := is_word_int 65536; simpa using this
    · exact is_word_odd _ rfl
    · exact is_word_odd _ rfl
    · exact is_word_odd _ rfl
    · exact is_word_odd _ rfl
    · exact is_word_odd _ rfl
    · have := is_word_int (70000 + x)
      rw [decide_eq_false (by omega)] at this
      exact this
  simp [B_law_l5, g.call1]
  exact ⟨.mk rfl (by simp), hb⟩
theorem law_true (ns : List Int) (h : ns.length ≤ 63) : ∃ st, sem 60 9 [.pv (.fls (ns.map PV.int))] [] = .ok (.pv (.bl true)) st := by
  suffices q : (sem 60 9 [.pv (.fls (ns.map PV.int))] []).P TT by
    obtain ⟨v, st, e, rfl⟩ := q.ex
    exact ⟨st, e⟩
  obtain ⟨ds, hd⟩ := digits_giv ns 0 63 (by omega) (by omega) (by omega)
  rw [sem_9, sem_4, sem_5, sem_6, sem_5, sem_7, sem_8, sem_5, sem_1, sem_0, sem_2, sem_3]
  refine runB_P rfl ?_
  unfold B_law
  simp [hd.call3]
  generalize (EV.pv (.fls (ns.map PV.int))) = s
  have b0 : BX 900000 [] [Ob.lst [EV.pv (PV.lst (List.map PV.int ds)), EV.pv (PV.int 0)]] := ⟨ds, 0, by omega, by omega, rfl⟩
  generalize [Ob.lst [EV.pv (PV.lst (List.map PV.int ds)), EV.pv (PV.int 0)]] = st0 at b0 ⊢
  refine P4_imp (l1 s _ _ ⟨.mk rfl (by simp), b0⟩) ?_ (fun _ _ h => h) (fun _ _ h => h.elim) (fun _ _ h => h.elim)
  rintro ρ st ⟨hρ, hb⟩
  obtain ⟨x0, x1, x2, x3, x4, x5, x6, x7, x8, x9, x10, x11, x12, rfl, hf⟩ := Z.l13 hρ
  simp at hf
  obtain ⟨rfl, rfl⟩ := hf
  simp
  refine draw_P (n := 800000) (by omega) (hb.mono (by omega)) (by omega) fun w s1 w0 w1 b1 => ?_
  obtain ⟨w, rfl⟩ : ∃ v : Nat, w = v := ⟨w.toNat, by omega⟩
  simp [show w < 1000000000000 by omega]
  refine P4_imp (l2 s w (by omega) _ _ ⟨.mk rfl (by simp [rowP]), b1⟩) ?_ (fun _ _ h => h) (fun _ _ h => h.elim) (fun _ _ h => h.elim)
  rintro ρ st ⟨hρ, hb⟩
  obtain ⟨x0, x1, x2, x3, x4, x5, x6, x7, x8, x9, x10, x11, x12, rfl, hf⟩ := Z.l13 hρ
  simp at hf
  obtain ⟨rfl, rfl, rfl, rfl⟩ := hf
  simp [rg2E_int (st := st) (smallR_of (i := -2) (by omega) (by omega)) (smallR_of (i := (w : Int) + 3) (by omega) (by omega))]
  refine P4_imp (l3 s w (by omega) _ _ ⟨.mk rfl (by simp), hb⟩) ?_ (fun _ _ h => h) (fun _ _ h => h.elim) (fun _ _ h => h.elim)
  rintro ρ st ⟨hρ, hb⟩
  obtain ⟨x0, x1, x2, x3, x4, x5, x6, x7, x8, x9, x10, x11, x12, rfl, hf⟩ := Z.l13 hρ
  simp at hf
  obtain ⟨rfl, rfl, rfl, rfl⟩ := hf
  simp
  refine word_P (n := 700000) (by omega) (hb.mono (by omega)) fun x s1 w0 w1 b1 => ?_
  simp
  refine P4_imp (l4 s x (by omega) (by omega) _ _ ⟨.mk rfl (by simp), b1.mono (by omega)⟩) ?_ (fun _ _ h => h) (fun _ _ h => h.elim) (fun _ _ h => h.elim)
  rintro ρ st ⟨hρ, hb⟩
  obtain ⟨x0, x1, x2, x3, x4, x5, x6, x7, x8, x9, x10, x11, x12, rfl, hf⟩ := Z.l13 hρ
  simp at hf
  obtain ⟨rfl, rfl⟩ := hf
  simp
  refine draw_P (n := 500000) (by omega) (hb.mono (by omega)) (by omega) fun w s1 w0 w1 b1 => ?_
  simp
  exact P4_imp (l5 s w (by omega) _ _ ⟨.mk rfl (by simp), b1⟩) (fun _ _ _ => by simp) (fun _ _ h => h) (fun _ _ h => h.elim) (fun _ _ h => h.elim)
end LW

namespace LW
open PySem PySem.Spec PyProof.Rows L2 GT PB
set_option maxHeartbeats 4000000 in
theorem all_mk {P : Program} {w : World} {K : PySem.W.Frag} {h : Heap} {mg : Str → Option Value} {fa : Addr} (X : K.In h) (G : h.Ns mainGlobals mg) (hfa : mg "law" = some (.ref fa))
    {f_0 : Addr} {od_0 an_0 : Option Addr} {sl_0 : Array (Option Value)} {oc_0 kV_0 dc_0 pm_0 cd_0 ct_0 : Value}
    {f_1 : Addr} {od_1 an_1 : Option Addr} {sl_1 : Array (Option Value)} {oc_1 kV_1 dc_1 pm_1 cd_1 ct_1 : Value}
    {f_2 : Addr} {od_2 an_2 : Option Addr} {sl_2 : Array (Option Value)} {oc_2 kV_2 dc_2 pm_2 cd_2 ct_2 : Value}
    {f_3 : Addr} {od_3 an_3 : Option Addr} {sl_3 : Array (Option Value)} {oc_3 kV_3 dc_3 pm_3 cd_3 ct_3 : Value}
    {f_4 : Addr} {od_4 an_4 : Option Addr} {sl_4 : Array (Option Value)} {oc_4 kV_4 dc_4 pm_4 cd_4 ct_4 : Value}
    {f_5 : Addr} {od_5 an_5 : Option Addr} {sl_5 : Array (Option Value)} {oc_5 kV_5 dc_5 pm_5 cd_5 ct_5 : Value}
    {f_6 : Addr} {od_6 an_6 : Option Addr} {sl_6 : Array (Option Value)} {oc_6 kV_6 dc_6 pm_6 cd_6 ct_6 : Value}
    {f_7 : Addr} {od_7 an_7 : Option Addr} {sl_7 : Array (Option Value)} {oc_7 kV_7 dc_7 pm_7 cd_7 ct_7 : Value}
    {f_8 : Addr} {od_8 an_8 : Option Addr} {sl_8 : Array (Option Value)} {oc_8 kV_8 dc_8 pm_8 cd_8 ct_8 : Value}
    {f_9 : Addr} {od_9 an_9 : Option Addr} {sl_9 : Array (Option Value)} {oc_9 kV_9 dc_9 pm_9 cd_9 ct_9 : Value}
    {t_WORDS : Tok}
    (a_0 : PySem.W.nsIn K mainGlobals "is_integer" = some (some (.ref f_0)))
    (l_0 : K.lookup f_0 = some ⟨oc_0, od_0, .func (PySem.W.fnOf "is_integer" "is_integer" (defArgs s_0) (defBody s_0) (defScope s_0) .none kV_0 dc_0 pm_0 an_0 cd_0 ct_0), sl_0⟩)
    (c_0 : PySem.W.codeIn K cd_0 "is_integer" = true) (k_0 : PySem.W.keepIn K (.ref f_0) = true)
    (a_1 : PySem.W.nsIn K mainGlobals "is_word" = some (some (.ref f_1)))
    (l_1 : K.lookup f_1 = some ⟨oc_1, od_1, .func (PySem.W.fnOf "is_word" "is_word" (defArgs s_1) (defBody s_1) (defScope s_1) .none kV_1 dc_1 pm_1 an_1 cd_1 ct_1), sl_1⟩)
    (c_1 : PySem.W.codeIn K cd_1 "is_word" = true) (k_1 : PySem.W.keepIn K (.ref f_1) = true)
    (a_2 : PySem.W.nsIn K mainGlobals "word_power" = some (some (.ref f_2)))
    (l_2 : K.lookup f_2 = some ⟨oc_2, od_2, .func (PySem.W.fnOf "word_power" "word_power" (defArgs s_2) (defBody s_2) (defScope s_2) .none kV_2 dc_2 pm_2 an_2 cd_2 ct_2), sl_2⟩)
    (c_2 : PySem.W.codeIn K cd_2 "word_power" = true) (k_2 : PySem.W.keepIn K (.ref f_2) = true)
    (a_3 : PySem.W.nsIn K mainGlobals "binomial" = some (some (.ref f_3)))
    (l_3 : K.lookup f_3 = some ⟨oc_3, od_3, .func (PySem.W.fnOf "binomial" "binomial" (defArgs s_3) (defBody s_3) (defScope s_3) .none kV_3 dc_3 pm_3 an_3 cd_3 ct_3), sl_3⟩)
    (c_3 : PySem.W.codeIn K cd_3 "binomial" = true) (k_3 : PySem.W.keepIn K (.ref f_3) = true)
    (a_4 : PySem.W.nsIn K mainGlobals "_law_digits" = some (some (.ref f_4)))
    (l_4 : K.lookup f_4 = some ⟨oc_4, od_4, .func (PySem.W.fnOf "_law_digits" "_law_digits" (defArgs s_4) (defBody s_4) (defScope s_4) .none kV_4 dc_4 pm_4 an_4 cd_4 ct_4), sl_4⟩)
    (c_4 : PySem.W.codeIn K cd_4 "_law_digits" = true) (k_4 : PySem.W.keepIn K (.ref f_4) = true)
    (a_5 : PySem.W.nsIn K mainGlobals "_law_draw" = some (some (.ref f_5)))
    (l_5 : K.lookup f_5 = some ⟨oc_5, od_5, .func (PySem.W.fnOf "_law_draw" "_law_draw" (defArgs s_5) (defBody s_5) (defScope s_5) .none kV_5 dc_5 pm_5 an_5 cd_5 ct_5), sl_5⟩)
    (c_5 : PySem.W.codeIn K cd_5 "_law_draw" = true) (k_5 : PySem.W.keepIn K (.ref f_5) = true)
    (a_6 : PySem.W.nsIn K mainGlobals "_law_pick" = some (some (.ref f_6)))
    (l_6 : K.lookup f_6 = some ⟨oc_6, od_6, .func (PySem.W.fnOf "_law_pick" "_law_pick" (defArgs s_6) (defBody s_6) (defScope s_6) .none kV_6 dc_6 pm_6 an_6 cd_6 ct_6), sl_6⟩)
    (c_6 : PySem.W.codeIn K cd_6 "_law_pick" = true) (k_6 : PySem.W.keepIn K (.ref f_6) = true)
    (a_7 : PySem.W.nsIn K mainGlobals "_law_like" = some (some (.ref f_7)))
    (l_7 : K.lookup f_7 = some ⟨oc_7, od_7, .func (PySem.W.fnOf "_law_like" "_law_like" (defArgs s_7) (defBody s_7) (defScope s_7) .none kV_7 dc_7 pm_7 an_7 cd_7 ct_7), sl_7⟩)
    (c_7 : PySem.W.codeIn K cd_7 "_law_like" = true) (k_7 : PySem.W.keepIn K (.ref f_7) = true)
    (a_8 : PySem.W.nsIn K mainGlobals "_law_word" = some (some (.ref f_8)))
    (l_8 : K.lookup f_8 = some ⟨oc_8, od_8, .func (PySem.W.fnOf "_law_word" "_law_word" (defArgs s_8) (defBody s_8) (defScope s_8) .none kV_8 dc_8 pm_8 an_8 cd_8 ct_8), sl_8⟩)
    (c_8 : PySem.W.codeIn K cd_8 "_law_word" = true) (k_8 : PySem.W.keepIn K (.ref f_8) = true)
    (a_9 : PySem.W.nsIn K mainGlobals "law" = some (some (.ref f_9)))
    (l_9 : K.lookup f_9 = some ⟨oc_9, od_9, .func (PySem.W.fnOf "law" "law" (defArgs s_9) (defBody s_9) (defScope s_9) .none kV_9 dc_9 pm_9 an_9 cd_9 ct_9), sl_9⟩)
    (c_9 : PySem.W.codeIn K cd_9 "law" = true) (k_9 : PySem.W.keepIn K (.ref f_9) = true)
    (z_len : PySem.W.nsIn K mainGlobals "len" = some none)
    (z_int : PySem.W.nsIn K mainGlobals "int" = some none)
    (z_str : PySem.W.nsIn K mainGlobals "str" = some none)
    (z_bool : PySem.W.nsIn K mainGlobals "bool" = some none)
    (z_isinstance : PySem.W.nsIn K mainGlobals "isinstance" = some none)
    (z_tuple : PySem.W.nsIn K mainGlobals "tuple" = some none)
    (z_list : PySem.W.nsIn K mainGlobals "list" = some none)
    (z_dict : PySem.W.nsIn K mainGlobals "dict" = some none)
    (z_sum : PySem.W.nsIn K mainGlobals "sum" = some none)
    (z_max : PySem.W.nsIn K mainGlobals "max" = some none)
    (z_min : PySem.W.nsIn K mainGlobals "min" = some none)
    (z_all : PySem.W.nsIn K mainGlobals "all" = some none)
    (z_any : PySem.W.nsIn K mainGlobals "any" = some none)
    (z_abs : PySem.W.nsIn K mainGlobals "abs" = some none)
    (z_sorted : PySem.W.nsIn K mainGlobals "sorted" = some none)
    (z_range : PySem.W.nsIn K mainGlobals "range" = some none)
    (z_enumerate : PySem.W.nsIn K mainGlobals "enumerate" = some none)
    (z_zip : PySem.W.nsIn K mainGlobals "zip" = some none)
    (z_repr : PySem.W.nsIn K mainGlobals "repr" = some none)
    (g_WORDS : PySem.W.nsIn K mainGlobals "WORDS" = some (some (.int 65536 t_WORDS))) :
    ∃ fd : FuncData, (∀ (s : Shared) (v : Value), BindsTo s fd ⟨[v], []⟩ [("script", v)]) ∧ ∀ base : Heap, K.In base → base.Ns mainGlobals mg → FnOk P w K mg base (L2.CX P w) 60 fa fd ["script"] (spD ⟨K, mg, []⟩ 1 (sem 60 9)) := by
  have F0 := fun_mk (st := s_0) l_0 c_0 k_0
  have b0 := F0.binds (ps := ["thing"]) fun _ _ _ _ _ _ us hl => match us, hl with | [_], _ => rfl
  have m0 := PySem.W.mg_of X G a_0
  have F1 := fun_mk (st := s_1) l_1 c_1 k_1
  have b1 := F1.binds (ps := ["thing"]) fun _ _ _ _ _ _ us hl => match us, hl with | [_], _ => rfl
  have m1 := PySem.W.mg_of X G a_1
  have F2 := fun_mk (st := s_2) l_2 c_2 k_2
  have b2 := F2.binds (ps := ["base", "exponent"]) fun _ _ _ _ _ _ us hl => match us, hl with | [_, _], _ => rfl
  have m2 := PySem.W.mg_of X G a_2
  have F3 := fun_mk (st := s_3) l_3 c_3 k_3
  have b3 := F3.binds (ps := ["whole", "part"]) fun _ _ _ _ _ _ us hl => match us, hl with | [_, _], _ => rfl
  have m3 := PySem.W.mg_of X G a_3
  have F4 := fun_mk (st := s_4) l_4 c_4 k_4
  have b4 := F4.binds (ps := ["script", "first", "last"]) fun _ _ _ _ _ _ us hl => match us, hl with | [_, _, _], _ => rfl
  have m4 := PySem.W.mg_of X G a_4
  have F5 := fun_mk (st := s_5) l_5 c_5 k_5
  have b5 := F5.binds (ps := ["box", "many"]) fun _ _ _ _ _ _ us hl => match us, hl with | [_, _], _ => rfl
  have m5 := PySem.W.mg_of X G a_5
  have F6 := fun_mk (st := s_6) l_6 c_6 k_6
  have b6 := F6.binds (ps := ["box", "things"]) fun _ _ _ _ _ _ us hl => match us, hl with | [_, _], _ => rfl
  have m6 := PySem.W.mg_of X G a_6
  have F7 := fun_mk (st := s_7) l_7 c_7 k_7
  have b7 := F7.binds (ps := ["given", "due"]) fun _ _ _ _ _ _ us hl => match us, hl with | [_, _], _ => rfl
  have m7 := PySem.W.mg_of X G a_7
  have F8 := fun_mk (st := s_8) l_8 c_8 k_8
  have b8 := F8.binds (ps := ["box"]) fun _ _ _ _ _ _ us hl => match us, hl with | [_], _ => rfl
  have m8 := PySem.W.mg_of X G a_8
  have F9 := fun_mk (st := s_9) l_9 c_9 k_9
  have b9 := F9.binds (ps := ["script"]) fun _ _ _ _ _ _ us hl => match us, hl with | [_], _ => rfl
  have m9 := PySem.W.mg_of X G a_9
  have B : Bi mg := ⟨PySem.W.mg_none_of X G z_len, PySem.W.mg_none_of X G z_int, PySem.W.mg_none_of X G z_str, PySem.W.mg_none_of X G z_bool, PySem.W.mg_none_of X G z_isinstance, PySem.W.mg_none_of X G z_tuple, PySem.W.mg_none_of X G z_list, PySem.W.mg_none_of X G z_dict, PySem.W.mg_none_of X G z_sum, PySem.W.mg_none_of X G z_max, PySem.W.mg_none_of X G z_min, PySem.W.mg_none_of X G z_all, PySem.W.mg_none_of X G z_any, PySem.W.mg_none_of X G z_abs, PySem.W.mg_none_of X G z_sorted, PySem.W.mg_none_of X G z_range, PySem.W.mg_none_of X G z_enumerate, PySem.W.mg_none_of X G z_zip, PySem.W.mg_none_of X G z_repr⟩
  have C : Kcs K mg [] := ⟨⟨_, (.int 65536), PySem.W.mg_of X G g_WORDS, ⟨_, rfl⟩, fun _ => rfl⟩⟩
  have all : ∀ (base : Heap) (n : Nat), All P w K mg base [] n := by
    intro base n
    induction n with
    | zero => exact ⟨Cl.zero F0 m0 b0 rfl (fun _ _ => rfl), Cl.zero F1 m1 b1 rfl (fun _ _ => rfl), Cl.zero F2 m2 b2 rfl (fun _ _ => rfl), Cl.zero F3 m3 b3 rfl (fun _ _ => rfl), Cl.zero F4 m4 b4 rfl (fun _ _ => rfl), Cl.zero F5 m5 b5 rfl (fun _ _ => rfl), Cl.zero F6 m6 b6 rfl (fun _ _ => rfl), Cl.zero F7 m7 b7 rfl (fun _ _ => rfl), Cl.zero F8 m8 b8 rfl (fun _ _ => rfl), Cl.zero F9 m9 b9 rfl (fun _ _ => rfl)⟩
    | succ n IH => exact ⟨Cl.next F0 sc_0 m0 b0 rfl rfl rfl (fun _ _ _ _ _ _ hr => d_0 IH B C hr), Cl.next F1 sc_1 m1 b1 rfl rfl rfl (fun _ _ _ _ _ _ hr => d_1 IH B C hr), Cl.next F2 sc_2 m2 b2 rfl rfl rfl (fun _ _ _ _ _ _ hr => d_2 IH B C hr), Cl.next F3 sc_3 m3 b3 rfl rfl rfl (fun _ _ _ _ _ _ hr => d_3 IH B C hr), Cl.next F4 sc_4 m4 b4 rfl rfl rfl (fun _ _ _ _ _ _ hr => d_4 IH B C hr), Cl.next F5 sc_5 m5 b5 rfl rfl rfl (fun _ _ _ _ _ _ hr => d_5 IH B C hr), Cl.next F6 sc_6 m6 b6 rfl rfl rfl (fun _ _ _ _ _ _ hr => d_6 IH B C hr), Cl.next F7 sc_7 m7 b7 rfl rfl rfl (fun _ _ _ _ _ _ hr => d_7 IH B C hr), Cl.next F8 sc_8 m8 b8 rfl rfl rfl (fun _ _ _ _ _ _ hr => d_8 IH B C hr), Cl.next F9 sc_9 m9 b9 rfl rfl rfl (fun _ _ _ _ _ _ hr => d_9 IH B C hr)⟩
  have e := hfa.symm.trans m9
  cases e
  refine ⟨PySem.W.fnOf "law" "law" (defArgs s_9) (defBody s_9) (defScope s_9) .none kV_9 dc_9 pm_9 an_9 cd_9 ct_9, fun s v => .of_eq rfl, fun base _ _ => ?_⟩
  have IH := all base 59
  exact F9.okX sc_9 (fun vs H Q E h => h.1) (fun cdv A outer s1 H vs Q E hr h => ⟨_, d_9 IH B C hr, rd_body rfl h⟩)
theorem walk {l : PySem.W.OpenLaw} {q : Program} {loose : List Str} {XP : (Str → Option Value) → Heap → Prop} {YP : World → Heap → Prop} {d : DefRec} {K : Params → PySem.W.Frag} (hn : l.most = some 63) (hdf : d.params.defaults = []) (hY : ∀ (w : World) (h : Heap), YP w h → (K w.params).In h)
    (F : ∀ (w : World) (mg : Str → Option Value) (fa : Addr) (h : Heap), (K w.params).In h → h.Ns mainGlobals mg → mg d.name = some (.ref fa) →
      ∃ fd : FuncData, (∀ (s : Shared) (u : Value), BindsTo s fd ⟨[u], []⟩ [("script", u)]) ∧ ∀ base : Heap, (K w.params).In base → base.Ns mainGlobals mg → FnOk l.prog w (K w.params) mg base (L2.CX l.prog w) 60 fa fd ["script"] (spD ⟨K w.params, mg, []⟩ 1 (sem 60 9))) :
    PySem.W.WalkO q loose XP YP l.row.toRowW d [] (fun f vs => PySem.call f vs) :=
  GT.walk_law (n := 63) (k := 60) (x := "script") hn (by decide) hdf ⟨rfl, by decide, by decide⟩ hY F law_true
end LW
open PySem PySem.W PyProof.Rows
set_option maxRecDepth 100000 in
set_option maxHeartbeats 0 in
theorem PySem.Challenge.cw_gridtide_k01_words_told_holds : PySem.Challenge.rw_gridtide_k01_words_told.Holds := by
  w_on; o_law; k_head; (case hw => w_witness2)
  k_fill
  refine LW.walk (l := PySem.Challenge.rw_gridtide_k01_words_told) rfl rfl (fun w h Y => PySem.W.kIn_of Y) ?F
  case F =>
    intro w mg fa h KX G hmg
    refine' LW.all_mk KX G hmg ?a_0 ?l_0 ?c_0 ?k_0 ?a_1 ?l_1 ?c_1 ?k_1 ?a_2 ?l_2 ?c_2 ?k_2 ?a_3 ?l_3 ?c_3 ?k_3 ?a_4 ?l_4 ?c_4 ?k_4 ?a_5 ?l_5 ?c_5 ?k_5 ?a_6 ?l_6 ?c_6 ?k_6 ?a_7 ?l_7 ?c_7 ?k_7 ?a_8 ?l_8 ?c_8 ?k_8 ?a_9 ?l_9 ?c_9 ?k_9 ?z_len ?z_int ?z_str ?z_bool ?z_isinstance ?z_tuple ?z_list ?z_dict ?z_sum ?z_max ?z_min ?z_all ?z_any ?z_abs ?z_sorted ?z_range ?z_enumerate ?z_zip ?z_repr ?g_WORDS
    (case a_0 => k_is)
    (case l_0 => k_is)
    (case c_0 => k_is)
    (case k_0 => k_is)
    (case a_1 => k_is)
    (case l_1 => k_is)
    (case c_1 => k_is)
    (case k_1 => k_is)
    (case a_2 => k_is)
    (case l_2 => k_is)
    (case c_2 => k_is)
    (case k_2 => k_is)
    (case a_3 => k_is)
    (case l_3 => k_is)
    (case c_3 => k_is)
    (case k_3 => k_is)
    (case a_4 => k_is)
    (case l_4 => k_is)
    (case c_4 => k_is)
    (case k_4 => k_is)
    (case a_5 => k_is)
    (case l_5 => k_is)
    (case c_5 => k_is)
    (case k_5 => k_is)
    (case a_6 => k_is)
    (case l_6 => k_is)
    (case c_6 => k_is)
    (case k_6 => k_is)
    (case a_7 => k_is)
    (case l_7 => k_is)
    (case c_7 => k_is)
    (case k_7 => k_is)
    (case a_8 => k_is)
    (case l_8 => k_is)
    (case c_8 => k_is)
    (case k_8 => k_is)
    (case a_9 => k_is)
    (case l_9 => k_is)
    (case c_9 => k_is)
    (case k_9 => k_is)
    (case z_len => k_is)
    (case z_int => k_is)
    (case z_str => k_is)
    (case z_bool => k_is)
    (case z_isinstance => k_is)
    (case z_tuple => k_is)
    (case z_list => k_is)
    (case z_dict => k_is)
    (case z_sum => k_is)
    (case z_max => k_is)
    (case z_min => k_is)
    (case z_all => k_is)
    (case z_any => k_is)
    (case z_abs => k_is)
    (case z_sorted => k_is)
    (case z_range => k_is)
    (case z_enumerate => k_is)
    (case z_zip => k_is)
    (case z_repr => k_is)
    (case g_WORDS => k_is)
