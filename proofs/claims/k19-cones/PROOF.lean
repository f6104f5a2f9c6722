import PyProof.Rows.All
import Wide.All
import OpenK.AllK
import Wide.FinOn
import HandS.ForMost
import HandS.ForExc
import HandS.EndBits
import HandS.Walk
import HandS.Conv
import HandS.CallSlots
import PyProof.P3In
import HandS.IsInst
import HandS.Defaults
import KE.GoesEnum
import HandS.More
import HandS.ExcInit
import HandS.ExcField
import HandS.ExcIs
import HandS.TryOnly
import HandS.TryMany
import HandS.ClsMeth
import HandS.SortInts
import HandS.Style
import HandS.SetFor
import HandS.Zip
import HandS.TupAny
import HandS.Text
import HandS.FStr
import PyProof.Rows.RegStrFacts
import HandS.SortKw
import KE.BitLaws
import PySem.Challenge.RW_letbychecks_k19_whole_cone_rows_judged_a
set_option Elab.async false
set_option linter.all false
set_option maxRecDepth 100000
set_option maxHeartbeats 2000000
/-! Den0: data D, how a value bears it (Rep), slots S, the state of a body (BRel), denotations' results. -/
namespace DL
open PySem L2

/-- plain data; lists in it are never changed again -/
inductive D where
  | non | bl (b : Bool) | int (i : Int) | str (x : Str) | tup (ds : List D) | lst (ds : List D)
  | obj (c : Str) (ns : List Str) (ds : List D)
  | emp

abbrev Fzn := Addr → Prop
/-- the module's part: K, mg -/
structure MM where
  K : PySem.W.Frag
  mg : Str → Option Value

/-- a list that is frozen, known, or the module's -/
def LsF (K : PySem.W.Frag) (Fz : Fzn) (H : Hp) (a : Addr) (xs : List V) : Prop :=
  (Fz a ∧ H a = some (.lst xs)) ∨ (∃ o, H a = some (.frz o (.lst xs))) ∨
    ∃ (o : Obj) (its : Array Value) (n : Nat), K.lookup a = some o ∧ o.cls = .type "list" ∧ o.dict = none ∧ o.data = .seq its n ∧ its.size ≤ sizeLine ∧ Vals xs its.toList
theorem LsF.sq {K : PySem.W.Frag} {Fz : Fzn} {H : Hp} {a : Addr} {xs : List V} (h : LsF K Fz H a xs) : SqL K H a xs := by
  rcases h with ⟨_, h⟩ | ⟨o, h⟩ | h
  · exact .inl (.inl h)
  · exact .inl (.inr ⟨o, h⟩)
  · exact .inr h

mutual
def Rep (M : MM) (Fz : Fzn) (H : Hp) : D → V → Prop
  | .non, v => v = .non
  | .bl b, v => v = .bl b
  | .int i, v => v = .int i
  | .str x, v => v = .str x
  | .tup ds, v => ∃ a vs, v = .ref a ∧ SqT M.K H a vs ∧ RepL M Fz H ds vs
  | .lst ds, v => ∃ a vs, v = .ref a ∧ LsF M.K Fz H a vs ∧ RepL M Fz H ds vs
  | .obj c ns ds, v => ∃ a C dx vs, v = .ref a ∧ M.mg c = some (.ref C) ∧ Fz a ∧ H a = some (.ins C dx (ns.zip vs)) ∧ ns.length = vs.length ∧ RepL M Fz H ds vs
  | .emp, v => ∃ a, v = .ref a ∧ Fz a ∧ H a = some (.dK [])
def RepL (M : MM) (Fz : Fzn) (H : Hp) : List D → List V → Prop
  | [], vs => vs = []
  | d :: ds, vs => ∃ v r, vs = v :: r ∧ Rep M Fz H d v ∧ RepL M Fz H ds r
end

structure Ext (Fz : Fzn) (H : Hp) (Fz' : Fzn) (H' : Hp) : Prop where
  fz : ∀ a, Fz a → Fz' a
  st : ∀ a o, H a = some o → (Fz a ∨ ¬ Mut (some o)) → H' a = some o
theorem Ext.refl {Fz : Fzn} {H : Hp} : Ext Fz H Fz H := ⟨fun _ h => h, fun _ _ h _ => h⟩
theorem Ext.trans {Fz Fz1 Fz2 : Fzn} {H H1 H2 : Hp} (a : Ext Fz H Fz1 H1) (b : Ext Fz1 H1 Fz2 H2) : Ext Fz H Fz2 H2 :=
  ⟨fun x h => b.fz x (a.fz x h), fun x o h q => b.st x o (a.st x o h q) (q.imp (a.fz x) id)⟩

theorem Ext.sqT {K : PySem.W.Frag} {Fz Fz' : Fzn} {H H' : Hp} (e : Ext Fz H Fz' H') {a : Addr} {vs : List V} (h : SqT K H a vs) : SqT K H' a vs := by
  rcases h with (h | ⟨o, h⟩) | h
  · exact .inl (.inl (e.st _ _ h (.inr fun z => z)))
  · exact .inl (.inr ⟨o, e.st _ _ h (.inr fun z => z)⟩)
  · exact .inr h
theorem Ext.lsF {K : PySem.W.Frag} {Fz Fz' : Fzn} {H H' : Hp} (e : Ext Fz H Fz' H') {a : Addr} {vs : List V} (h : LsF K Fz H a vs) : LsF K Fz' H' a vs := by
  rcases h with ⟨f, h⟩ | ⟨o, h⟩ | h
  · exact .inl ⟨e.fz _ f, e.st _ _ h (.inl f)⟩
  · exact .inr (.inl ⟨o, e.st _ _ h (.inr fun z => z)⟩)
  · exact .inr (.inr h)

mutual
theorem Rep.mono {M : MM} {Fz Fz' : Fzn} {H H' : Hp} (e : Ext Fz H Fz' H') : ∀ (d : D) (v : V), Rep M Fz H d v → Rep M Fz' H' d v
  | .non, _, h => h
  | .bl _, _, h => h
  | .int _, _, h => h
  | .str _, _, h => h
  | .tup ds, v, h => by
    unfold Rep at h ⊢
    obtain ⟨a, vs, e1, h1, h2⟩ := h
    exact ⟨a, vs, e1, e.sqT h1, RepL.mono e ds vs h2⟩
  | .lst ds, v, h => by
    unfold Rep at h ⊢
    obtain ⟨a, vs, e1, h1, h2⟩ := h
    exact ⟨a, vs, e1, e.lsF h1, RepL.mono e ds vs h2⟩
  | .obj c ns ds, v, h => by
    unfold Rep at h ⊢
    obtain ⟨a, C, dx, vs, e1, hm, hf, h1, hl, h2⟩ := h
    exact ⟨a, C, dx, vs, e1, hm, e.fz a hf, e.st _ _ h1 (.inl hf), hl, RepL.mono e ds vs h2⟩
  | .emp, v, h => by
    unfold Rep at h ⊢
    obtain ⟨a, e1, hf, h1⟩ := h
    exact ⟨a, e1, e.fz a hf, e.st _ _ h1 (.inl hf)⟩
theorem RepL.mono {M : MM} {Fz Fz' : Fzn} {H H' : Hp} (e : Ext Fz H Fz' H') : ∀ (ds : List D) (vs : List V), RepL M Fz H ds vs → RepL M Fz' H' ds vs
  | [], vs, h => by unfold RepL at h ⊢; exact h
  | d :: ds, vs, h => by
    unfold RepL at h ⊢
    obtain ⟨v, r, e1, h1, h2⟩ := h
    exact ⟨v, r, e1, Rep.mono e d v h1, RepL.mono e ds r h2⟩
end

section
variable {M : MM} {Fz : Fzn} {H : Hp} {d : D} {ds : List D} {v : V} {vs : List V}
theorem RepL.nil_iff : RepL M Fz H [] vs ↔ vs = [] := by unfold RepL; exact Iff.rfl
theorem RepL.cons_iff : RepL M Fz H (d :: ds) vs ↔ ∃ v r, vs = v :: r ∧ Rep M Fz H d v ∧ RepL M Fz H ds r := by rw [RepL]
theorem RepL.nil : RepL M Fz H [] [] := by unfold RepL; rfl
theorem RepL.cons (h : Rep M Fz H d v) (t : RepL M Fz H ds vs) : RepL M Fz H (d :: ds) (v :: vs) := by unfold RepL; exact ⟨v, vs, rfl, h, t⟩
theorem RepL.length : ∀ {ds : List D} {vs : List V}, RepL M Fz H ds vs → ds.length = vs.length
  | [], vs, h => by unfold RepL at h; rw [h]; rfl
  | d :: ds, vs, h => by
    unfold RepL at h
    obtain ⟨v, r, rfl, _, h2⟩ := h
    simp [RepL.length h2]
theorem RepL.get : ∀ {ds : List D} {vs : List V} {i : Nat} {d : D}, RepL M Fz H ds vs → ds[i]? = some d → ∃ v, vs[i]? = some v ∧ Rep M Fz H d v
  | [], _, _, _, _, e => by simp at e
  | x :: ds, vs, i, d, h, e => by
    unfold RepL at h
    obtain ⟨v, r, rfl, h1, h2⟩ := h
    cases i with
    | zero =>
      have e' : x = d := by simpa using e
      subst e'
      exact ⟨v, rfl, h1⟩
    | succ i => exact RepL.get (i := i) h2 (by simpa using e)
theorem RepL.getV : ∀ {ds : List D} {vs : List V} {i : Nat} {v : V}, RepL M Fz H ds vs → vs[i]? = some v → ∃ d, ds[i]? = some d ∧ Rep M Fz H d v
  | [], vs, _, _, h, e => by unfold RepL at h; subst h; simp at e
  | x :: ds, vs, i, v, h, e => by
    unfold RepL at h
    obtain ⟨v', r, rfl, h1, h2⟩ := h
    cases i with
    | zero =>
      have e' : v' = v := by simpa using e
      subst e'
      exact ⟨x, rfl, h1⟩
    | succ i => exact RepL.getV (i := i) h2 (by simpa using e)
theorem RepL.append : ∀ {ds es : List D} {vs ws : List V}, RepL M Fz H ds vs → RepL M Fz H es ws → RepL M Fz H (ds ++ es) (vs ++ ws)
  | [], _, vs, _, h, q => by unfold RepL at h; subst h; exact q
  | d :: ds, es, vs, ws, h, q => by
    unfold RepL at h
    obtain ⟨v, r, rfl, h1, h2⟩ := h
    exact RepL.cons h1 (RepL.append h2 q)
theorem RepL.take : ∀ {ds : List D} {vs : List V} (n : Nat), RepL M Fz H ds vs → RepL M Fz H (ds.take n) (vs.take n)
  | _, _, 0, _ => by simp [RepL.nil]
  | [], vs, n + 1, h => by unfold RepL at h; subst h; exact RepL.nil
  | d :: ds, vs, n + 1, h => by
    unfold RepL at h
    obtain ⟨v, r, rfl, h1, h2⟩ := h
    exact RepL.cons h1 (RepL.take n h2)
theorem RepL.drop : ∀ {ds : List D} {vs : List V} (n : Nat), RepL M Fz H ds vs → RepL M Fz H (ds.drop n) (vs.drop n)
  | _, _, 0, h => h
  | [], vs, n + 1, h => by unfold RepL at h; subst h; exact RepL.nil
  | d :: ds, vs, n + 1, h => by
    unfold RepL at h
    obtain ⟨v, r, rfl, h1, h2⟩ := h
    exact RepL.drop n h2
theorem RepL.set : ∀ {ds : List D} {vs : List V} (i : Nat), RepL M Fz H ds vs → Rep M Fz H d v → RepL M Fz H (ds.set i d) (vs.set i v)
  | [], vs, i, h, _ => by unfold RepL at h; subst h; exact RepL.nil
  | x :: ds, vs, i, h, q => by
    unfold RepL at h
    obtain ⟨v', r, rfl, h1, h2⟩ := h
    cases i with
    | zero => exact RepL.cons q h2
    | succ i => exact RepL.cons h1 (RepL.set i h2 q)
theorem RepL.eraseIdx : ∀ {ds : List D} {vs : List V} (i : Nat), RepL M Fz H ds vs → RepL M Fz H (ds.eraseIdx i) (vs.eraseIdx i)
  | [], vs, i, h => by unfold RepL at h; subst h; exact RepL.nil
  | x :: ds, vs, i, h => by
    unfold RepL at h
    obtain ⟨v', r, rfl, h1, h2⟩ := h
    cases i with
    | zero => exact h2
    | succ i => exact RepL.cons h1 (RepL.eraseIdx i h2)
theorem RepL.reverse : ∀ {ds : List D} {vs : List V}, RepL M Fz H ds vs → RepL M Fz H ds.reverse vs.reverse
  | [], vs, h => by unfold RepL at h; subst h; exact RepL.nil
  | x :: ds, vs, h => by
    unfold RepL at h
    obtain ⟨v', r, rfl, h1, h2⟩ := h
    rw [List.reverse_cons, List.reverse_cons]
    exact RepL.append (RepL.reverse h2) (RepL.cons h1 RepL.nil)
theorem RepL.rep (h : RepL M Fz H ds vs) : ∀ k : Nat, RepL M Fz H (List.replicate k ds).flatten (List.replicate k vs).flatten
  | 0 => RepL.nil
  | k + 1 => by
    rw [List.replicate_succ, List.replicate_succ, List.flatten_cons, List.flatten_cons]
    exact RepL.append h (RepL.rep h k)
end

/-- borrowed: the value itself need not be frozen -/
def TRep (M : MM) (Fz : Fzn) (H : Hp) (d : D) (v : V) : Prop := match d with
  | .lst ds => ∃ a vs, v = .ref a ∧ SqL M.K H a vs ∧ RepL M Fz H ds vs
  | d => Rep M Fz H d v
theorem Rep.t {M : MM} {Fz : Fzn} {H : Hp} {d : D} {v : V} (h : Rep M Fz H d v) : TRep M Fz H d v := by
  cases d with
  | lst ds =>
    unfold Rep at h
    obtain ⟨a, vs, e, h1, h2⟩ := h
    exact ⟨a, vs, e, h1.sq, h2⟩
  | _ => exact h

/-! ### slots -/
/-- unassigned or forgotten | data | an own list, an own dict (keys ints, texts | tuples of them), an own instance: they may be changed -/
inductive S where
  | un | v (d : D) | ow (ds : List D) | oK (kvs : List (Key × D)) | oT (kvs : List (List Key × D)) | oi (c : Str) (ns : List Str) (ds : List D) | on (dss : List (List D))

def KRep {κ : Type} (M : MM) (Fz : Fzn) (H : Hp) (kvs : List (κ × D)) (ws : List (κ × V)) : Prop :=
  kvs.map Prod.fst = ws.map Prod.fst ∧ RepL M Fz H (kvs.map Prod.snd) (ws.map Prod.snd)
/-- what stands at an own slot's address -/
def OwnAt (M : MM) (Fz : Fzn) (H : Hp) : S → HO → Prop
  | .ow ds, o => ∃ vs, o = .lst vs ∧ RepL M Fz H ds vs
  | .oK kvs, o => ∃ ws, o = .dK ws ∧ KRep M Fz H kvs ws
  | .oT kvs, o => ∃ ws, o = .dT ws ∧ KRep M Fz H kvs ws
  | .oi c ns ds, o => ∃ C dx vs, o = .ins C dx (ns.zip vs) ∧ M.mg c = some (.ref C) ∧ ns.length = vs.length ∧ RepL M Fz H ds vs
  | _, _ => False
def S.isOw : S → Bool
  | .un => false
  | .v _ => false
  | .on _ => false
  | _ => true
def SlotOk (M : MM) (Fz : Fzn) (H : Hp) (s : S) (o : Option (Option V)) : Prop := match s with
  | .un => True
  | .on _ => True
  | .v d => ∃ x, o = some (some x) ∧ Rep M Fz H d x
  | s => ∃ a u, o = some (some (.ref a)) ∧ ¬ Fz a ∧ H a = some u ∧ OwnAt M Fz H s u
def Own (g : List S) (σ : List (Option V)) (i : Nat) (a : Addr) : Prop := (∃ s, g[i]? = some s ∧ s.isOw = true) ∧ σ[i]? = some (some (.ref a))
structure ARel (M : MM) (Fz : Fzn) (H : Hp) (g : List S) (σ : List (Option V)) : Prop where
  len : g.length = σ.length
  ok : ∀ (i : Nat) (s : S), g[i]? = some s → SlotOk M Fz H s (σ[i]?)
  apart : ∀ (i j : Nat) (a : Addr), Own g σ i a → Own g σ j a → i = j

/-- the entry of a body -/
structure B where
  M : MM
  H0 : Hp
  Fz0 : Fzn
  OA : Addr → Prop
  np : Nat
  σ0 : List (Option V)
  /-- a slot that holds a caught exception -/
  px : Option (Nat × Addr) := none
/-- slot i is not the caught exception's -/
def PxOk (b : B) (i : Nat) : Prop := ∀ a, b.px ≠ some (i, a)
theorem PxOk.of {b : B} (h : b.px = none) (i : Nat) : PxOk b i := fun a z => by rw [h] at z; cases z

structure Grow (b : B) (Fz : Fzn) (H : Hp) : Prop where
  dom : ∀ a, Fz a → ∃ o, H a = some o
  fz : ∀ a, b.Fz0 a → Fz a
  new : ∀ a, Fz a → b.Fz0 a ∨ b.H0 a = none
  fr : ∀ a o, b.H0 a = some o → ¬ b.OA a → H a = some o
  oa : ∀ a, b.OA a → (∃ o, H a = some o) ∧ ¬ b.Fz0 a ∧ ∃ o, b.H0 a = some o
/-- slot i's nested own lists: the outer one, the inner ones -/
def NOwn (g : List S) (σ : List (Option V)) (H : Hp) (i : Nat) (x : Addr) : Prop := ∃ (dss : List (List D)) (a : Addr) (vs : List V), g[i]? = some (S.on dss) ∧ σ[i]? = some (some (V.ref a)) ∧ H a = some (HO.lst vs) ∧ (x = a ∨ V.ref x ∈ vs)
/-- slot i has x in some way -/
def AOwn (g : List S) (σ : List (Option V)) (H : Hp) (i : Nat) (x : Addr) : Prop := Own g σ i x ∨ NOwn g σ H i x
structure Nst (b : B) (Fz : Fzn) (g : List S) (σ : List (Option V)) (H : Hp) : Prop where
  at_ : ∀ (i : Nat) (dss : List (List D)), g[i]? = some (S.on dss) → ∃ (a : Addr) (ps : List Addr), σ[i]? = some (some (V.ref a)) ∧ H a = some (HO.lst (ps.map V.ref)) ∧ (a :: ps).Nodup ∧ ps.length = dss.length ∧
    ∀ (k : Nat) (p : Addr) (ds : List D), ps[k]? = some p → dss[k]? = some ds → ∃ vs : List V, H p = some (HO.lst vs) ∧ RepL b.M Fz H ds vs
  free : ∀ (i : Nat) (x : Addr), NOwn g σ H i x → ¬ Fz x ∧ b.H0 x = none ∧ ∀ j : Nat, ¬ Own g σ j x
  one : ∀ (i j : Nat) (x : Addr), NOwn g σ H i x → NOwn g σ H j x → i = j
structure BRel (b : B) (Fz : Fzn) (g : List S) (σ : List (Option V)) (H : Hp) : Prop where
  gr : Grow b Fz H
  rel : ARel b.M Fz H g σ
  own : ∀ i a, Own g σ i a → (i < b.np ∧ b.OA a) ∨ (b.np ≤ i ∧ b.H0 a = none)
  pin : ∀ i a, i < b.np → Own g σ i a → b.σ0[i]? = some (some (.ref a))
  px : ∀ i a, b.px = some (i, a) → σ[i]? = some (some (.ref a))
  nst : Nst b Fz g σ H

/-- an exception: its class, its fields -/
structure Exn where
  cls : Str
  ns : List Str
  ds : List D
/-- how it lies: its class, its own dict -/
def ExOk (M : MM) (Fz : Fzn) (H : Hp) (e : Exn) (cl : Value) (dx : Option Addr) : Prop :=
  ∃ C, cl = .ref C ∧ M.mg e.cls = some (.ref C) ∧ ((e.ns = [] ∧ e.ds = [] ∧ dx = none) ∨ ∃ d vs, dx = some d ∧ H d = some (.xd (e.ns.zip vs)) ∧ e.ns.length = vs.length ∧ RepL M Fz H e.ds vs)

abbrev Sg := List S
/-- an argument: data, or an own slot as it stands -/
inductive AV where
  | d (d : D) | o (i : Nat)
/-- a piece's result -/
inductive R (α : Type) where
  | ok (a : α) (g : Sg) | ex (e : Exn) (g : Sg) | no
/-- a statement's result; rf: a new list is returned -/
inductive RS where
  | nx (g : Sg) | rt (d : D) (g : Sg) | rf (ds : List D) (g : Sg) | bk (g : Sg) | ct (g : Sg) | ex (e : Exn) (g : Sg) | no
/-- a call's result -/
inductive RC where
  | ok (d : D) (as : Sg) | okf (ds : List D) (as : Sg) | ex (e : Exn) (as : Sg) | no

abbrev FE := Sg → R D
abbrev FF := Sg → R (List D)
abbrev FA := Sg → R (List D)
abbrev FB := Sg → R Bool
abbrev FV := Sg → R (List AV)
abbrev FS := Sg → RS
abbrev Dn := Sg → RC

def R.bd {α β : Type} (r : R α) (k : α → Sg → R β) : R β := match r with
  | .ok d g => k d g
  | .ex e g => .ex e g
  | .no => .no
@[simp] theorem R.bd_ok {α β : Type} {d : α} {g : Sg} {k : α → Sg → R β} : (R.ok d g).bd k = k d g := rfl
@[simp] theorem R.bd_ex {α β : Type} {e : Exn} {g : Sg} {k : α → Sg → R β} : (R.ex e g : R α).bd k = .ex e g := rfl
@[simp] theorem R.bd_no {α β : Type} {k : α → Sg → R β} : (R.no : R α).bd k = .no := rfl

section
variable (b : B) (W : WX)
/-- what is asked of an exception -/
def ExK (σ : L2.St) (Fz : Fzn) (H : Hp) (e : Exn) (g : Sg) : Prop := ∀ cl dx H' Fz', BRel b Fz' g σ H' → Ext Fz H Fz' H' → ExOk b.M Fz' H' e cl dx → W cl dx σ H'
/-- how a result is borne -/
abbrev Bear (α ξ : Type) := L2.St → Fzn → Hp → Sg → α → ξ → Prop
def bE : Bear D V := fun _ Fz H _ d x => Rep b.M Fz H d x
def bF : Bear (List D) V := fun σ Fz H g ds x => ∃ p vs, x = .ref p ∧ b.H0 p = none ∧ ¬ Fz p ∧ H p = some (.lst vs) ∧ (∀ i, ¬ AOwn g σ H i p) ∧ RepL b.M Fz H ds vs
def bA : Bear (List D) (List V) := fun _ Fz H _ ds xs => RepL b.M Fz H ds xs
def bB : Bear Bool Bool := fun _ _ _ _ c x => x = c
def AVOk (σ : L2.St) (Fz : Fzn) (H : Hp) (g : Sg) : AV → V → Prop
  | .d d, x => Rep b.M Fz H d x
  | .o i, x => ∃ a, x = .ref a ∧ Own g σ i a
def AVsOk (σ : L2.St) (Fz : Fzn) (H : Hp) (g : Sg) : List AV → List V → Prop
  | [], xs => xs = []
  | a :: as, xs => ∃ x r, xs = x :: r ∧ AVOk b σ Fz H g a x ∧ AVsOk σ Fz H g as r
def bV : Bear (List AV) (List V) := fun σ Fz H g as xs => AVsOk b σ Fz H g as xs
def b1 : Bear AV V := fun σ Fz H g as xs => AVOk b σ Fz H g as xs
/-- a piece's post, from one state on -/
def Po {α ξ : Type} (P : Bear α ξ) (σ : L2.St) (Fz : Fzn) (H : Hp) (K : ξ → Sg → Fzn → Hp → α → Prop) (r : R α) : Prop := match r with
  | .ok a g' => ∀ x H' Fz', BRel b Fz' g' σ H' → Ext Fz H Fz' H' → P σ Fz' H' g' a x → K x g' Fz' H' a
  | .ex e g' => ExK b W σ Fz H e g'
  | .no => False
def tG {α ξ : Type} (P : Bear α ξ) (f : Sg → R α) : L2.St → Hp → (ξ → Hp → Prop) → Prop := fun σ H Q => ∃ Fz g, BRel b Fz g σ H ∧ Po b W P σ Fz H (fun x _ _ H' _ => Q x H') (f g)
abbrev tE (f : FE) : TE := tG b W (bE b) f
abbrev tFr (f : FF) : TE := tG b W (bF b) f
abbrev tAr (f : FA) : TA := tG b W (bA b) f
abbrev tAv (f : FV) : TA := tG b W (bV b) f
abbrev tA1 (f : Sg → R AV) : TE := tG b W (b1 b) f
abbrev tBo (f : FB) : TT := tG b W bB f
/-- onward: what is held stands, the slots but those of as are as they were -/
structure Go (as : List Nat) (σ : L2.St) (Fz : Fzn) (H : Hp) (σ' : L2.St) (Fz' : Fzn) (H' : Hp) : Prop where
  ex : Ext Fz H Fz' H'
  sl : ∀ i, i ∉ as → σ'[i]? = σ[i]?
/-- a statement's post -/
def PoS (as : List Nat) (σ : L2.St) (Fz : Fzn) (H : Hp) (D : Ends) (r : RS) : Prop := match r with
  | .nx g' => ∀ σ' H' Fz', BRel b Fz' g' σ' H' → Go as σ Fz H σ' Fz' H' → D.nx σ' H'
  | .rt d g' => ∀ x σ' H' Fz', BRel b Fz' g' σ' H' → Rep b.M Fz' H' d x → D.rt x H'
  | .rf ds g' => ∀ x σ' H' Fz', BRel b Fz' g' σ' H' → bF b σ' Fz' H' g' ds x → D.rt x H'
  | .bk g' => ∀ σ' H' Fz', BRel b Fz' g' σ' H' → Go as σ Fz H σ' Fz' H' → D.bk σ' H'
  | .ct g' => ∀ σ' H' Fz', BRel b Fz' g' σ' H' → Go as σ Fz H σ' Fz' H' → D.ct σ' H'
  | .ex e g' => ∀ σ' cl dx H' Fz', BRel b Fz' g' σ' H' → Go as σ Fz H σ' Fz' H' → ExOk b.M Fz' H' e cl dx → W cl dx σ' H'
  | .no => False
/-- as: the slots that it may store -/
def tSt (as : List Nat) (f : FS) : TS := fun D σ H => ∃ Fz g, BRel b Fz g σ H ∧ PoS b W as σ Fz H D (f g)
end
end DL

set_option Elab.async false
set_option linter.all false
set_option maxRecDepth 100000
set_option maxHeartbeats 2000000
/-! Den1: how the state is carried; plain expressions. -/
namespace DL
open PySem L2 PySem.Spec PyProof.Rows

/-! ### growth of the heap -/
structure GrowTo (Fz : Fzn) (H : Hp) (Fz' : Fzn) (H' : Hp) : Prop where
  st : ∀ a o, H a = some o → H' a = some o
  fz : ∀ a, Fz a → Fz' a
  new : ∀ a, Fz' a → Fz a ∨ (H a = none ∧ ∃ o, H' a = some o)
theorem GrowTo.refl {Fz : Fzn} {H : Hp} : GrowTo Fz H Fz H := ⟨fun _ _ h => h, fun _ h => h, fun _ h => .inl h⟩
theorem GrowTo.ext {Fz Fz' : Fzn} {H H' : Hp} (e : GrowTo Fz H Fz' H') : Ext Fz H Fz' H' := ⟨e.fz, fun a o h _ => e.st a o h⟩
theorem GrowTo.trans {Fz Fz1 Fz2 : Fzn} {H H1 H2 : Hp} (a : GrowTo Fz H Fz1 H1) (b : GrowTo Fz1 H1 Fz2 H2) : GrowTo Fz H Fz2 H2 :=
  ⟨fun x o h => b.st x o (a.st x o h), fun x h => b.fz x (a.fz x h), fun x h => by
    rcases b.new x h with q | ⟨q, o, r⟩
    · rcases a.new x q with z | ⟨z, o, r⟩
      · exact .inl z
      · exact .inr ⟨z, o, b.st x o r⟩
    · refine .inr ⟨?_, o, r⟩
      cases e : H x with
      | none => rfl
      | some u => rw [a.st x u e] at q; cases q⟩
theorem upd_old {H : Hp} {p : Addr} {o : HO} (hp : H p = none) : ∀ a u, H a = some u → upd H p o a = some u := fun a u e => by
  rw [upd_ne (ne_of_none e hp)]; exact e
/-- a new object, not frozen -/
theorem GrowTo.alloc {Fz : Fzn} {H : Hp} {p : Addr} {o : HO} (hp : H p = none) : GrowTo Fz H Fz (upd H p o) := ⟨upd_old hp, fun _ h => h, fun _ h => .inl h⟩
/-- a new object, frozen -/
def fzAdd (Fz : Fzn) (p : Addr) : Fzn := fun a => Fz a ∨ a = p
theorem GrowTo.allocF {Fz : Fzn} {H : Hp} {p : Addr} {o : HO} (hp : H p = none) : GrowTo Fz H (fzAdd Fz p) (upd H p o) :=
  ⟨upd_old hp, fun _ h => .inl h, fun a h => by
    rcases h with h | h
    · exact .inl h
    · subst h; exact .inr ⟨hp, o, upd_same⟩⟩

theorem Rep.grow {M : MM} {Fz Fz' : Fzn} {H H' : Hp} (e : GrowTo Fz H Fz' H') {d : D} {v : V} (h : Rep M Fz H d v) : Rep M Fz' H' d v := Rep.mono e.ext d v h
theorem RepL.grow {M : MM} {Fz Fz' : Fzn} {H H' : Hp} (e : GrowTo Fz H Fz' H') {d : List D} {v : List V} (h : RepL M Fz H d v) : RepL M Fz' H' d v := RepL.mono e.ext d v h
theorem KRep.mono {κ : Type} {M : MM} {Fz Fz' : Fzn} {H H' : Hp} (e : Ext Fz H Fz' H') {kvs : List (κ × D)} {ws : List (κ × V)} (h : KRep M Fz H kvs ws) : KRep M Fz' H' kvs ws := ⟨h.1, RepL.mono e _ _ h.2⟩
theorem OwnAt.mono {M : MM} {Fz Fz' : Fzn} {H H' : Hp} (e : Ext Fz H Fz' H') {s : S} {u : HO} (h : OwnAt M Fz H s u) : OwnAt M Fz' H' s u := by
  cases s with
  | ow ds => obtain ⟨vs, e1, r⟩ := h; exact ⟨vs, e1, RepL.mono e _ _ r⟩
  | oK kvs => obtain ⟨vs, e1, r⟩ := h; exact ⟨vs, e1, r.mono e⟩
  | oT kvs => obtain ⟨vs, e1, r⟩ := h; exact ⟨vs, e1, r.mono e⟩
  | oi c ns ds => obtain ⟨C, dx, vs, e1, m, l, r⟩ := h; exact ⟨C, dx, vs, e1, m, l, RepL.mono e _ _ r⟩
  | un => exact h
  | on dss => exact h
  | v d => exact h
theorem OwnAt.mut {M : MM} {Fz : Fzn} {H : Hp} {s : S} {u : HO} (h : OwnAt M Fz H s u) : Mut (some u) := by
  cases s with
  | ow ds => obtain ⟨vs, e1, r⟩ := h; subst e1; trivial
  | oK kvs => obtain ⟨vs, e1, r⟩ := h; subst e1; trivial
  | oT kvs => obtain ⟨vs, e1, r⟩ := h; subst e1; trivial
  | oi c ns ds => obtain ⟨C, dx, vs, e1, _⟩ := h; subst e1; trivial
  | un => exact h.elim
  | on dss => exact h.elim
  | v d => exact h.elim
theorem OwnAt.isOw {M : MM} {Fz : Fzn} {H : Hp} {s : S} {u : HO} (h : OwnAt M Fz H s u) : s.isOw = true := by
  cases s <;> first | rfl | exact h.elim
theorem SlotOk.own {M : MM} {Fz : Fzn} {H : Hp} {s : S} {o : Option (Option V)} (h : SlotOk M Fz H s o) (i : s.isOw = true) : ∃ a u, o = some (some (.ref a)) ∧ ¬ Fz a ∧ H a = some u ∧ OwnAt M Fz H s u := by
  cases s with
  | un => cases i
  | on dss => cases i
  | v d => cases i
  | _ => exact h
theorem SlotOk.of_own {M : MM} {Fz : Fzn} {H : Hp} {s : S} {o : Option (Option V)} {a : Addr} {u : HO} (e : o = some (some (.ref a))) (n : ¬ Fz a) (h : H a = some u) (w : OwnAt M Fz H s u) : SlotOk M Fz H s o := by
  cases s with
  | un => exact w.elim
  | on dss => exact w.elim
  | v d => exact w.elim
  | _ => exact ⟨a, u, e, n, h, w⟩

section
variable {b b' : B} {W : WX} {Fz Fz' : Fzn} {g g' : Sg} {σ σ' : L2.St} {H H' : Hp}
theorem Nst.nown (n : Nst b Fz g σ H) {i : Nat} {dss : List (List D)} {a : Addr} (hg : g[i]? = some (S.on dss)) (hs : σ[i]? = some (some (V.ref a))) : NOwn g σ H i a := by
  obtain ⟨a2, ps, e, h, _⟩ := n.at_ i dss hg
  rw [hs] at e
  injection e with e
  injection e with e
  injection e with e
  subst e
  exact ⟨dss, a, _, hg, hs, h, .inl rfl⟩
theorem Nst.step (n : Nst b Fz g σ H) (hM : b'.M = b.M) (ex : Ext Fz H Fz' H')
    (hg : ∀ (i : Nat) (dss : List (List D)), g'[i]? = some (S.on dss) → g[i]? = some (S.on dss) ∧ σ'[i]? = σ[i]?)
    (hh : ∀ (i : Nat) (x : Addr), NOwn g σ H i x → H' x = H x)
    (hf : ∀ (i : Nat) (x : Addr), NOwn g σ H i x → ¬ Fz' x ∧ b'.H0 x = none ∧ ∀ j : Nat, ¬ Own g' σ' j x) : Nst b' Fz' g' σ' H' := by
  have back : ∀ (i : Nat) (x : Addr), NOwn g' σ' H' i x → NOwn g σ H i x := fun i x ⟨dss, a, vs, h1, h2, h3, h4⟩ => by
    obtain ⟨k1, k2⟩ := hg i dss h1
    rw [k2] at h2
    rw [hh i a (n.nown k1 h2)] at h3
    exact ⟨dss, a, vs, k1, h2, h3, h4⟩
  refine ⟨fun i dss h => ?_, fun i x h => hf i x (back i x h), fun i j x p q => n.one i j x (back i x p) (back j x q)⟩
  obtain ⟨k1, k2⟩ := hg i dss h
  obtain ⟨a, ps, e1, e2, e3, e4, e5⟩ := n.at_ i dss k1
  refine ⟨a, ps, by rw [k2]; exact e1, by rw [hh i a (n.nown k1 e1)]; exact e2, e3, e4, fun k p ds h1 h2 => ?_⟩
  obtain ⟨vs, h3, h4⟩ := e5 k p ds h1 h2
  refine ⟨vs, ?_, ?_⟩
  · rw [hh i p ⟨dss, a, _, k1, e1, e2, .inr (List.mem_map.mpr ⟨p, List.mem_of_getElem? h1, rfl⟩)⟩]; exact h3
  · rw [hM]; exact RepL.mono ex _ _ h4
theorem NOwn.there (n : Nst b Fz g σ H) {i : Nat} {x : Addr} (h : NOwn g σ H i x) : ∃ vs : List V, H x = some (HO.lst vs) := by
  obtain ⟨dss, a, vs, h1, h2, h3, h4⟩ := h
  rcases h4 with h4 | h4
  · subst h4; exact ⟨vs, h3⟩
  · obtain ⟨a2, ps, e1, e2, e3, e4, e5⟩ := n.at_ i dss h1
    rw [h2] at e1
    injection e1 with e1
    injection e1 with e1
    injection e1 with e1
    subst e1
    rw [h3] at e2
    injection e2 with e2
    injection e2 with e2
    subst e2
    obtain ⟨p, hp, ep⟩ := List.mem_map.mp h4
    injection ep with ep
    subst ep
    obtain ⟨k, hk⟩ := List.getElem?_of_mem hp
    have hl : k < dss.length := by rw [← e4]; exact (List.getElem?_eq_some_iff.mp hk).1
    obtain ⟨vs', h3', _⟩ := e5 k p dss[k] hk (List.getElem?_eq_getElem hl)
    exact ⟨vs', h3'⟩
/-- the heap changed at one place that no nested slot has -/
theorem Nst.upd (n : Nst b Fz g σ H) {a : Addr} {u : HO} (ha : ∀ i, ¬ NOwn g σ H i a) : ∀ (i : Nat) (x : Addr), NOwn g σ H i x → L2.upd H a u x = H x := fun i x h => upd_ne fun z => ha i (by rw [← z]; exact h)
theorem SlotOk.grow {M : MM} (e : GrowTo Fz H Fz' H') {s : S} {o : Option (Option V)} (h : SlotOk M Fz H s o) : SlotOk M Fz' H' s o := by
  cases s with
  | un => trivial
  | on dss => trivial
  | v d => obtain ⟨x, e1, r⟩ := h; exact ⟨x, e1, r.grow e⟩
  | _ =>
    obtain ⟨a, u, e1, n, h1, w⟩ := h
    refine ⟨a, u, e1, fun q => ?_, e.st a u h1, w.mono e.ext⟩
    rcases e.new a q with z | ⟨z, _⟩
    · exact n z
    · rw [h1] at z; cases z
theorem Grow.grow (r : Grow b Fz H) (e : GrowTo Fz H Fz' H') : Grow b Fz' H' where
  dom := fun a h => by
    rcases e.new a h with z | ⟨_, z⟩
    · obtain ⟨o, q⟩ := r.dom a z
      exact ⟨o, e.st a o q⟩
    · exact z
  fz := fun a h => e.fz a (r.fz a h)
  new := fun a h => by
    rcases e.new a h with z | ⟨z, _⟩
    · exact r.new a z
    · refine .inr ?_
      cases q : b.H0 a with
      | none => rfl
      | some o =>
        by_cases hoa : b.OA a
        · obtain ⟨⟨o', h'⟩, _⟩ := r.oa a hoa
          rw [z] at h'; cases h'
        · rw [r.fr a o q hoa] at z; cases z
  fr := fun a o h n => e.st a o (r.fr a o h n)
  oa := fun a h => let ⟨⟨o, q⟩, z⟩ := r.oa a h; ⟨⟨o, e.st a o q⟩, z⟩
theorem BRel.grow (r : BRel b Fz g σ H) (e : GrowTo Fz H Fz' H') : BRel b Fz' g σ H' :=
  ⟨r.gr.grow e, ⟨r.rel.len, fun i s h => (r.rel.ok i s h).grow e, r.rel.apart⟩, r.own, r.pin, r.px, r.nst.step rfl e.ext (fun i dss h => ⟨h, rfl⟩) (fun i x h => by
    obtain ⟨vs, hv⟩ := NOwn.there r.nst h
    rw [hv]; exact e.st _ _ hv) fun i x h => by
    obtain ⟨vs, hv⟩ := NOwn.there r.nst h
    obtain ⟨k1, k2, k3⟩ := r.nst.free i x h
    refine ⟨fun z => ?_, k2, k3⟩
    rcases e.new x z with y | ⟨y, _⟩
    · exact k1 y
    · rw [hv] at y; cases y⟩
theorem BRel.alloc (r : BRel b Fz g σ H) {p : Addr} {o : HO} (hp : H p = none) : BRel b Fz g σ (upd H p o) := r.grow (.alloc hp)
theorem BRel.allocF (r : BRel b Fz g σ H) {p : Addr} {o : HO} (hp : H p = none) : BRel b (fzAdd Fz p) g σ (upd H p o) := r.grow (.allocF hp)
/-- what is new of the heap is new of the entry -/
theorem BRel.new0 (r : BRel b Fz g σ H) {p : Addr} (hp : H p = none) : b.H0 p = none := by
  cases q : b.H0 p with
  | none => rfl
  | some o =>
    by_cases hoa : b.OA p
    · obtain ⟨⟨o', h'⟩, _⟩ := r.gr.oa p hoa
      rw [hp] at h'; cases h'
    · rw [r.gr.fr p o q hoa] at hp; cases hp
theorem BRel.notFz (r : BRel b Fz g σ H) {p : Addr} (hp : H p = none) : ¬ Fz p := fun h => by
  obtain ⟨o, q⟩ := r.gr.dom p h
  rw [hp] at q; cases q
theorem BRel.slot (r : BRel b Fz g σ H) {i : Nat} {s : S} (h : g[i]? = some s) : SlotOk b.M Fz H s σ[i]? := r.rel.ok i s h
theorem BRel.there (r : BRel b Fz g σ H) {i : Nat} {a : Addr} (h : Own g σ i a) : ∃ s u, g[i]? = some s ∧ ¬ Fz a ∧ H a = some u ∧ OwnAt b.M Fz H s u := by
  obtain ⟨⟨s, e, w⟩, q⟩ := h
  obtain ⟨a', u, e1, n, h1, w1⟩ := (r.slot e).own w
  rw [q] at e1
  have e2 : a = a' := by injection e1 with e1; injection e1 with e1; injection e1
  subst e2
  exact ⟨s, u, e, n, h1, w1⟩
theorem BRel.notOwn (r : BRel b Fz g σ H) {p : Addr} (hp : H p = none) : ∀ i, ¬ Own g σ i p := fun i h => by
  obtain ⟨s, u, _, _, q, _⟩ := r.there h
  rw [hp] at q; cases q

theorem BRel.notN (r : BRel b Fz g σ H) {p : Addr} (hp : H p = none) : ∀ i, ¬ NOwn g σ H i p := fun i h => by
  obtain ⟨vs, q⟩ := NOwn.there r.nst h
  rw [hp] at q; cases q
theorem BRel.notA (r : BRel b Fz g σ H) {p : Addr} (hp : H p = none) : ∀ i, ¬ AOwn g σ H i p := fun i h => h.elim (r.notOwn hp i) (r.notN hp i)
/-- a new object is no slot's, whatever becomes of it -/
theorem BRel.notAu (r : BRel b Fz g σ H) {p : Addr} {u : HO} (hp : H p = none) : ∀ i, ¬ AOwn g σ (upd H p u) i p := fun i h => h.elim (r.notOwn hp i) fun ⟨dss, a, vs, h1, h2, h3, h4⟩ => by
  obtain ⟨a2, ps, e1, e2, e3, e4, e5⟩ := r.nst.at_ i dss h1
  rw [h2] at e1
  injection e1 with e1
  injection e1 with e1
  injection e1 with e1
  subst e1
  have ne : a ≠ p := fun z => by subst z; rw [hp] at e2; cases e2
  rw [upd_ne ne] at h3
  exact r.notN hp i ⟨dss, a, vs, h1, h2, h3, h4⟩
theorem gset_get {i j : Nat} {s t : S} (h : (g.set i s)[j]? = some t) : (j = i ∧ t = s) ∨ (j ≠ i ∧ g[j]? = some t) := by
  by_cases e : i = j
  · subst e
    by_cases hl : i < g.length
    · rw [List.getElem?_set_self hl] at h
      exact .inl ⟨rfl, (Option.some.inj h).symm⟩
    · rw [List.getElem?_eq_none (by rw [List.length_set]; omega)] at h
      cases h
  · rw [List.getElem?_set_ne e] at h
    exact .inr ⟨fun q => e q.symm, h⟩
theorem own_set {i j : Nat} {s : S} {a : Addr} (hi : ∃ s0, g[i]? = some s0 ∧ s0.isOw = true) (h : Own (g.set i s) σ j a) : Own g σ j a := by
  obtain ⟨⟨t, e, w⟩, q⟩ := h
  rcases gset_get e with ⟨e1, e2⟩ | ⟨_, e2⟩
  · subst e1
    exact ⟨hi, q⟩
  · exact ⟨⟨t, e2, w⟩, q⟩
/-- the own object of slot i is changed -/
theorem BRel.mut (r : BRel b Fz g σ H) {i : Nat} {a : Addr} {s' : S} {u' : HO} (h : Own g σ i a) (w : OwnAt b.M Fz H s' u') : BRel b Fz (g.set i s') σ (upd H a u') := by
  obtain ⟨s, u, e0, nf, hu, w0⟩ := r.there h
  have ne : ∀ x o, H x = some o → (Fz x ∨ ¬ Mut (some o)) → upd H a u' x = some o := fun x o hx q => by
    rw [upd_ne]
    · exact hx
    · intro z
      subst z
      rcases q with q | q
      · exact nf q
      · rw [hu] at hx; cases hx; exact q w0.mut
  have ex : Ext Fz H Fz (upd H a u') := ⟨fun _ q => q, ne⟩
  have hi : ∃ s0, g[i]? = some s0 ∧ s0.isOw = true := h.1
  refine ⟨⟨fun x q => ?_, r.gr.fz, r.gr.new, fun x o q n => ?_, fun x q => ?_⟩, ⟨by rw [List.length_set]; exact r.rel.len, fun j t q => ?_, fun j k x p q => r.rel.apart j k x (own_set hi p) (own_set hi q)⟩, fun j x q => r.own j x (own_set hi q), fun j x l q => r.pin j x l (own_set hi q), r.px,
    r.nst.step rfl ex (fun j dss q => (gset_get q).elim (fun ⟨_, e2⟩ => by subst e2; exact w.elim) fun ⟨_, e2⟩ => ⟨e2, rfl⟩) (r.nst.upd fun j q => (r.nst.free j a q).2.2 i h) fun j x q => let ⟨k1, k2, k3⟩ := r.nst.free j x q; ⟨k1, k2, fun l o => k3 l (own_set hi o)⟩⟩
  · obtain ⟨o, z⟩ := r.gr.dom x q
    exact ⟨o, ne x o z (.inl q)⟩
  · rw [upd_ne]
    · exact r.gr.fr x o q n
    · intro z
      subst z
      rcases r.own i x h with ⟨_, y⟩ | ⟨_, y⟩
      · exact n y
      · rw [q] at y; cases y
  · obtain ⟨⟨o, z⟩, y⟩ := r.gr.oa x q
    refine ⟨?_, y⟩
    by_cases hx : x = a
    · subst hx; exact ⟨u', upd_same⟩
    · exact ⟨o, by rw [upd_ne hx]; exact z⟩
  · rcases gset_get q with ⟨e1, e2⟩ | ⟨hj, e2⟩
    · subst e1; subst e2
      exact SlotOk.of_own h.2 nf upd_same (w.mono ex)
    · have z := r.slot e2
      by_cases ht : t.isOw = true
      · obtain ⟨x, o, e3, n3, h3, w3⟩ := z.own ht
        have hx : x ≠ a := fun y => by
          subst y
          exact hj (r.rel.apart j i x ⟨⟨t, e2, ht⟩, e3⟩ h)
        exact SlotOk.of_own e3 n3 (by rw [upd_ne hx]; exact h3) (w3.mono ex)
      · cases t with
        | un => trivial
        | on dss => trivial
        | v d => obtain ⟨x, e3, r3⟩ := z; exact ⟨x, e3, Rep.mono ex d x r3⟩
        | _ => exact absurd rfl ht
/-- slot i gets plain data -/
theorem BRel.setV (r : BRel b Fz g σ H) {i : Nat} {d : D} {x : V} (hx : PxOk b i) (h : Rep b.M Fz H d x) : BRel b Fz (g.set i (.v d)) (σ.set i (some x)) H := by
  have ow : ∀ {j a}, Own (g.set i (.v d)) (σ.set i (some x)) j a → j ≠ i ∧ Own g σ j a := fun {j a} q => by
    obtain ⟨⟨t, e, w⟩, z⟩ := q
    rcases gset_get e with ⟨_, e2⟩ | ⟨hj, e2⟩
    · subst e2; cases w
    · refine ⟨hj, ⟨t, e2, w⟩, ?_⟩
      rw [List.getElem?_set_ne (Ne.symm hj)] at z
      exact z
  refine ⟨r.gr, ⟨by rw [List.length_set, List.length_set]; exact r.rel.len, fun j t q => ?_, fun j k a p q => r.rel.apart j k a (ow p).2 (ow q).2⟩, fun j a q => r.own j a (ow q).2, fun j a l q => r.pin j a l (ow q).2, fun j a q => (List.getElem?_set_ne fun z => hx a (by rw [z]; exact q)).trans (r.px j a q),
    r.nst.step rfl .refl (fun j dss q => (gset_get q).elim (fun ⟨_, e2⟩ => by cases e2) fun ⟨hj, e2⟩ => ⟨e2, List.getElem?_set_ne (Ne.symm hj)⟩) (fun _ _ _ => rfl) fun j x q => let ⟨k1, k2, k3⟩ := r.nst.free j x q; ⟨k1, k2, fun l o => k3 l (ow o).2⟩⟩
  rcases gset_get q with ⟨e1, e2⟩ | ⟨hj, e2⟩
  · subst e1; subst e2
    have hl : j < σ.length := by
      have z := (List.getElem?_eq_some_iff.mp q).1
      rw [List.length_set] at z
      rw [← r.rel.len]; exact z
    exact ⟨x, List.getElem?_set_self hl, h⟩
  · rw [List.getElem?_set_ne (Ne.symm hj)]
    exact r.slot e2
/-- slot i (no parameter) gets a new own object -/
theorem BRel.setO (r : BRel b Fz g σ H) {i : Nat} {s : S} {p : Addr} {u : HO} (hx : PxOk b i) (hnp : b.np ≤ i) (hp0 : b.H0 p = none) (hf : ¬ Fz p) (hu : H p = some u) (hA : ∀ j, ¬ AOwn g σ H j p) (w : OwnAt b.M Fz H s u) : BRel b Fz (g.set i s) (σ.set i (some (.ref p))) H := by
  have ho : ∀ j, ¬ Own g σ j p := fun j z => hA j (.inl z)
  have hq : ∀ j, ¬ NOwn g σ H j p := fun j z => hA j (.inr z)
  have ow : ∀ {j a}, Own (g.set i s) (σ.set i (some (.ref p))) j a → (j = i ∧ a = p) ∨ (j ≠ i ∧ Own g σ j a) := fun {j a} q => by
    obtain ⟨⟨t, e, w⟩, z⟩ := q
    rcases gset_get e with ⟨e1, e2⟩ | ⟨hj, e2⟩
    · subst e1
      refine .inl ⟨rfl, ?_⟩
      have hl : j < σ.length := by
        have z := (List.getElem?_eq_some_iff.mp e).1
        rw [List.length_set] at z
        rw [← r.rel.len]; exact z
      rw [List.getElem?_set_self hl] at z
      injection z with z
      injection z with z
      injection z with z
      exact z.symm
    · refine .inr ⟨hj, ⟨t, e2, w⟩, ?_⟩
      rw [List.getElem?_set_ne (Ne.symm hj)] at z
      exact z
  refine ⟨r.gr, ⟨by rw [List.length_set, List.length_set]; exact r.rel.len, fun j t q => ?_, fun j k a p q => ?_⟩, fun j a q => ?_, fun j a l q => ?_, fun j a q => (List.getElem?_set_ne fun z => hx a (by rw [z]; exact q)).trans (r.px j a q),
    r.nst.step rfl .refl (fun j dss q => (gset_get q).elim (fun ⟨_, e2⟩ => by subst e2; exact w.elim) fun ⟨hj, e2⟩ => ⟨e2, List.getElem?_set_ne (Ne.symm hj)⟩) (fun _ _ _ => rfl) fun j x q => let ⟨k1, k2, k3⟩ := r.nst.free j x q; ⟨k1, k2, fun l o => (ow o).elim (fun z => hq j (by rw [← z.2]; exact q)) fun z => k3 l z.2⟩⟩
  · rcases gset_get q with ⟨e1, e2⟩ | ⟨hj, e2⟩
    · subst e1; subst e2
      have hl : j < σ.length := by
        have z := (List.getElem?_eq_some_iff.mp q).1
        rw [List.length_set] at z
        rw [← r.rel.len]; exact z
      exact SlotOk.of_own (List.getElem?_set_self hl) hf hu w
    · rw [List.getElem?_set_ne (Ne.symm hj)]
      exact r.slot e2
  · rcases ow p with ⟨e1, e2⟩ | ⟨e1, e2⟩
    · rcases ow q with ⟨e3, e4⟩ | ⟨e3, e4⟩
      · rw [e1, e3]
      · subst e2; exact absurd e4 (ho k)
    · rcases ow q with ⟨e3, e4⟩ | ⟨e3, e4⟩
      · subst e4; exact absurd e2 (ho j)
      · exact r.rel.apart j k a e2 e4
  · rcases ow q with ⟨e1, e2⟩ | ⟨e1, e2⟩
    · subst e2; exact .inr ⟨by omega, hp0⟩
    · exact r.own j a e2
  · rcases ow q with ⟨e1, e2⟩ | ⟨e1, e2⟩
    · omega
    · exact r.pin j a l e2
/-- slot i is forgotten -/
theorem BRel.forget (r : BRel b Fz g σ H) (i : Nat) : BRel b Fz (g.set i .un) σ H := by
  have ow : ∀ {j a}, Own (g.set i .un) σ j a → Own g σ j a := fun {j a} q => by
    obtain ⟨⟨t, e, w⟩, z⟩ := q
    rcases gset_get e with ⟨_, e2⟩ | ⟨hj, e2⟩
    · subst e2; cases w
    · exact ⟨⟨t, e2, w⟩, z⟩
  refine ⟨r.gr, ⟨by rw [List.length_set]; exact r.rel.len, fun j t q => ?_, fun j k a p q => r.rel.apart j k a (ow p) (ow q)⟩, fun j a q => r.own j a (ow q), fun j a l q => r.pin j a l (ow q), r.px,
    r.nst.step rfl .refl (fun j dss q => (gset_get q).elim (fun ⟨_, e2⟩ => by cases e2) fun ⟨_, e2⟩ => ⟨e2, rfl⟩) (fun _ _ _ => rfl) fun j x q => let ⟨k1, k2, k3⟩ := r.nst.free j x q; ⟨k1, k2, fun l o => k3 l (ow o)⟩⟩
  rcases gset_get q with ⟨_, e2⟩ | ⟨_, e2⟩
  · subst e2; trivial
  · exact r.slot e2
/-- the own list of slot i (no parameter) is frozen: from now on it is data -/
theorem BRel.freeze (r : BRel b Fz g σ H) {i : Nat} {a : Addr} {u : HO} (hnp : b.np ≤ i) (h : Own g σ i a) {d : D} (hd : ∀ Fz', Fz' a → Ext Fz H Fz' H → Rep b.M Fz' H d (.ref a)) : BRel b (fzAdd Fz a) (g.set i (.v d)) σ H := by
  obtain ⟨s, u0, e0, nf, hu, w0⟩ := r.there h
  have ex : Ext Fz H (fzAdd Fz a) H := ⟨fun _ q => .inl q, fun _ _ q _ => q⟩
  have ow : ∀ {j x}, Own (g.set i (.v d)) σ j x → j ≠ i ∧ Own g σ j x := fun {j x} q => by
    obtain ⟨⟨t, e, w⟩, z⟩ := q
    rcases gset_get e with ⟨_, e2⟩ | ⟨hj, e2⟩
    · subst e2; cases w
    · exact ⟨hj, ⟨t, e2, w⟩, z⟩
  refine ⟨⟨fun x q => ?_, fun x q => .inl (r.gr.fz x q), fun x q => ?_, r.gr.fr, r.gr.oa⟩, ⟨by rw [List.length_set]; exact r.rel.len, fun j t q => ?_, fun j k x p q => r.rel.apart j k x (ow p).2 (ow q).2⟩, fun j x q => r.own j x (ow q).2, fun j x l q => r.pin j x l (ow q).2, r.px,
    r.nst.step rfl ex (fun j dss q => (gset_get q).elim (fun ⟨_, e2⟩ => by cases e2) fun ⟨_, e2⟩ => ⟨e2, rfl⟩) (fun _ _ _ => rfl) fun j x q => let ⟨k1, k2, k3⟩ := r.nst.free j x q; ⟨fun z => z.elim k1 fun z => k3 i (by rw [z]; exact h), k2, fun l o => k3 l (ow o).2⟩⟩
  · rcases q with q | q
    · exact r.gr.dom x q
    · subst q; exact ⟨u0, hu⟩
  · rcases q with q | q
    · exact r.gr.new x q
    · subst q
      rcases r.own i x h with ⟨z, _⟩ | ⟨_, z⟩
      · omega
      · exact .inr z
  · rcases gset_get q with ⟨e1, e2⟩ | ⟨hj, e2⟩
    · subst e1; subst e2
      exact ⟨.ref a, h.2, hd _ (.inr rfl) ex⟩
    · have z := r.slot e2
      by_cases ht : t.isOw = true
      · obtain ⟨x, o, e3, n3, h3, w3⟩ := z.own ht
        refine SlotOk.of_own e3 (fun y => ?_) h3 (w3.mono ex)
        rcases y with y | y
        · exact n3 y
        · subst y
          exact hj (r.rel.apart j i x ⟨⟨t, e2, ht⟩, e3⟩ h)
      · cases t with
        | un => trivial
        | on dss => trivial
        | v d => obtain ⟨x, e3, r3⟩ := z; exact ⟨x, e3, Rep.mono ex d x r3⟩
        | _ => exact absurd rfl ht
end
end DL

set_option Elab.async false
set_option linter.all false
set_option maxRecDepth 100000
set_option maxHeartbeats 2000000
/-! Den2: denotations of expressions, and that the syntax has them. -/
namespace DL
open PySem L2 PySem.Spec PyProof.Rows

def gat : Sg → Nat → S
  | [], _ => .un
  | s :: _, 0 => s
  | _ :: g, i + 1 => gat g i
theorem gat_get : ∀ {g : Sg} {i : Nat} {s : S}, gat g i = s → s ≠ .un → g[i]? = some s
  | [], _, s, h, n => absurd h.symm n
  | t :: _, 0, s, h, _ => by
    have h' : t = s := h
    rw [h']; rfl
  | _ :: g, i + 1, s, h, n => gat_get (g := g) (i := i) h n

theorem get_gat : ∀ {g : Sg} {i : Nat} {s : S}, g[i]? = some s → gat g i = s
  | [], _, _, h => by simp at h
  | t :: _, 0, s, h => by
    have h' : t = s := by simpa using h
    exact h'
  | _ :: g, i + 1, s, h => get_gat (g := g) (i := i) (by simpa using h)

theorem pe_mono {X : Cx} {e : Expr} {t t' : TE} (h : PE X e t) (i : ∀ σ H Q, t' σ H Q → t σ H Q) : PE X e t' := ⟨fun pins s σ H Q I hw => h.run pins s σ H Q I (i _ _ _ hw)⟩
theorem pt_mono {X : Cx} {e : Expr} {t t' : TT} (h : PT X e t) (i : ∀ σ H Q, t' σ H Q → t σ H Q) : PT X e t' := ⟨fun pins s σ H Q I hw => h.run pins s σ H Q I (i _ _ _ hw)⟩
theorem pw_mono {X : Cx} {e : Expr} {t t' : TT} (h : PW X e t) (i : ∀ σ H Q, t' σ H Q → t σ H Q) : PW X e t' := ⟨fun wh pins s σ H Q I hw => h.run wh pins s σ H Q I (i _ _ _ hw)⟩
theorem pa_mono {X : Cx} {e : List Expr} {t t' : TA} (h : PA X e t) (i : ∀ σ H Q, t' σ H Q → t σ H Q) : PA X e t' := ⟨fun pos pins s σ H Q I hw => h.run pos pins s σ H Q I (i _ _ _ hw)⟩
theorem ps_mono {X : Cx} {e : Stmt} {t t' : TS} (h : PS X e t) (i : ∀ D σ H, t' D σ H → t D σ H) : PS X e t' := ⟨fun pins s σ H D I hw => h.run pins s σ H D I (i _ _ _ hw)⟩
theorem pss_mono {X : Cx} {e : List Stmt} {t t' : TS} (h : PSs X e t) (i : ∀ D σ H, t' D σ H → t D σ H) : PSs X e t' := ⟨fun pins s σ H D I hw => h.run pins s σ H D I (i _ _ _ hw)⟩

section
variable {b : B} {W : WX} {α β ξ ζ : Type} {P : Bear α ξ} {P2 : Bear β ζ} {σ : L2.St} {Fz Fz1 : Fzn} {H H1 : Hp} {g : Sg}
theorem Po.weak {K : ξ → Sg → Fzn → Hp → α → Prop} {r : R α} (e : Ext Fz H Fz1 H1) (h : Po b W P σ Fz H K r) : Po b W P σ Fz1 H1 K r := by
  cases r with
  | ok a g' => exact fun x H' Fz' r e' p => h x H' Fz' r (e.trans e') p
  | ex ee g' => exact fun cl dx H' Fz' r e' p => h cl dx H' Fz' r (e.trans e') p
  | no => exact h
/-- first f, then more -/
theorem tG_seq {f : Sg → R α} {Q : ξ → Hp → Prop} {K : ζ → Sg → Fzn → Hp → β → Prop} {k : α → Sg → R β} (r : BRel b Fz g σ H) (h : Po b W P2 σ Fz H K ((f g).bd k))
    (hk : ∀ d x g1 Fz1 H1, BRel b Fz1 g1 σ H1 → Ext Fz H Fz1 H1 → P σ Fz1 H1 g1 d x → Po b W P2 σ Fz1 H1 K (k d g1) → Q x H1) : tG b W P f σ H Q := by
  refine ⟨Fz, g, r, ?_⟩
  cases q : f g with
  | ok d g' => rw [q] at h; exact fun x H' Fz' r' e' rep => hk d x g' Fz' H' r' e' rep (h.weak e')
  | ex e g' => rw [q] at h; exact h
  | no => rw [q] at h; exact h
theorem Po.ok {K : ξ → Sg → Fzn → Hp → α → Prop} {a : α} {g' : Sg} (h : Po b W P σ Fz H K (.ok a g')) {x : ξ} {H' : Hp} {Fz' : Fzn} (r : BRel b Fz' g' σ H') (e : Ext Fz H Fz' H') (p : P σ Fz' H' g' a x) : K x g' Fz' H' a := h x H' Fz' r e p
end
def opt {α : Type} (o : Option α) (g : Sg) : R α := match o with
  | some z => .ok z g
  | none => .no
@[simp] theorem opt_some {α : Type} {z : α} {g : Sg} : opt (some z) g = .ok z g := rfl
@[simp] theorem opt_none {α : Type} {g : Sg} : opt (none : Option α) g = .no := rfl
theorem Po.opt {b : B} {W : WX} {α ξ : Type} {P : Bear α ξ} {σ : L2.St} {Fz : Fzn} {H : Hp} {K : ξ → Sg → Fzn → Hp → α → Prop} {o : Option α} {g : Sg} (h : Po b W P σ Fz H K (DL.opt o g)) : ∃ z, o = some z ∧ Po b W P σ Fz H K (.ok z g) := by
  cases o with
  | none => exact h.elim
  | some z => exact ⟨z, rfl, h⟩

section
variable {X : Cx} {b : B} {W : WX} {e e1 e2 e3 : Expr} {f f1 f2 f3 : FE} {pos p p2 : Pos}

/-! ### names and constants -/
def varF (i : Nat) : FE := fun g => match gat g i with
  | .v d => .ok d g
  | _ => .no
theorem pd_var {i : Nat} (h : PE X e (tVar i)) : PE X e (tE b W (varF i)) := pe_mono h fun σ H Q ⟨Fz, g, r, q⟩ => by
  unfold varF at q
  cases hg : gat g i with
  | v d =>
    rw [hg] at q
    obtain ⟨x, e1, rep⟩ := r.slot (gat_get hg (by intro z; cases z))
    exact ⟨x, e1, q x H Fz r .refl rep⟩
  | _ => rw [hg] at q; exact q.elim
/-- a name that may hold an own list: it is frozen -/
def frzF (i : Nat) : FE := fun g => match gat g i with
  | .v d => .ok d g
  | .ow ds => .ok (.lst ds) (g.set i (.v (.lst ds)))
  | _ => .no
theorem pd_frz {i : Nat} (h : PE X e (tVar i)) (hnp : b.np ≤ i) : PE X e (tE b W (frzF i)) := pe_mono h fun σ H Q ⟨Fz, g, r, q⟩ => by
  unfold frzF at q
  cases hg : gat g i with
  | v d =>
    rw [hg] at q
    obtain ⟨x, e1, rep⟩ := r.slot (gat_get hg (by intro z; cases z))
    exact ⟨x, e1, q x H Fz r .refl rep⟩
  | ow ds =>
    rw [hg] at q
    have hgi := gat_get hg (by intro z; cases z)
    obtain ⟨a, u, e1, nf, hu, vs, eu, rep⟩ := r.slot hgi
    subst eu
    have ex : Ext Fz H (fzAdd Fz a) H := ⟨fun _ q => .inl q, fun _ _ q _ => q⟩
    have hd : ∀ Fz', Fz' a → Ext Fz H Fz' H → Rep b.M Fz' H (.lst ds) (.ref a) := fun Fz' ha ex' => by
      unfold Rep
      exact ⟨a, vs, rfl, .inl ⟨ha, hu⟩, RepL.mono ex' _ _ rep⟩
    have r' := r.freeze (i := i) (a := a) (u := .lst vs) (d := .lst ds) hnp ⟨⟨_, hgi, rfl⟩, e1⟩ hd
    exact ⟨.ref a, e1, q (.ref a) H (fzAdd Fz a) r' ex (hd _ (.inr rfl) ex)⟩
  | _ => rw [hg] at q; exact q.elim
/-- a name as an argument: an own slot as it stands -/
def nmF (i : Nat) : Sg → R AV := fun g => match gat g i with
  | .v d => .ok (.d d) g
  | .un => .no
  | .on _ => .no
  | _ => .ok (.o i) g
theorem p1_nm {i : Nat} (h : PE X e (tVar i)) : PE X e (tA1 b W (nmF i)) := pe_mono h fun σ H Q ⟨Fz, g, r, q⟩ => by
  unfold nmF at q
  cases hg : gat g i with
  | un => rw [hg] at q; exact q.elim
  | on dss => rw [hg] at q; exact q.elim
  | v d =>
    rw [hg] at q
    obtain ⟨x, e1, rep⟩ := r.slot (gat_get hg (by intro z; cases z))
    exact ⟨x, e1, q x H Fz r .refl rep⟩
  | _ =>
    rw [hg] at q
    have hgi := gat_get hg (by intro z; cases z)
    obtain ⟨a, u, e1, nf, hu, w⟩ := r.slot hgi
    exact ⟨.ref a, e1, q (.ref a) H Fz r .refl ⟨a, rfl, ⟨_, hgi, rfl⟩, e1⟩⟩
def dF (f : FE) : Sg → R AV := fun g => (f g).bd fun d g1 => .ok (.d d) g1
theorem p1_d (h : PE X e (tE b W f)) : PE X e (tA1 b W (dF f)) := pe_mono h fun σ H Q ⟨Fz, g, r, q⟩ => tG_seq r q fun d x g1 Fz1 H1 r1 e1 rep h1 => h1.ok r1 .refl rep
def cF (d : D) : FE := fun g => .ok d g
theorem pd_c {v : V} {d : D} (h : PE X e (tC v)) (hr : ∀ Fz H, Rep b.M Fz H d v) : PE X e (tE b W (cF d)) := pe_mono h fun σ H Q ⟨Fz, g, r, q⟩ => q v H Fz r .refl (hr Fz H)
theorem pd_int {i j} : PE X (.Constant (.int i) j pos) (tE b W (cF (.int i))) := pd_c pe_int fun _ _ => by unfold Rep; rfl
theorem pd_bl {c j} : PE X (.Constant (.bool c) j pos) (tE b W (cF (.bl c))) := pd_c pe_bl fun _ _ => by unfold Rep; rfl
theorem pd_non {j} : PE X (.Constant .none j pos) (tE b W (cF .non)) := pd_c pe_non fun _ _ => by unfold Rep; rfl
theorem pd_str {x j} : PE X (.Constant (.str x) j pos) (tE b W (cF (.str x))) := pd_c pe_str fun _ _ => by unfold Rep; rfl

/-! ### operators on values -/
/-- o tells what the operator r makes of data -/
def OpT (M : MM) (r : R2) (o : D → D → Option D) : Prop := ∀ {Fz : Fzn} {H : Hp} {d e z : D} {x y : V} {Q : VK}, (∀ a, Fz a → ∃ o, H a = some o) → TRep M Fz H d x → TRep M Fz H e y → o d e = some z →
  (∀ v Fz' H', GrowTo Fz H Fz' H' → Rep M Fz' H' z v → Q v H') → r x y H Q
def op2F (o : D → D → Option D) (f1 f2 : FE) : FE := fun g => (f1 g).bd fun d g1 => (f2 g1).bd fun e g2 => opt (o d e) g2
theorem tE_op2 {r : R2} {o : D → D → Option D} (ho : OpT b.M r o) {σ : L2.St} {H : Hp} {Q : VK} (h : tE b W (op2F o f1 f2) σ H Q) : tOp r (tE b W f1) (tE b W f2) σ H Q := by
  obtain ⟨Fz, g, r0, h⟩ := h
  refine tG_seq r0 h fun d x g1 Fz1 H1 r1 e1 rep1 h1 => ?_
  refine tG_seq r1 h1 fun e y g2 Fz2 H2 r2 e2 rep2 h2 => ?_
  obtain ⟨z, ez, h3⟩ := h2.opt
  exact ho r2.gr.dom (Rep.mono e2 d x rep1).t rep2.t ez fun v Fz' H' gr rv => h3.ok (r2.grow gr) gr.ext rv
theorem pd_op {op : Operator} {r : R2} {o : D → D → Option D} (hr : OpR X (binaryOp op) r) (ho : OpT b.M r o) (h1 : PE X e1 (tE b W f1)) (h2 : PE X e2 (tE b W f2)) : PE X (.BinOp e1 op e2 pos) (tE b W (op2F o f1 f2)) :=
  pe_mono (pe_op hr h1 h2) fun _ _ _ h => tE_op2 ho h
theorem pd_cmp {op : CmpOp} {r : R2} {o : D → D → Option D} (hr : OpR X (compareOp op) r) (ho : OpT b.M r o) (h1 : PE X e1 (tE b W f1)) (h2 : PE X e2 (tE b W f2)) (hm : behindInMarks op e2 = false) : PE X (.Compare e1 [op] [e2] pos) (tE b W (op2F o f1 f2)) :=
  pe_mono (pe_cmpR hr h1 h2 hm) fun _ _ _ h => tE_op2 ho h

/-- what an own slot or data is, now -/
def res (g : Sg) : AV → Option D
  | .d d => some d
  | .o i => match gat g i with
    | .ow ds => some (.lst ds)
    | _ => none
theorem res_ok {σ : L2.St} {Fz : Fzn} {H : Hp} {g : Sg} {a : AV} {x : V} {d : D} (r : BRel b Fz g σ H) (h : AVOk b σ Fz H g a x) (e : res g a = some d) : TRep b.M Fz H d x := by
  cases a with
  | d d' =>
    have e' : d' = d := Option.some.inj e
    subst e'
    exact Rep.t h
  | o i =>
    obtain ⟨a, ex, ow⟩ := h
    subst ex
    unfold res at e
    dsimp only at e
    cases hg : gat g i with
    | ow ds =>
      rw [hg] at e
      have e' : D.lst ds = d := Option.some.inj e
      subst e'
      obtain ⟨s, u, e2, nf, hu, w⟩ := r.there ow
      rw [gat_get hg (by intro z; cases z)] at e2
      have e3 : S.ow ds = s := Option.some.inj e2
      subst e3
      obtain ⟨vs, eu, rep⟩ := w
      subst eu
      exact ⟨a, vs, rfl, .inl (.inl hu), rep⟩
    | _ => rw [hg] at e; cases e
/-- an argument read earlier, still as it was -/
theorem AVOk.mono {σ : L2.St} {Fz Fz' : Fzn} {H H' : Hp} {g g' : Sg} {a : AV} {x : V} (h : AVOk b σ Fz H g a x) (e : Ext Fz H Fz' H') (hg : ∀ i, a = .o i → ∃ s, g'[i]? = some s ∧ s.isOw = true) : AVOk b σ Fz' H' g' a x := by
  cases a with
  | d d => exact Rep.mono e d x h
  | o i =>
    obtain ⟨ad, ex, ow⟩ := h
    exact ⟨ad, ex, hg i rfl, ow.2⟩
def resI (g : Sg) (a : AV) : Bool := match a with
  | .d _ => true
  | .o i => (gat g i).isOw
theorem resI_ok {g : Sg} {a : AV} (h : resI g a = true) : ∀ i, a = .o i → ∃ s, g[i]? = some s ∧ s.isOw = true := fun i e => by
  subst e
  refine ⟨gat g i, ?_, h⟩
  refine gat_get rfl fun z => ?_
  have h' : (gat g i).isOw = true := h
  rw [z] at h'
  cases h'
theorem res_I {g : Sg} {a : AV} {d : D} (h : res g a = some d) : resI g a = true := by
  cases a with
  | d d => rfl
  | o i =>
    unfold res at h
    unfold resI
    dsimp only at h ⊢
    cases hg : gat g i with
    | ow ds => rfl
    | _ => rw [hg] at h; cases h
def op2V (o : D → D → Option D) (f1 f2 : Sg → R AV) : FE := fun g => (f1 g).bd fun a g1 => (f2 g1).bd fun c g2 => opt ((res g2 a).bind fun d => (res g2 c).bind fun e => o d e) g2
theorem tE_op2V {r : R2} {o : D → D → Option D} {f1 f2 : Sg → R AV} (ho : OpT b.M r o) {σ : L2.St} {H : Hp} {Q : VK} (h : tE b W (op2V o f1 f2) σ H Q) : tOp r (tA1 b W f1) (tA1 b W f2) σ H Q := by
  obtain ⟨Fz, g, r0, h⟩ := h
  refine tG_seq r0 h fun a x g1 Fz1 H1 r1 e1 rep1 h1 => ?_
  refine tG_seq r1 h1 fun c y g2 Fz2 H2 r2 e2 rep2 h2 => ?_
  obtain ⟨z, ez, h3⟩ := h2.opt
  obtain ⟨d, ed, ez⟩ := Option.bind_eq_some_iff.mp ez
  obtain ⟨e, ee, ez⟩ := Option.bind_eq_some_iff.mp ez
  exact ho r2.gr.dom (res_ok r2 (rep1.mono e2 (resI_ok (res_I ed))) ed) (res_ok r2 rep2 ee) ez fun v Fz' H' gr rv => h3.ok (r2.grow gr) gr.ext rv
theorem pd_opV {op : Operator} {r : R2} {o : D → D → Option D} {f1 f2 : Sg → R AV} (hr : OpR X (binaryOp op) r) (ho : OpT b.M r o) (h1 : PE X e1 (tA1 b W f1)) (h2 : PE X e2 (tA1 b W f2)) : PE X (.BinOp e1 op e2 pos) (tE b W (op2V o f1 f2)) :=
  pe_mono (pe_op hr h1 h2) fun _ _ _ h => tE_op2V ho h
theorem pd_cmpV {op : CmpOp} {r : R2} {o : D → D → Option D} {f1 f2 : Sg → R AV} (hr : OpR X (compareOp op) r) (ho : OpT b.M r o) (h1 : PE X e1 (tA1 b W f1)) (h2 : PE X e2 (tA1 b W f2)) (hm : behindInMarks op e2 = false) : PE X (.Compare e1 [op] [e2] pos) (tE b W (op2V o f1 f2)) :=
  pe_mono (pe_cmpR hr h1 h2 hm) fun _ _ _ h => tE_op2V ho h
theorem pd_ixV {r : R2} {o : D → D → Option D} {f1 f2 : Sg → R AV} (hr : IxR X r) (ho : OpT b.M r o) (h1 : PE X e1 (tA1 b W f1)) (h2 : PE X e2 (tA1 b W f2)) (hs : PlainIx e2) : PE X (.Subscript e1 e2 pos) (tE b W (op2V o f1 f2)) :=
  pe_mono (pe_ix hr h1 h2 hs) fun _ _ _ h => tE_op2V ho h
theorem pd_ix {r : R2} {o : D → D → Option D} (hr : IxR X r) (ho : OpT b.M r o) (h1 : PE X e1 (tE b W f1)) (h2 : PE X e2 (tE b W f2)) (hs : PlainIx e2) : PE X (.Subscript e1 e2 pos) (tE b W (op2F o f1 f2)) :=
  pe_mono (pe_ix hr h1 h2 hs) fun _ _ _ h => tE_op2 ho h
def op1F (o : D → Option D) (f : FE) : FE := fun g => (f g).bd fun d g1 => opt (o d) g1
def UnT (M : MM) (r : V → Hp → VK → Prop) (o : D → Option D) : Prop := ∀ {Fz : Fzn} {H : Hp} {d z : D} {x : V} {Q : VK}, (∀ a, Fz a → ∃ o, H a = some o) → Rep M Fz H d x → o d = some z →
  (∀ v Fz' H', GrowTo Fz H Fz' H' → Rep M Fz' H' z v → Q v H') → r x H Q
theorem pd_un {op : UnaryOp} {r : V → Hp → VK → Prop} {o : D → Option D} (hr : UnR X (unaryOp op) r) (ho : UnT b.M r o) (h1 : PE X e1 (tE b W f1)) : PE X (.UnaryOp op e1 pos) (tE b W (op1F o f1)) :=
  pe_mono (pe_un hr h1) fun σ H Q ⟨Fz, g, r0, h⟩ => tG_seq r0 h fun d x g1 Fz1 H1 r1 e1 rep1 h1 => by
    obtain ⟨z, ez, h3⟩ := h1.opt
    exact ho r1.gr.dom rep1 ez fun v Fz' H' gr rv => h3.ok (r1.grow gr) gr.ext rv

/-! ### truth -/
def tstF (f : FE) : FB := fun g => (f g).bd fun d g1 => match d with
  | .bl c => .ok c g1
  | _ => .no
theorem tB_tst {t : TE} {σ : L2.St} {H : Hp} {Q : Bool → Hp → Prop} (h : tBo b W (tstF f) σ H Q) : tB (tE b W f) σ H Q := by
  obtain ⟨Fz, g, r0, h⟩ := h
  refine tG_seq r0 h fun d x g1 Fz1 H1 r1 e1 rep1 h1 => ?_
  cases d with
  | bl c =>
    have rep' : x = .bl c := by
      have z : Rep b.M Fz1 H1 (.bl c) x := rep1
      unfold Rep at z
      exact z
    exact ⟨c, rep', h1.ok r1 .refl rfl⟩
  | _ => exact h1.elim
/-- an expression whose value is a bool as a test -/
theorem pt_of (h : PE X e (tE b W f)) (he : ∀ whole, isTrue e X.env whole = (do let v ← whole; standAt e.pos; holding [v] (truthy v)) := by intro _; rfl) : PT X e (tBo b W (tstF f)) :=
  pt_mono (pt_val h he) fun _ _ _ q => tB_tst (t := tE b W f) q
/-- a comparison as a test -/
theorem pt_cmpD {op : CmpOp} {r : R2} {o : D → D → Option D} (hr : OpR X (compareOp op) r) (ho : OpT b.M r o) (h1 : PE X e1 (tE b W f1)) (h2 : PE X e2 (tE b W f2)) (hm : behindInMarks op e2 = false) : PT X (.Compare e1 [op] [e2] pos) (tBo b W (tstF (op2F o f1 f2))) :=
  pt_mono (pt_cmpR hr h1 h2 hm) fun σ H Q q => by
    obtain ⟨Fz, g, r0, h⟩ := q
    have z : tE b W (op2F o f1 f2) σ H (fun x H' => ∃ k, x = V.bl k ∧ Q k H') := tG_seq r0 h fun d x g1 Fz1 H1 r1 e1 rep1 h1 => by
      cases d with
      | bl c =>
        have rep' : x = .bl c := by
          have z : Rep b.M Fz1 H1 (.bl c) x := rep1
          unfold Rep at z
          exact z
        exact ⟨c, rep', h1.ok r1 .refl rfl⟩
      | _ => exact h1.elim
    exact tE_op2 ho z
theorem pt_cmpDV {op : CmpOp} {r : R2} {o : D → D → Option D} {f1 f2 : Sg → R AV} (hr : OpR X (compareOp op) r) (ho : OpT b.M r o) (h1 : PE X e1 (tA1 b W f1)) (h2 : PE X e2 (tA1 b W f2)) (hm : behindInMarks op e2 = false) : PT X (.Compare e1 [op] [e2] pos) (tBo b W (tstF (op2V o f1 f2))) :=
  pt_mono (pt_cmpR hr h1 h2 hm) fun σ H Q q => by
    obtain ⟨Fz, g, r0, h⟩ := q
    have z : tE b W (op2V o f1 f2) σ H (fun x H' => ∃ k, x = V.bl k ∧ Q k H') := tG_seq r0 h fun d x g1 Fz1 H1 r1 e1 rep1 h1 => by
      cases d with
      | bl c =>
        have rep' : x = .bl c := by
          have z : Rep b.M Fz1 H1 (.bl c) x := rep1
          unfold Rep at z
          exact z
        exact ⟨c, rep', h1.ok r1 .refl rfl⟩
      | _ => exact h1.elim
    exact tE_op2V ho z
def andB (f1 f2 : FB) : FB := fun g => (f1 g).bd fun c g1 => if c = true then f2 g1 else .ok false g1
def orB (f1 f2 : FB) : FB := fun g => (f1 g).bd fun c g1 => if c = true then .ok true g1 else f2 g1
def notB (f1 : FB) : FB := fun g => (f1 g).bd fun c g1 => .ok (!c) g1
variable {fb1 fb2 : FB} {a c : Expr} {rest : List Expr}
theorem pwb_and1 (h : PT X a (tBo b W fb1)) : PW X (.BoolOp .And [a] pos) (tBo b W fb1) := pw_and1 h
theorem pwb_or1 (h : PT X a (tBo b W fb1)) : PW X (.BoolOp .Or [a] pos) (tBo b W fb1) := pw_or1 h
theorem Po.bb {σ : L2.St} {Fz : Fzn} {H : Hp} {Q : Bool → Hp → Prop} {f : FB} {g : Sg} (r : BRel b Fz g σ H) (h : Po b W bB σ Fz H (fun x _ _ H' _ => Q x H') (f g)) : tBo b W f σ H Q := ⟨Fz, g, r, h⟩
theorem pwb_and (h1 : PT X a (tBo b W fb1)) (h2 : PW X (.BoolOp .And (c :: rest) pos) (tBo b W fb2)) : PW X (.BoolOp .And (a :: c :: rest) pos) (tBo b W (andB fb1 fb2)) :=
  pw_mono (pw_and h1 h2) fun σ H Q ⟨Fz, g, r0, h⟩ => tG_seq r0 h fun d x g1 Fz1 H1 r1 e1 rep1 h1 => by
    have rep' : x = d := rep1
    subst rep'
    cases x with
    | true => exact ⟨Fz1, g1, r1, h1⟩
    | false => exact h1.ok r1 .refl rfl
theorem pwb_or (h1 : PT X a (tBo b W fb1)) (h2 : PW X (.BoolOp .Or (c :: rest) pos) (tBo b W fb2)) : PW X (.BoolOp .Or (a :: c :: rest) pos) (tBo b W (orB fb1 fb2)) :=
  pw_mono (pw_or h1 h2) fun σ H Q ⟨Fz, g, r0, h⟩ => tG_seq r0 h fun d x g1 Fz1 H1 r1 e1 rep1 h1 => by
    have rep' : x = d := rep1
    subst rep'
    cases x with
    | true => exact h1.ok r1 .refl rfl
    | false => exact ⟨Fz1, g1, r1, h1⟩
theorem ptb_not (h1 : PT X a (tBo b W fb1)) : PT X (.UnaryOp .Not a pos) (tBo b W (notB fb1)) :=
  pt_mono (pt_not h1) fun σ H Q ⟨Fz, g, r0, h⟩ => tG_seq r0 h fun d x g1 Fz1 H1 r1 e1 rep1 h1 => by
    have rep' : x = d := rep1
    subst rep'
    exact h1.ok r1 .refl rfl
/-- .. as values -/
def blF (f : FB) : FE := fun g => (f g).bd fun c g1 => .ok (.bl c) g1
def andV (f1 f2 : FE) : FE := fun g => (f1 g).bd fun d g1 => match d with
  | .bl c => if c = true then f2 g1 else .ok (.bl false) g1
  | _ => .no
def orV (f1 f2 : FE) : FE := fun g => (f1 g).bd fun d g1 => match d with
  | .bl c => if c = true then .ok (.bl true) g1 else f2 g1
  | _ => .no
def notV (f1 : FE) : FE := fun g => (f1 g).bd fun d g1 => match d with
  | .bl c => .ok (.bl (!c)) g1
  | _ => .no
theorem rep_bl {M : MM} {Fz : Fzn} {H : Hp} {c : Bool} : Rep M Fz H (.bl c) (.bl c) := by unfold Rep; rfl
theorem rep_bl' {M : MM} {Fz : Fzn} {H : Hp} {c : Bool} {x : V} (h : Rep M Fz H (.bl c) x) : x = .bl c := by unfold Rep at h; exact h
theorem rep_int {M : MM} {Fz : Fzn} {H : Hp} {c : Int} : Rep M Fz H (.int c) (.int c) := by unfold Rep; rfl
theorem rep_int' {M : MM} {Fz : Fzn} {H : Hp} {c : Int} {x : V} (h : Rep M Fz H (.int c) x) : x = .int c := by unfold Rep at h; exact h
theorem rep_str {M : MM} {Fz : Fzn} {H : Hp} {c : Str} : Rep M Fz H (.str c) (.str c) := by unfold Rep; rfl
theorem rep_str' {M : MM} {Fz : Fzn} {H : Hp} {c : Str} {x : V} (h : Rep M Fz H (.str c) x) : x = .str c := by unfold Rep at h; exact h
theorem rep_non {M : MM} {Fz : Fzn} {H : Hp} : Rep M Fz H .non .non := by unfold Rep; rfl
theorem rep_non' {M : MM} {Fz : Fzn} {H : Hp} {x : V} (h : Rep M Fz H .non x) : x = .non := by unfold Rep at h; exact h
theorem pd_and (h1 : PE X a (tE b W f1)) (h2 : PE X (.BoolOp .And (c :: rest) pos) (tE b W f2)) : PE X (.BoolOp .And (a :: c :: rest) pos) (tE b W (andV f1 f2)) :=
  pe_mono (pe_and h1 h2) fun σ H Q ⟨Fz, g, r0, h⟩ => tG_seq r0 h fun d x g1 Fz1 H1 r1 e1 rep1 h1 => by
    cases d with
    | bl c =>
      refine ⟨c, rep_bl' rep1, ?_⟩
      cases c with
      | true => exact ⟨Fz1, g1, r1, h1⟩
      | false => exact h1.ok r1 .refl rep_bl
    | _ => exact h1.elim
theorem pd_or (h1 : PE X a (tE b W f1)) (h2 : PE X (.BoolOp .Or (c :: rest) pos) (tE b W f2)) : PE X (.BoolOp .Or (a :: c :: rest) pos) (tE b W (orV f1 f2)) :=
  pe_mono (pe_or h1 h2) fun σ H Q ⟨Fz, g, r0, h⟩ => tG_seq r0 h fun d x g1 Fz1 H1 r1 e1 rep1 h1 => by
    cases d with
    | bl c =>
      refine ⟨c, rep_bl' rep1, ?_⟩
      cases c with
      | true => exact h1.ok r1 .refl rep_bl
      | false => exact ⟨Fz1, g1, r1, h1⟩
    | _ => exact h1.elim
theorem pd_not (h1 : PE X a (tE b W f1)) : PE X (.UnaryOp .Not a pos) (tE b W (notV f1)) :=
  pe_mono (pe_not h1) fun σ H Q ⟨Fz, g, r0, h⟩ => tG_seq r0 h fun d x g1 Fz1 H1 r1 e1 rep1 h1 => by
    cases d with
    | bl c => exact ⟨c, rep_bl' rep1, h1.ok r1 .refl rep_bl⟩
    | _ => exact h1.elim
theorem pd_one {op} (h1 : PE X a (tE b W f1)) : PE X (.BoolOp op [a] pos) (tE b W f1) := pe_one h1
def ifF (t : FB) (f1 f2 : FE) : FE := fun g => (t g).bd fun c g1 => if c = true then f1 g1 else f2 g1
theorem pd_if (h0 : PT X c (tBo b W fb1)) (h1 : PE X e1 (tE b W f1)) (h2 : PE X e2 (tE b W f2)) : PE X (.IfExp c e1 e2 pos) (tE b W (ifF fb1 f1 f2)) :=
  pe_mono (pe_ifExp h0 h1 h2) fun σ H Q ⟨Fz, g, r0, h⟩ => tG_seq r0 h fun d x g1 Fz1 H1 r1 e1 rep1 h1 => by
    have rep' : x = d := rep1
    subst rep'
    cases x with
    | true => exact ⟨Fz1, g1, r1, h1⟩
    | false => exact ⟨Fz1, g1, r1, h1⟩
/-- a < b < c, b a plain piece -/
def chF (o o' : D → D → Option D) (f1 f2 f3 : FE) : FE := fun g => (f1 g).bd fun d g1 => (f2 g1).bd fun e g2 => (opt (o d e) g2).bd fun z g3 => match z with
  | .bl c => if c = true then (f3 g3).bd fun k g4 => opt (o' e k) g4 else .ok (.bl false) g3
  | _ => .no
end
end DL

set_option Elab.async false
set_option linter.all false
set_option maxRecDepth 100000
set_option maxHeartbeats 4000000
/-! Den3: operators on data. -/
namespace DL
open PySem L2 PySem.Spec PyProof.Rows

theorem tint' {M : MM} {Fz : Fzn} {H : Hp} {c : Int} {x : V} (h : TRep M Fz H (.int c) x) : x = .int c := rep_int' (M := M) (Fz := Fz) (H := H) h
theorem tstr' {M : MM} {Fz : Fzn} {H : Hp} {c : Str} {x : V} (h : TRep M Fz H (.str c) x) : x = .str c := rep_str' (M := M) (Fz := Fz) (H := H) h
theorem tbl' {M : MM} {Fz : Fzn} {H : Hp} {c : Bool} {x : V} (h : TRep M Fz H (.bl c) x) : x = .bl c := rep_bl' (M := M) (Fz := Fz) (H := H) h
theorem tnon' {M : MM} {Fz : Fzn} {H : Hp} {x : V} (h : TRep M Fz H .non x) : x = .non := rep_non' (M := M) (Fz := Fz) (H := H) h
/-! ### sizes -/
def LIM : Nat := 2 ^ 2000000
def LID : Nat := 2 ^ 8000
theorem lt_LIM {n k : Nat} (h : n < 2 ^ k) (hk : k ≤ 2000000) : n < LIM := Nat.lt_of_lt_of_le h (Nat.pow_le_pow_right (by decide) hk)
theorem lt_LID {n k : Nat} (h : n < 2 ^ k) (hk : k ≤ 8000) : n < LID := Nat.lt_of_lt_of_le h (Nat.pow_le_pow_right (by decide) hk)
theorem log2_lt' {n k : Nat} (h : n < 2 ^ k) (hk : 0 < k) : n.log2 < k := by
  by_cases hn : n = 0
  · subst hn; simpa using hk
  · exact (Nat.log2_lt hn).mpr h
theorem intBits_le (x : Int) : Builtin.Int.intBits x ≤ x.natAbs.log2 + 1 := by
  unfold Builtin.Int.intBits
  split <;> omega
theorem mulOk_of {i j : Int} (h : (i * j).natAbs < LIM) : IntMulOk i j := by
  by_cases hi : i = 0
  · subst hi
    exact IntMulOk.of_left (by decide)
  by_cases hj : j = 0
  · subst hj
    exact IntMulOk.of_right (by decide)
  have h1 := intBits_le i
  have h2 := intBits_le j
  have n1 : i.natAbs ≠ 0 := by omega
  have n2 : j.natAbs ≠ 0 := by omega
  have p1 : 2 ^ i.natAbs.log2 ≤ i.natAbs := Nat.log2_self_le n1
  have p2 : 2 ^ j.natAbs.log2 ≤ j.natAbs := Nat.log2_self_le n2
  have p3 : 2 ^ (i.natAbs.log2 + j.natAbs.log2) ≤ i.natAbs * j.natAbs := by
    rw [Nat.pow_add]
    exact Nat.mul_le_mul p1 p2
  rw [Int.natAbs_mul] at h
  have p4 : 2 ^ (i.natAbs.log2 + j.natAbs.log2) < 2 ^ 2000000 := Nat.lt_of_le_of_lt p3 h
  have p5 : i.natAbs.log2 + j.natAbs.log2 < 2000000 := (Nat.pow_lt_pow_iff_right (by decide)).mp p4
  unfold IntMulOk
  intro z
  rw [Bool.and_eq_true] at z
  have z2 := z.2
  unfold Builtin.Int.intTooBig at z2
  have z3 := of_decide_eq_true z2
  have e : bitsLine = 134217728 := by decide
  rw [e] at z3
  omega

/-! ### arithmetic -/
def szOk (n : Nat) : Bool := decide (n ≤ 16777216)
theorem szOk_iff {n : Nat} : szOk n = true ↔ n ≤ 16777216 := by unfold szOk; simp
theorem szOk_le {n : Nat} (h : szOk n = true) : n ≤ sizeLine := by rw [sizeLine_eq]; exact szOk_iff.mp h
def addD : D → D → Option D
  | .int i, .int j => some (.int (i + j))
  | .lst xs, .lst ys => if szOk (xs.length + ys.length) then some (.lst (xs ++ ys)) else none
  | .tup xs, .tup ys => if szOk (xs.length + ys.length) then some (.tup (xs ++ ys)) else none
  | .str x, .str y => if szOk (x.length + y.length) then some (.str (x ++ y)) else none
  | _, _ => none
def subD : D → D → Option D
  | .int i, .int j => some (.int (i - j))
  | _, _ => none
def mulD : D → D → Option D
  | .int i, .int j => if (i * j).natAbs < LIM then some (.int (i * j)) else none
  | .lst xs, .int k => if szOk (xs.length * k.toNat) && decide (k.natAbs < 9223372036854775808) then some (.lst (List.replicate k.toNat xs).flatten) else none
  | _, _ => none
def fdivD : D → D → Option D
  | .int i, .int j => if j ≠ 0 ∧ j.natAbs < LID then some (.int (i.fdiv j)) else none
  | _, _ => none
def modD : D → D → Option D
  | .int i, .int j => if j ≠ 0 then some (.int (i.fmod j)) else none
  | _, _ => none
def powD : D → D → Option D
  | .int i, .int j => if 0 ≤ j ∧ j ≤ 1000000 ∧ i.natAbs < 2 ^ 64 then some (.int (i ^ j.toNat)) else none
  | _, _ => none
def shlD : D → D → Option D
  | .int i, .int j => if 0 ≤ j ∧ j ≤ 1000000 ∧ i.natAbs < 2 ^ 64 then some (.int (i * 2 ^ j.toNat)) else none
  | _, _ => none
def shrD : D → D → Option D
  | .int i, .int j => if 0 ≤ j then some (.int (i / 2 ^ j.toNat)) else none
  | _, _ => none
def andD : D → D → Option D
  | .int i, .int j => some (.int (Builtin.bitAnd i j))
  | _, _ => none
def orD : D → D → Option D
  | .int i, .int j => some (.int (Builtin.bitOr i j))
  | _, _ => none
def xorD : D → D → Option D
  | .int i, .int j => some (.int (Builtin.bitXor i j))
  | _, _ => none
def negD : D → Option D
  | .int i => some (.int (-i))
  | _ => none
def ltD : D → D → Option D
  | .int i, .int j => some (.bl (decide (i < j)))
  | _, _ => none
def leD : D → D → Option D
  | .int i, .int j => some (.bl (decide (i ≤ j)))
  | _, _ => none
def gtD : D → D → Option D
  | .int i, .int j => some (.bl (decide (j < i)))
  | _, _ => none
def geD : D → D → Option D
  | .int i, .int j => some (.bl (decide (j ≤ i)))
  | _, _ => none

section
variable {X : Cx} {M : MM}
/-- int operators -/
theorem opT_I {C : Int → Int → Prop} {g : Int → Int → V} {o : D → D → Option D} (h : ∀ d e z, o d e = some z → ∃ i j, d = .int i ∧ e = .int j ∧ C i j ∧ ∀ Fz H, Rep M Fz H z (g i j)) : OpT M (rI C g) o := by
  intro Fz H d e z x y Q dom rx ry eo k
  obtain ⟨i, j, rfl, rfl, c, rz⟩ := h d e z eo
  exact ⟨i, j, tint' rx, tint' ry, c, k _ Fz H .refl (rz Fz H)⟩
theorem opT_I0 {g : Int → Int → V} {o : D → D → Option D} (h : ∀ d e z, o d e = some z → ∃ i j, d = .int i ∧ e = .int j ∧ ∀ Fz H, Rep M Fz H z (g i j)) : OpT M (rI0 g) o := by
  intro Fz H d e z x y Q dom rx ry eo k
  obtain ⟨i, j, rfl, rfl, rz⟩ := h d e z eo
  exact ⟨i, j, tint' rx, tint' ry, k _ Fz H .refl (rz Fz H)⟩
theorem opt_sub : OpT M (rI0 fun i j => .int (i - j)) subD := opT_I0 fun d e z h => by
  unfold subD at h
  split at h
  · injection h with h; subst h; exact ⟨_, _, rfl, rfl, fun _ _ => rep_int⟩
  · cases h
theorem opt_lt : OpT M (rI0 fun i j => .bl (decide (i < j))) ltD := opT_I0 fun d e z h => by
  unfold ltD at h
  split at h
  · injection h with h; subst h; exact ⟨_, _, rfl, rfl, fun _ _ => rep_bl⟩
  · cases h
theorem opt_le : OpT M (rI0 fun i j => .bl (decide (i ≤ j))) leD := opT_I0 fun d e z h => by
  unfold leD at h
  split at h
  · injection h with h; subst h; exact ⟨_, _, rfl, rfl, fun _ _ => rep_bl⟩
  · cases h
theorem opt_gt : OpT M (rI0 fun i j => .bl (decide (j < i))) gtD := opT_I0 fun d e z h => by
  unfold gtD at h
  split at h
  · injection h with h; subst h; exact ⟨_, _, rfl, rfl, fun _ _ => rep_bl⟩
  · cases h
theorem opt_ge : OpT M (rI0 fun i j => .bl (decide (j ≤ i))) geD := opT_I0 fun d e z h => by
  unfold geD at h
  split at h
  · injection h with h; subst h; exact ⟨_, _, rfl, rfl, fun _ _ => rep_bl⟩
  · cases h
theorem opt_and : OpT M (rI0 fun i j => .int (Builtin.bitAnd i j)) andD := opT_I0 fun d e z h => by
  unfold andD at h
  split at h
  · injection h with h; subst h; exact ⟨_, _, rfl, rfl, fun _ _ => rep_int⟩
  · cases h
theorem opt_or : OpT M (rI0 fun i j => .int (Builtin.bitOr i j)) orD := opT_I0 fun d e z h => by
  unfold orD at h
  split at h
  · injection h with h; subst h; exact ⟨_, _, rfl, rfl, fun _ _ => rep_int⟩
  · cases h
theorem opt_xor : OpT M (rI0 fun i j => .int (Builtin.bitXor i j)) xorD := opT_I0 fun d e z h => by
  unfold xorD at h
  split at h
  · injection h with h; subst h; exact ⟨_, _, rfl, rfl, fun _ _ => rep_int⟩
  · cases h
theorem opt_pow : OpT M (rI CPow fun i j => .int (i ^ j.toNat)) powD := opT_I fun d e z h => by
  unfold powD at h
  split at h
  · split at h
    · rename_i c
      injection h with h; subst h; exact ⟨_, _, rfl, rfl, c, fun _ _ => rep_int⟩
    · cases h
  · cases h
theorem opt_shl : OpT M (rI CPow fun i j => .int (i * 2 ^ j.toNat)) shlD := opT_I fun d e z h => by
  unfold shlD at h
  split at h
  · split at h
    · rename_i c
      injection h with h; subst h; exact ⟨_, _, rfl, rfl, c, fun _ _ => rep_int⟩
    · cases h
  · cases h
theorem opt_shr : OpT M (rI (fun _ j => 0 ≤ j) fun i j => .int (i / 2 ^ j.toNat)) shrD := opT_I fun d e z h => by
  unfold shrD at h
  split at h
  · split at h
    · rename_i c
      injection h with h; subst h; exact ⟨_, _, rfl, rfl, c, fun _ _ => rep_int⟩
    · cases h
  · cases h
theorem opt_mod : OpT M (rI (fun _ j => j ≠ 0) fun i j => .int (i.fmod j)) modD := opT_I fun d e z h => by
  unfold modD at h
  split at h
  · split at h
    · rename_i c
      injection h with h; subst h; exact ⟨_, _, rfl, rfl, c, fun _ _ => rep_int⟩
    · cases h
  · cases h
def CDivL (_ j : Int) : Prop := j ≠ 0 ∧ j.natAbs < LID
theorem op_fdivL : OpR X (binaryOp .FloorDiv) (rI CDivL fun i j => .int (i.fdiv j)) := opI fun i j _ _ _ _ _ hc q =>
  floordiv_int hc.1 q (.inl (PyProof.noPylong_of_log2 (Nat.lt_trans (log2_lt' hc.2 (by decide)) (by decide))))
theorem opt_fdiv : OpT M (rI CDivL fun i j => .int (i.fdiv j)) fdivD := opT_I fun d e z h => by
  unfold fdivD at h
  split at h
  · split at h
    · rename_i c
      injection h with h; subst h; exact ⟨_, _, rfl, rfl, c, fun _ _ => rep_int⟩
    · cases h
  · cases h
def CMulL (i j : Int) : Prop := (i * j).natAbs < LIM
theorem op_mulL : OpR X (binaryOp .Mult) (rI CMulL fun i j => .int (i * j)) := opI fun i j _ _ _ _ _ hc q => mul_int q (mulOk_of hc)
/-! ### + -/
def rCatL (K : PySem.W.Frag) : R2 := fun x y H Q => ∃ l b xs zs, x = .ref l ∧ y = .ref b ∧ SqL K H l xs ∧ SqL K H b zs ∧ xs.length + zs.length ≤ sizeLine ∧ ∀ p, H p = none → Q (.ref p) (upd H p (.lst (xs ++ zs)))
theorem op_catL : OpR X (binaryOp .Add) (rCatL X.K) := by
  intro pins s σ H x y v u Q I rx ry h
  obtain ⟨l, b, xs, zs, rfl, rfl, hH, hB, hz, q⟩ := h
  cases rx
  cases ry
  obtain ⟨its, r1, ⟨⟨cls, dd, data, sl⟩, n, ho, hc, hdd, hd⟩, _⟩ := I.list hH
  obtain ⟨its2, r2, ⟨⟨cls2, dd2, data2, sl2⟩, n2, ho2, hc2, hdd2, hd2⟩, _⟩ := I.list hB
  simp only at hc hd hc2 hd2
  subst hc hd hc2 hd2
  have e : its.toArray ++ its2.toArray = (its ++ its2).toArray := by simp
  refine concat_meets ⟨_, ho, rfl⟩ ⟨_, ho2, rfl⟩ noFill_list_add seq_list_add PySem.F.slot_list_add PySem.F.entry_list_add (PySem.F.args_list_add_2 _ _) (list_addW l b its.toArray its2.toArray n n2 dd dd2 sl sl2 (by rw [List.size_toArray, List.size_toArray, ← r1.length, ← r2.length]; exact hz)) ⟨ho, ho2, ?_⟩
  rw [e]
  exact ⟨.ref _, _, I.lnew (t' := s.toks) (r1.append r2) (by rw [List.length_append]; exact hz), rfl, q _ I.fresh⟩
/-- () + t is t -/
def rCatT0 (K : PySem.W.Frag) : R2 := fun x y H Q => ∃ a b ys, x = .ref a ∧ y = .ref b ∧ SqT K H a [] ∧ SqT K H b ys ∧ Q (.ref b) H
theorem op_catT0 : OpR X (binaryOp .Add) (rCatT0 X.K) := by
  intro pins s σ H x y v u Q I rx ry h
  obtain ⟨a, b, ys, rfl, rfl, ha, hb, q⟩ := h
  cases rx
  cases ry
  obtain ⟨its, r1, ⟨⟨cls, dd, data, sl⟩, ho, hc, n, hd⟩, _⟩ := I.tuple ha
  obtain ⟨its2, r2, ⟨⟨cls2, dd2, data2, sl2⟩, ho2, hc2, n2, hd2⟩, _⟩ := I.tuple hb
  simp only at hc hd hc2 hd2
  subst hc hd hc2 hd2
  have e : its = [] := r1.nil_iff.mpr rfl
  subst e
  exact concat_meets ⟨_, ho, rfl⟩ ⟨_, ho2, rfl⟩ noFill_tuple_add seq_tuple_add PySem.F.slot_tuple_add PySem.F.entry_tuple_add (PySem.F.args_tuple_add_2 _ _)
      (tuple_addW0 a b _ its2.toArray n n2 dd dd2 sl sl2 rfl) ⟨ho, ho2, ⟨.ref b, H, I, rfl, q⟩⟩
def rStr : R2 := fun x y H Q => ∃ i j, x = .str i ∧ y = .str j ∧ i.length + j.length ≤ sizeLine ∧ Q (.str (i ++ j)) H
def rAddA (K : PySem.W.Frag) : R2 := fun x y H Q => (((rI0 (fun i j => .int (i + j)) x y H Q ∨ rCatL K x y H Q) ∨ rCatT0 K x y H Q) ∨ rCatT K x y H Q) ∨ rStr x y H Q
theorem op_addA : OpR X (binaryOp .Add) (rAddA X.K) := (((op_add.or op_catL).or op_catT0).or op_catT).or op_add_str
theorem sqT_rep {Fz : Fzn} {H : Hp} {ds : List D} {x : V} (h : Rep M Fz H (.tup ds) x) : ∃ a vs, x = .ref a ∧ SqT M.K H a vs ∧ RepL M Fz H ds vs := by unfold Rep at h; exact h
theorem rep_tup {Fz : Fzn} {H : Hp} {ds : List D} {a : Addr} {vs : List V} (h : SqT M.K H a vs) (r : RepL M Fz H ds vs) : Rep M Fz H (.tup ds) (.ref a) := by unfold Rep; exact ⟨a, vs, rfl, h, r⟩
theorem rep_lst {Fz : Fzn} {H : Hp} {ds : List D} {a : Addr} {vs : List V} (h : LsF M.K Fz H a vs) (r : RepL M Fz H ds vs) : Rep M Fz H (.lst ds) (.ref a) := by unfold Rep; exact ⟨a, vs, rfl, h, r⟩
theorem rep_lst' {Fz : Fzn} {H : Hp} {ds : List D} {x : V} (h : Rep M Fz H (.lst ds) x) : ∃ a vs, x = .ref a ∧ LsF M.K Fz H a vs ∧ RepL M Fz H ds vs := by unfold Rep at h; exact h
/-- a new list, at once frozen -/
theorem newL {Fz : Fzn} {H : Hp} {ds : List D} {vs : List V} {p : Addr} (hp : H p = none) (r : RepL M Fz H ds vs) : GrowTo Fz H (fzAdd Fz p) (upd H p (.lst vs)) ∧ Rep M (fzAdd Fz p) (upd H p (.lst vs)) (.lst ds) (.ref p) :=
  ⟨.allocF hp, rep_lst (.inl ⟨.inr rfl, upd_same⟩) (r.grow (.allocF hp))⟩
theorem newT {Fz : Fzn} {H : Hp} {ds : List D} {vs : List V} {p : Addr} (hp : H p = none) (r : RepL M Fz H ds vs) : GrowTo Fz H Fz (upd H p (.tup vs)) ∧ Rep M Fz (upd H p (.tup vs)) (.tup ds) (.ref p) :=
  ⟨.alloc hp, rep_tup (.inl (.inl upd_same)) (r.grow (.alloc hp))⟩
theorem opt_add : OpT M (rAddA M.K) addD := by
  intro Fz H d e z x y Q dom rx ry eo k
  unfold addD at eo
  split at eo
  · injection eo with eo; subst eo
    exact .inl (.inl (.inl (.inl ⟨_, _, tint' rx, tint' ry, k _ Fz H .refl rep_int⟩)))
  · split at eo
    · rename_i hz
      injection eo with eo; subst eo
      obtain ⟨a, vs, rfl, h1, r1⟩ := rx
      obtain ⟨b, ws, rfl, h2, r2⟩ := ry
      refine .inl (.inl (.inl (.inr ⟨a, b, vs, ws, rfl, rfl, h1, h2, ?_, fun p hp => ?_⟩)))
      · rw [← r1.length, ← r2.length]; exact szOk_le hz
      · obtain ⟨g, r⟩ := newL (M := M) hp (r1.append r2)
        exact k _ _ _ g r
    · cases eo
  · split at eo
    · rename_i xs ys hz
      injection eo with eo; subst eo
      obtain ⟨a, vs, rfl, h1, r1⟩ := sqT_rep rx
      obtain ⟨b, ws, rfl, h2, r2⟩ := sqT_rep ry
      by_cases hx : xs = []
      · subst hx
        have ev := RepL.nil_iff.mp r1
        subst ev
        exact .inl (.inl (.inr ⟨a, b, ws, rfl, rfl, h1, h2, k _ Fz H .refl ry⟩))
      · have nv : vs ≠ [] := fun q => by
          subst q
          have := r1.length
          exact hx (List.length_eq_zero_iff.mp this)
        refine .inl (.inr ⟨a, b, vs, ws, rfl, rfl, h1, h2, nv, by rw [← r1.length, ← r2.length]; exact szOk_le hz, fun hw => ?_, fun hw p hp => ?_⟩)
        · subst hw
          have e : ys = [] := by
            have := r2.length
            exact List.length_eq_zero_iff.mp this
          subst e
          rw [List.append_nil] at k
          exact k _ Fz H .refl rx
        · obtain ⟨g, r⟩ := newT (M := M) hp (r1.append r2)
          exact k _ _ _ g r
    · cases eo
  · split at eo
    · rename_i hz
      injection eo with eo; subst eo
      exact .inr ⟨_, _, tstr' rx, tstr' ry, szOk_le hz, k _ Fz H .refl rep_str⟩
    · cases eo
  · cases eo
def mulI : D → D → Option D
  | .int i, .int j => if (i * j).natAbs < LIM then some (.int (i * j)) else none
  | _, _ => none
theorem opt_mulI : OpT M (rI CMulL fun i j => .int (i * j)) mulI := opT_I fun d e z h => by
  unfold mulI at h
  split at h
  · split at h
    · rename_i c
      injection h with h; subst h; exact ⟨_, _, rfl, rfl, c, fun _ _ => rep_int⟩
    · cases h
  · cases h
theorem unt_neg : UnT M (rU fun i => .int (-i)) negD := by
  intro Fz H d z x Q dom rx eo k
  unfold negD at eo
  split at eo
  · injection eo with eo; subst eo
    exact ⟨_, rep_int' rx, k _ Fz H .refl rep_int⟩
  · cases eo


/-! ### a list times an int -/
theorem int_rmulW (a : Int) (t : Tok) (l : Addr) (items : Array Value) (n : Nat) (dd : Option Addr) (sl : Array (Option Value)) :
    Meets (Builtin.«int.__rmul__» ⟨[.int a t, .ref l], []⟩) (fun _ R s => s.heap.get? l = some { cls := .type "list", dict := dd, data := .seq items n, slots := sl } ∧ R (.ok (.ret Value.notImplemented)) s) :=
  .of_wp fun prog w A R s h => by obtain ⟨hp, g, d, tk, os⟩ := s; obtain ⟨hl, h⟩ := h; wp_walk; exact ⟨_, rfl, h⟩
theorem list_mulW (l : Addr) (items : Array Value) (n : Nat) (x : Int) (u : Tok) (dd : Option Addr) (sl : Array (Option Value)) (hc0 : ¬(!Builtin.List.listFitsIndex x) = true) (hc1 : ¬items.size * x.toNat > (2 ^ 63 - 1) / 8) (hc2 : ¬Builtin.List.listTooLong (items.size * x.toNat) = true) :
    Meets (Builtin.«list.__mul__» ⟨[.ref l, .int x u], []⟩) (fun _ R s => s.heap.get? l = some { cls := .type "list", dict := dd, data := .seq items n, slots := sl } ∧ R (.ok (.ret (Value.ref s.heap.objs.size))) { s with heap := s.heap.push { cls := Value.type "list", data := Data.seq (List.foldl (fun x1 x2 => x1 ++ x2) #[] (List.replicate (if items.isEmpty = true then 0 else x.toNat) items)) }, toks := s.toks }) :=
  .of_wp fun prog w A R s h => by
    obtain ⟨hp, g, d, tk, os⟩ := s; obtain ⟨hl, h⟩ := h
    have hsz := AutoListH.joined_fits hc2
    wp_walk using AutoSeq1.wpAny_loadPart' hl
    refine wpAny_ite_false (decide_eq_false (Nat.not_lt.mpr hsz)) ?_
    wp_walk
    exact ⟨_, rfl, h⟩
def rRepL (K : PySem.W.Frag) : R2 := fun x y H Q => ∃ l k xs, x = .ref l ∧ y = .int k ∧ SqL K H l xs ∧ -(2 ^ 63) ≤ k ∧ k < 2 ^ 63 ∧ xs.length * k.toNat ≤ sizeLine ∧
  ∀ p, H p = none → Q (.ref p) (upd H p (.lst (List.replicate k.toNat xs).flatten))
theorem op_repL : OpR X (binaryOp .Mult) (rRepL X.K) := by
  intro pins s σ H x y v u Q I rx ry h
  obtain ⟨l, k, xs, rfl, rfl, hH, h1, h2, hz, q⟩ := h
  cases rx
  obtain ⟨t, rfl⟩ := ry
  obtain ⟨its, r, ⟨⟨cls, dd, data, sl⟩, n, e, hc, hdd, hd⟩, _⟩ := I.list hH
  simp only at hc hd
  subst hc hd
  have hl := r.length
  have hlen : its.toArray.size * k.toNat ≤ sizeLine := by rw [List.size_toArray, ← hl]; exact hz
  have hcap : ¬ its.toArray.size * k.toNat > (2 ^ 63 - 1) / 8 := by
    have : (sizeLine : Nat) ≤ (2 ^ 63 - 1) / 8 := by decide
    omega
  have hfit : ¬ (!Builtin.List.listFitsIndex k) = true := by
    rw [fitsIndex_both h1 h2]
    exact Bool.false_ne_true
  have hlong : ¬ Builtin.List.listTooLong (its.toArray.size * k.toNat) = true := by
    rw [notLongL hlen]
    exact Bool.false_ne_true
  have hnew : List.foldl (fun x1 x2 => x1 ++ x2) #[] (List.replicate (if its.toArray.isEmpty = true then 0 else k.toNat) its.toArray) = (List.replicate k.toNat its).flatten.toArray := by
    have f0 : ∀ m : Nat, List.foldl (fun x1 x2 => x1 ++ x2) #[] (List.replicate m its.toArray) = (List.replicate m its).flatten.toArray := fun m => by
      have := foldl_rep its m []
      rw [List.nil_append] at this
      exact this
    rw [f0]
    cases its with
    | nil => simp
    | cons a r' => rw [if_neg (by simp)]
  refine wpAny_binaryOp_repeat_ref (T := "list") (U := "int") (by decide) ⟨_, e, rfl⟩ (fun s' => typeIs_int s' k t) noFill_list_mul F.fills_int_mul F.slot_int_rmul repeat_list F.slot_int_index.lookup
    (call_meets F.slot_int_rmul (typeIs_int s k t) F.entry_int_rmul (F.args_int_rmul_2 _ _) (int_rmulW k t l its.toArray n dd sl)
      ⟨e, rfl, ⟨_, e, rfl⟩, call_meets F.slot_list_mul ⟨_, e, rfl⟩ F.entry_list_mul (F.args_list_mul_2 _ _) (list_mulW l its.toArray n k t dd sl hfit hcap hlong) ⟨e, ?_⟩⟩)
  rw [hnew]
  exact ⟨.ref _, _, I.lnew (t' := s.toks) (r.rep k.toNat) (by rw [PyProof.Rows.lm_len_rep_flat, Nat.mul_comm]; exact hz), rfl, q _ I.fresh⟩
def rMulA (K : PySem.W.Frag) : R2 := fun x y H Q => rI CMulL (fun i j => .int (i * j)) x y H Q ∨ rRepL K x y H Q
theorem op_mulA : OpR X (binaryOp .Mult) (rMulA X.K) := op_mulL.or op_repL
theorem opt_mul : OpT M (rMulA M.K) mulD := by
  intro Fz H d e z x y Q dom rx ry eo k
  unfold mulD at eo
  split at eo
  · split at eo
    · rename_i c
      injection eo with eo; subst eo
      exact .inl ⟨_, _, tint' rx, tint' ry, c, k _ Fz H .refl rep_int⟩
    · cases eo
  · split at eo
    · rename_i hz
      simp only [Bool.and_eq_true, decide_eq_true_eq] at hz
      injection eo with eo; subst eo
      obtain ⟨a, vs, rfl, h1, r1⟩ := rx
      refine .inr ⟨a, _, vs, rfl, tint' ry, h1, by omega, by omega, by rw [← r1.length]; exact szOk_le hz.1, fun p hp => ?_⟩
      obtain ⟨g, r⟩ := newL (M := M) hp (r1.rep _)
      exact k _ _ _ g r
    · cases eo
  · cases eo

/-! ### == -/
end
mutual
def D.eqb : D → D → Bool
  | .non, e => match e with
    | .non => true
    | _ => false
  | .bl a, e => match e with
    | .bl b => a == b
    | .int j => (if a then 1 else 0) == j
    | _ => false
  | .int i, e => match e with
    | .bl b => i == (if b then 1 else 0)
    | .int j => i == j
    | _ => false
  | .str x, e => match e with
    | .str y => x == y
    | _ => false
  | .lst xs, e => match e with
    | .lst ys => D.eqbs xs ys
    | _ => false
  | .tup xs, e => match e with
    | .tup ys => D.eqbs xs ys
    | _ => false
  | .obj _ _ _, _ => false
  | .emp, _ => false
def D.eqbs : List D → List D → Bool
  | [], es => match es with
    | [] => true
    | _ => false
  | x :: xs, es => match es with
    | [] => false
    | y :: ys => D.eqb x y && D.eqbs xs ys
end
mutual
def D.py : D → PyData
  | .non => .none
  | .bl b => .bool b
  | .int i => .int i
  | .str x => .str x
  | .lst ds => .list (D.pys ds)
  | .tup ds => .tuple (D.pys ds)
  | .obj _ _ _ => .none
  | .emp => .none
def D.pys : List D → List PyData
  | [] => []
  | d :: ds => D.py d :: D.pys ds
end
/-- plain data (no instance), texts well-formed, at most so deep -/
def okN : Nat → D → Bool
  | _, .non => true
  | _, .bl _ => true
  | _, .int _ => true
  | _, .str x => x.cps.all (· < 0x110000)
  | n + 1, .lst ds => ds.all (okN n)
  | n + 1, .tup ds => ds.all (okN n)
  | _, _ => false
theorem pys_eq (ds : List D) : D.pys ds = ds.map D.py := by
  induction ds with
  | nil => simp [D.pys]
  | cons d ds ih => simp [D.pys, ih]
theorem okN_py : ∀ (n : Nat) (d : D), okN n d = true → d.py.canLay0 = true ∧ d.py.depth ≤ n := by
  intro n
  induction n with
  | zero =>
    intro d h
    cases d with
    | lst ds => cases h
    | tup ds => cases h
    | obj c ns ds => cases h
    | emp => cases h
    | str x => exact ⟨h, Nat.le_refl _⟩
    | _ => exact ⟨rfl, Nat.le_refl _⟩
  | succ n ih =>
    have all : ∀ ds : List D, ds.all (okN n) = true → PyData.canLayAll0 (D.pys ds) = true ∧ PyData.depthAll (D.pys ds) ≤ n := by
      intro ds
      induction ds with
      | nil => intro _; exact ⟨rfl, Nat.zero_le _⟩
      | cons d ds ih2 =>
        intro h
        rw [List.all_cons, Bool.and_eq_true] at h
        have h1 := ih d h.1
        have h2 := ih2 h.2
        refine ⟨?_, ?_⟩
        · rw [D.pys, PyData.canLayAll0, h1.1, h2.1]; rfl
        · rw [D.pys, PyData.depthAll]; omega
    intro d h
    cases d with
    | lst ds =>
      have h' := all ds h
      exact ⟨by rw [D.py, PyData.canLay0]; exact h'.1, by rw [D.py, PyData.depth]; omega⟩
    | tup ds =>
      have h' := all ds h
      exact ⟨by rw [D.py, PyData.canLay0]; exact h'.1, by rw [D.py, PyData.depth]; omega⟩
    | obj c ns ds => cases h
    | emp => cases h
    | str x => exact ⟨h, Nat.zero_le _⟩
    | non => exact ⟨rfl, Nat.zero_le _⟩
    | bl b => exact ⟨rfl, Nat.zero_le _⟩
    | int i => exact ⟨rfl, Nat.zero_le _⟩
theorem okN_shaped {d : D} (h : okN 20 d = true) : SeqAt.shaped d.py = true := by
  obtain ⟨h1, h2⟩ := okN_py 20 d h
  unfold SeqAt.shaped
  rw [h1]
  simp
  omega
mutual
theorem eqb_py : ∀ (n : Nat) (d e : D), okN n d = true → (∃ m, okN m e = true) → PyData.eqv d.py e.py = D.eqb d e
  | n, .non, e, _, he => by cases e <;> simp_all [D.py, D.eqb, PyData.eqv, okN]
  | n, .bl a, e, _, he => by cases e <;> simp_all [D.py, D.eqb, PyData.eqv, okN]
  | n, .int a, e, _, he => by cases e <;> simp_all [D.py, D.eqb, PyData.eqv, okN]
  | n, .str a, e, _, he => by cases e <;> simp_all [D.py, D.eqb, PyData.eqv, okN]
  | 0, .lst _, _, h, _ => by simp [okN] at h
  | 0, .tup _, _, h, _ => by simp [okN] at h
  | n + 1, .lst xs, e, h, he => by
    cases e with
    | lst ys =>
      rw [D.py, D.py, D.eqb, PyData.eqv]
      refine eqbs_py n xs ys (by simpa [okN] using h) ?_
      obtain ⟨m, hm⟩ := he
      cases m with
      | zero => simp [okN] at hm
      | succ m => exact ⟨m, by simpa [okN] using hm⟩
    | _ => simp_all [D.py, D.eqb, PyData.eqv, okN]
  | n + 1, .tup xs, e, h, he => by
    cases e with
    | tup ys =>
      rw [D.py, D.py, D.eqb, PyData.eqv]
      refine eqbs_py n xs ys (by simpa [okN] using h) ?_
      obtain ⟨m, hm⟩ := he
      cases m with
      | zero => simp [okN] at hm
      | succ m => exact ⟨m, by simpa [okN] using hm⟩
    | _ => simp_all [D.py, D.eqb, PyData.eqv, okN]
  | n, .obj c ns ds, e, h, _ => by cases n <;> simp [okN] at h
  | n, .emp, e, h, _ => by cases n <;> simp [okN] at h
theorem eqbs_py : ∀ (n : Nat) (xs ys : List D), (∀ d ∈ xs, okN n d = true) → (∃ m, ∀ d ∈ ys, okN m d = true) → PyData.eqvAll (D.pys xs) (D.pys ys) = D.eqbs xs ys
  | n, [], ys, _, _ => by cases ys <;> simp [D.pys, D.eqbs, PyData.eqvAll]
  | n, x :: xs, [], _, _ => by simp [D.pys, D.eqbs, PyData.eqvAll]
  | n, x :: xs, y :: ys, h, ⟨m, hm⟩ => by
    rw [D.pys, D.pys, D.eqbs, PyData.eqvAll]
    rw [eqb_py n x y (h x List.mem_cons_self) ⟨m, hm y List.mem_cons_self⟩, eqbs_py n xs ys (fun d q => h d (List.mem_cons_of_mem _ q)) ⟨m, fun d q => hm d (List.mem_cons_of_mem _ q)⟩]
end
section
variable {X : Cx} {M : MM} {Fz : Fzn} {H : Hp}
mutual
theorem rep_dp : ∀ (n : Nat) (d : D) (v : V), okN n d = true → Rep M Fz H d v → Dp M.K H v d.py
  | _, .non, v, _, r => by have := rep_non' r; subst this; rw [D.py]; exact .non
  | _, .bl b, v, _, r => by have := rep_bl' r; subst this; rw [D.py]; exact .bl b
  | _, .int b, v, _, r => by have := rep_int' r; subst this; rw [D.py]; exact .int b
  | _, .str b, v, _, r => by have := rep_str' r; subst this; rw [D.py]; exact .str b
  | 0, .lst _, _, h, _ => by simp [okN] at h
  | 0, .tup _, _, h, _ => by simp [okN] at h
  | n + 1, .lst ds, v, h, r => by
    obtain ⟨a, vs, rfl, h1, r1⟩ := rep_lst' r
    rw [D.py]
    exact .lst h1.sq (repL_dp n ds vs (by simpa [okN] using h) r1)
  | n + 1, .tup ds, v, h, r => by
    obtain ⟨a, vs, rfl, h1, r1⟩ := sqT_rep r
    rw [D.py]
    exact .tup h1 (repL_dp n ds vs (by simpa [okN] using h) r1)
  | n, .obj c ns ds, _, h, _ => by cases n <;> simp [okN] at h
  | n, .emp, _, h, _ => by cases n <;> simp [okN] at h
theorem repL_dp : ∀ (n : Nat) (ds : List D) (vs : List V), (∀ d ∈ ds, okN n d = true) → RepL M Fz H ds vs → DpAll M.K H vs (D.pys ds)
  | n, [], vs, _, r => by
    have := RepL.nil_iff.mp r
    subst this
    rw [D.pys]; exact .nil
  | n, d :: ds, vs, h, r => by
    obtain ⟨v, r', rfl, r1, r2⟩ := RepL.cons_iff.mp r
    rw [D.pys]
    exact .cons (rep_dp n d v (h d List.mem_cons_self) r1) (repL_dp n ds r' (fun d q => h d (List.mem_cons_of_mem _ q)) r2)
end
theorem trep_dp {n : Nat} {d : D} {v : V} (h : okN n d = true) (r : TRep M Fz H d v) : Dp M.K H v d.py := by
  cases d with
  | lst ds =>
    obtain ⟨a, vs, rfl, h1, r1⟩ := r
    rw [D.py]
    cases n with
    | zero => simp [okN] at h
    | succ n => exact .lst h1 (repL_dp n ds vs (by simpa [okN] using h) r1)
  | _ => exact rep_dp (Fz := Fz) n _ v h r
/-- == -/
def eqD (d e : D) : Option D := if okN 20 d && okN 20 e then some (.bl (D.eqb d e)) else none
def neD (d e : D) : Option D := if okN 20 d && okN 20 e then some (.bl (!D.eqb d e)) else none
theorem opt_eq : OpT M (rEqD M.K) eqD := by
  intro Fz H d e z x y Q dom rx ry eo k
  unfold eqD at eo
  split at eo
  · rename_i h
    rw [Bool.and_eq_true] at h
    injection eo with eo; subst eo
    refine ⟨d.py, e.py, trep_dp h.1 rx, trep_dp h.2 ry, okN_shaped h.1, okN_shaped h.2, ?_⟩
    rw [eqb_py 20 d e h.1 ⟨20, h.2⟩]
    exact k _ Fz H .refl rep_bl
  · cases eo
theorem opt_ne : OpT M (rNeD M.K) neD := by
  intro Fz H d e z x y Q dom rx ry eo k
  unfold neD at eo
  split at eo
  · rename_i h
    rw [Bool.and_eq_true] at h
    injection eo with eo; subst eo
    refine ⟨d.py, e.py, trep_dp h.1 rx, trep_dp h.2 ry, okN_shaped h.1, okN_shaped h.2, ?_⟩
    rw [eqb_py 20 d e h.1 ⟨20, h.2⟩]
    exact k _ Fz H .refl rep_bl
  · cases eo
theorem op_eqR {k : Nat} (hr : Room k X.A) : OpR X (compareOp .Eq) (rEqD X.K) := op_eqD hr.units
theorem op_neR {k : Nat} (hr : Room k X.A) : OpR X (compareOp .NotEq) (rNeD X.K) := op_neD hr.units

/-! ### in -/
def rInD (K : PySem.W.Frag) (neg : Bool) : R2 := fun x y H Q => ∃ d es, Dp K H x d ∧ (Dp K H y (.list es) ∨ Dp K H y (.tuple es)) ∧ SeqAt.shaped d = true ∧ PyData.canLayAll0 es = true ∧ Q (.bl (if neg then !(es.any fun y => PyData.eqv y d) else es.any fun y => PyData.eqv y d)) H
theorem room_in {A : Around} {xs : List PyData} {d : PyData} (hd : SeqAt.shaped d = true) (hu : A.units + 65 < cLine) : A.units + 1 + min (PyData.depthAll xs) d.depth < cLine := by
  have h1 := SeqAt.depth_of_shaped hd
  have h2 : min (PyData.depthAll xs) d.depth ≤ d.depth := Nat.min_le_right _ _
  omega
theorem op_inD (hu : X.A.units + 65 < cLine) : OpR X (compareOp .In) (rInD X.K false) := by
  intro pins s σ H x y v u Q I rx ry h
  obtain ⟨d, es, hd, he, sd, se, q⟩ := h
  obtain ⟨as, r1⟩ := Dp.reads I d x v hd rx
  rcases he with he | he
  · obtain ⟨bs, r2⟩ := Dp.reads I _ y u he ry
    exact SeqAt.in_list_reads r2 r1 se (SeqAt.canLay_of_shaped sd) (room_in sd hu) ⟨.bl _, H, I, rfl, q⟩
  · obtain ⟨bs, r2⟩ := Dp.reads I _ y u he ry
    exact SeqAt.in_tuple_reads r2 r1 se (SeqAt.canLay_of_shaped sd) (room_in sd hu) ⟨.bl _, H, I, rfl, q⟩
theorem op_notInD (hu : X.A.units + 65 < cLine) : OpR X (compareOp .NotIn) (rInD X.K true) := by
  intro pins s σ H x y v u Q I rx ry h
  obtain ⟨d, es, hd, he, sd, se, q⟩ := h
  obtain ⟨as, r1⟩ := Dp.reads I d x v hd rx
  rcases he with he | he
  · obtain ⟨bs, r2⟩ := Dp.reads I _ y u he ry
    exact SeqAt.notIn_list_reads r2 r1 se (SeqAt.canLay_of_shaped sd) (room_in sd hu) ⟨.bl _, H, I, rfl, q⟩
  · obtain ⟨bs, r2⟩ := Dp.reads I _ y u he ry
    exact SeqAt.notIn_tuple_reads r2 r1 se (SeqAt.canLay_of_shaped sd) (room_in sd hu) ⟨.bl _, H, I, rfl, q⟩
def memD (d : D) (es : List D) : Bool := es.any fun y => D.eqb y d
def inD : D → D → Option D
  | d, .lst es => if okN 20 d && es.all (okN 20) then some (.bl (memD d es)) else none
  | d, .tup es => if okN 20 d && es.all (okN 20) then some (.bl (memD d es)) else none
  | _, _ => none
def notInD : D → D → Option D
  | d, .lst es => if okN 20 d && es.all (okN 20) then some (.bl (!memD d es)) else none
  | d, .tup es => if okN 20 d && es.all (okN 20) then some (.bl (!memD d es)) else none
  | _, _ => none
theorem any_py {d : D} (hd : okN 20 d = true) : ∀ es : List D, es.all (okN 20) = true → (D.pys es).any (fun y => PyData.eqv y d.py) = memD d es
  | [], _ => by simp [D.pys, memD]
  | e :: es, h => by
    rw [List.all_cons, Bool.and_eq_true] at h
    rw [D.pys, List.any_cons, any_py hd es h.2, eqb_py 20 e d h.1 ⟨20, hd⟩]
    simp [memD]
theorem lays {es : List D} (h : es.all (okN 20) = true) : PyData.canLayAll0 (D.pys es) = true := by
  have z := okN_py 21 (.lst es) (by simpa [okN] using h)
  have z1 := z.1
  rw [D.py, PyData.canLay0] at z1
  exact z1
theorem in_aux {Q : VK} {d : D} {es : List D} {x y : V} {neg : Bool} {c : Bool} (h : (okN 20 d && es.all (okN 20)) = true) (rx : TRep M Fz H d x) (ry : TRep M Fz H (.lst es) y ∨ TRep M Fz H (.tup es) y) (hc : c = if neg then !memD d es else memD d es) (k : Q (.bl c) H) : rInD M.K neg x y H Q := by
  rw [Bool.and_eq_true] at h
  refine ⟨d.py, D.pys es, trep_dp h.1 rx, ?_, okN_shaped h.1, lays h.2, ?_⟩
  · rcases ry with ry | ry
    · have z := trep_dp (n := 21) (d := .lst es) (by simpa [okN] using h.2) ry
      rw [D.py] at z
      exact .inl z
    · have z := trep_dp (n := 21) (d := .tup es) (by simpa [okN] using h.2) ry
      rw [D.py] at z
      exact .inr z
  · rw [any_py h.1 es h.2, ← hc]
    exact k
theorem opt_in : OpT M (rInD M.K false) inD := by
  intro Fz H d e z x y Q dom rx ry eo k
  unfold inD at eo
  split at eo
  · split at eo
    · rename_i h
      injection eo with eo; subst eo
      exact in_aux h rx (.inl ry) (by simp) (k _ Fz H .refl rep_bl)
    · cases eo
  · split at eo
    · rename_i h
      injection eo with eo; subst eo
      exact in_aux h rx (.inr ry) (by simp) (k _ Fz H .refl rep_bl)
    · cases eo
  · cases eo
theorem opt_notIn : OpT M (rInD M.K true) notInD := by
  intro Fz H d e z x y Q dom rx ry eo k
  unfold notInD at eo
  split at eo
  · split at eo
    · rename_i h
      injection eo with eo; subst eo
      exact in_aux h rx (.inl ry) (by simp) (k _ Fz H .refl rep_bl)
    · cases eo
  · split at eo
    · rename_i h
      injection eo with eo; subst eo
      exact in_aux h rx (.inr ry) (by simp) (k _ Fz H .refl rep_bl)
    · cases eo
  · cases eo
theorem op_inR {k : Nat} (hr : Room k X.A) : OpR X (compareOp .In) (rInD X.K false) := op_inD (by have := hr.un; omega)
theorem op_notInR {k : Nat} (hr : Room k X.A) : OpR X (compareOp .NotIn) (rInD X.K true) := op_notInD (by have := hr.un; omega)

/-! ### is None -/
def D.isNon : D → Bool
  | .non => true
  | _ => false
def isD : D → D → Option D
  | d, .non => some (.bl d.isNon)
  | _, _ => none
def isNotD : D → D → Option D
  | d, .non => some (.bl (!d.isNon))
  | _, _ => none
theorem isNon_rep {d : D} {x : V} (r : TRep M Fz H d x) : decide (x = .non) = d.isNon := by
  cases d with
  | non => rw [tnon' r]; rfl
  | bl b => rw [tbl' r]; rfl
  | int i => rw [tint' r]; rfl
  | str i => rw [tstr' r]; rfl
  | tup ds =>
    obtain ⟨a, vs, rfl, _⟩ := sqT_rep (M := M) (Fz := Fz) (H := H) r
    rfl
  | lst ds =>
    obtain ⟨a, vs, rfl, _⟩ := r
    rfl
  | obj c ns ds =>
    have r' : Rep M Fz H (.obj c ns ds) x := r
    unfold Rep at r'
    obtain ⟨a, C, dx, vs, rfl, _⟩ := r'
    rfl
  | emp =>
    have r' : Rep M Fz H .emp x := r
    unfold Rep at r'
    obtain ⟨a, rfl, _⟩ := r'
    rfl
theorem opt_is : OpT M (fun x y H Q => y = .non ∧ Q (.bl (decide (x = .non))) H) isD := by
  intro Fz H d e z x y Q dom rx ry eo k
  unfold isD at eo
  split at eo
  · injection eo with eo; subst eo
    refine ⟨tnon' ry, ?_⟩
    rw [isNon_rep rx]
    exact k _ Fz H .refl rep_bl
  · cases eo
theorem opt_isNot : OpT M (fun x y H Q => y = .non ∧ Q (.bl (!decide (x = .non))) H) isNotD := by
  intro Fz H d e z x y Q dom rx ry eo k
  unfold isNotD at eo
  split at eo
  · injection eo with eo; subst eo
    refine ⟨tnon' ry, ?_⟩
    rw [isNon_rep rx]
    exact k _ Fz H .refl rep_bl
  · cases eo

/-! ### items -/
def ixD : D → D → Option D
  | .lst ds, .int i => atI ds i
  | .tup ds, .int i => atI ds i
  | _, _ => none
theorem atI_rep {ds : List D} {vs : List V} {i : Int} {d : D} (r : RepL M Fz H ds vs) (h : atI ds i = some d) : ∃ v, atI vs i = some v ∧ Rep M Fz H d v := by
  unfold atI at h ⊢
  rw [← r.length]
  obtain ⟨j, hj, e⟩ := Option.bind_eq_some_iff.mp h
  obtain ⟨v, hv, rv⟩ := r.get e
  exact ⟨v, by rw [hj]; exact hv, rv⟩
def rIxA (K : PySem.W.Frag) : R2 := fun x y H Q => rIxL K x y H Q ∨ rIxT K x y H Q
theorem ix_A : IxR X (rIxA X.K) := ix_list.or ix_tup
theorem opt_ix : OpT M (rIxA M.K) ixD := by
  intro Fz H d e z x y Q dom rx ry eo k
  unfold ixD at eo
  split at eo
  · obtain ⟨a, vs, rfl, h1, r1⟩ := rx
    obtain ⟨v, hv, rv⟩ := atI_rep r1 eo
    exact .inl ⟨a, vs, _, v, rfl, tint' ry, h1, hv, k _ Fz H .refl rv⟩
  · obtain ⟨a, vs, rfl, h1, r1⟩ := sqT_rep (M := M) (Fz := Fz) (H := H) rx
    obtain ⟨v, hv, rv⟩ := atI_rep r1 eo
    exact .inr ⟨a, vs, _, v, rfl, tint' ry, h1, hv, k _ Fz H .refl rv⟩
  · cases eo
end
end DL

set_option Elab.async false
set_option linter.all false
set_option maxRecDepth 100000
set_option maxHeartbeats 4000000
/-! Den4: argument lists, displays, built-in functions, isinstance, fields, calls of defs. -/
namespace DL
open PySem L2 PySem.Spec PyProof.Rows

/-- a fresh list is frozen -/
theorem BRel.fzFresh {b : B} {Fz : Fzn} {g : Sg} {σ : L2.St} {H : Hp} {p : Addr} {u : HO} (r : BRel b Fz g σ H) (h0 : b.H0 p = none) (hu : H p = some u) (hA : ∀ i, ¬ AOwn g σ H i p) : BRel b (fzAdd Fz p) g σ H := by
  have ho : ∀ i, ¬ Own g σ i p := fun i z => hA i (.inl z)
  have ex : Ext Fz H (fzAdd Fz p) H := ⟨fun _ q => .inl q, fun _ _ q _ => q⟩
  refine ⟨⟨fun a q => ?_, fun a q => .inl (r.gr.fz a q), fun a q => ?_, r.gr.fr, r.gr.oa⟩, ⟨r.rel.len, fun i t q => ?_, r.rel.apart⟩, r.own, r.pin, r.px, r.nst.step rfl ex (fun i dss h => ⟨h, rfl⟩) (fun _ _ _ => rfl) fun j x q => let ⟨k1, k2, k3⟩ := r.nst.free j x q; ⟨fun z => z.elim k1 fun z => hA j (.inr (by rw [← z]; exact q)), k2, k3⟩⟩
  · rcases q with q | q
    · exact r.gr.dom a q
    · subst q; exact ⟨u, hu⟩
  · rcases q with q | q
    · exact r.gr.new a q
    · subst q; exact .inr h0
  · have z := r.slot q
    by_cases ht : t.isOw = true
    · obtain ⟨x, o, e3, n3, h3, w3⟩ := z.own ht
      refine SlotOk.of_own e3 (fun y => ?_) h3 (w3.mono ex)
      rcases y with y | y
      · exact n3 y
      · subst y
        exact ho i ⟨⟨t, q, ht⟩, e3⟩
    · cases t with
      | un => trivial
      | on dss => trivial
      | v d => obtain ⟨x, e3, r3⟩ := z; exact ⟨x, e3, Rep.mono ex d x r3⟩
      | _ => exact absurd rfl ht

section
variable {X : Cx} {b : B} {W : WX} {e e1 e2 e3 : Expr} {es : List Expr} {f f1 f2 f3 : FE} {pos p p2 : Pos}

/-! ### argument lists -/
def nilA : FA := fun g => .ok [] g
def consA (f : FE) (fr : FA) : FA := fun g => (f g).bd fun d g1 => (fr g1).bd fun ds g2 => .ok (d :: ds) g2
theorem pda_nil : PA X [] (tAr b W nilA) := pa_mono pa_nil fun σ H Q ⟨Fz, g, r, h⟩ => h [] H Fz r .refl RepL.nil
theorem pda_cons {fr : FA} (h1 : PE X e (tE b W f)) (h2 : PA X es (tAr b W fr)) (hs : starEach (e :: es) X.env = (false, eval e X.env) :: starEach es X.env := by rfl) : PA X (e :: es) (tAr b W (consA f fr)) :=
  pa_mono (pa_cons h1 h2 hs) fun σ H Q ⟨Fz, g, r, h⟩ => tG_seq r h fun d x g1 Fz1 H1 r1 e1 rep1 h1 => tG_seq r1 h1 fun ds xs g2 Fz2 H2 r2 e2 rep2 h2 => h2.ok r2 .refl (RepL.cons (Rep.mono e2 d x rep1) rep2)
def nilV : FV := fun g => .ok [] g
def consV (f : Sg → R AV) (fr : FV) : FV := fun g => (f g).bd fun a g1 => (fr g1).bd fun as g2 => if resI g2 a = true then .ok (a :: as) g2 else .no
theorem pva_nil : PA X [] (tAv b W nilV) := pa_mono pa_nil fun σ H Q ⟨Fz, g, r, h⟩ => h [] H Fz r .refl rfl
theorem pva_cons {f : Sg → R AV} {fr : FV} (h1 : PE X e (tA1 b W f)) (h2 : PA X es (tAv b W fr)) (hs : starEach (e :: es) X.env = (false, eval e X.env) :: starEach es X.env := by rfl) : PA X (e :: es) (tAv b W (consV f fr)) :=
  pa_mono (pa_cons h1 h2 hs) fun σ H Q ⟨Fz, g, r, h⟩ => tG_seq r h fun a x g1 Fz1 H1 r1 e1 rep1 h1 => tG_seq r1 h1 fun as xs g2 Fz2 H2 r2 e2 rep2 h2 => by
    by_cases c : resI g2 a = true
    · rw [if_pos c] at h2
      exact h2.ok r2 .refl ⟨x, xs, rfl, rep1.mono e2 (resI_ok c), rep2⟩
    · rw [if_neg c] at h2
      exact h2.elim

/-! ### displays -/
def tupF (fa : FA) : FE := fun g => (fa g).bd fun ds g1 => if szOk ds.length = true then .ok (.tup ds) g1 else .no
theorem pd_tup {fa : FA} {x1} (h : PA X es (tAr b W fa)) : PE X (.Tuple es x1 pos) (tE b W (tupF fa)) :=
  pe_mono (pe_tup h) fun σ H Q ⟨Fz, g, r, h⟩ => tG_seq r h fun ds xs g1 Fz1 H1 r1 e1 rep1 h1 => by
    by_cases c : szOk ds.length = true
    · rw [if_pos c] at h1
      have rep' : RepL b.M Fz1 H1 ds xs := rep1
      refine ⟨by rw [← rep'.length]; exact szOk_le c, fun p hp => ?_⟩
      obtain ⟨gr, rv⟩ := newT (M := b.M) hp rep'
      exact h1.ok (r1.grow gr) gr.ext rv
    · rw [if_neg c] at h1
      exact h1.elim
def lstF (fa : FA) : FF := fun g => (fa g).bd fun ds g1 => if szOk ds.length = true then .ok ds g1 else .no
/-- a list laid just now is fresh -/
theorem fresh_new {Fz : Fzn} {g : Sg} {σ : L2.St} {H : Hp} {p : Addr} {ds : List D} {vs : List V} (r : BRel b Fz g σ H) (hp : H p = none) (rep : RepL b.M Fz H ds vs) : BRel b Fz g σ (upd H p (.lst vs)) ∧ bF b σ Fz (upd H p (.lst vs)) g ds (.ref p) := by
  have gr : GrowTo Fz H Fz (upd H p (.lst vs)) := .alloc hp
  exact ⟨r.grow gr, p, vs, rfl, r.new0 hp, r.notFz hp, upd_same, r.notAu hp, rep.grow gr⟩
theorem pf_lst {fa : FA} (h : PA X es (tAr b W fa)) : PE X (.List es pos) (tFr b W (lstF fa)) :=
  pe_mono (pe_lst h) fun σ H Q ⟨Fz, g, r, h⟩ => tG_seq r h fun ds xs g1 Fz1 H1 r1 e1 rep1 h1 => by
    by_cases c : szOk ds.length = true
    · rw [if_pos c] at h1
      have rep' : RepL b.M Fz1 H1 ds xs := rep1
      refine ⟨by rw [← rep'.length]; exact szOk_le c, fun p hp => ?_⟩
      obtain ⟨r2, fr⟩ := fresh_new r1 hp rep'
      exact h1.ok r2 (GrowTo.alloc hp).ext fr
    · rw [if_neg c] at h1
      exact h1.elim
/-- a fresh list as a value -/
def frF (f : FF) : FE := fun g => (f g).bd fun ds g1 => .ok (.lst ds) g1
theorem fresh_rep {Fz : Fzn} {g : Sg} {σ : L2.St} {H : Hp} {ds : List D} {x : V} (r : BRel b Fz g σ H) (h : bF b σ Fz H g ds x) : ∃ Fz', BRel b Fz' g σ H ∧ Ext Fz H Fz' H ∧ Rep b.M Fz' H (.lst ds) x := by
  obtain ⟨p, vs, rfl, h0, nf, hu, ho, rep⟩ := h
  have ex : Ext Fz H (fzAdd Fz p) H := ⟨fun _ q => .inl q, fun _ _ q _ => q⟩
  exact ⟨fzAdd Fz p, r.fzFresh h0 hu ho, ex, rep_lst (.inl ⟨.inr rfl, hu⟩) (RepL.mono ex _ _ rep)⟩
theorem pd_fr {ff : FF} (h : PE X e (tFr b W ff)) : PE X e (tE b W (frF ff)) := pe_mono h fun σ H Q ⟨Fz, g, r, h⟩ => tG_seq r h fun ds x g1 Fz1 H1 r1 e1 rep1 h1 => by
  obtain ⟨Fz2, r2, e2, rv⟩ := fresh_rep r1 rep1
  exact h1.ok r2 e2 rv

/-! ### built-in functions on data -/
def TRepL (M : MM) (Fz : Fzn) (H : Hp) : List D → List V → Prop
  | [], xs => xs = []
  | d :: ds, xs => ∃ x r, xs = x :: r ∧ TRep M Fz H d x ∧ TRepL M Fz H ds r
def CallT (M : MM) (r : List V → Hp → VK → Prop) (o : List D → Option D) : Prop := ∀ {Fz : Fzn} {H : Hp} {ds : List D} {z : D} {xs : List V} {Q : VK}, (∀ a, Fz a → ∃ o, H a = some o) → TRepL M Fz H ds xs → o ds = some z →
  (∀ v Fz' H', GrowTo Fz H Fz' H' → Rep M Fz' H' z v → Q v H') → r xs H Q
/-- .. whose answer is a new list -/
def CallTF (M : MM) (r : List V → Hp → VK → Prop) (o : List D → Option (List D)) : Prop := ∀ {Fz : Fzn} {H : Hp} {ds zs : List D} {xs : List V} {Q : VK}, (∀ a, Fz a → ∃ o, H a = some o) → TRepL M Fz H ds xs → o ds = some zs →
  (∀ p vs, H p = none → RepL M Fz H zs vs → Q (.ref p) (upd H p (.lst vs))) → r xs H Q
def ress (g : Sg) : List AV → Option (List D)
  | [] => some []
  | a :: as => (res g a).bind fun d => (ress g as).bind fun ds => some (d :: ds)
theorem ress_ok {Fz : Fzn} {g : Sg} {σ : L2.St} {H : Hp} (r : BRel b Fz g σ H) : ∀ {as : List AV} {xs : List V} {ds : List D}, AVsOk b σ Fz H g as xs → ress g as = some ds → TRepL b.M Fz H ds xs
  | [], xs, ds, h, e => by
    have e' : [] = ds := Option.some.inj e
    subst e'
    exact h
  | a :: as, xs, ds, h, e => by
    obtain ⟨x, r', rfl, h1, h2⟩ := h
    obtain ⟨d, ed, e⟩ := Option.bind_eq_some_iff.mp e
    obtain ⟨ds', eds, e⟩ := Option.bind_eq_some_iff.mp e
    have e' := Option.some.inj e
    subst e'
    exact ⟨x, r', rfl, res_ok r h1 ed, ress_ok r h2 eds⟩
def bltF (o : List D → Option D) (fa : FV) : FE := fun g => (fa g).bd fun as g1 => opt ((ress g1 as).bind o) g1
def bltFF (o : List D → Option (List D)) (fa : FV) : FF := fun g => (fa g).bd fun as g1 => opt ((ress g1 as).bind o) g1
theorem tE_blt {r : List V → Hp → VK → Prop} {o : List D → Option D} {fa : FV} (ho : CallT b.M r o) {σ : L2.St} {H : Hp} {Q : VK} (h : tE b W (bltF o fa) σ H Q) : tCB r (tAv b W fa) σ H Q := by
  obtain ⟨Fz, g, r0, h⟩ := h
  refine tG_seq r0 h fun as xs g1 Fz1 H1 r1 e1 rep1 h1 => ?_
  obtain ⟨z, ez, h3⟩ := h1.opt
  obtain ⟨ds, eds, ez⟩ := Option.bind_eq_some_iff.mp ez
  exact ho r1.gr.dom (ress_ok r1 rep1 eds) ez fun v Fz' H' gr rv => h3.ok (r1.grow gr) gr.ext rv
theorem tF_blt {r : List V → Hp → VK → Prop} {o : List D → Option (List D)} {fa : FV} (ho : CallTF b.M r o) {σ : L2.St} {H : Hp} {Q : VK} (h : tFr b W (bltFF o fa) σ H Q) : tCB r (tAv b W fa) σ H Q := by
  obtain ⟨Fz, g, r0, h⟩ := h
  refine tG_seq r0 h fun as xs g1 Fz1 H1 r1 e1 rep1 h1 => ?_
  obtain ⟨z, ez, h3⟩ := h1.opt
  obtain ⟨ds, eds, ez⟩ := Option.bind_eq_some_iff.mp ez
  refine ho r1.gr.dom (ress_ok r1 rep1 eds) ez fun p vs hp rep => ?_
  obtain ⟨r2, fr⟩ := fresh_new r1 hp rep
  exact h3.ok r2 (GrowTo.alloc hp).ext fr
section
variable {x : Str} {id T : String} {r : List V → Hp → VK → Prop} {o : List D → Option D} {ol : List D → Option (List D)} {fa : FV}
theorem pd_blt (hc : CallR X (.builtin id) r) (ho : CallT b.M r o) (hg : Gl X x) (hm : X.mg x = none) (hv : bootBuiltins x = some (.builtin id)) (ha : PA X (e :: es) (tAv b W fa)) (hn : x ≠ "__name__" := by decide) (hdb : (x == ("__debug__" : Str)) = false := by decide)
    (he : starEach (e :: es) X.env = (false, eval e X.env) :: starEach es X.env := by rfl) (hpl : (backTo pos (starEach es X.env)).any (·.1) = false := by rfl) : PE X (.Call (.Name x p) (e :: es) [] pos) (tE b W (bltF o fa)) :=
  pe_mono (pe_callB hc hg hm hv ha hn hdb he hpl) fun _ _ _ h => tE_blt ho h
theorem pf_blt (hc : CallR X (.builtin id) r) (ho : CallTF b.M r ol) (hg : Gl X x) (hm : X.mg x = none) (hv : bootBuiltins x = some (.builtin id)) (ha : PA X (e :: es) (tAv b W fa)) (hn : x ≠ "__name__" := by decide) (hdb : (x == ("__debug__" : Str)) = false := by decide)
    (he : starEach (e :: es) X.env = (false, eval e X.env) :: starEach es X.env := by rfl) (hpl : (backTo pos (starEach es X.env)).any (·.1) = false := by rfl) : PE X (.Call (.Name x p) (e :: es) [] pos) (tFr b W (bltFF ol fa)) :=
  pe_mono (pe_callB hc hg hm hv ha hn hdb he hpl) fun _ _ _ h => tF_blt ho h
theorem pd_ty (hc : CallR X (.type T) r) (ho : CallT b.M r o) (hg : Gl X x) (hm : X.mg x = none) (hv : bootBuiltins x = some (.type T)) (ha : PA X (e :: es) (tAv b W fa)) (hn : x ≠ "__name__" := by decide) (hdb : (x == ("__debug__" : Str)) = false := by decide)
    (he : starEach (e :: es) X.env = (false, eval e X.env) :: starEach es X.env := by rfl) (hpl : (backTo pos (starEach es X.env)).any (·.1) = false := by rfl) : PE X (.Call (.Name x p) (e :: es) [] pos) (tE b W (bltF o fa)) :=
  pe_mono (pe_callTy hc hg hm hv ha hn hdb he hpl) fun _ _ _ h => tE_blt ho h
theorem pf_ty (hc : CallR X (.type T) r) (ho : CallTF b.M r ol) (hg : Gl X x) (hm : X.mg x = none) (hv : bootBuiltins x = some (.type T)) (ha : PA X (e :: es) (tAv b W fa)) (hn : x ≠ "__name__" := by decide) (hdb : (x == ("__debug__" : Str)) = false := by decide)
    (he : starEach (e :: es) X.env = (false, eval e X.env) :: starEach es X.env := by rfl) (hpl : (backTo pos (starEach es X.env)).any (·.1) = false := by rfl) : PE X (.Call (.Name x p) (e :: es) [] pos) (tFr b W (bltFF ol fa)) :=
  pe_mono (pe_callTy hc hg hm hv ha hn hdb he hpl) fun _ _ _ h => tF_blt ho h
end

/-! ### which -/
variable {M : MM}
def seqOf : D → Option (List D)
  | .lst ds => some ds
  | .tup ds => some ds
  | _ => none
theorem seq_rep {Fz : Fzn} {H : Hp} {d : D} {x : V} {ds : List D} (r : TRep M Fz H d x) (e : seqOf d = some ds) : ∃ a vs, x = .ref a ∧ (SqL M.K H a vs ∨ SqT M.K H a vs) ∧ RepL M Fz H ds vs := by
  cases d with
  | lst ds' =>
    have e' : ds' = ds := Option.some.inj e
    subst e'
    obtain ⟨a, vs, e, h, rr⟩ := r
    exact ⟨a, vs, e, .inl h, rr⟩
  | tup ds' =>
    have e' : ds' = ds := Option.some.inj e
    subst e'
    obtain ⟨a, vs, e, h, rr⟩ := sqT_rep (M := M) (Fz := Fz) (H := H) r
    exact ⟨a, vs, e, .inr h, rr⟩
  | _ => cases e
theorem trep1 {Fz : Fzn} {H : Hp} {d : D} {xs : List V} (h : TRepL M Fz H [d] xs) : ∃ x, xs = [x] ∧ TRep M Fz H d x := by
  obtain ⟨x, r, rfl, h1, h2⟩ := h
  have h2' : r = [] := h2
  subst h2'
  exact ⟨x, rfl, h1⟩
theorem trep2 {Fz : Fzn} {H : Hp} {d e : D} {xs : List V} (h : TRepL M Fz H [d, e] xs) : ∃ x y, xs = [x, y] ∧ TRep M Fz H d x ∧ TRep M Fz H e y := by
  obtain ⟨x, r, rfl, h1, h2⟩ := h
  have h3 := trep1 h2
  clear h2
  obtain ⟨y, rfl, h2⟩ := h3
  exact ⟨x, y, rfl, h1, h2⟩
/-- the int of a list of ints -/
def intD : D → Option Int
  | .int i => some i
  | _ => none
def boolD : D → Option Bool
  | .bl i => some i
  | _ => none
def intsD : List D → Option (List Int)
  | [] => some []
  | d :: ds => (intD d).bind fun i => (intsD ds).bind fun is => some (i :: is)
def boolsD : List D → Option (List Bool)
  | [] => some []
  | d :: ds => (boolD d).bind fun i => (boolsD ds).bind fun is => some (i :: is)
theorem ints_rep {Fz : Fzn} {H : Hp} : ∀ {ds : List D} {vs : List V} {ns : List Int}, RepL M Fz H ds vs → intsD ds = some ns → vs = ns.map V.int ∧ ds = ns.map D.int
  | [], vs, ns, r, e => by
    have e' : [] = ns := Option.some.inj e
    subst e'
    exact ⟨RepL.nil_iff.mp r, rfl⟩
  | d :: ds, vs, ns, r, e => by
    obtain ⟨v, r', rfl, r1, r2⟩ := RepL.cons_iff.mp r
    obtain ⟨i, ei, e⟩ := Option.bind_eq_some_iff.mp e
    obtain ⟨is, eis, e⟩ := Option.bind_eq_some_iff.mp e
    have e' := Option.some.inj e
    subst e'
    obtain ⟨h1, h2⟩ := ints_rep r2 eis
    cases d with
    | int j =>
      have ej : j = i := Option.some.inj ei
      subst ej
      rw [h1, h2, rep_int' r1]
      exact ⟨rfl, rfl⟩
    | _ => cases ei
theorem bools_rep {Fz : Fzn} {H : Hp} : ∀ {ds : List D} {vs : List V} {ns : List Bool}, RepL M Fz H ds vs → boolsD ds = some ns → vs = ns.map V.bl
  | [], vs, ns, r, e => by
    have e' : [] = ns := Option.some.inj e
    subst e'
    exact RepL.nil_iff.mp r
  | d :: ds, vs, ns, r, e => by
    obtain ⟨v, r', rfl, r1, r2⟩ := RepL.cons_iff.mp r
    obtain ⟨i, ei, e⟩ := Option.bind_eq_some_iff.mp e
    obtain ⟨is, eis, e⟩ := Option.bind_eq_some_iff.mp e
    have e' := Option.some.inj e
    subst e'
    have h1 := bools_rep r2 eis
    cases d with
    | bl j =>
      have ej : j = i := Option.some.inj ei
      subst ej
      rw [h1, rep_bl' r1]
      rfl
    | _ => cases ei
theorem intsD_map (ns : List Int) : intsD (ns.map D.int) = some ns := by
  induction ns with
  | nil => rfl
  | cons n ns ih => simp [intsD, intD, ih]
theorem boolsD_map (ns : List Bool) : boolsD (ns.map D.bl) = some ns := by
  induction ns with
  | nil => rfl
  | cons n ns ih => simp [boolsD, boolD, ih]

/-- len -/
def lenD : List D → Option D
  | [.str x] => if szOk x.length then some (.int x.length) else none
  | [d] => (seqOf d).bind fun ds => some (.int ds.length)
  | _ => none
def rLenA (K : PySem.W.Frag) : List V → Hp → VK → Prop := fun xs H Q => (∃ p ys, xs = [.ref p] ∧ (SqL K H p ys ∨ SqT K H p ys) ∧ Q (.int ys.length) H) ∨ ∃ z : Str, xs = [.str z] ∧ z.length ≤ sizeLine ∧ Q (.int z.length) H
theorem call_lenA : CallR X (.builtin "len") (rLenA X.K) := call_len_seq.or call_len_str
theorem callT_len : CallT M (rLenA M.K) lenD := by
  intro Fz H ds z xs Q dom rx eo k
  unfold lenD at eo
  split at eo
  · split at eo
    · rename_i hz
      injection eo with eo; subst eo
      have rx0 := trep1 rx
      clear rx
      obtain ⟨x, rfl, rx⟩ := rx0
      rw [tstr' rx]
      exact .inr ⟨_, rfl, szOk_le hz, k _ Fz H .refl rep_int⟩
    · cases eo
  · obtain ⟨ds, eds, eo⟩ := Option.bind_eq_some_iff.mp eo
    injection eo with eo; subst eo
    have rx0 := trep1 rx
    clear rx
    obtain ⟨x, rfl, rx⟩ := rx0
    obtain ⟨a, vs, rfl, h, r⟩ := seq_rep rx eds
    rw [r.length] at k
    exact .inl ⟨a, vs, rfl, h, k _ Fz H .refl rep_int⟩
  · cases eo
def absD : List D → Option D
  | [.int i] => some (.int i.natAbs)
  | _ => none
theorem callT_abs : CallT M (fun xs H Q => ∃ i, xs = [.int i] ∧ Q (.int (if i < 0 then -i else i)) H) absD := by
  intro Fz H ds z xs Q dom rx eo k
  unfold absD at eo
  split at eo
  · rename_i i
    injection eo with eo; subst eo
    have rx0 := trep1 rx
    clear rx
    obtain ⟨x, rfl, rx⟩ := rx0
    rw [tint' rx]
    have e : (if i < 0 then -i else i) = (i.natAbs : Int) := by split <;> omega
    exact ⟨_, rfl, by rw [e]; exact k _ Fz H .refl rep_int⟩
  · cases eo
def max2D : List D → Option D
  | [.int i, .int j] => some (.int (max i j))
  | _ => none
def min2D : List D → Option D
  | [.int i, .int j] => some (.int (min i j))
  | _ => none
theorem callT_max2 : CallT M (fun xs H Q => ∃ i j, xs = [.int i, .int j] ∧ Q (.int (if j > i then j else i)) H) max2D := by
  intro Fz H ds z xs Q dom rx eo k
  unfold max2D at eo
  split at eo
  · rename_i i j
    injection eo with eo; subst eo
    have rx0 := trep2 rx
    clear rx
    obtain ⟨x, y, rfl, rx, ry⟩ := rx0
    rw [tint' rx, tint' ry]
    have e : (if j > i then j else i) = max i j := by split <;> omega
    exact ⟨_, _, rfl, by rw [e]; exact k _ Fz H .refl rep_int⟩
  · cases eo
theorem callT_min2 : CallT M (fun xs H Q => ∃ i j, xs = [.int i, .int j] ∧ Q (.int (if j < i then j else i)) H) min2D := by
  intro Fz H ds z xs Q dom rx eo k
  unfold min2D at eo
  split at eo
  · rename_i i j
    injection eo with eo; subst eo
    have rx0 := trep2 rx
    clear rx
    obtain ⟨x, y, rfl, rx, ry⟩ := rx0
    rw [tint' rx, tint' ry]
    have e : (if j < i then j else i) = min i j := by split <;> omega
    exact ⟨_, _, rfl, by rw [e]; exact k _ Fz H .refl rep_int⟩
  · cases eo
/-! sum, min, max, any, all of a tuple -/
section
variable {prog : Program} {w : World} {A : Around} {E : Value → Shared → Prop} {s : Shared} {l : Addr}
theorem iter_anyT {items : Array Value} {Q : Value → Shared → Prop} (hl : s.heap.IsTuple l items)
    (h : ∀ s₂ : Shared, s₂ = { s with heap := s.heap.push { cls := .type "tuple_iterator", data := .fields #[.ref l, .int 0 0] } } →
      (s₂.heap.IsTupleIter s.heap.objs.size l 0 ∧ s₂.heap.IsTuple l items) → (∀ b ∈ [s.heap.objs.size, l], b < s₂.heap.objs.size) → l ≠ s.heap.objs.size → Q (.ref s.heap.objs.size) s₂) : wpAny (model prog w) A (pyIter (.ref l)) Q E s := by
  have hlt : l < s.heap.objs.size := by obtain ⟨_, e, _⟩ := hl; exact Heap.lt_size e
  refine wpAny_pyIter_tuple hl (h _ rfl ⟨⟨_, Heap.get?_push_size _ rfl, rfl, rfl⟩, hl.push _⟩ (fun b hb => ?_) (Nat.ne_of_lt hlt))
  show b < (s.heap.push _).objs.size
  rw [Heap.size_push]
  rcases List.mem_cons.mp hb with rfl | hb
  · exact Nat.lt_succ_self _
  · rcases List.mem_cons.mp hb with rfl | hb
    · exact Nat.lt_succ_of_lt hlt
    · cases hb
theorem old_keptT {h' : Heap} (hk : ∀ b o, b ∉ [s.heap.objs.size] → (s.heap.push { cls := .type "tuple_iterator", data := .fields #[.ref l, .int 0 0] }).get? b = some o → h'.get? b = some o) :
    ∀ b o, s.heap.get? b = some o → h'.get? b = some o := fun b o e => by
  refine hk b o (fun hm => ?_) (Heap.get?_push_of_some _ e)
  rcases List.mem_cons.mp hm with e1 | hm
  · exact absurd (e1 ▸ Heap.lt_size e) (Nat.lt_irrefl _)
  · cases hm
end
def rSumT (K : PySem.W.Frag) : List V → Hp → VK → Prop := fun vs H Q => ∃ (a : Addr) (ns : List Int), vs = [V.ref a] ∧ SqT K H a (ns.map V.int) ∧ Q (.int ns.sum) H
def rMaxT (K : PySem.W.Frag) : List V → Hp → VK → Prop := fun vs H Q => ∃ (a : Addr) (ns : List Int), vs = [V.ref a] ∧ SqT K H a (ns.map V.int) ∧ 0 < ns.length ∧ ∀ m, m ∈ ns → (∀ y, y ∈ ns → y ≤ m) → Q (.int m) H
def rMinT (K : PySem.W.Frag) : List V → Hp → VK → Prop := fun vs H Q => ∃ (a : Addr) (ns : List Int), vs = [V.ref a] ∧ SqT K H a (ns.map V.int) ∧ 0 < ns.length ∧ ∀ m, m ∈ ns → (∀ y, y ∈ ns → m ≤ y) → Q (.int m) H
def rAnyT (K : PySem.W.Frag) : List V → Hp → VK → Prop := fun vs H Q => ∃ (a : Addr) (bs : List Bool), vs = [V.ref a] ∧ SqT K H a (bs.map V.bl) ∧ Q (.bl (bs.any id)) H
def rAllT (K : PySem.W.Frag) : List V → Hp → VK → Prop := fun vs H Q => ∃ (a : Addr) (bs : List Bool), vs = [V.ref a] ∧ SqT K H a (bs.map V.bl) ∧ Q (.bl (bs.all id)) H
section
variable {X : Cx}
theorem cr_sumT (hc : X.calm = true) : CallR X (.builtin "sum") (rSumT X.K) := by
  intro pins s σ H vs us Q I r h
  obtain ⟨a, ns, rfl, hs, q⟩ := h
  obtain ⟨its, rv, hl, _⟩ := I.tuple hs
  rw [Vals.ref1 r]
  have hi := rv.ints
  have hh := I.ok.hd hc
  obtain ⟨xs, e⟩ := hi.allInts.items
  have hn : numsOf (intItems xs).toList = ns := by rw [← e]; exact hi.numsOf
  rw [nums_intItems] at hn
  rw [e] at hl
  refine call_sum_walkG (iter_anyT hl fun s₂ e st hfp hlI => ?_)
  subst e
  refine ⟨_, _, _, _, _, _, numAt xs, rfl, Walks.tuple (A := X.A.in1) hh _ a hlI (intItems xs), st, hfp, (fun _ _ => intItems_at), fun h' tk t' hk => ?_⟩
  have hq : RelV (.int ns.sum) (.int (preSum (numAt xs) (intItems xs).size) t') := by
    rw [preSum_eq, List.take_of_length_le (by simp [intItems]), hn]; exact ⟨_, rfl⟩
  exact ⟨.int ns.sum, H, I.kept (old_keptT hk), hq, q⟩
theorem cr_maxT (hc : X.calm = true) : CallR X (.builtin "max") (rMaxT X.K) := by
  intro pins s σ H vs us Q I r h
  obtain ⟨a, ns, rfl, hs, hne, q⟩ := h
  obtain ⟨its, rv, hl, _⟩ := I.tuple hs
  rw [Vals.ref1 r]
  have hi := rv.ints
  have hh := I.ok.hd hc
  obtain ⟨xs, e⟩ := hi.allInts.items
  have hn : numsOf (intItems xs).toList = ns := by rw [← e]; exact hi.numsOf
  rw [nums_intItems] at hn
  subst hn
  rw [e] at hl
  have hsz : 0 < xs.size := by simpa using hne
  refine call_max_walk (iter_anyT hl fun s₂ e st hfp hlI => ?_)
  subst e
  refine ⟨_, _, _, _, _, _, _, rfl, Walks.tuple (A := X.A.in1) hh _ a hlI (intItems xs), st, hfp, by simpa [intItems] using hsz, CmpOf.ints_gt (numAt xs) (fun _ _ => intItems_at), fun v h' tk hP hk => ?_⟩
  obtain ⟨t, rfl⟩ := intItems_at hP
  have es : (intItems xs).size = xs.size := by simp [intItems]
  rw [es] at *
  obtain ⟨h1, h2⟩ := argBest_gt (numAt xs) (xs.size - 1)
  refine ⟨.int _, H, I.kept (old_keptT hk), ⟨_, rfl⟩, q _ ?_ fun b hb => ?_⟩
  · rw [numAt_eq]; exact PySem.getD_mem (by rw [List.length_map, Array.length_toList]; omega)
  · obtain ⟨j, hj, rfl⟩ := mem_getD hb
    rw [List.length_map, Array.length_toList] at hj
    rw [← numAt_eq]; exact h2 j (by omega)
theorem cr_minT (hc : X.calm = true) : CallR X (.builtin "min") (rMinT X.K) := by
  intro pins s σ H vs us Q I r h
  obtain ⟨a, ns, rfl, hs, hne, q⟩ := h
  obtain ⟨its, rv, hl, _⟩ := I.tuple hs
  rw [Vals.ref1 r]
  have hi := rv.ints
  have hh := I.ok.hd hc
  obtain ⟨xs, e⟩ := hi.allInts.items
  have hn : numsOf (intItems xs).toList = ns := by rw [← e]; exact hi.numsOf
  rw [nums_intItems] at hn
  subst hn
  rw [e] at hl
  have hsz : 0 < xs.size := by simpa using hne
  refine call_min_walk (iter_anyT hl fun s₂ e st hfp hlI => ?_)
  subst e
  refine ⟨_, _, _, _, _, _, _, rfl, Walks.tuple (A := X.A.in1) hh _ a hlI (intItems xs), st, hfp, by simpa [intItems] using hsz, CmpOf.ints_lt (numAt xs) (fun _ _ => intItems_at), fun v h' tk hP hk => ?_⟩
  obtain ⟨t, rfl⟩ := intItems_at hP
  have es : (intItems xs).size = xs.size := by simp [intItems]
  rw [es] at *
  obtain ⟨h1, h2⟩ := argBest_lt (numAt xs) (xs.size - 1)
  refine ⟨.int _, H, I.kept (old_keptT hk), ⟨_, rfl⟩, q _ ?_ fun b hb => ?_⟩
  · rw [numAt_eq]; exact PySem.getD_mem (by rw [List.length_map, Array.length_toList]; omega)
  · obtain ⟨j, hj, rfl⟩ := mem_getD hb
    rw [List.length_map, Array.length_toList] at hj
    rw [← numAt_eq]; exact h2 j (by omega)
def rSumA (K : PySem.W.Frag) : List V → Hp → VK → Prop := fun xs H Q => rSum K xs H Q ∨ rSumT K xs H Q
def rMaxA (K : PySem.W.Frag) : List V → Hp → VK → Prop := fun xs H Q => rMax K xs H Q ∨ rMaxT K xs H Q
def rMinA (K : PySem.W.Frag) : List V → Hp → VK → Prop := fun xs H Q => rMin K xs H Q ∨ rMinT K xs H Q
theorem cr_sumA (hc : X.calm = true) : CallR X (.builtin "sum") (rSumA X.K) := (cr_sum hc).or (cr_sumT hc)
theorem cr_maxA (hc : X.calm = true) : CallR X (.builtin "max") (rMaxA X.K) := (cr_max hc).or (cr_maxT hc)
theorem cr_minA (hc : X.calm = true) : CallR X (.builtin "min") (rMinA X.K) := (cr_min hc).or (cr_minT hc)
end
/-- sum, min, max of a list of ints -/
def lstI : D → Option (List Int)
  | .lst ds => intsD ds
  | .tup ds => intsD ds
  | _ => none
def sumD : List D → Option D
  | [d] => (lstI d).bind fun ns => some (.int ns.sum)
  | _ => none
theorem lstI_rep {Fz : Fzn} {H : Hp} {d : D} {x : V} {ns : List Int} (r : TRep M Fz H d x) (e : lstI d = some ns) : ∃ a, x = .ref a ∧ (SqL M.K H a (ns.map V.int) ∨ SqT M.K H a (ns.map V.int)) := by
  cases d with
  | lst ds =>
    obtain ⟨a, vs, rfl, h, rr⟩ := r
    have e' := (ints_rep rr e).1
    subst e'
    exact ⟨a, rfl, .inl h⟩
  | tup ds =>
    obtain ⟨a, vs, rfl, h, rr⟩ := sqT_rep (M := M) (Fz := Fz) (H := H) r
    have e' := (ints_rep rr e).1
    subst e'
    exact ⟨a, rfl, .inr h⟩
  | _ => cases e
theorem callT_sum : CallT M (rSumA M.K) sumD := by
  intro Fz H ds z xs Q dom rx eo k
  unfold sumD at eo
  split at eo
  · obtain ⟨ns, e, eo⟩ := Option.bind_eq_some_iff.mp eo
    injection eo with eo; subst eo
    have rx0 := trep1 rx
    clear rx
    obtain ⟨x, rfl, rx⟩ := rx0
    obtain ⟨a, rfl, h⟩ := lstI_rep rx e
    rcases h with h | h
    · exact .inl ⟨a, ns, rfl, h, k _ Fz H .refl rep_int⟩
    · exact .inr ⟨a, ns, rfl, h, k _ Fz H .refl rep_int⟩
  · cases eo
def foldMin : Int → List Int → Int := fun n ns => ns.foldl min n
def foldMax : Int → List Int → Int := fun n ns => ns.foldl max n
def minD : List D → Option D
  | [d] => (lstI d).bind fun ns => match ns with
    | [] => none
    | n :: ns => some (.int (foldMin n ns))
  | _ => none
def maxD : List D → Option D
  | [d] => (lstI d).bind fun ns => match ns with
    | [] => none
    | n :: ns => some (.int (foldMax n ns))
  | _ => none
theorem foldMin_le : ∀ (ns : List Int) (n : Int), foldMin n ns ≤ n ∧ ∀ y ∈ ns, foldMin n ns ≤ y
  | [], n => ⟨Int.le_refl _, fun _ h => nomatch h⟩
  | m :: ns, n => by
    obtain ⟨h1, h2⟩ := foldMin_le ns (min n m)
    unfold foldMin at h1 h2 ⊢
    rw [List.foldl_cons]
    refine ⟨by omega, fun y hy => ?_⟩
    rcases List.mem_cons.mp hy with rfl | hy
    · omega
    · exact h2 y hy
theorem foldMax_le : ∀ (ns : List Int) (n : Int), n ≤ foldMax n ns ∧ ∀ y ∈ ns, y ≤ foldMax n ns
  | [], n => ⟨Int.le_refl _, fun _ h => nomatch h⟩
  | m :: ns, n => by
    obtain ⟨h1, h2⟩ := foldMax_le ns (max n m)
    unfold foldMax at h1 h2 ⊢
    rw [List.foldl_cons]
    refine ⟨by omega, fun y hy => ?_⟩
    rcases List.mem_cons.mp hy with rfl | hy
    · omega
    · exact h2 y hy
theorem foldMin_mem : ∀ (ns : List Int) (n : Int), foldMin n ns ∈ n :: ns
  | [], n => List.mem_singleton.mpr rfl
  | m :: ns, n => by
    have h := foldMin_mem ns (min n m)
    unfold foldMin at h ⊢
    rw [List.foldl_cons]
    rcases List.mem_cons.mp h with h | h
    · rw [h]
      by_cases c : n ≤ m
      · rw [Int.min_eq_left c]; exact List.mem_cons_self
      · rw [Int.min_eq_right (by omega)]; exact List.mem_cons_of_mem _ List.mem_cons_self
    · exact List.mem_cons_of_mem _ (List.mem_cons_of_mem _ h)
theorem foldMax_mem : ∀ (ns : List Int) (n : Int), foldMax n ns ∈ n :: ns
  | [], n => List.mem_singleton.mpr rfl
  | m :: ns, n => by
    have h := foldMax_mem ns (max n m)
    unfold foldMax at h ⊢
    rw [List.foldl_cons]
    rcases List.mem_cons.mp h with h | h
    · rw [h]
      by_cases c : n ≤ m
      · rw [Int.max_eq_right c]; exact List.mem_cons_of_mem _ List.mem_cons_self
      · rw [Int.max_eq_left (by omega)]; exact List.mem_cons_self
    · exact List.mem_cons_of_mem _ (List.mem_cons_of_mem _ h)
theorem callT_min : CallT M (rMinA M.K) minD := by
  intro Fz H ds z xs Q dom rx eo k
  unfold minD at eo
  split at eo
  · obtain ⟨ns, e, eo⟩ := Option.bind_eq_some_iff.mp eo
    have rx0 := trep1 rx
    clear rx
    obtain ⟨x, rfl, rx⟩ := rx0
    obtain ⟨a, rfl, h⟩ := lstI_rep rx e
    cases ns with
    | nil => cases eo
    | cons n ns =>
      injection eo with eo; subst eo
      have kk : ∀ m, m ∈ n :: ns → (∀ y, y ∈ n :: ns → m ≤ y) → Q (.int m) H := fun m hm hl => by
        have h1 := hl _ (foldMin_mem ns n)
        have h2 : foldMin n ns ≤ m := by
          obtain ⟨z1, z2⟩ := foldMin_le ns n
          rcases List.mem_cons.mp hm with rfl | hm
          · exact z1
          · exact z2 m hm
        have h3 : m = foldMin n ns := by omega
        subst h3
        exact k _ Fz H .refl rep_int
      rcases h with h | h
      · exact .inl ⟨a, _, rfl, h, Nat.succ_pos _, kk⟩
      · exact .inr ⟨a, _, rfl, h, Nat.succ_pos _, kk⟩
  · cases eo
theorem callT_max : CallT M (rMaxA M.K) maxD := by
  intro Fz H ds z xs Q dom rx eo k
  unfold maxD at eo
  split at eo
  · obtain ⟨ns, e, eo⟩ := Option.bind_eq_some_iff.mp eo
    have rx0 := trep1 rx
    clear rx
    obtain ⟨x, rfl, rx⟩ := rx0
    obtain ⟨a, rfl, h⟩ := lstI_rep rx e
    cases ns with
    | nil => cases eo
    | cons n ns =>
      injection eo with eo; subst eo
      have kk : ∀ m, m ∈ n :: ns → (∀ y, y ∈ n :: ns → y ≤ m) → Q (.int m) H := fun m hm hl => by
        have h1 := hl _ (foldMax_mem ns n)
        have h2 : m ≤ foldMax n ns := by
          obtain ⟨z1, z2⟩ := foldMax_le ns n
          rcases List.mem_cons.mp hm with rfl | hm
          · exact z1
          · exact z2 m hm
        have h3 : m = foldMax n ns := by omega
        subst h3
        exact k _ Fz H .refl rep_int
      rcases h with h | h
      · exact .inl ⟨a, _, rfl, h, Nat.succ_pos _, kk⟩
      · exact .inr ⟨a, _, rfl, h, Nat.succ_pos _, kk⟩
  · cases eo
def lstB : D → Option (List Bool)
  | .lst ds => boolsD ds
  | _ => none
theorem lstB_rep {Fz : Fzn} {H : Hp} {d : D} {x : V} {ns : List Bool} (r : TRep M Fz H d x) (e : lstB d = some ns) : ∃ a, x = .ref a ∧ SqL M.K H a (ns.map V.bl) := by
  cases d with
  | lst ds =>
    obtain ⟨a, vs, rfl, h, rr⟩ := r
    have e' := bools_rep rr e
    subst e'
    exact ⟨a, rfl, h⟩
  | _ => cases e
def anyD : List D → Option D
  | [d] => (lstB d).bind fun ns => some (.bl (ns.any id))
  | _ => none
def allD : List D → Option D
  | [d] => (lstB d).bind fun ns => some (.bl (ns.all id))
  | _ => none
theorem callT_any : CallT M (rAny M.K) anyD := by
  intro Fz H ds z xs Q dom rx eo k
  unfold anyD at eo
  split at eo
  · obtain ⟨ns, e, eo⟩ := Option.bind_eq_some_iff.mp eo
    injection eo with eo; subst eo
    have rx0 := trep1 rx
    clear rx
    obtain ⟨x, rfl, rx⟩ := rx0
    obtain ⟨a, rfl, h⟩ := lstB_rep rx e
    exact ⟨a, ns, rfl, h, k _ Fz H .refl rep_bl⟩
  · cases eo
theorem callT_all : CallT M (rAll M.K) allD := by
  intro Fz H ds z xs Q dom rx eo k
  unfold allD at eo
  split at eo
  · obtain ⟨ns, e, eo⟩ := Option.bind_eq_some_iff.mp eo
    injection eo with eo; subst eo
    have rx0 := trep1 rx
    clear rx
    obtain ⟨x, rfl, rx⟩ := rx0
    obtain ⟨a, rfl, h⟩ := lstB_rep rx e
    exact ⟨a, ns, rfl, h, k _ Fz H .refl rep_bl⟩
  · cases eo
/-- int(i), int(bool) -/
def intF : List D → Option D
  | [.int i] => some (.int i)
  | [.bl c] => some (.int (if c then 1 else 0))
  | _ => none
theorem callT_int : CallT M (fun xs H Q => (∃ i, xs = [.int i] ∧ Q (.int i) H) ∨ ∃ k, xs = [.bl k] ∧ Q (.int (if k then 1 else 0)) H) intF := by
  intro Fz H ds z xs Q dom rx eo k
  unfold intF at eo
  split at eo
  · injection eo with eo; subst eo
    have rx0 := trep1 rx
    clear rx
    obtain ⟨x, rfl, rx⟩ := rx0
    rw [tint' rx]
    exact .inl ⟨_, rfl, k _ Fz H .refl rep_int⟩
  · injection eo with eo; subst eo
    have rx0 := trep1 rx
    clear rx
    obtain ⟨x, rfl, rx⟩ := rx0
    rw [tbl' rx]
    exact .inr ⟨_, rfl, k _ Fz H .refl rep_int⟩
  · cases eo
/-- tuple(xs), list(xs) -/
def tupleD : List D → Option D
  | [d] => (seqOf d).bind fun ds => some (.tup ds)
  | _ => none
theorem callT_tuple : CallT M (fun xs H Q => ∃ p ys, xs = [.ref p] ∧ ((SqL M.K H p ys ∧ ∀ l, H l = none → Q (.ref l) (upd H l (.tup ys))) ∨ (SqT M.K H p ys ∧ Q (.ref p) H))) tupleD := by
  intro Fz H ds z xs Q dom rx eo k
  unfold tupleD at eo
  split at eo
  · obtain ⟨ns, e, eo⟩ := Option.bind_eq_some_iff.mp eo
    injection eo with eo; subst eo
    have rx0 := trep1 rx
    clear rx
    obtain ⟨x, rfl, rx⟩ := rx0
    obtain ⟨a, vs, rfl, h, r⟩ := seq_rep rx e
    refine ⟨a, vs, rfl, ?_⟩
    rcases h with h | h
    · exact .inl ⟨h, fun l hl => let ⟨gr, rv⟩ := newT (M := M) hl r; k _ _ _ gr rv⟩
    · exact .inr ⟨h, k _ Fz H .refl (rep_tup h r)⟩
  · cases eo
def listD : List D → Option (List D)
  | [d] => seqOf d
  | _ => none
theorem callTF_list : CallTF M (fun xs H Q => ∃ p ys, xs = [.ref p] ∧ (SqL M.K H p ys ∨ SqT M.K H p ys) ∧ ∀ l, H l = none → Q (.ref l) (upd H l (.lst ys))) listD := by
  intro Fz H ds zs xs Q dom rx eo k
  unfold listD at eo
  split at eo
  · have rx0 := trep1 rx
    clear rx
    obtain ⟨x, rfl, rx⟩ := rx0
    obtain ⟨a, vs, rfl, h, r⟩ := seq_rep rx eo
    exact ⟨a, vs, rfl, h, fun l hl => k l vs hl r⟩
  · cases eo
end
end DL

set_option Elab.async false
set_option linter.all false
set_option maxRecDepth 100000
set_option maxHeartbeats 4000000
/-! Den5: isinstance of built-in types, fields, statements, defs and calls. -/
namespace DL
open PySem L2 PySem.Spec PyProof.Rows

/-! ### isinstance(x, T), T built-in -/
def tyD : D → String
  | .non => "NoneType"
  | .bl _ => "bool"
  | .int _ => "int"
  | .str _ => "str"
  | .tup _ => "tuple"
  | .lst _ => "list"
  | .obj _ _ _ => ""
  | .emp => "dict"
def isInt : D → Option Bool
  | .bl _ => some true
  | .int _ => some true
  | .obj _ _ _ => none
  | _ => some false
def isBool : D → Option Bool
  | .bl _ => some true
  | .obj _ _ _ => none
  | _ => some false
def isStr : D → Option Bool
  | .str _ => some true
  | .obj _ _ _ => none
  | _ => some false
def isTup : D → Option Bool
  | .tup _ => some true
  | .obj _ _ _ => none
  | _ => some false
def isLst : D → Option Bool
  | .lst _ => some true
  | .obj _ _ _ => none
  | _ => some false
def isLstTup : D → Option Bool
  | .lst _ => some true
  | .tup _ => some true
  | .obj _ _ _ => none
  | _ => some false
def KitB (T : String) (o : D → Option Bool) : Prop := ∀ d r, o d = some r → kitB (tyD d) T = some r ∧ ∀ c ns ds, d ≠ .obj c ns ds
theorem kit_int : KitB "int" isInt := fun d r h => by cases d <;> first | (cases h; refine ⟨?_, fun _ _ _ q => nomatch q⟩; dsimp only [tyD]; decide +kernel) | cases h
theorem kit_bool : KitB "bool" isBool := fun d r h => by cases d <;> first | (cases h; refine ⟨?_, fun _ _ _ q => nomatch q⟩; dsimp only [tyD]; decide +kernel) | cases h
theorem kit_str : KitB "str" isStr := fun d r h => by cases d <;> first | (cases h; refine ⟨?_, fun _ _ _ q => nomatch q⟩; dsimp only [tyD]; decide +kernel) | cases h
theorem kit_tuple : KitB "tuple" isTup := fun d r h => by cases d <;> first | (cases h; refine ⟨?_, fun _ _ _ q => nomatch q⟩; dsimp only [tyD]; decide +kernel) | cases h
theorem kit_list : KitB "list" isLst := fun d r h => by cases d <;> first | (cases h; refine ⟨?_, fun _ _ _ q => nomatch q⟩; dsimp only [tyD]; decide +kernel) | cases h
theorem tyX_rep {M : MM} {Fz : Fzn} {H : Hp} {d : D} {x : V} (r : TRep M Fz H d x) (n : ∀ c ns ds, d ≠ .obj c ns ds) : TyX M.K H x (.type (tyD d)) := by
  cases d with
  | non => rw [tnon' r]; exact .base .non
  | bl c => rw [tbl' r]; exact .base (.bl c)
  | int c => rw [tint' r]; exact .base (.int c)
  | str c => rw [tstr' r]; exact .base (.str c)
  | tup ds =>
    obtain ⟨a, vs, rfl, h, _⟩ := sqT_rep (M := M) (Fz := Fz) (H := H) r
    rcases h with (h | ⟨o, h⟩) | ⟨o, its, n, h, hc, _⟩
    · exact .base (.tup h)
    · exact .fTuple h
    · exact .kTuple h hc
  | lst ds =>
    obtain ⟨a, vs, rfl, h, _⟩ := r
    rcases h with (h | ⟨o, h⟩) | ⟨o, its, n, h, hc, _⟩
    · exact .base (.lst h)
    · exact .base (.frz h)
    · exact .kList h hc
  | obj c ns ds => exact absurd rfl (n c ns ds)
  | emp =>
    have r' : Rep M Fz H .emp x := r
    unfold Rep at r'
    obtain ⟨a, rfl, _, h⟩ := r'
    exact .base (.dK h)
section
variable {X : Cx} {b : B} {W : WX} {e e1 e2 e3 : Expr} {es : List Expr} {f f1 f2 f3 : FE} {pos p p2 p3 p4 : Pos} {M : MM}
def isiF (o : D → Option Bool) (fa : Sg → R AV) : FE := fun g => (fa g).bd fun a g1 => opt ((res g1 a).bind fun d => (o d).bind fun c => some (.bl c)) g1
theorem pd_isi {T : String} {o : D → Option Bool} {fa : Sg → R AV} (hM : b.M = ⟨X.K, X.mg⟩) (ko : KitB T o) (hg : Gl X "isinstance") (hm : X.mg "isinstance" = none) (h1 : PE X e (tA1 b W fa)) (h2 : PE X e2 (tC (.ty T)))
    (hs1 : starEach (e2 :: []) X.env = (false, eval e2 X.env) :: starEach [] X.env := by rfl)
    (he : starEach (e :: [e2]) X.env = (false, eval e X.env) :: starEach [e2] X.env := by rfl) (hpl : (backTo pos (starEach [e2] X.env)).any (·.1) = false := by rfl) : PE X (.Call (.Name "isinstance" p) [e, e2] [] pos) (tE b W (isiF o fa)) :=
  pe_mono (pe_callB call_isi hg hm (by decide +kernel) (pa_cons h1 (pa_cons h2 pa_nil hs1) he) (by decide) (by decide) he hpl) fun σ H Q ⟨Fz, g, r, h⟩ => tG_seq r h fun a x' g1 Fz1 H1 r1 e1 rep1 h1 => by
    obtain ⟨z, ez, h3⟩ := h1.opt
    obtain ⟨d, ed, ez⟩ := Option.bind_eq_some_iff.mp ez
    obtain ⟨c, ec, ez⟩ := Option.bind_eq_some_iff.mp ez
    have ez := Option.some.inj ez
    subst ez
    obtain ⟨k1, k2⟩ := ko d c ec
    have ty := tyX_rep (res_ok r1 rep1 ed) k2
    rw [hM] at ty
    exact ⟨x', .ty T, _, _, c, rfl, .ty T, ty, kit_ty k1, h3.ok r1 .refl rep_bl⟩
theorem pd_isiLT {fa : Sg → R AV} {x1} (hM : b.M = ⟨X.K, X.mg⟩) (hg : Gl X "isinstance") (hm : X.mg "isinstance" = none) (h1 : PE X e (tA1 b W fa)) (h2 : PE X e2 (tC (.ty "list"))) (h3 : PE X e3 (tC (.ty "tuple")))
    (hs2 : starEach (e3 :: []) X.env = (false, eval e3 X.env) :: starEach [] X.env := by rfl) (hs3 : starEach (e2 :: [e3]) X.env = (false, eval e2 X.env) :: starEach [e3] X.env := by rfl)
    (hs1 : starEach ((.Tuple [e2, e3] x1 p2) :: []) X.env = (false, eval (.Tuple [e2, e3] x1 p2) X.env) :: starEach [] X.env := by rfl)
    (he : starEach (e :: [.Tuple [e2, e3] x1 p2]) X.env = (false, eval e X.env) :: starEach [.Tuple [e2, e3] x1 p2] X.env := by rfl) (hpl : (backTo pos (starEach [.Tuple [e2, e3] x1 p2] X.env)).any (·.1) = false := by rfl) :
    PE X (.Call (.Name "isinstance" p) [e, .Tuple [e2, e3] x1 p2] [] pos) (tE b W (isiF isLstTup fa)) :=
  pe_mono (pe_callB call_isiT hg hm (by decide +kernel) (pa_cons h1 (pa_cons (pe_tup (pa_cons h2 (pa_cons h3 pa_nil hs2) hs3)) pa_nil hs1) he) (by decide) (by decide) he hpl) fun σ H Q ⟨Fz, g, r, h⟩ => tG_seq r h fun a x' g1 Fz1 H1 r1 e1 rep1 h1 => by
    refine ⟨by show 2 ≤ sizeLine; decide, fun tp htp => ?_⟩
    obtain ⟨z, ez, h3⟩ := h1.opt
    obtain ⟨d, ed, ez⟩ := Option.bind_eq_some_iff.mp ez
    obtain ⟨c, ec, ez⟩ := Option.bind_eq_some_iff.mp ez
    have ez := Option.some.inj ez
    subst ez
    have gr : GrowTo Fz1 H1 Fz1 (upd H1 tp (.tup [.ty "list", .ty "tuple"])) := .alloc htp
    have k2 : ∀ c ns ds, d ≠ .obj c ns ds := fun _ _ _ q => by subst q; cases ec
    have ty0 := tyX_rep (res_ok r1 rep1 ed) k2
    have tup : ∀ {d : D} {x : V}, TRep b.M Fz1 H1 d x → TRep b.M Fz1 (upd H1 tp (.tup [.ty "list", .ty "tuple"])) d x := fun {d x} t => by
      cases d with
      | lst ds =>
        obtain ⟨a, vs, e, h, rr⟩ := t
        refine ⟨a, vs, e, ?_, rr.grow gr⟩
        rcases h with (h | ⟨o, h⟩) | h
        · exact .inl (.inl (gr.st _ _ h))
        · exact .inl (.inr ⟨o, gr.st _ _ h⟩)
        · exact .inr h
      | _ => exact Rep.grow gr t
    have ty := tyX_rep (tup (res_ok r1 rep1 ed)) k2
    rw [hM] at ty
    refine ⟨x', tp, [.ty "list", .ty "tuple"], _, [.type "list", .type "tuple"], c, rfl, upd_same, .cons (.ty _) (.cons (.ty _) .nil), ty, ?_, h3.ok (r1.grow gr) gr.ext rep_bl⟩
    cases d with
    | lst ds =>
      cases ec
      exact kitAny_cons (kit_ty (b := "list") (r := true) (by show kitB "list" "list" = _; decide +kernel)) (fun q => nomatch q) fun _ => rfl
    | tup ds =>
      cases ec
      exact kitAny_cons (kit_ty (b := "list") (r := false) (by show kitB "tuple" "list" = _; decide +kernel)) (fun _ => kitAny_cons (kit_ty (b := "tuple") (r := true) (by show kitB "tuple" "tuple" = _; decide +kernel)) (fun q => nomatch q) fun _ => rfl) fun q => nomatch q
    | obj c ns ds => cases ec
    | emp =>
      cases ec
      exact kitAny_cons (kit_ty (b := "list") (r := false) (by show kitB "dict" "list" = _; decide +kernel)) (fun _ => kitAny_cons (kit_ty (b := "tuple") (r := false) (by show kitB "dict" "tuple" = _; decide +kernel)) (fun _ => kitAny_nil) fun q => nomatch q) fun q => nomatch q
    | non =>
      cases ec
      exact kitAny_cons (kit_ty (b := "list") (r := false) (by show kitB "NoneType" "list" = _; decide +kernel)) (fun _ => kitAny_cons (kit_ty (b := "tuple") (r := false) (by show kitB "NoneType" "tuple" = _; decide +kernel)) (fun _ => kitAny_nil) fun q => nomatch q) fun q => nomatch q
    | bl k =>
      cases ec
      exact kitAny_cons (kit_ty (b := "list") (r := false) (by show kitB "bool" "list" = _; decide +kernel)) (fun _ => kitAny_cons (kit_ty (b := "tuple") (r := false) (by show kitB "bool" "tuple" = _; decide +kernel)) (fun _ => kitAny_nil) fun q => nomatch q) fun q => nomatch q
    | int k =>
      cases ec
      exact kitAny_cons (kit_ty (b := "list") (r := false) (by show kitB "int" "list" = _; decide +kernel)) (fun _ => kitAny_cons (kit_ty (b := "tuple") (r := false) (by show kitB "int" "tuple" = _; decide +kernel)) (fun _ => kitAny_nil) fun q => nomatch q) fun q => nomatch q
    | str k =>
      cases ec
      exact kitAny_cons (kit_ty (b := "list") (r := false) (by show kitB "str" "list" = _; decide +kernel)) (fun _ => kitAny_cons (kit_ty (b := "tuple") (r := false) (by show kitB "str" "tuple" = _; decide +kernel)) (fun _ => kitAny_nil) fun q => nomatch q) fun q => nomatch q

/-! ### fields of instances -/
def fldD (c0 : Str) (ns0 : List Str) (i : Nat) : D → Option D
  | .obj c ns ds => if c = c0 ∧ ns = ns0 then ds[i]? else none
  | _ => none
theorem lookup_zip : ∀ (ns : List Str) (vs : List V) (f : Str) (i : Nat), ns.findIdx? (· == f) = some i → ns.length = vs.length → (ns.zip vs).lookup f = vs[i]?
  | [], _, f, i, h, _ => by simp at h
  | n :: ns, [], f, i, h, hl => by simp at hl
  | n :: ns, v :: vs, f, i, h, hl => by
    rw [List.findIdx?_cons] at h
    rw [List.zip_cons_cons]
    by_cases c : (n == f) = true
    · rw [if_pos c] at h
      have hi : 0 = i := Option.some.inj h
      subst hi
      have c' : (f == n) = true := by
        have := beq_iff_eq.mp c
        subst this
        simp
      simp [List.lookup, c']
    · rw [if_neg c] at h
      obtain ⟨j, hj, e⟩ := Option.map_eq_some_iff.mp h
      subst e
      have c' : (f == n) = false := by
        rw [beq_eq_false_iff_ne]
        intro q
        subst q
        simp at c
      simp only [List.lookup, c']
      rw [lookup_zip ns vs f j hj (by simpa using hl)]
      simp
structure FldC (M : MM) (c0 : Str) (f : Str) : Prop where
  ok : ∀ C, M.mg c0 = some (.ref C) → Cls M.K C ∧ NoAttr M.K C f
theorem pd_fld {c0 f0 : Str} {ns0 : List Str} {i : Nat} (hM : b.M = ⟨X.K, X.mg⟩) (hc : FldC ⟨X.K, X.mg⟩ c0 f0) (hi : ns0.findIdx? (· == f0) = some i) (h1 : PE X e (tE b W f)) (hb : attributeBase e f0 X.env (eval e X.env) = eval e X.env := by rfl) : PE X (.Attribute e f0 pos) (tE b W (op1F (fldD c0 ns0 i) f)) :=
  pe_mono (pe_fld h1 hb) fun σ H Q ⟨Fz, g, r, h⟩ => tG_seq r h fun d x g1 Fz1 H1 r1 e1 rep1 h1 => by
    obtain ⟨z, ez, h3⟩ := h1.opt
    unfold fldD at ez
    split at ez
    · rename_i c ns ds
      split at ez
      · rename_i hcn
        obtain ⟨rfl, rfl⟩ := hcn
        have rep' : Rep b.M Fz1 H1 (.obj c ns ds) x := rep1
        unfold Rep at rep'
        obtain ⟨a, C, dx, vs, rfl, hmg, hf, hH, hl, rr⟩ := rep'
        obtain ⟨v, hv, rv⟩ := rr.get ez
        rw [hM] at hmg
        obtain ⟨k1, k2⟩ := hc.ok C hmg
        exact ⟨a, C, dx, _, v, rfl, hH, k1, k2, (lookup_zip ns vs f0 i hi hl).trans hv, h3.ok r1 .refl rv⟩
      · cases ez
    · cases ez
end

/-! ### statements -/
section
variable {X : Cx} {b : B} {W : WX} {e e1 e2 : Expr} {f : FE} {pos p : Pos} {st : Stmt} {sts : List Stmt} {s1 s2 : FS}
def RS.bd (r : RS) (k : Sg → RS) : RS := match r with
  | .nx g => k g
  | r => r
@[simp] theorem RS.bd_nx {g : Sg} {k : Sg → RS} : (RS.nx g).bd k = k g := rfl
@[simp] theorem RS.bd_rt {d : D} {g : Sg} {k : Sg → RS} : (RS.rt d g).bd k = .rt d g := rfl
@[simp] theorem RS.bd_rf {d : List D} {g : Sg} {k : Sg → RS} : (RS.rf d g).bd k = .rf d g := rfl
@[simp] theorem RS.bd_bk {g : Sg} {k : Sg → RS} : (RS.bk g).bd k = .bk g := rfl
@[simp] theorem RS.bd_ct {g : Sg} {k : Sg → RS} : (RS.ct g).bd k = .ct g := rfl
@[simp] theorem RS.bd_ex {e : Exn} {g : Sg} {k : Sg → RS} : (RS.ex e g).bd k = .ex e g := rfl
@[simp] theorem RS.bd_no {k : Sg → RS} : RS.no.bd k = .no := rfl
def skipS : FS := fun g => .nx g
def seqS (s1 s2 : FS) : FS := fun g => (s1 g).bd s2
theorem Go.refl {as : List Nat} {σ : L2.St} {Fz : Fzn} {H : Hp} : Go as σ Fz H σ Fz H := ⟨.refl, fun _ _ => rfl⟩
theorem Go.trans {as as2 : List Nat} {σ σ1 σ2 : L2.St} {Fz Fz1 Fz2 : Fzn} {H H1 H2 : Hp} (a : Go as σ Fz H σ1 Fz1 H1) (c : Go as2 σ1 Fz1 H1 σ2 Fz2 H2) : Go (as ++ as2) σ Fz H σ2 Fz2 H2 :=
  ⟨a.ex.trans c.ex, fun i h => (c.sl i fun z => h (List.mem_append_right _ z)).trans (a.sl i fun z => h (List.mem_append_left _ z))⟩
theorem Go.sub {as as2 : List Nat} {σ σ1 : L2.St} {Fz Fz1 : Fzn} {H H1 : Hp} (a : Go as σ Fz H σ1 Fz1 H1) (h : ∀ i ∈ as, i ∈ as2) : Go as2 σ Fz H σ1 Fz1 H1 := ⟨a.ex, fun i z => a.sl i fun q => z (h i q)⟩
theorem PoS.sub {as as2 : List Nat} {σ : L2.St} {Fz : Fzn} {H : Hp} {D : Ends} {r : RS} (h : PoS b W as2 σ Fz H D r) (s : ∀ i ∈ as, i ∈ as2) : PoS b W as σ Fz H D r := by
  cases r with
  | nx g => exact fun σ' H' Fz' r' go => h σ' H' Fz' r' (go.sub s)
  | bk g => exact fun σ' H' Fz' r' go => h σ' H' Fz' r' (go.sub s)
  | ct g => exact fun σ' H' Fz' r' go => h σ' H' Fz' r' (go.sub s)
  | rt d g => exact h
  | rf d g => exact h
  | ex d g => exact fun σ' cl dx H' Fz' r' go ok => h σ' cl dx H' Fz' r' (go.sub s) ok
  | no => exact h
theorem PoS.weak {as as2 : List Nat} {σ σ1 : L2.St} {Fz Fz1 : Fzn} {H H1 : Hp} {D : Ends} {r : RS} (h : PoS b W (as ++ as2) σ Fz H D r) (go : Go as σ Fz H σ1 Fz1 H1) : PoS b W as2 σ1 Fz1 H1 D r := by
  cases r with
  | nx g => exact fun σ' H' Fz' r' go' => h σ' H' Fz' r' (go.trans go')
  | bk g => exact fun σ' H' Fz' r' go' => h σ' H' Fz' r' (go.trans go')
  | ct g => exact fun σ' H' Fz' r' go' => h σ' H' Fz' r' (go.trans go')
  | rt d g => exact h
  | rf d g => exact h
  | ex d g => exact fun σ' cl dx H' Fz' r' go' ok => h σ' cl dx H' Fz' r' (go.trans go') ok
  | no => exact h
theorem PoS.weakE {as : List Nat} {σ : L2.St} {Fz Fz1 : Fzn} {H H1 : Hp} {D : Ends} {r : RS} (h : PoS b W as σ Fz H D r) (e : Ext Fz H Fz1 H1) : PoS b W as σ Fz1 H1 D r :=
  PoS.weak (as := []) (by rw [List.nil_append]; exact h) ⟨e, fun _ _ => rfl⟩
theorem pts_nil' : PSs X [] (tSt b W [] skipS) := pss_mono pss_nil fun D σ H ⟨Fz, g, r, h⟩ => h σ H Fz r .refl
theorem pts_cons {a1 a2 : List Nat} (h1 : PS X st (tSt b W a1 s1)) (h2 : PSs X sts (tSt b W a2 s2)) : PSs X (st :: sts) (tSt b W (a1 ++ a2) (seqS s1 s2)) := pss_mono (pss_cons h1 h2) fun D σ H ⟨Fz, g, r, h⟩ => by
  refine ⟨Fz, g, r, ?_⟩
  unfold seqS at h
  cases q : s1 g with
  | nx g' => rw [q] at h; exact fun σ' H' Fz' r' go => ⟨Fz', g', r', PoS.weak h go⟩
  | rt d g' => rw [q] at h; exact h
  | rf d g' => rw [q] at h; exact h
  | bk g' => rw [q] at h; exact fun σ' H' Fz' r' go => h σ' H' Fz' r' (go.sub fun i z => List.mem_append_left _ z)
  | ct g' => rw [q] at h; exact fun σ' H' Fz' r' go => h σ' H' Fz' r' (go.sub fun i z => List.mem_append_left _ z)
  | ex d g' => rw [q] at h; exact fun σ' cl dx H' Fz' r' go ok => h σ' cl dx H' Fz' r' (go.sub fun i z => List.mem_append_left _ z) ok
  | no => rw [q] at h; exact h
theorem pts_one' {a1 : List Nat} (h1 : PS X st (tSt b W a1 s1)) : PSs X [st] (tSt b W a1 s1) := pss_one h1
/-- an expression, then a statement's way on -/
def R.sb {α : Type} (r : R α) (k : α → Sg → RS) : RS := match r with
  | .ok d g => k d g
  | .ex e g => .ex e g
  | .no => .no
@[simp] theorem R.sb_ok {α : Type} {d : α} {g : Sg} {k : α → Sg → RS} : (R.ok d g).sb k = k d g := rfl
@[simp] theorem R.sb_ex {α : Type} {e : Exn} {g : Sg} {k : α → Sg → RS} : (R.ex e g : R α).sb k = .ex e g := rfl
@[simp] theorem R.sb_no {α : Type} {k : α → Sg → RS} : (R.no : R α).sb k = .no := rfl
theorem tG_st {as : List Nat} {α ξ : Type} {P : Bear α ξ} {f : Sg → R α} {σ : L2.St} {Fz : Fzn} {H : Hp} {g : Sg} {D : Ends} {Q : ξ → Hp → Prop} {k : α → Sg → RS} (r : BRel b Fz g σ H) (h : PoS b W as σ Fz H D ((f g).sb k))
    (hk : ∀ d x g1 Fz1 H1, BRel b Fz1 g1 σ H1 → Ext Fz H Fz1 H1 → P σ Fz1 H1 g1 d x → PoS b W as σ Fz1 H1 D (k d g1) → Q x H1) : tG b W P f σ H Q := by
  refine ⟨Fz, g, r, ?_⟩
  cases q : f g with
  | ok d g' => rw [q] at h; exact fun x H' Fz' r' e' rep => hk d x g' Fz' H' r' e' rep (PoS.weakE h e')
  | ex e g' => rw [q] at h; exact fun cl dx H' Fz' r' ex' ok => h σ cl dx H' Fz' r' ⟨ex', fun _ _ => rfl⟩ ok
  | no => rw [q] at h; exact h
/-- e as a statement -/
def exprS (f : FE) : FS := fun g => (f g).sb fun _ g1 => .nx g1
theorem pts_expr (he : PE X e (tE b W f)) (hs : swapsWith e none pos.line X.env = pure false := by rfl) : PS X (.Expr e pos) (tSt b W [] (exprS f)) := ps_mono (ps_expr he hs) fun D σ H ⟨Fz, g, r, h⟩ =>
  tG_st r h fun d x g1 Fz1 H1 r1 _ _ h1 => h1 σ H1 Fz1 r1 .refl
theorem pts_doc {x j p'} : PS X (.Expr (.Constant (.str x) j p) p') (tSt b W [] skipS) := ps_mono ps_doc fun D σ H ⟨Fz, g, r, h⟩ => h σ H Fz r .refl
theorem pts_pass : PS X (.Pass pos) (tSt b W [] skipS) := ps_mono ps_pass fun D σ H ⟨Fz, g, r, h⟩ => h σ H Fz r .refl
def brkS : FS := fun g => .bk g
def cntS : FS := fun g => .ct g
theorem pts_break : PS X (.Break pos) (tSt b W [] brkS) := ps_mono ps_break fun D σ H ⟨Fz, g, r, h⟩ => h σ H Fz r .refl
theorem pts_continue : PS X (.Continue pos) (tSt b W [] cntS) := ps_mono ps_continue fun D σ H ⟨Fz, g, r, h⟩ => h σ H Fz r .refl
def retS (f : FE) : FS := fun g => (f g).sb fun d g1 => .rt d g1
theorem pts_ret (he : PE X e (tE b W f)) : PS X (.Return (some e) pos) (tSt b W [] (retS f)) := ps_mono (ps_ret he) fun D σ H ⟨Fz, g, r, h⟩ =>
  tG_st r h fun d x g1 Fz1 H1 r1 _ rep h1 => h1 x σ H1 Fz1 r1 rep
def retN : FS := fun g => .rt .non g
theorem pts_retN : PS X (.Return none pos) (tSt b W [] retN) := ps_mono ps_retN fun D σ H ⟨Fz, g, r, h⟩ => h .non σ H Fz r rep_non
/-- a new list is returned -/
def retF (f : FF) : FS := fun g => (f g).sb fun d g1 => .rf d g1
theorem pts_retF {f : FF} (he : PE X e (tFr b W f)) : PS X (.Return (some e) pos) (tSt b W [] (retF f)) := ps_mono (ps_ret he) fun D σ H ⟨Fz, g, r, h⟩ =>
  tG_st r h fun d x g1 Fz1 H1 r1 _ rep h1 => h1 x σ H1 Fz1 r1 rep
/-- the own list of slot i goes out -/
def takeF (i : Nat) : FF := fun g => match gat g i with
  | .ow ds => .ok ds (g.set i .un)
  | _ => .no
theorem pf_take {i : Nat} (h : PE X e (tVar i)) (hnp : b.np ≤ i) : PE X e (tFr b W (takeF i)) := pe_mono h fun σ H Q ⟨Fz, g, r, q⟩ => by
  unfold takeF at q
  cases hg : gat g i with
  | ow ds =>
    rw [hg] at q
    have hgi := gat_get hg (by intro z; cases z)
    obtain ⟨a, u, e1, nf, hu, vs, eu, rep⟩ := r.slot hgi
    subst eu
    have ow : Own g σ i a := ⟨⟨_, hgi, rfl⟩, e1⟩
    have h0 : b.H0 a = none := by
      rcases r.own i a ow with ⟨z, _⟩ | ⟨_, z⟩
      · omega
      · exact z
    refine ⟨.ref a, e1, q (.ref a) H Fz (r.forget i) .refl ⟨a, vs, rfl, h0, nf, hu, fun j z => ?_, rep⟩⟩
    rcases z with z | z
    · obtain ⟨⟨t, et, w⟩, zz⟩ := z
      rcases gset_get et with ⟨_, e2⟩ | ⟨hj, e2⟩
      · subst e2; cases w
      · exact hj (r.rel.apart j i a ⟨⟨t, e2, w⟩, zz⟩ ow)
    · obtain ⟨dss, a', vs', k1, k2⟩ := z
      rcases gset_get k1 with ⟨_, e2⟩ | ⟨hj, e2⟩
      · cases e2
      · exact (r.nst.free j a ⟨dss, a', vs', e2, k2⟩).2.2 i ow
  | _ => rw [hg] at q; exact q.elim
def ifS (c : FB) (s1 s2 : FS) : FS := fun g => (c g).sb fun v g1 => if v = true then s1 g1 else s2 g1
theorem pts_if {a1 a2 : List Nat} {a c : List Stmt} {fb : FB} (hc : PT X e (tBo b W fb)) (ha : PSs X a (tSt b W a1 s1)) (hb : PSs X c (tSt b W a2 s2)) : PS X (.If e a c pos) (tSt b W (a1 ++ a2) (ifS fb s1 s2)) := ps_mono (ps_if hc ha hb) fun D σ H ⟨Fz, g, r, h⟩ => by
  refine tG_st r h fun d x g1 Fz1 H1 r1 _ rep h1 => ?_
  have rep' : x = d := rep
  subst rep'
  cases x with
  | true => exact ⟨Fz1, g1, r1, PoS.sub h1 fun i z => List.mem_append_left _ z⟩
  | false => exact ⟨Fz1, g1, r1, PoS.sub h1 fun i z => List.mem_append_right _ z⟩

/-! ### assignments -/
theorem Go.set {σ : L2.St} {Fz : Fzn} {H : Hp} {i : Nat} {v : Option V} : Go [i] σ Fz H (σ.set i v) Fz H := ⟨.refl, fun j h => List.getElem?_set_ne fun z => h (by simp [z])⟩
/-- slot i gets data; a parameter that holds an own list is not overwritten -/
def asgS (i : Nat) (f : FE) : FS := fun g => (f g).sb fun d g1 => .nx (g1.set i (.v d))
theorem pts_asg {i : Nat} {x : Str} {p' : Pos} (hN : X.N.Nodup) (hi : X.N[i]? = some x) (hx : Loc X.env.scope x) (he : PE X e (tE b W f)) (hs : swapsWith e (some (.Name x p')) pos.line X.env = pure false := by rfl)
    (hf : X.fn x = true ∨ X.env.scope.names.lookup x = some .local := by first | exact .inl rfl | exact .inr rfl | assumption) (hpx : PxOk b i) : PS X (.Assign [.Name x p'] e pos) (tSt b W [i] (asgS i f)) := ps_mono (ps_set hN hi hx he hs hf) fun D σ H ⟨Fz, g, r, h⟩ =>
  tG_st r h fun d x' g1 Fz1 H1 r1 _ rep h1 => h1 _ H1 Fz1 (r1.setV hpx rep) .set
/-- slot i (no parameter) gets a new own list -/
def asgO (i : Nat) (f : FF) : FS := fun g => (f g).sb fun d g1 => .nx (g1.set i (.ow d))
theorem pts_asgO {i : Nat} {x : Str} {p' : Pos} {f : FF} (hnp : b.np ≤ i) (hN : X.N.Nodup) (hi : X.N[i]? = some x) (hx : Loc X.env.scope x) (he : PE X e (tFr b W f)) (hs : swapsWith e (some (.Name x p')) pos.line X.env = pure false := by rfl)
    (hf : X.fn x = true ∨ X.env.scope.names.lookup x = some .local := by first | exact .inl rfl | exact .inr rfl | assumption) (hpx : PxOk b i) : PS X (.Assign [.Name x p'] e pos) (tSt b W [i] (asgO i f)) := ps_mono (ps_set hN hi hx he hs hf) fun D σ H ⟨Fz, g, r, h⟩ => by
  refine tG_st r h fun d x' g1 Fz1 H1 r1 _ rep h1 => ?_
  obtain ⟨p, vs, rfl, h0, nf, hu, ho, rr⟩ := rep
  exact h1 _ H1 Fz1 (r1.setO hpx hnp h0 nf hu ho ⟨vs, rfl, rr⟩) .set
end
end DL

set_option Elab.async false
set_option linter.all false
set_option maxRecDepth 100000
set_option maxHeartbeats 4000000
/-! Den6: what a def promises; calls. -/
namespace DL
open PySem L2 PySem.Spec PyProof.Rows

/-- behind a call -/
structure PostC (M : MM) (Fz : Fzn) (H : Hp) (vs : List V) (as : Sg) (Fz' : Fzn) (H' : Hp) (as' : Sg) : Prop where
  dom : ∀ a, Fz' a → ∃ o, H' a = some o
  fz : ∀ a, Fz a → Fz' a
  new : ∀ a, Fz' a → Fz a ∨ H a = none
  fr : ∀ a o, H a = some o → (¬ ∃ i, Own as (vs.map some) i a) → H' a = some o
  len : as'.length = as.length
  out : ∀ i a, Own as (vs.map some) i a → ∃ s u, as'[i]? = some s ∧ ¬ Fz' a ∧ H' a = some u ∧ OwnAt M Fz' H' s u

/-- no nested own lists among the arguments -/
def NoOn (as : Sg) : Prop := ∀ (i : Nat) (dss : List (List D)), as[i]? ≠ some (S.on dss)
def spD (M : MM) (n : Nat) (dn : Dn) : Sp := fun vs H Q E => vs.length = n ∧ ∃ Fz as, (∀ a, Fz a → ∃ o, H a = some o) ∧ ARel M Fz H as (vs.map some) ∧ NoOn as ∧ match dn as with
  | .ok d as' => ∀ x H' Fz', PostC M Fz H vs as Fz' H' as' → Rep M Fz' H' d x → Q x H'
  | .okf ds as' => ∀ p ws H' Fz', PostC M Fz H vs as Fz' H' as' → H p = none → ¬ Fz' p → H' p = some (.lst ws) → RepL M Fz' H' ds ws → Q (.ref p) H'
  | .ex e as' => ∀ cl dx H' Fz', PostC M Fz H vs as Fz' H' as' → ExOk M Fz' H' e cl dx → E cl dx H'
  | .no => False

/-! ### a def from its body -/
/-- the own arguments are own still -/
def okOut : Sg → Sg → Bool
  | [], _ => true
  | s :: as, t :: g => (!s.isOw || t.isOw) && okOut as g
  | _ :: _, [] => false
theorem okOut_le : ∀ {as g : Sg}, okOut as g = true → as.length ≤ g.length
  | [], _, _ => Nat.zero_le _
  | _ :: as, _ :: g, h => by
    unfold okOut at h
    rw [Bool.and_eq_true] at h
    exact Nat.succ_le_succ (okOut_le h.2)
  | _ :: _, [], h => by cases h
theorem okOut_get : ∀ {as g : Sg} {i : Nat} {s : S}, okOut as g = true → as[i]? = some s → s.isOw = true → ∃ t, g[i]? = some t ∧ t.isOw = true
  | [], _, i, s, _, e, _ => by simp at e
  | x :: as, t :: g, 0, s, h, e, w => by
    have e' : x = s := by simpa using e
    subst e'
    unfold okOut at h
    rw [w] at h
    simp at h
    exact ⟨t, rfl, h.1⟩
  | x :: as, t :: g, i + 1, s, h, e, w => by
    unfold okOut at h
    rw [Bool.and_eq_true] at h
    obtain ⟨t', h1, h2⟩ := okOut_get (i := i) h.2 (by simpa using e) w
    exact ⟨t', by simpa using h1, h2⟩
  | x :: as, [], i, s, h, e, w => by cases h
def endC (as : Sg) (r : RS) : RC := match r with
  | .nx g => if okOut as g = true then .ok .non (g.take as.length) else .no
  | .rt d g => if okOut as g = true then .ok d (g.take as.length) else .no
  | .rf ds g => if okOut as g = true then .okf ds (g.take as.length) else .no
  | .ex e g => if okOut as g = true then .ex e (g.take as.length) else .no
  | _ => .no
/-- a def of N slots -/
def defF (N : Nat) (body : FS) : Dn := fun as => endC as (body (as ++ List.replicate (N - as.length) .un))

section
variable {P : Program} {w : World} {K : PySem.W.Frag} {mg : Str → Option Value} {base : Heap}
theorem start_rel {M : MM} {N : List Str} {vs : List V} {as : Sg} {Fz : Fzn} {H : Hp} (hl : vs.length ≤ N.length) (dom : ∀ a, Fz a → ∃ o, H a = some o) (rel : ARel M Fz H as (vs.map some)) (noon : NoOn as) :
    BRel ⟨M, H, Fz, fun a => ∃ i, Own as (vs.map some) i a, vs.length, vs.map some, none⟩ Fz (as ++ List.replicate (N.length - as.length) .un) (L2.start N vs) H := by
  have len : as.length = vs.length := by rw [rel.len, List.length_map]
  have ow : ∀ {i a}, Own (as ++ List.replicate (N.length - as.length) .un) (L2.start N vs) i a → i < vs.length ∧ Own as (vs.map some) i a := fun {i a} h => by
    obtain ⟨⟨s, e, wo⟩, q⟩ := h
    by_cases hi : i < as.length
    · rw [List.getElem?_append_left hi] at e
      refine ⟨by omega, ⟨s, e, wo⟩, ?_⟩
      unfold L2.start at q
      rw [List.getElem?_append_left (by rw [List.length_map]; omega)] at q
      exact q
    · rw [List.getElem?_append_right (by omega)] at e
      have z := List.mem_replicate.mp (List.mem_of_getElem? e)
      rw [z.2] at wo
      cases wo
  refine ⟨⟨dom, fun _ h => h, fun _ h => .inl h, fun a o h _ => h, fun a h => ?_⟩, ⟨?_, fun i s e => ?_, fun i j a p q => rel.apart i j a (ow p).2 (ow q).2⟩, fun i a h => .inl ⟨(ow h).1, i, (ow h).2⟩, fun i a _ h => (ow h).2.2, (fun _ _ h => nomatch h), ?nst⟩
  case nst =>
    have no : ∀ (i : Nat) (dss : List (List D)), (as ++ List.replicate (N.length - as.length) S.un)[i]? ≠ some (S.on dss) := fun i dss e => by
      by_cases hi : i < as.length
      · rw [List.getElem?_append_left hi] at e
        exact noon i dss e
      · rw [List.getElem?_append_right (by omega)] at e
        have z := List.mem_replicate.mp (List.mem_of_getElem? e)
        cases z.2
    exact ⟨fun i dss h => absurd h (no i dss), fun i x ⟨dss, _, _, h, _⟩ => absurd h (no i dss), fun i j x ⟨dss, _, _, h, _⟩ => absurd h (no i dss)⟩
  · obtain ⟨i, h⟩ := h
    obtain ⟨⟨s, e, wo⟩, q⟩ := h
    obtain ⟨a', u, e1, n, h1, _⟩ := (rel.ok i s e).own wo
    rw [q] at e1
    injection e1 with e1
    injection e1 with e1
    injection e1 with e1
    subst e1
    exact ⟨⟨u, h1⟩, n, u, h1⟩
  · unfold L2.start
    rw [List.length_append, List.length_append, List.length_map, List.length_replicate, List.length_replicate, len]
  · by_cases hi : i < as.length
    · rw [List.getElem?_append_left hi] at e
      have z := rel.ok i s e
      unfold L2.start
      rw [List.getElem?_append_left (by rw [List.length_map]; omega)]
      exact z
    · rw [List.getElem?_append_right (by omega)] at e
      have z := List.mem_replicate.mp (List.mem_of_getElem? e)
      rw [z.2]
      trivial
theorem end_post {M : MM} {vs : List V} {as g : Sg} {Fz Fz' : Fzn} {H H' : Hp} {σ : L2.St} (rel : ARel M Fz H as (vs.map some)) (ok : okOut as g = true)
    (r : BRel ⟨M, H, Fz, fun a => ∃ i, Own as (vs.map some) i a, vs.length, vs.map some, none⟩ Fz' g σ H') : PostC M Fz H vs as Fz' H' (g.take as.length) where
  dom := r.gr.dom
  fz := r.gr.fz
  new := r.gr.new
  fr := r.gr.fr
  len := by rw [List.length_take, Nat.min_eq_left (okOut_le ok)]
  out := fun i a h => by
    obtain ⟨⟨s, e, wo⟩, q⟩ := h
    have hi : i < as.length := (List.getElem?_eq_some_iff.mp e).1
    have len : as.length = vs.length := by rw [rel.len, List.length_map]
    obtain ⟨t, et, wt⟩ := okOut_get ok e wo
    obtain ⟨a', u, e1, n, h1, w1⟩ := (r.slot et).own wt
    have ow : Own g σ i a' := ⟨⟨t, et, wt⟩, e1⟩
    have pin : (vs.map some)[i]? = some (some (V.ref a')) := r.pin i a' (by show i < vs.length; omega) ow
    have z : some (some (V.ref a')) = some (some (V.ref a)) := pin.symm.trans q
    injection z with z
    injection z with z
    injection z with z
    subst z
    exact ⟨t, u, by rw [List.getElem?_take_of_lt hi]; exact et, n, h1, w1⟩
/-- THE RULE for a def -/
theorem ok_def {x qual : Str} {st : Stmt} {f : Addr} {fd : FuncData} {N ps : List Str} {k n : Nat} {al : List Nat} {body : FS} {dvs : List V} (hn : n = ps.length) (hN : ps.length ≤ N.length) (F : FunD K x qual (defArgs st) (defBody st) (defScope st) dvs [] f fd) (S : FnScope N ps (defScope st))
    (hbody : ∀ (cdv : Value) (A : Around) (outer : List Env) (s : Shared) (H : Hp) (E : XK) (b : B), Room k (A.deeper (envOfC qual (defScope st) s.heap.objs.size f cdv)) → b.M = ⟨K, mg⟩ → b.np = n → b.px = none →
      PSs (cxOf (L2.CX P w) P w K mg base N qual (defScope st) f cdv A outer s H E) (defBody st) (tSt b (fun cls d _ H => E cls d H) al body)) : FnOk P w K mg base (L2.CX P w) (k + 1) f fd ps (spD ⟨K, mg⟩ n (defF N.length body)) := by
  subst hn
  refine F.ok (CX := L2.CX P w) S (fun vs H Q E h => h.1) (fun cdv A outer s H vs Q E hr h => ?_)
  obtain ⟨hl, Fz, as, dom, rel, noon, h⟩ := h
  refine ⟨_, hbody cdv A outer s H E ⟨⟨K, mg⟩, H, Fz, fun a => ∃ i, Own as (vs.map some) i a, vs.length, vs.map some, none⟩ hr rfl hl rfl, ?_⟩
  refine ⟨Fz, as ++ List.replicate (N.length - as.length) .un, start_rel (by omega) dom rel noon, ?_⟩
  unfold defF at h
  cases q : body (as ++ List.replicate (N.length - as.length) .un) with
  | nx g =>
    rw [q] at h
    unfold endC at h
    dsimp only at h
    by_cases c : okOut as g = true
    · rw [if_pos c] at h
      exact fun σ' H' Fz' r' _ => h .non H' Fz' (end_post rel c r') rep_non
    · rw [if_neg c] at h; exact h.elim
  | rt d g =>
    rw [q] at h
    unfold endC at h
    dsimp only at h
    by_cases c : okOut as g = true
    · rw [if_pos c] at h
      exact fun x σ' H' Fz' r' rep => h x H' Fz' (end_post rel c r') rep
    · rw [if_neg c] at h; exact h.elim
  | rf d g =>
    rw [q] at h
    unfold endC at h
    dsimp only at h
    by_cases c : okOut as g = true
    · rw [if_pos c] at h
      intro x σ' H' Fz' r' rep
      obtain ⟨p, ws, rfl, h0, nf, hu, ho, rr⟩ := rep
      exact h p ws H' Fz' (end_post rel c r') h0 nf hu rr
    · rw [if_neg c] at h; exact h.elim
  | ex d g =>
    rw [q] at h
    unfold endC at h
    dsimp only at h
    by_cases c : okOut as g = true
    · rw [if_pos c] at h
      exact fun σ' cl dx H' Fz' r' _ rep => h cl dx H' Fz' (end_post rel c r') rep
    · rw [if_neg c] at h; exact h.elim
  | bk g => rw [q] at h; exact h.elim
  | ct g => rw [q] at h; exact h.elim
  | no => rw [q] at h; exact h.elim
end

/-! ### calls -/
def toS (g : Sg) : AV → S
  | .d d => .v d
  | .o i => gat g i
def ownIx : List AV → List Nat
  | [] => []
  | .d _ :: as => ownIx as
  | .o i :: as => i :: ownIx as
/-- the own arguments as the call left them -/
def merge : Sg → List AV → Sg → Sg
  | g, .d _ :: as, _ :: ss => merge g as ss
  | g, .o i :: as, s :: ss => merge (g.set i s) as ss
  | g, _, _ => g
def nodupB : List Nat → Bool
  | [] => true
  | i :: is => !is.contains i && nodupB is
def callR (n : Nat) (dn : Dn) (as : List AV) (g : Sg) : R D := if as.length = n ∧ nodupB (ownIx as) = true then match dn (as.map (toS g)) with
    | .ok d ss => .ok d (merge g as ss)
    | .okf ds ss => .ok (.lst ds) (merge g as ss)
    | .ex e ss => .ex e (merge g as ss)
    | .no => .no
  else .no
def callRF (n : Nat) (dn : Dn) (as : List AV) (g : Sg) : R (List D) := if as.length = n ∧ nodupB (ownIx as) = true then match dn (as.map (toS g)) with
    | .okf ds ss => .ok ds (merge g as ss)
    | .ex e ss => .ex e (merge g as ss)
    | _ => .no
  else .no
/-- f(..); ds: the defaults that fill up -/
def callF (n : Nat) (dn : Dn) (dfs : List D) (fa : FV) : FE := fun g => (fa g).bd fun as g1 => callR n dn (as ++ dfs.map AV.d) g1
def callFF (n : Nat) (dn : Dn) (dfs : List D) (fa : FV) : FF := fun g => (fa g).bd fun as g1 => callRF n dn (as ++ dfs.map AV.d) g1

theorem merge_length : ∀ (as : List AV) (g ss : Sg), (merge g as ss).length = g.length
  | [], g, ss => by unfold merge; rfl
  | .d _ :: as, g, [] => by unfold merge; rfl
  | .o _ :: as, g, [] => by unfold merge; rfl
  | .d _ :: as, g, _ :: ss => by unfold merge; exact merge_length as g ss
  | .o i :: as, g, s :: ss => by unfold merge; rw [merge_length as, List.length_set]
theorem merge_out : ∀ (as : List AV) (g ss : Sg) (j : Nat), j ∉ ownIx as → (merge g as ss)[j]? = g[j]?
  | [], g, ss, j, _ => by unfold merge; rfl
  | .d _ :: as, g, [], j, _ => by unfold merge; rfl
  | .o _ :: as, g, [], j, _ => by unfold merge; rfl
  | .d _ :: as, g, _ :: ss, j, h => by unfold merge; exact merge_out as g ss j h
  | .o i :: as, g, s :: ss, j, h => by
    unfold ownIx at h
    unfold merge
    rw [merge_out as (g.set i s) ss j (fun q => h (List.mem_cons_of_mem _ q)), List.getElem?_set_ne (fun q => h (by rw [q]; exact List.mem_cons_self))]
theorem merge_in : ∀ (as : List AV) (g ss : Sg) (j : Nat), nodupB (ownIx as) = true → ss.length = as.length → j < g.length → j ∈ ownIx as → ∃ k : Nat, as[k]? = some (AV.o j) ∧ (merge g as ss)[j]? = ss[k]?
  | [], g, ss, j, _, _, _, h => by simp [ownIx] at h
  | .d _ :: as, g, [], j, _, hl, _, h => by simp at hl
  | .o _ :: as, g, [], j, _, hl, _, h => by simp at hl
  | .d _ :: as, g, s :: ss, j, nd, hl, hj, h => by
    unfold merge
    obtain ⟨k, h1, h2⟩ := merge_in as g ss j nd (by simpa using hl) hj h
    exact ⟨k + 1, by simpa using h1, by simpa using h2⟩
  | .o i :: as, g, s :: ss, j, nd, hl, hj, h => by
    unfold ownIx at nd h
    unfold nodupB at nd
    rw [Bool.and_eq_true] at nd
    unfold merge
    by_cases hm : j ∈ ownIx as
    · obtain ⟨k, h1, h2⟩ := merge_in as (g.set i s) ss j nd.2 (by simpa using hl) (by rw [List.length_set]; exact hj) hm
      exact ⟨k + 1, by simpa using h1, by simpa using h2⟩
    · rcases List.mem_cons.mp h with e | e
      · subst e
        refine ⟨0, rfl, ?_⟩
        rw [merge_out as _ ss j hm, List.getElem?_set_self hj]
        rfl
      · exact absurd e hm
theorem avs_get {b : B} {σ : L2.St} {Fz : Fzn} {H : Hp} {g : Sg} : ∀ {as : List AV} {xs : List V} {k : Nat} {a : AV}, AVsOk b σ Fz H g as xs → as[k]? = some a → ∃ x, xs[k]? = some x ∧ AVOk b σ Fz H g a x
  | [], _, _, _, _, e => by simp at e
  | c :: as, xs, k, a, h, e => by
    obtain ⟨x, r, rfl, h1, h2⟩ := h
    cases k with
    | zero =>
      have e' : c = a := by simpa using e
      subst e'
      exact ⟨x, rfl, h1⟩
    | succ k => exact avs_get (k := k) h2 (by simpa using e)
theorem avs_len {b : B} {σ : L2.St} {Fz : Fzn} {H : Hp} {g : Sg} : ∀ {as : List AV} {xs : List V}, AVsOk b σ Fz H g as xs → as.length = xs.length
  | [], xs, h => by
    have h' : xs = [] := h
    subst h'; rfl
  | c :: as, xs, h => by
    obtain ⟨x, r, rfl, h1, h2⟩ := h
    simp [avs_len h2]
theorem mem_ownIx : ∀ {as : List AV} {j : Nat}, j ∈ ownIx as ↔ AV.o j ∈ as
  | [], j => by simp [ownIx]
  | .d d :: as, j => by simp [ownIx, mem_ownIx (as := as)]
  | .o i :: as, j => by simp [ownIx, mem_ownIx (as := as)]
theorem nodup_ix2 : ∀ {as : List AV} {j k l : Nat}, nodupB (ownIx as) = true → as[k]? = some (.o j) → as[l]? = some (.o j) → k = l
  | [], _, _, _, _, h, _ => by simp at h
  | .d d :: as, j, k, l, nd, h1, h2 => by
    cases k with
    | zero => simp at h1
    | succ k =>
      cases l with
      | zero => simp at h2
      | succ l => rw [nodup_ix2 (as := as) (k := k) (l := l) nd (by simpa using h1) (by simpa using h2)]
  | .o i :: as, j, k, l, nd, h1, h2 => by
    unfold ownIx nodupB at nd
    rw [Bool.and_eq_true] at nd
    have nm : i ∉ ownIx as := by simpa using nd.1
    cases k with
    | zero =>
      have e : i = j := by simpa using h1
      subst e
      cases l with
      | zero => rfl
      | succ l => exact absurd (mem_ownIx.mpr (List.mem_of_getElem? (by simpa using h2))) nm
    | succ k =>
      cases l with
      | zero =>
        have e : i = j := by simpa using h2
        subst e
        exact absurd (mem_ownIx.mpr (List.mem_of_getElem? (by simpa using h1))) nm
      | succ l => rw [nodup_ix2 (as := as) (k := k) (l := l) nd.2 (by simpa using h1) (by simpa using h2)]
section
variable {b : B} {σ : L2.St} {Fz Fz' : Fzn} {H H' : Hp} {g : Sg} {as : List AV} {xs : List V}
theorem toS_own {i : Nat} {a : Addr} (r : BRel b Fz g σ H) (av : AVsOk b σ Fz H g as xs) (h : Own (as.map (toS g)) (xs.map some) i a) : ∃ j, as[i]? = some (.o j) ∧ Own g σ j a := by
  obtain ⟨⟨s, e, wo⟩, q⟩ := h
  rw [List.getElem?_map] at e q
  cases ea : as[i]? with
  | none => rw [ea] at e; cases e
  | some c =>
    rw [ea] at e
    have e' : toS g c = s := Option.some.inj e
    subst e'
    obtain ⟨x, ex, ox⟩ := avs_get av ea
    rw [ex] at q
    have q' : x = V.ref a := by
      injection q with q
      injection q
    subst q'
    cases c with
    | d d => cases wo
    | o j =>
      obtain ⟨a', e1, ow⟩ := ox
      injection e1 with e1
      subst e1
      exact ⟨j, rfl, ow⟩
/-- the arguments as the callee takes them -/
theorem args_rel (r : BRel b Fz g σ H) (av : AVsOk b σ Fz H g as xs) (nd : nodupB (ownIx as) = true) : ARel b.M Fz H (as.map (toS g)) (xs.map some) where
  len := by rw [List.length_map, List.length_map, avs_len av]
  ok := fun i s e => by
    rw [List.getElem?_map] at e
    cases ea : as[i]? with
    | none => rw [ea] at e; cases e
    | some c =>
      rw [ea] at e
      have e' : toS g c = s := Option.some.inj e
      subst e'
      obtain ⟨x, ex, ox⟩ := avs_get av ea
      rw [List.getElem?_map, ex]
      cases c with
      | d d => exact ⟨x, rfl, ox⟩
      | o j =>
        obtain ⟨a', e1, ow⟩ := ox
        subst e1
        obtain ⟨⟨t, et, wt⟩, q⟩ := ow
        obtain ⟨a2, u, e2, n, h1, w1⟩ := (r.slot et).own wt
        rw [q] at e2
        injection e2 with e2
        injection e2 with e2
        injection e2 with e2
        subst e2
        have ht : toS g (.o j) = t := get_gat et
        rw [ht]
        exact SlotOk.of_own rfl n h1 w1
  apart := fun i j a p q => by
    obtain ⟨k, e1, o1⟩ := toS_own r av p
    obtain ⟨l, e2, o2⟩ := toS_own r av q
    have e3 := r.rel.apart k l a o1 o2
    subst e3
    exact nodup_ix2 nd e1 e2
theorem args_noon (r : BRel b Fz g σ H) (av : AVsOk b σ Fz H g as xs) : NoOn (as.map (toS g)) := fun i dss e => by
  rw [List.getElem?_map] at e
  obtain ⟨a, e1, e2⟩ := Option.map_eq_some_iff.mp e
  obtain ⟨x, _, ox⟩ := avs_get av e1
  cases a with
  | d d => cases e2
  | o j =>
    obtain ⟨a, _, ⟨t, et, wt⟩, _⟩ := ox
    have e3 : gat g j = t := get_gat et
    have e4 : gat g j = S.on dss := e2
    rw [← e3, e4] at wt
    cases wt
/-- the callee leaves the nested lists alone -/
theorem call_cell {ss : Sg} (r : BRel b Fz g σ H) (av : AVsOk b σ Fz H g as xs) (po : PostC b.M Fz H xs (as.map (toS g)) Fz' H' ss) {i : Nat} {x : Addr} (h : NOwn g σ H i x) : H' x = H x := by
  obtain ⟨vs, hv⟩ := NOwn.there r.nst h
  rw [hv]
  refine po.fr x _ hv fun ⟨j, z⟩ => ?_
  obtain ⟨k, _, o1⟩ := toS_own r av z
  exact (r.nst.free i x h).2.2 k o1
theorem merge_on {ss : Sg} (r : BRel b Fz g σ H) (av : AVsOk b σ Fz H g as xs) (nd : nodupB (ownIx as) = true) (po : PostC b.M Fz H xs (as.map (toS g)) Fz' H' ss) {i : Nat} {dss : List (List D)} (e : (merge g as ss)[i]? = some (S.on dss)) : g[i]? = some (S.on dss) := by
  have hj : i < g.length := by
    have := (List.getElem?_eq_some_iff.mp e).1
    rw [merge_length] at this
    exact this
  by_cases hm : i ∈ ownIx as
  · obtain ⟨k, e1, e2⟩ := merge_in as g ss i nd (by rw [po.len, List.length_map]) hj hm
    obtain ⟨x, ex, ox⟩ := avs_get av e1
    obtain ⟨a2, ea, ⟨t, et, wt⟩, q⟩ := ox
    obtain ⟨s, u, es, n, hu, w⟩ := po.out k a2 ⟨⟨t, by rw [List.getElem?_map, e1]; exact congrArg some (get_gat et), wt⟩, by rw [List.getElem?_map, ex, ea]; rfl⟩
    rw [e2, es] at e
    injection e with e
    subst e
    exact w.elim
  · rw [merge_out as g ss i hm] at e
    exact e
theorem call_nown {ss : Sg} (r : BRel b Fz g σ H) (av : AVsOk b σ Fz H g as xs) (nd : nodupB (ownIx as) = true) (po : PostC b.M Fz H xs (as.map (toS g)) Fz' H' ss) {i : Nat} {x : Addr} (h : NOwn (merge g as ss) σ H' i x) : NOwn g σ H i x := by
  obtain ⟨dss, a, vs, h1, h2, h3, h4⟩ := h
  have k1 := merge_on r av nd po h1
  rw [call_cell r av po (r.nst.nown k1 h2)] at h3
  exact ⟨dss, a, vs, k1, h2, h3, h4⟩
/-- the state behind the call -/
theorem after_call {ss : Sg} (r : BRel b Fz g σ H) (av : AVsOk b σ Fz H g as xs) (nd : nodupB (ownIx as) = true) (po : PostC b.M Fz H xs (as.map (toS g)) Fz' H' ss) :
    BRel b Fz' (merge g as ss) σ H' ∧ Ext Fz H Fz' H' := by
  -- an own slot that is not handed on is not the callee's
  have notArg : ∀ {j a}, Own g σ j a → j ∉ ownIx as → ¬ ∃ i, Own (as.map (toS g)) (xs.map some) i a := fun {j a} o h ⟨i, q⟩ => by
    obtain ⟨k, e1, o1⟩ := toS_own r av q
    have e3 := r.rel.apart k j a o1 o
    subst e3
    exact h (mem_ownIx.mpr (List.mem_of_getElem? e1))
  have isArg : ∀ {i a}, Own (as.map (toS g)) (xs.map some) i a → ∃ j, Own g σ j a := fun {i a} q => by
    obtain ⟨k, e1, o1⟩ := toS_own r av q
    exact ⟨k, o1⟩
  have ex : Ext Fz H Fz' H' := ⟨po.fz, fun a o h q => po.fr a o h fun ⟨i, z⟩ => by
    obtain ⟨j, ow⟩ := isArg z
    obtain ⟨s, u, _, nf, hu, w⟩ := r.there ow
    rcases q with q | q
    · exact nf q
    · rw [hu] at h; cases h; exact q w.mut⟩
  have argAt : ∀ {j a} (k : Nat), Own g σ j a → as[k]? = some (AV.o j) → Own (as.map (toS g)) (xs.map some) k a := fun {j a} k o e => by
    obtain ⟨⟨t, et, wt⟩, q⟩ := o
    obtain ⟨x, ex, ox⟩ := avs_get av e
    obtain ⟨a2, e2, ow2⟩ := ox
    subst e2
    have z : σ[j]? = some (some (V.ref a2)) := ow2.2
    rw [q] at z
    injection z with z
    injection z with z
    injection z with z
    subst z
    exact ⟨⟨t, by rw [List.getElem?_map, e]; exact congrArg some (get_gat et), wt⟩, by rw [List.getElem?_map, ex]; rfl⟩
  -- own slots afterwards are own slots before
  have back : ∀ {j a}, Own (merge g as ss) σ j a → Own g σ j a := fun {j a} o => by
    obtain ⟨⟨t, et, wt⟩, q⟩ := o
    by_cases hm : j ∈ ownIx as
    · obtain ⟨k, e⟩ := List.getElem?_of_mem (mem_ownIx.mp hm)
      obtain ⟨x, ex, ox⟩ := avs_get av e
      obtain ⟨a2, _, ow2⟩ := ox
      exact ⟨ow2.1, q⟩
    · rw [merge_out as g ss j hm] at et
      exact ⟨⟨t, et, wt⟩, q⟩
  refine ⟨⟨⟨po.dom, fun a h => po.fz a (r.gr.fz a h), fun a h => ?_, fun a o h n => ?_, fun a h => ?_⟩, ⟨by rw [merge_length]; exact r.rel.len, fun j t et => ?_, fun i j a p q => r.rel.apart i j a (back p) (back q)⟩, fun i a h => r.own i a (back h), fun i a hi h => r.pin i a hi (back h), r.px, r.nst.step rfl ex (fun i dss h => ⟨merge_on r av nd po h, rfl⟩) (fun i x h => call_cell r av po h) fun i x h => ?nf⟩, ex⟩
  case nf =>
    obtain ⟨k1, k2, k3⟩ := r.nst.free i x h
    obtain ⟨vs, hv⟩ := NOwn.there r.nst h
    exact ⟨fun z => (po.new x z).elim k1 fun y => (by rw [hv] at y; cases y), k2, fun j o => k3 j (back o)⟩
  · rcases po.new a h with z | z
    · exact r.gr.new a z
    · exact .inr (r.new0 z)
  · refine po.fr a o (r.gr.fr a o h n) fun ⟨i, z⟩ => ?_
    obtain ⟨j, ow⟩ := isArg z
    rcases r.own j a ow with ⟨_, y⟩ | ⟨_, y⟩
    · exact n y
    · rw [h] at y; cases y
  · obtain ⟨⟨o, z⟩, y⟩ := r.gr.oa a h
    refine ⟨?_, y⟩
    by_cases c : ∃ i, Own (as.map (toS g)) (xs.map some) i a
    · obtain ⟨i, c⟩ := c
      obtain ⟨s, u, _, _, hu, _⟩ := po.out i a c
      exact ⟨u, hu⟩
    · exact ⟨o, po.fr a o z c⟩
  · have hj : j < g.length := by
      have := (List.getElem?_eq_some_iff.mp et).1
      rw [merge_length] at this
      exact this
    by_cases hm : j ∈ ownIx as
    · obtain ⟨k, e1, e2⟩ := merge_in as g ss j nd (by rw [po.len, List.length_map]) hj hm
      obtain ⟨x, ex, ox⟩ := avs_get av e1
      obtain ⟨a2, _, ow2⟩ := ox
      obtain ⟨s, u, es, n, hu, w⟩ := po.out k a2 (argAt k ow2 e1)
      rw [e2, es] at et
      have et' := Option.some.inj et
      subst et'
      exact SlotOk.of_own ow2.2 n hu w
    · rw [merge_out as g ss j hm] at et
      have z := r.slot et
      by_cases ht : t.isOw = true
      · obtain ⟨x, o, e3, n3, h3, w3⟩ := z.own ht
        refine SlotOk.of_own e3 (fun y => ?_) (po.fr x o h3 (notArg ⟨⟨t, et, ht⟩, e3⟩ hm)) (w3.mono ex)
        rcases po.new x y with y | y
        · exact n3 y
        · rw [h3] at y; cases y
      · cases t with
        | un => trivial
        | on dss => trivial
        | v d => obtain ⟨x, e3, r3⟩ := z; exact ⟨x, e3, Rep.mono ex d x r3⟩
        | _ => exact absurd rfl ht
end
section
variable {X : Cx} {b : B} {W : WX} {k n : Nat} {f : Addr} {fd : FuncData} {ps : List Str} {dn : Dn} {x : Str} {p pos : Pos} {e : Expr} {es : List Expr} {fa : FV} {dvs : List V} {ds : List Value} {dfs : List D}
theorem avs_app {σ : L2.St} {Fz : Fzn} {H : Hp} {g : Sg} : ∀ {as : List AV} {xs : List V}, AVsOk b σ Fz H g as xs → RepL b.M Fz H dfs dvs → AVsOk b σ Fz H g (as ++ dfs.map AV.d) (xs ++ dvs)
  | [], xs, h, r => by
    have h' : xs = [] := h
    subst h'
    rw [List.nil_append, List.nil_append]
    clear h
    induction dfs generalizing dvs with
    | nil => exact RepL.nil_iff.mp r
    | cons d dfs ih =>
      obtain ⟨v, r', rfl, r1, r2⟩ := RepL.cons_iff.mp r
      exact ⟨v, r', rfl, r1, ih r2⟩
  | a :: as, xs, h, r => by
    obtain ⟨x, r', rfl, h1, h2⟩ := h
    exact ⟨x, r' ++ dvs, rfl, h1, avs_app h2 r⟩
theorem callR_ok {σ : L2.St} {H1 : Hp} {Fz1 : Fzn} {g1 : Sg} {as2 : List AV} {xs2 : List V} {Q : VK} (r1 : BRel b Fz1 g1 σ H1) (av2 : AVsOk b σ Fz1 H1 g1 as2 xs2) (h1 : Po b W (bE b) σ Fz1 H1 (fun x _ _ H' _ => Q x H') (callR n dn as2 g1)) : spD b.M n dn xs2 H1 Q (WE W σ) := by
  unfold callR at h1
  by_cases c : as2.length = n ∧ nodupB (ownIx as2) = true
  · rw [if_pos c] at h1
    refine ⟨by rw [← avs_len av2]; exact c.1, Fz1, as2.map (toS g1), r1.gr.dom, args_rel r1 av2 c.2, args_noon r1 av2, ?_⟩
    cases q : dn (as2.map (toS g1)) with
    | ok d ss =>
      rw [q] at h1
      intro x' H' Fz' po rep
      obtain ⟨r2, e2⟩ := after_call r1 av2 c.2 po
      exact h1.ok r2 e2 rep
    | okf zs ss =>
      rw [q] at h1
      intro p' ws H' Fz' po hp nf hu rr
      obtain ⟨r2, e2⟩ := after_call r1 av2 c.2 po
      have fr : bF b σ Fz' H' (merge g1 as2 ss) zs (.ref p') := by
        refine ⟨p', ws, rfl, r1.new0 hp, nf, hu, fun i o => ?_, rr⟩
        rcases o with o | o
        rotate_left
        · exact r1.notN hp i (call_nown r1 av2 c.2 po o)
        obtain ⟨s, u, es, n1, hu1, w1⟩ := r2.there o
        by_cases c2 : ∃ u1, H1 p' = some u1
        · obtain ⟨u1, hu2⟩ := c2
          rw [hp] at hu2; cases hu2
        · obtain ⟨⟨t, et, wt⟩, oq⟩ := o
          by_cases hm : i ∈ ownIx as2
          · obtain ⟨k', e⟩ := List.getElem?_of_mem (mem_ownIx.mp hm)
            obtain ⟨x1, ex1, ox1⟩ := avs_get av2 e
            obtain ⟨a2, _, ow2⟩ := ox1
            have z : σ[i]? = some (some (V.ref a2)) := ow2.2
            rw [oq] at z
            injection z with z
            injection z with z
            injection z with z
            subst z
            obtain ⟨s3, u3, _, _, hu3, _⟩ := r1.there ow2
            exact c2 ⟨u3, hu3⟩
          · rw [merge_out _ g1 ss i hm] at et
            obtain ⟨s3, u3, _, _, hu3, _⟩ := r1.there ⟨⟨t, et, wt⟩, oq⟩
            exact c2 ⟨u3, hu3⟩
      obtain ⟨Fz3, r3, e3, rv⟩ := fresh_rep r2 fr
      exact h1.ok r3 (e2.trans e3) rv
    | ex ee ss =>
      rw [q] at h1
      intro cl dx H' Fz' po ok
      obtain ⟨r2, e2⟩ := after_call r1 av2 c.2 po
      exact h1 cl dx H' Fz' r2 e2 ok
    | no => rw [q] at h1; exact h1
  · rw [if_neg c] at h1
    exact h1.elim
theorem tE_call (hd : ∀ Fz H, RepL b.M Fz H dfs dvs) {σ : L2.St} {H : Hp} {Q : VK} (h : tE b W (callF n dn dfs fa) σ H Q) : tCallSD (spD b.M n dn) dvs (fun σ => WE W σ) (tAv b W fa) σ H Q := by
  obtain ⟨Fz, g, r, h⟩ := h
  exact tG_seq r h fun as xs g1 Fz1 H1 r1 e1 av h1 => callR_ok r1 (avs_app (dfs := dfs) av (hd Fz1 H1)) h1
theorem callRF_ok {σ : L2.St} {H1 : Hp} {Fz1 : Fzn} {g1 : Sg} {as2 : List AV} {xs2 : List V} {Q : VK} (r1 : BRel b Fz1 g1 σ H1) (av2 : AVsOk b σ Fz1 H1 g1 as2 xs2) (h1 : Po b W (bF b) σ Fz1 H1 (fun x _ _ H' _ => Q x H') (callRF n dn as2 g1)) : spD b.M n dn xs2 H1 Q (WE W σ) := by
  unfold callRF at h1
  by_cases c : as2.length = n ∧ nodupB (ownIx as2) = true
  · rw [if_pos c] at h1
    refine ⟨by rw [← avs_len av2]; exact c.1, Fz1, as2.map (toS g1), r1.gr.dom, args_rel r1 av2 c.2, args_noon r1 av2, ?_⟩
    cases q : dn (as2.map (toS g1)) with
    | ok d ss => rw [q] at h1; exact h1.elim
    | okf zs ss =>
      rw [q] at h1
      intro p' ws H' Fz' po hp nf hu rr
      obtain ⟨r2, e2⟩ := after_call r1 av2 c.2 po
      have fr : bF b σ Fz' H' (merge g1 as2 ss) zs (.ref p') := by
        refine ⟨p', ws, rfl, r1.new0 hp, nf, hu, fun i o => ?_, rr⟩
        rcases o with o | o
        rotate_left
        · exact r1.notN hp i (call_nown r1 av2 c.2 po o)
        obtain ⟨⟨t, et, wt⟩, oq⟩ := o
        by_cases hm : i ∈ ownIx as2
        · obtain ⟨k', e⟩ := List.getElem?_of_mem (mem_ownIx.mp hm)
          obtain ⟨x1, ex1, ox1⟩ := avs_get av2 e
          obtain ⟨a2, _, ow2⟩ := ox1
          have z : σ[i]? = some (some (V.ref a2)) := ow2.2
          rw [oq] at z
          injection z with z
          injection z with z
          injection z with z
          subst z
          obtain ⟨s3, u3, _, _, hu3, _⟩ := r1.there ow2
          rw [hp] at hu3; cases hu3
        · rw [merge_out _ g1 ss i hm] at et
          obtain ⟨s3, u3, _, _, hu3, _⟩ := r1.there ⟨⟨t, et, wt⟩, oq⟩
          rw [hp] at hu3; cases hu3
      exact h1.ok r2 e2 fr
    | ex ee ss =>
      rw [q] at h1
      intro cl dx H' Fz' po ok
      obtain ⟨r2, e2⟩ := after_call r1 av2 c.2 po
      exact h1 cl dx H' Fz' r2 e2 ok
    | no => rw [q] at h1; exact h1
  · rw [if_neg c] at h1
    exact h1.elim
theorem tF_call (hd : ∀ Fz H, RepL b.M Fz H dfs dvs) {σ : L2.St} {H : Hp} {Q : VK} (h : tFr b W (callFF n dn dfs fa) σ H Q) : tCallSD (spD b.M n dn) dvs (fun σ => WE W σ) (tAv b W fa) σ H Q := by
  obtain ⟨Fz, g, r, h⟩ := h
  exact tG_seq r h fun as xs g1 Fz1 H1 r1 e1 av h1 => callRF_ok r1 (avs_app (dfs := dfs) av (hd Fz1 H1)) h1
theorem pd_call (hM : b.M = ⟨X.K, X.mg⟩) (tk : Takes X W) (F : FnOk X.prog X.w X.K X.mg X.base (L2.CX X.prog X.w) k f fd ps (spD ⟨X.K, X.mg⟩ n dn)) (hr : Room k X.A) (hg : Gl X x) (hm : X.mg x = some (.ref f)) (hk : PySem.W.keepIn X.K (.ref f) = true)
    (hb : Binds X.K fd ps ds) (hd : Vals dvs ds) (hdf : ∀ M Fz H, RepL M Fz H dfs dvs) (ha : PA X (e :: es) (tAv b W fa)) (hdb : (x == ("__debug__" : Str)) = false := by decide)
    (he : starEach (e :: es) X.env = (false, eval e X.env) :: starEach es X.env := by rfl) (hpl : (backTo pos (starEach es X.env)).any (·.1) = false := by rfl) : PE X (.Call (.Name x p) (e :: es) [] pos) (tE b W (callF n dn dfs fa)) :=
  pe_mono (pe_callSD F hr hg hm hk hb hd (fun σ => passAt tk σ) ha hdb he hpl) fun σ H Q h => by
    have z := tE_call (hdf b.M) h
    rw [hM] at z
    exact z
theorem pf_call (hM : b.M = ⟨X.K, X.mg⟩) (tk : Takes X W) (F : FnOk X.prog X.w X.K X.mg X.base (L2.CX X.prog X.w) k f fd ps (spD ⟨X.K, X.mg⟩ n dn)) (hr : Room k X.A) (hg : Gl X x) (hm : X.mg x = some (.ref f)) (hk : PySem.W.keepIn X.K (.ref f) = true)
    (hb : Binds X.K fd ps ds) (hd : Vals dvs ds) (hdf : ∀ M Fz H, RepL M Fz H dfs dvs) (ha : PA X (e :: es) (tAv b W fa)) (hdb : (x == ("__debug__" : Str)) = false := by decide)
    (he : starEach (e :: es) X.env = (false, eval e X.env) :: starEach es X.env := by rfl) (hpl : (backTo pos (starEach es X.env)).any (·.1) = false := by rfl) : PE X (.Call (.Name x p) (e :: es) [] pos) (tFr b W (callFF n dn dfs fa)) :=
  pe_mono (pe_callSD F hr hg hm hk hb hd (fun σ => passAt tk σ) ha hdb he hpl) fun σ H Q h => by
    have z := tF_call (hdf b.M) h
    rw [hM] at z
    exact z
end
end DL

set_option Elab.async false
set_option linter.all false
set_option maxRecDepth 100000
set_option maxHeartbeats 4000000
/-! DenI: enumerate of a list or a tuple, zip of two or three of them, for HandS's loops. -/
namespace PySem
open AutoSeq1 (wpAny_loadPart')
set_option maxHeartbeats 1000000 in
theorem meets_enumerate_newB1 {v : Value} {o : Obj} {H : Heap → Prop} (B : Begins v o H) :
    Meets (Builtin.«enumerate.__new__» ⟨[.type "enumerate", v], []⟩) (fun _ R s => H s.heap ∧
      R (.ok (.ret (.ref (s.heap.push o).objs.size))) { s with heap := (s.heap.push o).push { cls := .type "enumerate", data := .fields #[.none, .bool false, .ref s.heap.objs.size, rawInt 0, .none, .none] } }) :=
  .of_wp fun prog w A R s h => by
    obtain ⟨hp, g, d, tk, os⟩ := s; obtain ⟨h1, h⟩ := h
    have hsub := sub_enumerate
    have q1 : ∀ {A' : Around} {E : Value → Shared → Prop} {Q : Value → Shared → Prop}, Q (.ref hp.objs.size) ⟨hp.push o, g, d, tk, os⟩ → wpAny (model prog w) A' (pyIter v) Q E ⟨hp, g, d, tk, os⟩ :=
      fun q => B.iter prog w _ _ ⟨hp, g, d, tk, os⟩ _ h1 q
    wp_walk using q1
    refine wpAny_stack_any fun st => wpAny_pure ?_
    split
    · rename_i c _ _ _ _ _
      cases (c == Value.type "enumerate")
      · wp_walk using q1
        exact ⟨_, rfl, h⟩
      · wp_walk using q1
        exact ⟨_, rfl, h⟩
    · wp_walk using q1
      exact ⟨_, rfl, h⟩
section
variable {prog : Program} {w : World} {A : Around} {E : Value → Shared → Prop} {s : Shared}
theorem enum_begins1 {v : Value} {o : Obj} {H : Heap → Prop} {Q : Value → Shared → Prop} (B : Begins v o H) (h1 : H s.heap)
    (h : ∀ h', IsEnum h' (s.heap.objs.size + 1) s.heap.objs.size 0 .none → h'.get? s.heap.objs.size = some o → h'.objs.size = s.heap.objs.size + 2 →
      (∀ b o, s.heap.get? b = some o → h'.get? b = some o) → Q (.ref (s.heap.objs.size + 1)) { s with heap := h' }) :
    wpAny (model prog w) A (call (.type "enumerate") [v]) Q E s := by
  refine callType_new F.called_enumerate (by decide) (F.typeCall_enumerate_1 _) (F.newCall_enumerate_1 _) (fun obj => F.args_object_init_2 obj _) F.entry_enumerate_new
    (meets_enumerate_newB1 B) ⟨h1, ?_⟩
  have hz : (s.heap.push o).objs.size = s.heap.objs.size + 1 := Heap.size_push ..
  show _ ∧ _
  rw [hz]
  have he : IsEnum ((s.heap.push o).push { cls := .type "enumerate", data := .fields #[.none, .bool false, .ref s.heap.objs.size, rawInt 0, .none, .none] }) (s.heap.objs.size + 1) s.heap.objs.size 0 .none := by
    have := Heap.get?_push_size (s.heap.push o) (o := { cls := .type "enumerate", data := .fields #[.none, .bool false, .ref s.heap.objs.size, rawInt 0, .none, .none] }) rfl
    rw [hz] at this; exact this
  refine ⟨⟨_, he, rfl⟩, h _ he (Heap.get?_push_of_some _ (Heap.get?_push_size _ B.free)) (by rw [Heap.size_push, hz]) fun b o x => Heap.get?_push_of_some _ (Heap.get?_push_of_some _ x)⟩
end
end PySem

namespace DL
open PySem L2 PySem.Spec PyProof.Rows

/-- n turns, the i-th yields a new tuple f i -/
def ItT (Src : Hp → Nat → (Nat → List V) → Prop) : It :=
  ⟨fun i H => ∃ n f, Src H n f ∧ i < n, fun i H x H' => ∃ T vs, x = .ref T ∧ H T = none ∧ H' = upd H T (.tup vs) ∧ ∀ n f, Src H n f → i < n → vs = f i, fun i H => ∃ n f, Src H n f ∧ i = n⟩
theorem turn_walk {P : Program} {w : World} {K : PySem.W.Frag} {elts : List Expr} {kk : Nat} {tpos : Pos} {z : Addr} {fp : List Addr} {tn : Nat → Heap → Prop} {Src : Hp → Nat → (Nat → List V) → Prop}
    (mem : z ∈ fp) (obj : ∀ i h, tn i h → ∀ b ∈ fp, ∃ o, h.get? b = some o ∧ ∀ v, o.data ≠ .cell v) (keep : ∀ i h h', tn i h → (∀ b ∈ fp, ∀ o, h.get? b = some o → h'.get? b = some o) → tn i h')
    (det : ∀ (X : Cx) (pins : List (Addr × Obj)) (s : Shared) (σ : L2.St) (H : Hp) (n m : Nat) (f g : Nat → List V), X.K = K → Inv X pins σ H s → Src H n f → Src H m g → n = m ∧ ∀ i, i < n → f i = g i)
    (wk : ∀ (X : Cx) (pins : List (Addr × Obj)) (s : Shared) (σ : L2.St) (H : Hp) (n : Nat) (f : Nat → List V) (i : Nat), X.prog = P → X.w = w → X.K = K → X.A.handled = none → Inv X pins σ H s → Src H n f → (∀ b ∈ fp, FpOk X pins H b) → tn i s.heap →
      ∃ fpW wr Pt St Mid, WalksT P w X.A z fpW wr n Pt St Mid ∧ St i s.heap ∧ (∀ i vals, i < n → Pt i vals → Vals (f i) vals.toList ∧ (f i).length ≤ sizeLine) ∧ (∀ b ∈ wr, b ∈ fp) ∧ ∀ i h, St i h → tn i h)
    (self : ∀ (A : Around) (i : Nat) (s : Shared) (Q : Value → Shared → Prop) (E : Value → Shared → Prop), tn i s.heap → Q (.ref z) s → wpAny (model P w) A (pyIter (.ref z)) Q E s) :
    Turn P w K (.Tuple elts kk tpos) (ItT Src) fp z tn where
  mem := mem
  obj := obj
  keep := keep
  item := by
    intro X hP hw hK hc i pins s σ H E I hf st hg
    obtain ⟨n, f, hs, hi⟩ := hg
    obtain ⟨fpW, wr, Pt, St, Mid, W, st2, hPt, hwr, back⟩ := wk X pins s σ H n f i hP hw hK (I.ok.hd hc) I hs hf st
    refine W.item i s _ _ hi st2 fun T vals h' tk hp hT hTup mid hk => ?_
    refine ⟨.ref T, rfl, W.go elts kk tpos i T { s with heap := h', toks := tk } _ E mid fun h'' st3 hk2 => ?_⟩
    obtain ⟨rv, hz⟩ := hPt i vals hi hp
    have hT2 : h''.IsTuple T vals := by
      obtain ⟨o, ho, r⟩ := hTup
      exact ⟨o, hk2 T o (W.apart i T h' mid) ho, r⟩
    have new : ObjOk X.prog X.w (upd H T (.tup (f i))) h'' T (.tup (f i)) := ⟨hz, vals.toList, rv, by
      have e : vals.toList.toArray = vals := by simp
      rw [e]
      exact hT2⟩
    have I1 : Inv X pins σ (upd H T (.tup (f i))) { s with heap := h'', toks := tk } :=
      I.turnedNew (ch := wr) (fun b ob hb q => hk2 b ob hb (hk b ob hb q)) (fun b hb => hf b (hwr b hb)) hT new
    refine ⟨.ref T, _, I1, rfl, ⟨T, f i, rfl, I.hok.fresh hT, rfl, fun m g hs2 hm => (det X pins s σ H n m f g hK I hs hs2).2 i hi⟩, back _ _ st3, fun b hb => ?_⟩
    obtain ⟨o, ho, _⟩ := obj i s.heap st b hb
    rw [upd_ne (Nat.ne_of_lt (Nat.lt_of_lt_of_le (Heap.lt_size ho) hT))]
    exact (hf b hb).1
  done := by
    intro X hP hw hK hc i pins s σ H E I hf st hg
    obtain ⟨n, f, hs, hi⟩ := hg
    subst hi
    obtain ⟨fpW, wr, Pt, St, Mid, W, st2, hPt, hwr, back⟩ := wk X pins s σ H i f i hP hw hK (I.ok.hd hc) I hs hf st
    exact W.done s _ _ st2 fun h' tk hk => ⟨rfl, I.turnedL (ch := wr) (fun b ob hb q => hk b ob hb q) fun b hb => hf b (hwr b hb)⟩
  self := self

/-! ### lists and tuples alike -/
def SqC (K : PySem.W.Frag) (c : Bool) (H : Hp) (a : Addr) (xs : List V) : Prop := if c = true then SqL K H a xs else SqT K H a xs
def ItrAt (c : Bool) (h : Heap) (it a : Addr) (i : Nat) : Prop := if c = true then h.IsListIter it a i else h.IsTupleIter it a i
def SeqAtC (c : Bool) (h : Heap) (a : Addr) (its : Array Value) : Prop := if c = true then h.IsList a its else h.IsTuple a its
theorem Inv.sqC {X : Cx} {pins : List (Addr × Obj)} {σ : L2.St} {H : Hp} {s : Shared} {c : Bool} {a : Addr} {xs : List V} (I : Inv X pins σ H s) (h : SqC X.K c H a xs) :
    ∃ its : List Value, Vals xs its ∧ SeqAtC c s.heap a its.toArray ∧ xs.length ≤ sizeLine := by
  cases c with
  | true =>
    obtain ⟨its, rv, p, hz⟩ := I.list (show SqL X.K H a xs from h)
    exact ⟨its, rv, p.isList, hz⟩
  | false =>
    obtain ⟨its, rv, p, hz⟩ := I.tuple (show SqT X.K H a xs from h)
    exact ⟨its, rv, p, hz⟩
theorem Inv.sqC_inj {X : Cx} {pins : List (Addr × Obj)} {σ : L2.St} {H : Hp} {s : Shared} {c : Bool} {a : Addr} {xs ys : List V} (I : Inv X pins σ H s) (h : SqC X.K c H a xs) (h' : SqC X.K c H a ys) : xs = ys := by
  cases c with
  | true => exact I.list_inj (show SqL X.K H a xs from h) h'
  | false => exact I.tuple_inj (show SqT X.K H a xs from h) h'
theorem drawsC {prog : Program} {w : World} {A : Around} (hh : A.handled = none) (c : Bool) (it a : Addr) (hne : a ≠ it) (items : Array Value) :
    Draws prog w A it [it, a] items.size (fun i v => items[i]? = some v) (fun i h => ItrAt c h it a i ∧ SeqAtC c h a items) := by
  cases c with
  | true => exact Draws.list hh it a hne items
  | false => exact Draws.tuple hh it a hne items
theorem SeqAtC.there {c : Bool} {h : Heap} {a : Addr} {its : Array Value} (x : SeqAtC c h a its) : ∃ o, h.get? a = some o := by
  cases c with
  | true => obtain ⟨o, e, _⟩ := (show h.IsList a its from x); exact ⟨o, e⟩
  | false => obtain ⟨o, e, _⟩ := (show h.IsTuple a its from x); exact ⟨o, e⟩
theorem ItrAt.obj {c : Bool} {h : Heap} {it a : Addr} {i : Nat} (x : ItrAt c h it a i) : ∃ o, h.get? it = some o ∧ ∀ v, o.data ≠ .cell v := by
  cases c with
  | true =>
    obtain ⟨o, e, _, d⟩ := (show h.IsListIter it a i from x)
    exact ⟨o, e, fun v z => by rw [d] at z; cases z⟩
  | false =>
    obtain ⟨o, e, _, d⟩ := (show h.IsTupleIter it a i from x)
    exact ⟨o, e, fun v z => by rw [d] at z; cases z⟩
theorem ItrAt.keep {c : Bool} {h h' : Heap} {it a : Addr} {i : Nat} (x : ItrAt c h it a i) (k : ∀ o, h.get? it = some o → h'.get? it = some o) : ItrAt c h' it a i := by
  cases c with
  | true => exact (show h.IsListIter it a i from x).at k
  | false => exact (show h.IsTupleIter it a i from x).at k
def itrObj (c : Bool) (a : Addr) : Obj := if c = true then { cls := .type "list_iterator", data := .fields #[.ref a, .int 0 0] } else { cls := .type "tuple_iterator", data := .fields #[.ref a, .int 0 0] }
theorem begC (c : Bool) (a : Addr) (items : Array Value) : Begins (.ref a) (itrObj c a) fun h => SeqAtC c h a items := by
  cases c with
  | true => exact begins_list a items
  | false => exact begins_tuple a items
theorem itrObj_at {c : Bool} {h : Heap} {it a : Addr} (e : h.get? it = some (itrObj c a)) : ItrAt c h it a 0 := by
  cases c with
  | true => exact ⟨_, e, rfl, rfl⟩
  | false => exact ⟨_, e, rfl, rfl⟩
theorem vals_at {xs : List V} {its : List Value} {i : Nat} {x : Value} (rv : Vals xs its) (h : its.toArray[i]? = some x) : ∃ v, xs[i]? = some v ∧ RelV v x := by
  have h' : its[i]? = some x := by simpa using h
  have hl := rv.length
  have hi : i < its.length := (List.getElem?_eq_some_iff.mp h').1
  obtain ⟨u, hu, r⟩ := rv.get (i := i) (x := xs[i]'(by omega)) (by simp [show i < xs.length by omega])
  rw [h'] at hu
  cases hu
  exact ⟨_, by simp [show i < xs.length by omega], r⟩

/-! ### enumerate -/
def SrcE (K : PySem.W.Frag) (c : Bool) (a : Addr) : Hp → Nat → (Nat → List V) → Prop := fun H n f => ∃ xs, SqC K c H a xs ∧ n = xs.length ∧ ∀ i, i < n → ∃ x, xs[i]? = some x ∧ f i = [.int (i : Nat), x]
theorem turn_enumC {P : Program} {w : World} {K : PySem.W.Frag} {elts : List Expr} {kk : Nat} {tpos : Pos} (c : Bool) (a e it : Addr) :
    Turn P w K (.Tuple elts kk tpos) (ItT (SrcE K c a)) [e, it] e (fun i h => (∃ old, IsEnum h e it (0 + ((i : Nat) : Int)) old) ∧ ItrAt c h it a i ∧ e ≠ it) := by
  refine turn_walk (by simp) (fun i h st b hb => ?_) (fun i h h' st k => ?_) (fun X pins s σ H n m f g hK I h1 h2 => ?_) (fun X pins s σ H n f i hP hw hK hh I hs hf st => ?_) (fun A i s Q E st h => ?_)
  · obtain ⟨⟨old, he⟩, hi, _⟩ := st
    have e' : b = e ∨ b = it := by simpa using hb
    rcases e' with z | z
    · rw [z]; exact ⟨_, he, fun v q => nomatch q⟩
    · rw [z]; exact hi.obj
  · obtain ⟨⟨old, he⟩, hi, hne⟩ := st
    exact ⟨⟨old, k e (by simp) _ he⟩, hi.keep fun o q => k it (by simp) o q, hne⟩
  · obtain ⟨xs, q1, l1, f1⟩ := h1
    obtain ⟨ys, q2, l2, f2⟩ := h2
    subst hK
    have e' := Inv.sqC_inj I q1 q2
    subst e'
    refine ⟨by omega, fun i hi => ?_⟩
    obtain ⟨x, hx, ex⟩ := f1 i hi
    obtain ⟨y, hy, ey⟩ := f2 i (by omega)
    rw [hx] at hy
    cases hy
    rw [ex, ey]
  · subst hP hw hK
    obtain ⟨xs, q, l, hff⟩ := hs
    obtain ⟨its, rv, sa, hz⟩ := Inv.sqC I q
    obtain ⟨he, hi, hne⟩ := st
    obtain ⟨o, ho⟩ := sa.there
    have nm : ∀ b ∈ [e, it], a ≠ b := fun b hb z => by
      subst z
      have n0 := (hf a hb).1
      rcases c with _ | _
      · rcases (show SqT X.K H a xs from q) with (h | ⟨o, h⟩) | ⟨o, _, _, h, _⟩
        · rw [h] at n0; cases n0
        · rw [h] at n0; cases n0
        · have z := (hf a hb).2.2.2.1
          have z1 := (hf a hb).2.1
          have hk := I.kIn a o h
          have hb0 := I.ok.mod.kin a o h
          rcases z with z | z
          · exact I.ok.noex a o hb0 z
          · exact absurd (Nat.lt_of_lt_of_le (Heap.lt_size (I.ok.bs a o hb0).1) z) (Nat.lt_irrefl _)
      · rcases (show SqL X.K H a xs from q) with (h | ⟨o, h⟩) | ⟨o, _, _, h, _⟩
        · rw [h] at n0; cases n0
        · rw [h] at n0; cases n0
        · have z := (hf a hb).2.2.2.1
          have hb0 := I.ok.mod.kin a o h
          rcases z with z | z
          · exact I.ok.noex a o hb0 z
          · exact absurd (Nat.lt_of_lt_of_le (Heap.lt_size (I.ok.bs a o hb0).1) z) (Nat.lt_irrefl _)
    have nai : a ≠ it := nm it (by simp)
    have nae : a ≠ e := nm e (by simp)
    have D : Draws X.prog X.w X.A.in1 it [it, a] its.toArray.size (fun i v => its.toArray[i]? = some v) (fun i h => ItrAt c h it a i ∧ SeqAtC c h a its.toArray) := drawsC (by exact hh) c it a nai its.toArray
    have W := WalksT.enumFrom (A := X.A) 0 D e hne (by simp; exact ⟨hne, Ne.symm nae⟩) (by simp)
    have hn : its.toArray.size = n := by rw [List.size_toArray, ← rv.length, l]
    rw [hn] at W
    refine ⟨_, _, _, _, _, W, ⟨he, hi, sa⟩, fun j vals hj hp => ?_, fun b hb => hb, fun j h st => ⟨st.1, st.2.1, hne⟩⟩
    obtain ⟨t, x, hx, ev⟩ := hp
    subst ev
    obtain ⟨y, hy, ey⟩ := hff j hj
    obtain ⟨v, hv, r⟩ := vals_at rv hx
    rw [hy] at hv
    cases hv
    rw [ey]
    exact ⟨.cons ⟨t, by rw [Int.zero_add]⟩ (.cons r .nil), by show 2 ≤ sizeLine; decide⟩
  · obtain ⟨⟨_, he⟩, _⟩ := st
    exact wpAny_pyIter_enum he h
/-- enumerate(xs) -/
def iEnumC (K : PySem.W.Frag) (ta : TA) : TI := fun σ H R => ta σ H fun vs H1 => ∃ a xs c, vs = [.ref a] ∧ SqC K c H1 a xs ∧ R (ItT (SrcE K c a)) H1
theorem pi_enumC {X : Cx} {e : Expr} {ta : TA} {p pos tpos : Pos} {elts : List Expr} {kk : Nat} (hg : Gl X "enumerate") (hm : X.mg "enumerate" = none) (ha : PA X [e] ta) (hs : starEach [e] X.env = [(false, eval e X.env)] := by rfl) :
    PI X (.Tuple elts kk tpos) (.Call (.Name "enumerate" p) [e] [] pos) (iEnumC X.K ta) := by
  refine ⟨fun pins s σ H R I h => ?_⟩
  refine Call_ (ld_blt I hg hm boot_enumerate (PyProof.Rows.callWith_type1 (thn (ha.run pos pins s σ H _ I h) fun us s1 ⟨vs, H1, I1, r1, q1⟩ => ?_) hs rfl))
  obtain ⟨a, xs, c, ex, hq, q⟩ := q1
  subst ex
  cases r1 with
  | cons r rr =>
    cases rr
    cases r
    obtain ⟨its, rv, sa, hz⟩ := Inv.sqC I1 hq
    refine enum_begins1 (begC c a its.toArray) sa fun h' he hit hsz hk => wpAny_pyIter_enum he ?_
    have I2 : Inv X pins σ H1 { s1 with heap := h' } := I1.kept (t' := s1.toks) hk
    refine ⟨s1.heap.objs.size + 1, [s1.heap.objs.size + 1, s1.heap.objs.size], _, _, H1, rfl, I2, turn_enumC c a (s1.heap.objs.size + 1) s1.heap.objs.size, ⟨⟨.none, by simpa using he⟩, itrObj_at hit, Nat.succ_ne_self _⟩, fun b hb => ?_, q⟩
    have e' : b = s1.heap.objs.size + 1 ∨ b = s1.heap.objs.size := by simpa using hb
    have hle : s1.heap.objs.size ≤ b := by
      rcases e' with z | z
      · rw [z]; exact Nat.le_add_right _ _
      · rw [z]; exact Nat.le_refl _
    exact I1.fpOk hle (I1.hok.fresh hle)

/-- a source lies apart from the iterator's objects -/
theorem src_apart {X : Cx} {pins : List (Addr × Obj)} {σ : L2.St} {H : Hp} {s : Shared} {c : Bool} {a : Addr} {xs : List V} {fp : List Addr} (I : Inv X pins σ H s) (q : SqC X.K c H a xs) (hf : ∀ b ∈ fp, FpOk X pins H b) : ∀ b ∈ fp, a ≠ b := fun b hb z => by
  subst z
  have n0 := (hf a hb).1
  have kk : ∀ o, X.K.lookup a = some o → False := fun o h => by
    have z := (hf a hb).2.2.2.1
    have hb0 := I.ok.mod.kin a o h
    rcases z with z | z
    · exact I.ok.noex a o hb0 z
    · exact absurd (Nat.lt_of_lt_of_le (Heap.lt_size (I.ok.bs a o hb0).1) z) (Nat.lt_irrefl _)
  rcases c with _ | _
  · rcases (show SqT X.K H a xs from q) with (h | ⟨o, h⟩) | ⟨o, _, _, h, _⟩
    · rw [h] at n0; cases n0
    · rw [h] at n0; cases n0
    · exact kk o h
  · rcases (show SqL X.K H a xs from q) with (h | ⟨o, h⟩) | ⟨o, _, _, h, _⟩
    · rw [h] at n0; cases n0
    · rw [h] at n0; cases n0
    · exact kk o h

/-! ### zip of two -/
def SrcZ (K : PySem.W.Frag) (c c2 : Bool) (a a2 : Addr) : Hp → Nat → (Nat → List V) → Prop := fun H n f => ∃ xs ys, SqC K c H a xs ∧ SqC K c2 H a2 ys ∧ n = min xs.length ys.length ∧ ∀ i, i < n → ∃ x y, xs[i]? = some x ∧ ys[i]? = some y ∧ f i = [x, y]
theorem turn_zipC {P : Program} {w : World} {K : PySem.W.Frag} {elts : List Expr} {kk : Nat} {tpos : Pos} (c c2 : Bool) (a a2 z TI TO i1 i2 : Addr)
    (AP : TI ≠ z ∧ TO ≠ z ∧ TI ≠ TO ∧ TI ≠ i1 ∧ TI ≠ i2 ∧ z ≠ i1 ∧ z ≠ i2 ∧ TO ≠ i1 ∧ TO ≠ i2 ∧ i1 ≠ i2) :
    Turn P w K (.Tuple elts kk tpos) (ItT (SrcZ K c c2 a a2)) [z, TI, TO, i1, i2] z (fun i h => IsZip h z TI TO .none ∧ IsTupOf2 h TI (.ref i1) (.ref i2) ∧ (∃ x y, IsTupOf2 h TO x y) ∧ ItrAt c h i1 a i ∧ ItrAt c2 h i2 a2 i) := by
  refine turn_walk (by simp) (fun i h st b hb => ?_) (fun i h h' st k => ?_) (fun X pins s σ H n m f g hK I h1 h2 => ?_) (fun X pins s σ H n f i hP hw hK hh I hs hf st => ?_) (fun A i s Q E st h => ?_)
  · obtain ⟨hz, hTI, ⟨x, y, hTO⟩, h1, h2⟩ := st
    have e' : b = z ∨ b = TI ∨ b = TO ∨ b = i1 ∨ b = i2 := by simpa using hb
    rcases e' with q | q | q | q | q
    · rw [q]; exact ⟨_, hz, fun v q => nomatch q⟩
    · rw [q]; exact ⟨_, hTI, fun v q => nomatch q⟩
    · rw [q]; exact ⟨_, hTO, fun v q => nomatch q⟩
    · rw [q]; exact h1.obj
    · rw [q]; exact h2.obj
  · obtain ⟨hz, hTI, ⟨x, y, hTO⟩, h1, h2⟩ := st
    exact ⟨k z (by simp) _ hz, k TI (by simp) _ hTI, ⟨x, y, k TO (by simp) _ hTO⟩, h1.keep fun o q => k i1 (by simp) o q, h2.keep fun o q => k i2 (by simp) o q⟩
  · obtain ⟨xs, xs2, q1, q12, l1, f1⟩ := h1
    obtain ⟨ys, ys2, q2, q22, l2, f2⟩ := h2
    subst hK
    have e' := Inv.sqC_inj I q1 q2
    subst e'
    have e' := Inv.sqC_inj I q12 q22
    subst e'
    refine ⟨by omega, fun i hi => ?_⟩
    obtain ⟨x, x2, hx, hx2, ex⟩ := f1 i hi
    obtain ⟨y, y2, hy, hy2, ey⟩ := f2 i (by omega)
    rw [hx] at hy
    cases hy
    rw [hx2] at hy2
    cases hy2
    rw [ex, ey]
  · subst hP hw hK
    obtain ⟨xs, ys, q, q2, l, hff⟩ := hs
    obtain ⟨its, rv, sa, hz⟩ := Inv.sqC I q
    obtain ⟨its2, rv2, sa2, hz2⟩ := Inv.sqC I q2
    obtain ⟨he, hTI, hTO, h1, h2⟩ := st
    have nm := src_apart I q hf
    have nm2 := src_apart I q2 hf
    have D1 : Draws X.prog X.w X.A.in1 i1 [i1, a] its.toArray.size (fun i v => its.toArray[i]? = some v) (fun i h => ItrAt c h i1 a i ∧ SeqAtC c h a its.toArray) := drawsC (by exact hh) c i1 a (nm i1 (by simp)) its.toArray
    have D2 : Draws X.prog X.w X.A.in1 i2 [i2, a2] its2.toArray.size (fun i v => its2.toArray[i]? = some v) (fun i h => ItrAt c2 h i2 a2 i ∧ SeqAtC c2 h a2 its2.toArray) := drawsC (by exact hh) c2 i2 a2 (nm2 i2 (by simp)) its2.toArray
    obtain ⟨p1, p2, p3, p4, p5, p6, p7, p8, p9, p10⟩ := AP
    have S : ZipSep2 z TI TO i1 i2 [i1, a] [i2, a2] :=
      { TIz := p1, TOz := p2, TITO := p3, TIi1 := p4, mem1 := by simp, zf1 := by simp; exact ⟨p6, Ne.symm (nm z (by simp))⟩, Tf1 := by simp; exact ⟨p8, Ne.symm (nm TO (by simp))⟩,
        TIi2 := p5, mem2 := by simp, zf2 := by simp; exact ⟨p7, Ne.symm (nm2 z (by simp))⟩, Tf2 := by simp; exact ⟨p9, Ne.symm (nm2 TO (by simp))⟩,
        sep1_2 := by simp; exact ⟨p10, Ne.symm (nm2 i1 (by simp))⟩, sep2_1 := by simp; exact ⟨Ne.symm p10, Ne.symm (nm i2 (by simp))⟩ }
    have W := WalksT.zipD2 (A := X.A) S D1 D2
    have hn : min its.toArray.size its2.toArray.size = n := by rw [List.size_toArray, List.size_toArray, ← rv.length, ← rv2.length, l]
    rw [hn] at W
    refine ⟨_, _, _, _, _, W, ⟨he, hTI, hTO, ⟨h1, sa⟩, ⟨h2, sa2⟩⟩, fun j vals hj hp => ?_, fun b hb => ?_, fun j h st => ⟨st.1, st.2.1, st.2.2.1, st.2.2.2.1.1, st.2.2.2.2.1⟩⟩
    · obtain ⟨x, x2, hx, hx2, ev⟩ := hp
      subst ev
      obtain ⟨y, y2, hy, hy2, ey⟩ := hff j hj
      obtain ⟨v, hv, r⟩ := vals_at rv hx
      obtain ⟨v2, hv2, r2⟩ := vals_at rv2 hx2
      rw [hy] at hv
      cases hv
      rw [hy2] at hv2
      cases hv2
      rw [ey]
      exact ⟨.cons r (.cons r2 .nil), by show 2 ≤ sizeLine; decide⟩
    · simp at hb ⊢
      rcases hb with h | h | h | h <;> simp [h]
  · exact wpAny_pyIter_zip st.1 h
def iZipC (K : PySem.W.Frag) (ta : TA) : TI := fun σ H R => ta σ H fun vs H1 => ∃ a a2 xs ys c c2, vs = [.ref a, .ref a2] ∧ SqC K c H1 a xs ∧ SqC K c2 H1 a2 ys ∧ R (ItT (SrcZ K c c2 a a2)) H1
theorem pi_zipC {X : Cx} {e e2 : Expr} {ta : TA} {p pos tpos : Pos} {elts : List Expr} {kk : Nat} (hg : Gl X "zip") (hm : X.mg "zip" = none) (ha : PA X [e, e2] ta)
    (hs : starEach [e, e2] X.env = (false, eval e X.env) :: starEach [e2] X.env := by rfl) (hpl : (backTo pos (starEach [e2] X.env)).any (·.1) = false := by rfl) :
    PI X (.Tuple elts kk tpos) (.Call (.Name "zip" p) [e, e2] [] pos) (iZipC X.K ta) := by
  refine ⟨fun pins s σ H R I h => ?_⟩
  refine Call_ (ld_blt I hg hm PyProof.Rows.boot_zip (PyProof.Rows.callWith_type1 (thn (ha.run pos pins s σ H _ I h) fun us s1 ⟨vs, H1, I1, r1, q1⟩ => ?_) hs hpl))
  obtain ⟨a, a2, xs, ys, c, c2, ex, hq, hq2, q⟩ := q1
  subst ex
  cases r1 with
  | cons r rr =>
    cases rr with
    | cons r' rr =>
      cases rr
      cases r
      cases r'
      obtain ⟨its, rv, sa, _⟩ := Inv.sqC I1 hq
      obtain ⟨its2, rv2, sa2, _⟩ := Inv.sqC I1 hq2
      refine zip_begins2 (begC c a its.toArray) (begC c2 a2 its2.toArray) sa sa2 fun h' hz hTI hTO h1 h2 hsz hk => wpAny_pyIter_zip hz ?_
      have I2 : Inv X pins σ H1 { s1 with heap := h' } := I1.kept (t' := s1.toks) hk
      have ne : ∀ (i j : Nat), i ≠ j → (s1.heap.objs.size + i : Nat) ≠ s1.heap.objs.size + j := fun i j h => by omega
      have ne0 : ∀ (i : Nat), i ≠ 0 → (s1.heap.objs.size + i : Nat) ≠ s1.heap.objs.size := fun i h => by omega
      refine ⟨s1.heap.objs.size + 4, [s1.heap.objs.size + 4, s1.heap.objs.size + 2, s1.heap.objs.size + 3, s1.heap.objs.size, s1.heap.objs.size + 1], _, _, H1, rfl, I2,
        turn_zipC c c2 a a2 (s1.heap.objs.size + 4) (s1.heap.objs.size + 2) (s1.heap.objs.size + 3) s1.heap.objs.size (s1.heap.objs.size + 1)
          ⟨ne 2 4 (by decide), ne 3 4 (by decide), ne 2 3 (by decide), ne0 2 (by decide), ne 2 1 (by decide), ne0 4 (by decide), ne 4 1 (by decide), ne0 3 (by decide), ne 3 1 (by decide), Ne.symm (ne0 1 (by decide))⟩,
        ⟨hz, hTI, ⟨_, _, hTO⟩, itrObj_at h1, itrObj_at h2⟩, fun b hb => ?_, q⟩
      have hle : s1.heap.objs.size ≤ b := by
        have e' : b = s1.heap.objs.size + 4 ∨ b = s1.heap.objs.size + 2 ∨ b = s1.heap.objs.size + 3 ∨ b = s1.heap.objs.size ∨ b = s1.heap.objs.size + 1 := by simpa using hb
        rcases e' with z | z | z | z | z
        · rw [z]; exact Nat.le_add_right _ _
        · rw [z]; exact Nat.le_add_right _ _
        · rw [z]; exact Nat.le_add_right _ _
        · rw [z]; exact Nat.le_refl _
        · rw [z]; exact Nat.le_add_right _ _
      exact I1.fpOk hle (I1.hok.fresh hle)
end DL

set_option Elab.async false
set_option linter.all false
set_option maxRecDepth 100000
set_option maxHeartbeats 4000000
/-! Den7: targets, for, while. -/
namespace DL
open PySem L2 PySem.Spec PyProof.Rows

/-! ### targets -/
abbrev Tgt := D → Sg → Option Sg
section
variable {X : Cx} {b : B} {W : WX} {e : Expr} {es : List Expr} {pos p : Pos}
theorem pg_mono {t t' : TG} (h : PG X e t) (i : ∀ v σ H Q, t' v σ H Q → t v σ H Q) : PG X e t' := ⟨fun pins s σ H v u Q I r hw => h.run pins s σ H v u Q I r (i _ _ _ _ hw)⟩
theorem pgs_mono {t t' : TGs} (h : PGs X es t) (i : ∀ v σ H Q, t' v σ H Q → t v σ H Q) : PGs X es t' := ⟨fun pins s σ H v u Q I r hw => h.run pins s σ H v u Q I r (i _ _ _ _ hw)⟩
variable (b) in
def gD (ta : List Nat) (t : Tgt) : TG := fun v σ H Q => ∃ Fz g d g', BRel b Fz g σ H ∧ Rep b.M Fz H d v ∧ t d g = some g' ∧ ∀ σ', BRel b Fz g' σ' H → (∀ i, i ∉ ta → σ'[i]? = σ[i]?) → σ'.length = σ.length → Q σ' H
variable (b) in
def gsD (ta : List Nat) (t : List D → Sg → Option Sg) : TGs := fun vs σ H Q => ∃ Fz g ds g', BRel b Fz g σ H ∧ RepL b.M Fz H ds vs ∧ t ds g = some g' ∧ ∀ σ', BRel b Fz g' σ' H → (∀ i, i ∉ ta → σ'[i]? = σ[i]?) → σ'.length = σ.length → Q σ' H
def tgN (i : Nat) : Tgt := fun d g => some (g.set i (.v d))
theorem pg_n {i : Nat} (h : PG X e (gName i)) (hx : PxOk b i) : PG X e (gD b [i] (tgN i)) := pg_mono h fun v σ H Q ⟨Fz, g, d, g', r, rep, e, q⟩ => by
  have e' : g.set i (.v d) = g' := Option.some.inj e
  subst e'
  exact q _ (r.setV hx rep) (fun j hj => List.getElem?_set_ne fun z => hj (by simp [z])) (List.length_set ..)
def tgNil : List D → Sg → Option Sg := fun ds g => match ds with
  | [] => some g
  | _ => none
def tgCons (t : Tgt) (ts : List D → Sg → Option Sg) : List D → Sg → Option Sg := fun ds g => match ds with
  | [] => none
  | d :: ds => (t d g).bind (ts ds)
theorem pgs_nilD : PGs X [] (gsD b [] tgNil) := pgs_mono pgs_nil fun vs σ H Q ⟨Fz, g, ds, g', r, rep, e, q⟩ => by
  cases ds with
  | nil =>
    have e' : g = g' := Option.some.inj e
    subst e'
    exact ⟨RepL.nil_iff.mp rep, q σ r (fun _ _ => rfl) rfl⟩
  | cons d ds => cases e
theorem pgs_consD {a1 a2 : List Nat} {t : Tgt} {ts : List D → Sg → Option Sg} (h1 : PG X e (gD b a1 t)) (h2 : PGs X es (gsD b a2 ts))
    (hs : (assignEach (e :: es) X.env).map (·.2) = assign e X.env :: (assignEach es X.env).map (·.2) := by rfl) : PGs X (e :: es) (gsD b (a1 ++ a2) (tgCons t ts)) := pgs_mono (pgs_cons h1 h2 hs) fun vs σ H Q ⟨Fz, g, ds, g', r, rep, e, q⟩ => by
  cases ds with
  | nil => cases e
  | cons d ds =>
    obtain ⟨g1, e1, e2⟩ := Option.bind_eq_some_iff.mp e
    obtain ⟨v, vr, ev, r1, r2⟩ := RepL.cons_iff.mp rep
    refine ⟨v, vr, ev, Fz, g, d, g1, r, r1, e1, fun σ1 br h3 hl => ⟨Fz, g1, ds, g', br, r2, e2, fun σ2 br2 h4 hl2 => q σ2 br2 (fun i hi => ?_) (hl2.trans hl)⟩⟩
    exact (h4 i fun z => hi (List.mem_append_right _ z)).trans (h3 i fun z => hi (List.mem_append_left _ z))
def tgT (n : Nat) (ts : List D → Sg → Option Sg) : Tgt := fun d g => match d with
  | .tup ds => if ds.length = n then ts ds g else none
  | _ => none
theorem pg_tupD {k n : Nat} {ta : List Nat} {ts : List D → Sg → Option Sg} (hM : b.M = ⟨X.K, X.mg⟩) (hc : X.calm = true) (h : PGs X es (gsD b ta ts))
    (hn : (assignEach es X.env).length = n := by rfl) (hst : (assignEach es X.env).findIdx? (·.1) = none := by rfl) : PG X (.Tuple es k pos) (gD b ta (tgT n ts)) := pg_mono (pg_tup hc h hn hst) fun v σ H Q ⟨Fz, g, d, g', r, rep, e, q⟩ => by
  unfold tgT at e
  split at e
  · rename_i ds
    split at e
    · rename_i hl
      unfold Rep at rep
      obtain ⟨a, vs, rfl, hq, rr⟩ := rep
      rw [hM] at hq
      exact ⟨a, vs, rfl, hq, by rw [← RepL.length rr]; exact hl, Fz, g, ds, g', r, rr, e, q⟩
    · cases e
  · cases e
/-- target = value -/
def asgT (t : Tgt) (f : FE) : FS := fun g => (f g).sb fun d g1 => match t d g1 with
  | some g2 => .nx g2
  | none => .no
theorem pts_asgT {tg : Expr} {ta : List Nat} {t : Tgt} {f : FE} (he : PE X e (tE b W f)) (hg : PG X tg (gD b ta t)) (hs : swapsWithSole [tg] e pos.line X.env = pure false := by rfl) (hw : swappedStores [tg] e X.env = pure none := by rfl)
    (h1 : (assignEach [tg] X.env).map (·.2) = [assign tg X.env] := by rfl) : PS X (.Assign [tg] e pos) (tSt b W ta (asgT t f)) := ps_mono (ps_asg he hg hs hw h1) fun D σ H ⟨Fz, g, r, h⟩ =>
  tG_st r h fun d x' g1 Fz1 H1 r1 _ rep h1 => by
    cases q : t d g1 with
    | none => rw [q] at h1; exact h1.elim
    | some g2 =>
      rw [q] at h1
      exact ⟨Fz1, g1, d, g2, r1, rep, q, fun σ' r2 h3 _ => h1 σ' H1 Fz1 r2 ⟨.refl, h3⟩⟩
/-- a, b = x, y -/
def parS (i j : Nat) (fa : FA) : FS := fun g => (fa g).sb fun ds g1 => match ds with
  | [d, e] => .nx ((g1.set i (.v d)).set j (.v e))
  | _ => .no
theorem pts_par {i j : Nat} {x y : Str} {a c : Expr} {fa : FA} {px py pt : Pos} {kt k2 pt2} (hc : X.calm = true) (hN : X.N.Nodup) (hi : X.N[i]? = some x) (hj : X.N[j]? = some y) (hij : i ≠ j)
    (hx : X.env.scope.names.lookup x = some .local) (hy : X.env.scope.names.lookup y = some .local) (ha : PA X [a, c] (tAr b W fa))
    (hw : swappedStores [.Tuple [.Name x px, .Name y py] kt pt] (.Tuple [a, c] k2 pt2) X.env = pure (some [x, y]))
    (hs : swapsWithSole [.Tuple [.Name x px, .Name y py] kt pt] (.Tuple [a, c] k2 pt2) pos.line X.env = pure false := by rfl) (hx1 : PxOk b i) (hx2 : PxOk b j) :
    PS X (.Assign [.Tuple [.Name x px, .Name y py] kt pt] (.Tuple [a, c] k2 pt2) pos) (tSt b W [i, j] (parS i j fa)) := ps_mono (ps_par hc hN hi hj hij hx hy ha hw hs) fun D σ H ⟨Fz, g, r, h⟩ =>
  tG_st r h fun ds xs g1 Fz1 H1 r1 _ rep h1 => by
    have rep' : RepL b.M Fz1 H1 ds xs := rep
    split at h1
    · rename_i d e
      obtain ⟨v, vr, rfl, q1, q2⟩ := RepL.cons_iff.mp rep'
      obtain ⟨w, wr, rfl, q3, q4⟩ := RepL.cons_iff.mp q2
      have q5 := RepL.nil_iff.mp q4
      subst q5
      refine ⟨v, w, rfl, h1 _ H1 Fz1 ((r1.setV hx1 q1).setV hx2 q3) ⟨.refl, fun k hk => ?_⟩⟩
      rw [List.getElem?_set_ne (fun z => hk (by simp [z])), List.getElem?_set_ne (fun z => hk (by simp [z]))]
    · exact h1.elim
end

/-! ### what a loop walks -/
section
variable {X : Cx} {b : B} {W : WX} {e e1 e2 : Expr} {tg : Expr} {pos p : Pos} {f : FE} {fa : FA}
variable (b) in
def SrcOk (J : It) (Fz : Fzn) (H : Hp) (items : List D) : Prop := ∀ Fz' H', Ext Fz H Fz' H' → (∀ a, Fz' a → ∃ o, H' a = some o) →
  (∀ k d, items[k]? = some d → J.go k H' ∧ ∀ x H'', J.yld k H' x H'' → ∃ Fz'', GrowTo Fz' H' Fz'' H'' ∧ Rep b.M Fz'' H'' d x) ∧ J.stop items.length H'
variable (b) in
def bI : Bear (List D) It := fun _ Fz H _ items J => SrcOk b J Fz H items
abbrev FI := Sg → R (List D)
variable (b W) in
abbrev tI (f : FI) : TI := tG b W (bI b) f
theorem pi_mono {wi wi' : TI} (h : PI X tg e wi) (i : ∀ σ H R, wi' σ H R → wi σ H R) : PI X tg e wi' := ⟨fun pins s σ H R I hw => h.run pins s σ H R I (i _ _ _ hw)⟩
theorem src_list {a : Addr} {xs : List V} {ds : List D} {Fz : Fzn} {H : Hp} {K : PySem.W.Frag} (hu : ∀ {H : Hp} {xs ys : List V}, SqL K H a xs → SqL K H a ys → xs = ys) (h : LsF K Fz H a xs) (r : RepL b.M Fz H ds xs) : SrcOk b (Itl K a) Fz H ds := fun Fz' H' ex dom => by
  have h' := (ex.lsF h).sq
  refine ⟨fun k d e => ?_, ⟨xs, h', by rw [RepL.length r]; exact Nat.le_refl _⟩⟩
  obtain ⟨x, ex1, rx⟩ := r.get e
  refine ⟨⟨xs, x, h', ex1⟩, fun y H'' ⟨e2, q⟩ => ?_⟩
  subst e2
  have q2 := q xs h'
  rw [ex1] at q2
  cases q2
  exact ⟨Fz', .refl, Rep.mono ex d x rx⟩
theorem src_tup {a : Addr} {xs : List V} {ds : List D} {Fz : Fzn} {H : Hp} {K : PySem.W.Frag} (h : SqT K H a xs) (r : RepL b.M Fz H ds xs) : SrcOk b (Itt K a) Fz H ds := fun Fz' H' ex dom => by
  have h' := ex.sqT h
  refine ⟨fun k d e => ?_, ⟨xs, h', by rw [RepL.length r]; exact Nat.le_refl _⟩⟩
  obtain ⟨x, ex1, rx⟩ := r.get e
  refine ⟨⟨xs, x, h', ex1⟩, fun y H'' ⟨e2, q⟩ => ?_⟩
  subst e2
  have q2 := q xs h'
  rw [ex1] at q2
  cases q2
  exact ⟨Fz', .refl, Rep.mono ex d x rx⟩
def seqD : D → Option (List D)
  | .lst ds => some ds
  | .tup ds => some ds
  | _ => none
def itF (f : FE) : FI := fun g => (f g).bd fun d g1 => opt (seqD d) g1
theorem pi_d (hM : b.M = ⟨X.K, X.mg⟩) (h : PE X e (tE b W f)) : PI X tg e (tI b W (itF f)) := ⟨fun pins s σ H R I ⟨Fz, g, r, q⟩ => by
  unfold itF at q
  cases hf : f g with
  | no => rw [hf] at q; exact q.elim
  | ex ee g' => exact (pi_list h).run pins s σ H R I ⟨Fz, g, r, by rw [hf] at q ⊢; exact q⟩
  | ok d g' =>
    rw [hf] at q
    obtain ⟨z, ez, q⟩ := Po.opt q
    cases d with
    | lst ds =>
      have ez := Option.some.inj ez
      subst ez
      refine (pi_list h).run pins s σ H R I ⟨Fz, g, r, ?_⟩
      rw [hf]
      intro x H' Fz' r' e' rep
      have rep' : Rep b.M Fz' H' (.lst ds) x := rep
      unfold Rep at rep'
      obtain ⟨a, vs, rfl, hl, rr⟩ := rep'
      rw [hM] at hl
      refine ⟨a, rfl, ⟨vs, hl.sq⟩, q.ok r' e' ?_⟩
      intro Fz2 H2 ex dom
      have h' := (ex.lsF hl).sq
      refine ⟨fun k d e => ?_, ⟨vs, h', by rw [RepL.length rr]; exact Nat.le_refl _⟩⟩
      obtain ⟨x, ex1, rx⟩ := rr.get e
      refine ⟨⟨vs, x, h', ex1⟩, fun y H'' ⟨e2, qq⟩ => ?_⟩
      subst e2
      have q2 := qq vs h'
      rw [ex1] at q2
      cases q2
      exact ⟨Fz2, .refl, Rep.mono ex d x rx⟩
    | tup ds =>
      have ez := Option.some.inj ez
      subst ez
      refine (pi_tup h).run pins s σ H R I ⟨Fz, g, r, ?_⟩
      rw [hf]
      intro x H' Fz' r' e' rep
      have rep' : Rep b.M Fz' H' (.tup ds) x := rep
      unfold Rep at rep'
      obtain ⟨a, vs, rfl, hl, rr⟩ := rep'
      rw [hM] at hl
      exact ⟨a, rfl, ⟨vs, hl⟩, q.ok r' e' (src_tup hl rr)⟩
    | _ => cases ez⟩
/-! range -/
def rng (n : Nat) (lo : Int) : List D := (List.range n).map fun (k : Nat) => D.int (lo + (k : Int))
theorem rng_get {n k : Nat} {lo : Int} {d : D} (h : (rng n lo)[k]? = some d) : k < n ∧ d = .int (lo + (k : Int)) := by
  unfold rng at h
  rw [List.getElem?_map] at h
  obtain ⟨j, e1, e2⟩ := Option.map_eq_some_iff.mp h
  have hk : k < n := by
    have := (List.getElem?_eq_some_iff.mp e1).1
    simpa using this
  rw [List.getElem?_range hk] at e1
  cases e1
  exact ⟨hk, e2.symm⟩
theorem rng_length {n : Nat} {lo : Int} : (rng n lo).length = n := by unfold rng; simp
theorem src_rng {n : Nat} {lo : Int} {Fz : Fzn} {H : Hp} : SrcOk b (Itr lo n) Fz H (rng n lo) := fun Fz' H' ex dom => by
  refine ⟨fun k d e => ?_, by rw [rng_length]; exact Nat.le_refl _⟩
  obtain ⟨h1, h2⟩ := rng_get e
  subst h2
  refine ⟨h1, fun x H'' ⟨e2, q⟩ => ?_⟩
  subst e2; subst q
  exact ⟨Fz', .refl, rep_int⟩
def RL (j : Int) : Bool := decide (j.natAbs < 4611686018427387904)
theorem RL_ok {j : Int} (h : RL j = true) : -(2 ^ 62) ≤ j ∧ j < 2 ^ 62 := by
  unfold RL at h
  have h1 := of_decide_eq_true h
  omega
def rng1D : List D → Option (List D)
  | [.int j] => if RL j = true then some (rng j.toNat 0) else none
  | _ => none
def rng2D : List D → Option (List D)
  | [.int i, .int j] => if RL i = true ∧ RL j = true then some (rng (j - i).toNat i) else none
  | _ => none
def faF {α : Type} (o : List D → Option α) (fa : FA) : Sg → R α := fun g => (fa g).bd fun ds g1 => opt (o ds) g1
theorem rep_ints1 {M : MM} {Fz : Fzn} {H : Hp} {j : Int} {xs : List V} (h : RepL M Fz H [.int j] xs) : xs = [.int j] := by
  obtain ⟨v, r, rfl, r1, r2⟩ := RepL.cons_iff.mp h
  rw [rep_int' r1, RepL.nil_iff.mp r2]
theorem rep_ints2 {M : MM} {Fz : Fzn} {H : Hp} {i j : Int} {xs : List V} (h : RepL M Fz H [.int i, .int j] xs) : xs = [.int i, .int j] := by
  obtain ⟨v, r, rfl, r1, r2⟩ := RepL.cons_iff.mp h
  rw [rep_int' r1, rep_ints1 r2]
theorem pi_rng1 {a : Expr} (hg : Gl X "range") (hm : X.mg "range" = none) (ha : PA X [a] (tAr b W fa)) (hs : starEach [a] X.env = [(false, eval a X.env)] := by rfl) : PI X tg (.Call (.Name "range" p) [a] [] pos) (tI b W (faF rng1D fa)) :=
  pi_mono (pi_range1 hg hm ha hs) fun σ H R ⟨Fz, g, r, q⟩ => tG_seq r q fun ds xs g1 Fz1 H1 r1 e1 rep h1 => by
    obtain ⟨z, ez, h1⟩ := h1.opt
    have rep' : RepL b.M Fz1 H1 ds xs := rep
    unfold rng1D at ez
    split at ez
    · rename_i j
      split at ez
      · rename_i hj
        obtain ⟨h3, h4⟩ := RL_ok hj
        have ez := Option.some.inj ez
        subst ez
        exact ⟨j, rep_ints1 rep', h3, h4, h1.ok r1 .refl src_rng⟩
      · cases ez
    · cases ez
theorem pi_rng2 {a c : Expr} (hg : Gl X "range") (hm : X.mg "range" = none) (ha : PA X [a, c] (tAr b W fa)) (hs : starEach [a, c] X.env = [(false, eval a X.env), (false, eval c X.env)] := by rfl) (hs2 : starEach [c] X.env = [(false, eval c X.env)] := by rfl) : PI X tg (.Call (.Name "range" p) [a, c] [] pos) (tI b W (faF rng2D fa)) :=
  pi_mono (pi_range2 hg hm ha hs hs2) fun σ H R ⟨Fz, g, r, q⟩ => tG_seq r q fun ds xs g1 Fz1 H1 r1 e1 rep h1 => by
    obtain ⟨z, ez, h1⟩ := h1.opt
    have rep' : RepL b.M Fz1 H1 ds xs := rep
    unfold rng2D at ez
    split at ez
    · rename_i i j
      split at ez
      · rename_i hj
        obtain ⟨h3, h4⟩ := RL_ok hj.1
        obtain ⟨h5, h6⟩ := RL_ok hj.2
        have ez := Option.some.inj ez
        subst ez
        exact ⟨i, j, rep_ints2 rep', ⟨h3, h4, h5, h6⟩, h1.ok r1 .refl src_rng⟩
      · cases ez
    · cases ez
/-! enumerate, zip -/
def enm (ds : List D) : List D := ds.zipIdx.map fun p => D.tup [.int (p.2 : Nat), p.1]
theorem enm_length {ds : List D} : (enm ds).length = ds.length := by unfold enm; simp
theorem enm_get {ds : List D} {k : Nat} {d : D} (h : (enm ds)[k]? = some d) : ∃ c, ds[k]? = some c ∧ d = .tup [.int (k : Nat), c] := by
  unfold enm at h
  rw [List.getElem?_map] at h
  obtain ⟨j, e1, e2⟩ := Option.map_eq_some_iff.mp h
  rw [List.getElem?_zipIdx] at e1
  obtain ⟨c, e3, e4⟩ := Option.map_eq_some_iff.mp e1
  subst e4; subst e2
  exact ⟨c, e3, by simp⟩
theorem sqC_rep {Fz : Fzn} {H : Hp} {d : D} {ds : List D} {x : V} (h : Rep b.M Fz H d x) (e : seqD d = some ds) : ∃ a vs c, x = .ref a ∧ (∀ Fz' H', Ext Fz H Fz' H' → SqC b.M.K c H' a vs) ∧ RepL b.M Fz H ds vs := by
  cases d with
  | lst es =>
    have e' : es = ds := Option.some.inj e
    subst e'
    unfold Rep at h
    obtain ⟨a, vs, rfl, hl, rr⟩ := h
    exact ⟨a, vs, true, rfl, fun Fz' H' ex => (ex.lsF hl).sq, rr⟩
  | tup es =>
    have e' : es = ds := Option.some.inj e
    subst e'
    unfold Rep at h
    obtain ⟨a, vs, rfl, hl, rr⟩ := h
    exact ⟨a, vs, false, rfl, fun Fz' H' ex => ex.sqT hl, rr⟩
  | _ => cases e
theorem rep_tupN {M : MM} {Fz Fz1 : Fzn} {H H1 : Hp} {ds : List D} {vs : List V} {a : Addr} (r : RepL M Fz H ds vs) (e : Ext Fz H Fz1 H1) (h : H1 a = some (.tup vs)) : Rep M Fz1 H1 (.tup ds) (.ref a) := by
  unfold Rep
  exact ⟨a, vs, rfl, .inl (.inl h), RepL.mono e _ _ r⟩
def enmD : List D → Option (List D)
  | [d] => (seqD d).map enm
  | _ => none
theorem pi_enmD {elts : List Expr} {kk : Nat} {tpos : Pos} (hM : b.M = ⟨X.K, X.mg⟩) (hg : Gl X "enumerate") (hm : X.mg "enumerate" = none) (ha : PA X [e] (tAr b W fa)) (hs : starEach [e] X.env = [(false, eval e X.env)] := by rfl) :
    PI X (.Tuple elts kk tpos) (.Call (.Name "enumerate" p) [e] [] pos) (tI b W (faF enmD fa)) :=
  pi_mono (pi_enumC hg hm ha hs) fun σ H R ⟨Fz, g, r, q⟩ => tG_seq r q fun ds xs g1 Fz1 H1 r1 e1 rep h1 => by
    obtain ⟨z, ez, h1⟩ := h1.opt
    have rep' : RepL b.M Fz1 H1 ds xs := rep
    unfold enmD at ez
    split at ez
    · rename_i d
      obtain ⟨es, e3, e4⟩ := Option.map_eq_some_iff.mp ez
      subst e4
      obtain ⟨v, vr, rfl, q1, q2⟩ := RepL.cons_iff.mp rep'
      have q3 := RepL.nil_iff.mp q2
      subst q3
      obtain ⟨a, vs, c, rfl, hq, rr⟩ := sqC_rep q1 e3
      rw [hM] at hq
      refine ⟨a, vs, c, rfl, hq _ _ .refl, h1.ok r1 .refl ?_⟩
      intro Fz' H' ex dom
      have hq' := hq _ _ ex
      have src : ∀ n f, (n = vs.length ∧ ∀ i, i < n → ∃ x, vs[i]? = some x ∧ f i = [V.int (i : Nat), x]) → SrcE X.K c a H' n f := fun n f h => ⟨vs, hq', h.1, h.2⟩
      have hx : SrcE X.K c a H' vs.length fun i => [V.int (i : Nat), vs[i]?.getD .non] := src _ _ ⟨rfl, fun i hi => ⟨vs[i], by simp [hi], by simp [hi]⟩⟩
      refine ⟨fun k d e => ?_, ⟨_, _, hx, by rw [enm_length, RepL.length rr]⟩⟩
      obtain ⟨c1, e5, rfl⟩ := enm_get e
      obtain ⟨v, ev, rv⟩ := rr.get e5
      have hk : k < vs.length := (List.getElem?_eq_some_iff.mp ev).1
      refine ⟨⟨_, _, hx, hk⟩, fun x H'' ⟨T, ws, e6, e7, e8, e9⟩ => ?_⟩
      have e10 := e9 _ _ hx hk
      simp only [ev, Option.getD_some] at e10
      subst e10; subst e8; subst e6
      have gt : GrowTo Fz' H' Fz' (upd H' T (.tup [V.int (k : Nat), v])) := .alloc e7
      exact ⟨Fz', gt, rep_tupN (RepL.cons rep_int (RepL.cons (Rep.mono ex _ _ rv) RepL.nil)) gt.ext upd_same⟩
    · cases ez
def zipD2 (ds es : List D) : List D := List.zipWith (fun a c => D.tup [a, c]) ds es
def zipD : List D → Option (List D)
  | [d, e] => (seqD d).bind fun ds => (seqD e).map fun es => zipD2 ds es
  | _ => none
theorem pi_zipDD {elts : List Expr} {kk : Nat} {tpos : Pos} (hM : b.M = ⟨X.K, X.mg⟩) (hg : Gl X "zip") (hm : X.mg "zip" = none) (ha : PA X [e, e2] (tAr b W fa))
    (hs : starEach [e, e2] X.env = (false, eval e X.env) :: starEach [e2] X.env := by rfl) (hpl : (backTo pos (starEach [e2] X.env)).any (·.1) = false := by rfl) :
    PI X (.Tuple elts kk tpos) (.Call (.Name "zip" p) [e, e2] [] pos) (tI b W (faF zipD fa)) :=
  pi_mono (pi_zipC hg hm ha hs hpl) fun σ H R ⟨Fz, g, r, q⟩ => tG_seq r q fun ds xs g1 Fz1 H1 r1 e1 rep h1 => by
    obtain ⟨z, ez, h1⟩ := h1.opt
    have rep' : RepL b.M Fz1 H1 ds xs := rep
    unfold zipD at ez
    split at ez
    · rename_i d1 d2
      obtain ⟨es, e3, e4⟩ := Option.bind_eq_some_iff.mp ez
      obtain ⟨fs, e5, e6⟩ := Option.map_eq_some_iff.mp e4
      subst e6
      obtain ⟨v, vr, rfl, q1, q2⟩ := RepL.cons_iff.mp rep'
      obtain ⟨w, wr, rfl, q3, q4⟩ := RepL.cons_iff.mp q2
      have q5 := RepL.nil_iff.mp q4
      subst q5
      obtain ⟨a, vs, c, rfl, hq, rr⟩ := sqC_rep q1 e3
      obtain ⟨a2, ws, c2, rfl, hq2, rr2⟩ := sqC_rep q3 e5
      rw [hM] at hq hq2
      refine ⟨a, a2, vs, ws, c, c2, rfl, hq _ _ .refl, hq2 _ _ .refl, h1.ok r1 .refl ?_⟩
      intro Fz' H' ex dom
      have hx : SrcZ X.K c c2 a a2 H' (min vs.length ws.length) fun i => [vs[i]?.getD .non, ws[i]?.getD .non] := ⟨vs, ws, hq _ _ ex, hq2 _ _ ex, rfl, fun i hi => ⟨vs[i]'(by omega), ws[i]'(by omega), by simp, by simp, by
        have h1 : i < vs.length := by omega
        have h2 : i < ws.length := by omega
        simp [h1, h2]⟩⟩
      refine ⟨fun k d e => ?_, ⟨_, _, hx, by unfold zipD2; simp [RepL.length rr, RepL.length rr2]⟩⟩
      unfold zipD2 at e
      rw [List.getElem?_zipWith] at e
      split at e
      · rename_i d3 d4 e7 e8
        have e := Option.some.inj e
        subst e
        obtain ⟨v, ev, rv⟩ := rr.get e7
        obtain ⟨w, ew, rw'⟩ := rr2.get e8
        have hk : k < min vs.length ws.length := Nat.lt_min.mpr ⟨(List.getElem?_eq_some_iff.mp ev).1, (List.getElem?_eq_some_iff.mp ew).1⟩
        refine ⟨⟨_, _, hx, hk⟩, fun x H'' ⟨T, us, e6, e7, e8, e9⟩ => ?_⟩
        have e10 := e9 _ _ hx hk
        simp only [ev, ew, Option.getD_some] at e10
        subst e10; subst e8; subst e6
        have gt : GrowTo Fz' H' Fz' (upd H' T (.tup [v, w])) := .alloc e7
        exact ⟨Fz', gt, rep_tupN (RepL.cons (Rep.mono ex _ _ rv) (RepL.cons (Rep.mono ex _ _ rw') RepL.nil)) gt.ext upd_same⟩
      · cases e
    · cases ez
end

/-! ### for -/
section
variable {X : Cx} {b : B} {W : WX} {e : Expr} {tg iter : Expr} {body : List Stmt} {pos p : Pos} {s : FS} {t : Tgt} {fi : FI}
def turnS (t : Tgt) (s : FS) (d : D) : FS := fun g => match t d g with
  | some g1 => s g1
  | none => .no
def forL (f : D → FS) : List D → FS
  | [], g => .nx g
  | d :: ds, g => match f d g with
    | .nx g' => forL f ds g'
    | .ct g' => forL f ds g'
    | .bk g' => .nx g'
    | .rt d g' => .rt d g'
    | .rf d g' => .rf d g'
    | .ex e g' => .ex e g'
    | .no => .no
def forS (fi : FI) (t : Tgt) (s : FS) : FS := fun g => (fi g).sb fun items g1 => forL (turnS t s) items g1
theorem pts_for {ta as : List Nat} (hp : PassesOwn (model X.prog X.w) X.A X.env X.xe) (hc : X.calm = true) (hi : PI X tg iter (tI b W fi)) (hg : PG X tg (gD b ta t)) (hb : PSs X body (tSt b W as s))
    (hs : ∀ x, foldedSetIterable iter X.env x = pure x := by intro _; rfl) : PS X (.For tg iter body [] pos) (tSt b W (ta ++ as) (forS fi t s)) := ps_mono (ps_for hp hc hi hg hb hs) fun D σ H ⟨Fz, g, r, h⟩ => by
  refine tG_st r h fun items J g1 Fz1 H1 r1 e1 src h1 => ?_
  have src' : SrcOk b J Fz1 H1 items := src
  refine ⟨fun k m σ' H' => m = items.length - k ∧ k ≤ items.length ∧ ∃ Fz' g', BRel b Fz' g' σ' H' ∧ Ext Fz1 H1 Fz' H' ∧ PoS b W (ta ++ as) σ' Fz' H' D (forL (turnS t s) (items.drop k) g'), ⟨_, rfl, Nat.zero_le _, Fz1, g1, r1, .refl, by rw [List.drop_zero]; exact h1⟩, ?_⟩
  rintro k m σ2 H2 ⟨rfl, hk, Fz2, g2, r2, e2, h2⟩
  obtain ⟨go, stop⟩ := src' Fz2 H2 e2 r2.gr.dom
  by_cases hlt : k < items.length
  · refine .inr ?_
    have hd : items[k]? = some items[k] := by simp [hlt]
    obtain ⟨g0, yl⟩ := go k _ hd
    rw [List.drop_eq_getElem_cons hlt] at h2
    generalize hdk : items[k] = d at h2 hd yl
    refine ⟨g0, fun σ' H' => ∃ Fz' g', BRel b Fz' g' σ' H' ∧ Ext Fz1 H1 Fz' H' ∧ PoS b W (ta ++ as) σ' Fz' H' D (forL (turnS t s) (items.drop (k + 1)) g'), fun σ' H' q => ⟨_, by omega, rfl, hlt, q⟩, fun x H' y => ?_⟩
    obtain ⟨Fz3, gt, rep⟩ := yl x H' y
    have r3 := r2.grow gt
    unfold forL at h2
    unfold turnS at h2
    cases ht : t d g2 with
    | none => rw [ht] at h2; exact h2.elim
    | some g3 =>
      rw [ht] at h2
      simp only at h2
      refine ⟨Fz3, g2, d, g3, r3, rep, ht, fun σ4 r4 h4 hl => ⟨Fz3, g3, r4, ?_⟩⟩
      have go4 : Go ta σ2 Fz2 H2 σ4 Fz3 H' := ⟨gt.ext, h4⟩
      have fin : ∀ {σ' : L2.St} {H'' : Hp} {Fz' : Fzn} {g' : Sg}, BRel b Fz' g' σ' H'' → Go as σ4 Fz3 H' σ' Fz' H'' → PoS b W (ta ++ as) σ2 Fz2 H2 D (forL (turnS t s) (items.drop (k + 1)) g') → ∃ Fz' g', BRel b Fz' g' σ' H'' ∧ Ext Fz1 H1 Fz' H'' ∧ PoS b W (ta ++ as) σ' Fz' H'' D (forL (turnS t s) (items.drop (k + 1)) g') := fun {σ' H'' Fz' g'} br go5 po =>
        ⟨Fz', g', br, e2.trans (gt.ext.trans go5.ex), PoS.weak (as := ta ++ as) (PoS.sub po fun i z => by
          rcases List.mem_append.mp z with z | z <;> exact z) (go4.trans go5)⟩
      cases hs3 : s g3 with
      | nx g' => rw [hs3] at h2; exact fun σ' H'' Fz' br go5 => fin br go5 h2
      | ct g' => rw [hs3] at h2; exact fun σ' H'' Fz' br go5 => fin br go5 h2
      | bk g' => rw [hs3] at h2; exact fun σ' H'' Fz' br go5 => h2 σ' H'' Fz' br (go4.trans go5)
      | rt d' g' => rw [hs3] at h2; exact h2
      | rf d' g' => rw [hs3] at h2; exact h2
      | ex e' g' => rw [hs3] at h2; exact fun σ' cl dx H'' Fz' br go5 ok => h2 σ' cl dx H'' Fz' br (go4.trans go5) ok
      | no => rw [hs3] at h2; exact h2.elim
  · have e : k = items.length := by omega
    subst e
    rw [List.drop_length] at h2
    exact .inl ⟨stop, h2 σ2 H2 Fz2 r2 .refl⟩

/-! ### by fuel -/
open Classical in
/-- the answer of f, if some fuel is enough -/
noncomputable def byFuel (f : Nat → RS) : RS := if h : ∃ n, f n ≠ .no then f (Classical.choose h) else .no
/-- more fuel, the same answer -/
def FuelMono (f : Nat → RS) : Prop := ∀ n m, n ≤ m → f n ≠ .no → f m = f n
theorem byFuel_eq {f : Nat → RS} (hm : FuelMono f) {n : Nat} (h : f n ≠ .no) : byFuel f = f n := by
  unfold byFuel
  have hx : ∃ n, f n ≠ .no := ⟨n, h⟩
  rw [dif_pos hx]
  have q := Classical.choose_spec hx
  rcases Nat.le_total (Classical.choose hx) n with z | z
  · exact (hm _ _ z q).symm
  · exact hm _ _ z h
theorem byFuel_ex {f : Nat → RS} (h : byFuel f ≠ .no) : ∃ n, byFuel f = f n := by
  unfold byFuel at h ⊢
  split
  · exact ⟨_, rfl⟩
  · rename_i q
    rw [dif_neg q] at h
    exact absurd rfl h
/-! over an own list, as it stands at each turn -/
def forON (i : Nat) (f : D → FS) : Nat → Nat → FS
  | 0, _, _ => .no
  | n + 1, k, g => match gat g i with
    | .ow ds => match ds[k]? with
      | none => .nx g
      | some d => match f d g with
        | .nx g' => forON i f n (k + 1) g'
        | .ct g' => forON i f n (k + 1) g'
        | .bk g' => .nx g'
        | .rt d g' => .rt d g'
        | .rf d g' => .rf d g'
        | .ex e g' => .ex e g'
        | .no => .no
    | _ => .no
theorem forON_mono {i : Nat} {f : D → FS} : ∀ {n m k : Nat} {g : Sg}, n ≤ m → forON i f n k g ≠ .no → forON i f m k g = forON i f n k g
  | 0, _, _, _, _, h => absurd rfl h
  | n + 1, 0, _, _, h, _ => by omega
  | n + 1, m + 1, k, g, h, q => by
    unfold forON at q ⊢
    cases hg : gat g i with
    | ow ds =>
      rw [hg] at q
      simp only at q ⊢
      cases hd : ds[k]? with
      | none => rfl
      | some d =>
        rw [hd] at q
        simp only at q ⊢
        cases hf : f d g with
        | nx g' => rw [hf] at q; exact forON_mono (Nat.le_of_succ_le_succ h) q
        | ct g' => rw [hf] at q; exact forON_mono (Nat.le_of_succ_le_succ h) q
        | _ => rfl
    | _ => rfl
noncomputable def forO (i : Nat) (t : Tgt) (s : FS) : FS := fun g => byFuel fun n => forON i (turnS t s) n 0 g
theorem forON_list {i : Nat} {f : D → FS} {ds : List D} (Pv : Nat → Sg → Prop) (h1 : ∀ k g, Pv k g → gat g i = .ow ds) (h2 : ∀ k d g g', ds[k]? = some d → Pv k g → (f d g = .nx g' ∨ f d g = .ct g') → Pv (k + 1) g') :
    ∀ (m k : Nat) (g : Sg), k + m = ds.length → Pv k g → forON i f (m + 1) k g = forL f (ds.drop k) g
  | 0, k, g, hk, hp => by
    have hn : ds[k]? = none := List.getElem?_eq_none (by omega)
    rw [List.drop_eq_nil_of_le (by omega)]
    unfold forON forL
    rw [h1 k g hp]
    simp only [hn]
  | m + 1, k, g, hk, hp => by
    have hlt : k < ds.length := by omega
    have hd : ds[k]? = some ds[k] := by simp [hlt]
    rw [List.drop_eq_getElem_cons hlt]
    rw [forON, forL, h1 k g hp]
    simp only [hd]
    cases q : f ds[k] g with
    | nx g' => exact forON_list Pv h1 h2 m (k + 1) g' (by omega) (h2 k _ g g' hd hp (.inl q))
    | ct g' => exact forON_list Pv h1 h2 m (k + 1) g' (by omega) (h2 k _ g g' hd hp (.inr q))
    | _ => rfl
/-- the body leaves the list as it is -/
theorem forO_list {i : Nat} {t : Tgt} {s : FS} {ds : List D} {g : Sg} (Pv : Nat → Sg → Prop) (h0 : Pv 0 g) (h1 : ∀ k g, Pv k g → gat g i = .ow ds) (h2 : ∀ k d g g', ds[k]? = some d → Pv k g → (turnS t s d g = .nx g' ∨ turnS t s d g = .ct g') → Pv (k + 1) g') :
    forO i t s g = forL (turnS t s) ds g := by
  unfold forO
  have e := forON_list (f := turnS t s) Pv h1 h2 ds.length 0 g (by omega) h0
  rw [List.drop_zero] at e
  by_cases c : forL (turnS t s) ds g = .no
  · rw [c]
    refine Classical.byContradiction fun z => ?_
    obtain ⟨n, hn⟩ := byFuel_ex z
    rw [hn] at z
    rcases Nat.le_total n (ds.length + 1) with l | l
    · rw [forON_mono l z] at e; rw [c] at e; exact z e
    · rw [c] at e
      -- at n ≥ length + 1: the list's walk is the same
      have e2 : ∀ (x m k : Nat) (g : Sg), k + m = ds.length → Pv k g → forON i (turnS t s) (m + 1 + x) k g = forL (turnS t s) (ds.drop k) g := fun x m => by
        induction m with
        | zero =>
          intro k g hk hp
          have hn : ds[k]? = none := List.getElem?_eq_none (by omega)
          rw [List.drop_eq_nil_of_le (by omega)]
          rw [show 0 + 1 + x = x + 1 by omega]
          unfold forON forL
          rw [h1 k g hp]
          simp only [hn]
        | succ m ih =>
          intro k g hk hp
          have hlt : k < ds.length := by omega
          have hd : ds[k]? = some ds[k] := by simp [hlt]
          rw [List.drop_eq_getElem_cons hlt]
          rw [show m + 1 + 1 + x = (m + 1 + x) + 1 by omega]
          rw [forON, forL, h1 k g hp]
          simp only [hd]
          cases q : turnS t s ds[k] g with
          | nx g' => exact ih (k + 1) g' (by omega) (h2 k _ g g' hd hp (.inl q))
          | ct g' => exact ih (k + 1) g' (by omega) (h2 k _ g g' hd hp (.inr q))
          | _ => rfl
      have e3 := e2 (n - (ds.length + 1)) ds.length 0 g (by omega) h0
      rw [List.drop_zero, c, show ds.length + 1 + (n - (ds.length + 1)) = n by omega] at e3
      exact z e3
  · rw [byFuel_eq (fun n m l q => forON_mono l q) (n := ds.length + 1) (by rw [e]; exact c), e]
theorem pts_forO {ta as : List Nat} {i : Nat} (hM : b.M = ⟨X.K, X.mg⟩) (hp : PassesOwn (model X.prog X.w) X.A X.env X.xe) (hc : X.calm = true) (hi : PE X iter (tVar i)) (hg : PG X tg (gD b ta t)) (hb : PSs X body (tSt b W as s)) (hna : i ∉ ta ++ as)
    (hs : ∀ x, foldedSetIterable iter X.env x = pure x := by intro _; rfl) : PS X (.For tg iter body [] pos) (tSt b W (ta ++ as) (forO i t s)) := ps_mono (ps_for hp hc (pi_list hi) hg hb hs) fun D σ H ⟨Fz, g, r, h⟩ => by
  unfold forO at h
  have hne : byFuel (fun n => forON i (turnS t s) n 0 g) ≠ .no := fun z => by rw [z] at h; exact h
  obtain ⟨N, hN⟩ := byFuel_ex hne
  rw [hN] at h hne
  clear hN
  cases N with
  | zero => exact absurd rfl hne
  | succ N =>
  have h0 := h
  unfold forON at h
  cases hgi : gat g i with
  | ow ds =>
    obtain ⟨a, u, e1, nf, hu, vs, eu, rep⟩ := r.slot (gat_get hgi (by intro z; cases z))
    subst eu
    clear h
    refine ⟨.ref a, e1, a, rfl, ⟨vs, .inl (.inl hu)⟩, ?_⟩
    refine ⟨fun k m σ' H' => ∃ Fz' g', BRel b Fz' g' σ' H' ∧ Go (ta ++ as) σ Fz H σ' Fz' H' ∧ PoS b W (ta ++ as) σ' Fz' H' D (forON i (turnS t s) m k g'), ⟨N + 1, Fz, g, r, .refl, h0⟩, ?_⟩
    rintro k m σ2 H2 ⟨Fz2, g2, r2, go2, h2⟩
    cases m with
    | zero => exact h2.elim
    | succ m =>
    unfold forON at h2
    cases hg2 : gat g2 i with
    | ow ds2 =>
      rw [hg2] at h2
      simp only at h2
      obtain ⟨a2, u2, e2, nf2, hu2, vs2, eu2, rep2⟩ := r2.slot (gat_get hg2 (by intro z; cases z))
      subst eu2
      rw [go2.sl i hna, e1] at e2
      injection e2 with e2
      injection e2 with e2
      injection e2 with e2
      subst e2
      have sq2 : SqL X.K H2 a vs2 := .inl (.inl hu2)
      cases hd : ds2[k]? with
      | none =>
        rw [hd] at h2
        refine .inl ⟨⟨vs2, sq2, ?_⟩, h2 σ2 H2 Fz2 r2 .refl⟩
        rw [← RepL.length rep2]
        exact List.getElem?_eq_none_iff.mp hd
      | some d =>
        rw [hd] at h2
        simp only at h2
        obtain ⟨x, ex, rx⟩ := rep2.get hd
        refine .inr ⟨⟨vs2, x, sq2, ex⟩, fun σ' H' => ∃ Fz' g', BRel b Fz' g' σ' H' ∧ Go (ta ++ as) σ Fz H σ' Fz' H' ∧ PoS b W (ta ++ as) σ' Fz' H' D (forON i (turnS t s) m (k + 1) g'), fun σ' H' q => ⟨m, Nat.lt_succ_self m, q⟩, fun y H' ⟨e3, q3⟩ => ?_⟩
        subst e3
        have q4 := q3 vs2 sq2
        rw [ex] at q4
        cases q4
        unfold turnS at h2
        cases ht : t d g2 with
        | none => rw [ht] at h2; exact h2.elim
        | some g3 =>
          rw [ht] at h2
          simp only at h2
          refine ⟨Fz2, g2, d, g3, r2, rx, ht, fun σ4 r4 h4 hl => ⟨Fz2, g3, r4, ?_⟩⟩
          have go4 : Go ta σ2 Fz2 H' σ4 Fz2 H' := ⟨.refl, h4⟩
          have fin : ∀ {σ' : L2.St} {H'' : Hp} {Fz' : Fzn} {g' : Sg}, BRel b Fz' g' σ' H'' → Go as σ4 Fz2 H' σ' Fz' H'' → PoS b W (ta ++ as) σ2 Fz2 H' D (forON i (turnS t s) m (k + 1) g') → ∃ Fz' g', BRel b Fz' g' σ' H'' ∧ Go (ta ++ as) σ Fz H σ' Fz' H'' ∧ PoS b W (ta ++ as) σ' Fz' H'' D (forON i (turnS t s) m (k + 1) g') := fun {σ' H'' Fz' g'} br go5 po =>
            ⟨Fz', g', br, (go2.trans (go4.trans go5)).sub fun i z => by rcases List.mem_append.mp z with z | z <;> exact z, PoS.weak (as := ta ++ as) (PoS.sub po fun i z => by
              rcases List.mem_append.mp z with z | z <;> exact z) (go4.trans go5)⟩
          cases hs3 : s g3 with
          | nx g' => rw [hs3] at h2; exact fun σ' H'' Fz' br go5 => fin br go5 h2
          | ct g' => rw [hs3] at h2; exact fun σ' H'' Fz' br go5 => fin br go5 h2
          | bk g' => rw [hs3] at h2; exact fun σ' H'' Fz' br go5 => h2 σ' H'' Fz' br (go4.trans go5)
          | rt d' g' => rw [hs3] at h2; exact h2
          | rf d' g' => rw [hs3] at h2; exact h2
          | ex e' g' => rw [hs3] at h2; exact fun σ' cl dx H'' Fz' br go5 ok => h2 σ' cl dx H'' Fz' br (go4.trans go5) ok
          | no => rw [hs3] at h2; exact h2.elim
    | _ => rw [hg2] at h2; exact h2.elim
  | _ => rw [hgi] at h; exact h.elim

/-! ### while -/
def whileN (c : FB) (s : FS) : Nat → FS
  | 0, _ => .no
  | n + 1, g => (c g).sb fun k g1 => if k = true then (match s g1 with
    | .nx g' => whileN c s n g'
    | .ct g' => whileN c s n g'
    | .bk g' => .nx g'
    | .rt d g' => .rt d g'
    | .rf d g' => .rf d g'
    | .ex e g' => .ex e g'
    | .no => .no) else .nx g1
theorem whileN_mono {c : FB} {s : FS} : ∀ {n m : Nat} {g : Sg}, n ≤ m → whileN c s n g ≠ .no → whileN c s m g = whileN c s n g
  | 0, _, _, _, h => absurd rfl h
  | n + 1, 0, _, h, _ => by omega
  | n + 1, m + 1, g, h, q => by
    unfold whileN at q ⊢
    cases hc : c g with
    | no => rfl
    | ex e g1 => rfl
    | ok k g1 =>
      rw [hc] at q
      simp only [R.sb_ok] at q ⊢
      by_cases hk : k = true
      · rw [if_pos hk] at q
        rw [if_pos hk, if_pos hk]
        cases hs : s g1 with
        | nx g' => rw [hs] at q; exact whileN_mono (Nat.le_of_succ_le_succ h) q
        | ct g' => rw [hs] at q; exact whileN_mono (Nat.le_of_succ_le_succ h) q
        | _ => rfl
      · rw [if_neg hk, if_neg hk]
noncomputable def whileS (c : FB) (s : FS) : FS := fun g => byFuel fun n => whileN c s n g
theorem whileS_eq {c : FB} {s : FS} {g : Sg} {n : Nat} {r : RS} (h : whileN c s n g = r) (hr : r ≠ .no) : whileS c s g = r := by
  unfold whileS
  rw [byFuel_eq (fun n m l q => whileN_mono l q) (n := n) (by rw [h]; exact hr), h]
theorem pts_while {c : FB} {as : List Nat} (hp : PassesOwn (model X.prog X.w) X.A X.env X.xe) (hc : PT X e (tBo b W c)) (hb : PSs X body (tSt b W as s)) : PS X (.While e body [] pos) (tSt b W as (whileS c s)) := ps_mono (ps_while hp hc hb) fun D σ H ⟨Fz, g, r, h⟩ => by
  unfold whileS at h
  have hne : byFuel (fun n => whileN c s n g) ≠ .no := fun z => by rw [z] at h; exact h
  obtain ⟨N, hN⟩ := byFuel_ex hne
  rw [hN] at h
  clear hN hne
  refine ⟨fun m σ' H' => ∃ Fz' g', BRel b Fz' g' σ' H' ∧ PoS b W as σ' Fz' H' D (whileN c s m g'), ⟨N, Fz, g, r, h⟩, ?_⟩
  rintro m σ2 H2 ⟨Fz2, g2, r2, h2⟩
  cases m with
  | zero => exact h2.elim
  | succ m =>
  unfold whileN at h2
  refine tG_st r2 h2 fun k x g3 Fz3 H3 r3 e3 rep h3 => ?_
  have rep' : x = k := rep
  subst rep'
  cases x with
  | false => exact h3 σ2 H3 Fz3 r3 .refl
  | true =>
    simp only [if_true] at h3
    rw [if_pos rfl]
    refine ⟨fun σ' H' => ∃ Fz' g', BRel b Fz' g' σ' H' ∧ PoS b W as σ' Fz' H' D (whileN c s m g'), fun σ' H' q => ⟨m, Nat.lt_succ_self m, q⟩, Fz3, g3, r3, ?_⟩
    have fin : ∀ {σ' : L2.St} {H'' : Hp} {Fz' : Fzn} {g' : Sg}, BRel b Fz' g' σ' H'' → Go as σ2 Fz3 H3 σ' Fz' H'' → PoS b W as σ2 Fz3 H3 D (whileN c s m g') → ∃ Fz' g', BRel b Fz' g' σ' H'' ∧ PoS b W as σ' Fz' H'' D (whileN c s m g') := fun {σ' H'' Fz' g'} br go5 po =>
      ⟨Fz', g', br, PoS.weak (as := as) (PoS.sub po fun i z => by rcases List.mem_append.mp z with z | z <;> exact z) go5⟩
    cases hs3 : s g3 with
    | nx g' => rw [hs3] at h3; exact fun σ' H'' Fz' br go5 => fin br go5 h3
    | ct g' => rw [hs3] at h3; exact fun σ' H'' Fz' br go5 => fin br go5 h3
    | bk g' => rw [hs3] at h3; exact fun σ' H'' Fz' br go5 => h3 σ' H'' Fz' br go5
    | rt d' g' => rw [hs3] at h3; exact h3
    | rf d' g' => rw [hs3] at h3; exact h3
    | ex e' g' => rw [hs3] at h3; exact fun σ' cl dx H'' Fz' br go5 ok => h3 σ' cl dx H'' Fz' br go5 ok
    | no => rw [hs3] at h3; exact h3.elim
end
end DL

set_option Elab.async false
set_option linter.all false
set_option maxRecDepth 100000
set_option maxHeartbeats 4000000
/-! Den8: list comprehensions. -/
namespace DL
open PySem L2 PySem.Spec PyProof.Rows

section
variable {b : B} {W : WX} {Fz Fz' : Fzn} {g g' : Sg} {σ σ' : L2.St} {H H' : Hp}
/-- other slots' values where nothing is known -/
theorem BRel.congr (hx : b.px = none) (r : BRel b Fz g σ H) (hl : σ'.length = σ.length) (h : ∀ (i : Nat) (s : S), g[i]? = some s → s ≠ .un → σ'[i]? = σ[i]?) : BRel b Fz g σ' H := by
  have ow : ∀ {i a}, Own g σ' i a → Own g σ i a := fun {i a} ⟨⟨s, e, w⟩, q⟩ => ⟨⟨s, e, w⟩, by rw [← h i s e (fun z => by rw [z] at w; cases w)]; exact q⟩
  refine ⟨r.gr, ⟨by rw [hl]; exact r.rel.len, fun i s e => ?_, fun i j a p q => r.rel.apart i j a (ow p) (ow q)⟩, fun i a q => r.own i a (ow q), fun i a l q => r.pin i a l (ow q), (fun i a h => by rw [hx] at h; cases h), r.nst.step rfl .refl (fun i dss e => ⟨e, h i _ e (by intro z; cases z)⟩) (fun _ _ _ => rfl) fun i x q => let ⟨k1, k2, k3⟩ := r.nst.free i x q; ⟨k1, k2, fun j o => k3 j (ow o)⟩⟩
  have z := r.slot e
  by_cases c : s = .un
  · subst c; trivial
  · rw [h i s e c]; exact z
def wipeG (g : Sg) : List Nat → Sg
  | [] => g
  | v :: vs => (wipeG g vs).set v .un
theorem BRel.wipeG (r : BRel b Fz g σ H) : ∀ vs : List Nat, BRel b Fz (DL.wipeG g vs) σ H
  | [] => r
  | v :: vs => (BRel.wipeG r vs).forget v
theorem wipeG_length {g : Sg} : ∀ {vs : List Nat}, (wipeG g vs).length = g.length
  | [] => rfl
  | v :: vs => by unfold wipeG; rw [List.length_set, wipeG_length]
theorem wipeG_get {g : Sg} {i : Nat} {s : S} : ∀ {vs : List Nat}, (wipeG g vs)[i]? = some s → s ≠ .un → i ∉ vs
  | [], _, _ => by simp
  | v :: vs, h, n => by
    unfold wipeG at h
    rcases gset_get h with ⟨_, e⟩ | ⟨e, h⟩
    · exact absurd e n
    · rw [List.mem_cons, not_or]; exact ⟨e, wipeG_get h n⟩
theorem wipe_out {σ : L2.St} {i : Nat} : ∀ {vs : List Nat}, i ∉ vs → (wipe σ vs)[i]? = σ[i]?
  | [], _ => rfl
  | v :: vs, h => by
    rw [List.mem_cons, not_or] at h
    unfold wipe
    rw [List.getElem?_set_ne (fun z => h.1 z.symm)]
    exact wipe_out h.2
theorem wipe_in {σ : L2.St} {i : Nat} : ∀ {vs : List Nat}, i ∈ vs → i < σ.length → (wipe σ vs)[i]? = some none
  | v :: vs, h, hl => by
    unfold wipe
    by_cases e : v = i
    · subst e
      exact List.getElem?_set_self (by rw [wipe_length]; exact hl)
    · rw [List.getElem?_set_ne e]
      rcases List.mem_cons.mp h with q | q
      · exact absurd q.symm e
      · exact wipe_in q hl
theorem wipe_eq {σ σ' : L2.St} {vs : List Nat} (hl : σ'.length = σ.length) (h : ∀ i, i ∉ vs → σ'[i]? = σ[i]?) : wipe σ' vs = wipe σ vs := by
  apply List.ext_getElem?
  intro i
  by_cases c : i ∈ vs
  · by_cases l : i < σ.length
    · rw [wipe_in c l, wipe_in c (by omega)]
    · rw [List.getElem?_eq_none (by rw [wipe_length]; omega), List.getElem?_eq_none (by rw [wipe_length]; omega)]
  · rw [wipe_out c, wipe_out c, h i c]
theorem wipe_wipe {σ : L2.St} {vs : List Nat} : wipe (wipe σ vs) vs = wipe σ vs := wipe_eq (wipe_length ..) fun i h => wipe_out h
theorem BRel.wipe (hx : b.px = none) (r : BRel b Fz g σ H) (vs : List Nat) : BRel b Fz (DL.wipeG g vs) (L2.wipe σ vs) H := (r.wipeG vs).congr hx (wipe_length ..) fun i s e n => wipe_out (wipeG_get e n)
theorem BRel.unwipe {vs : List Nat} (hx : b.px = none) (r : BRel b Fz (DL.wipeG g vs) σ' H) (hl : σ'.length = σ.length) (h : ∀ i, i ∉ vs → σ'[i]? = σ[i]?) : BRel b Fz (DL.wipeG g vs) σ H := r.congr hx hl.symm fun i s e n => (h i (wipeG_get e n)).symm

/-! ### a new base -/
/-- the values of own slots alone -/
def maskO : Sg → L2.St → L2.St
  | s :: g, o :: σ => (if s.isOw = true then o else none) :: maskO g σ
  | _, _ => []
theorem maskO_get : ∀ {g : Sg} {σ : L2.St} {i : Nat} {x : V}, (maskO g σ)[i]? = some (some x) → (∃ s, g[i]? = some s ∧ s.isOw = true) ∧ σ[i]? = some (some x)
  | [], _, _, _, h => by simp [maskO] at h
  | _ :: _, [], _, _, h => by simp [maskO] at h
  | s :: g, o :: σ, 0, x, h => by
    unfold maskO at h
    by_cases c : s.isOw = true
    · rw [if_pos c] at h
      exact ⟨⟨s, rfl, c⟩, by simpa using h⟩
    · rw [if_neg c] at h
      simp at h
  | s :: g, o :: σ, i + 1, x, h => by
    obtain ⟨⟨t, h1, h2⟩, h3⟩ := maskO_get (g := g) (σ := σ) (i := i) (by simpa [maskO] using h)
    exact ⟨⟨t, by simpa using h1, h2⟩, by simpa using h3⟩
theorem maskO_own : ∀ {g : Sg} {σ : L2.St} {i : Nat} {a : Addr}, Own g σ i a → (maskO g σ)[i]? = some (some (.ref a))
  | [], _, _, _, ⟨⟨s, e, _⟩, _⟩ => by simp at e
  | _ :: _, [], _, _, ⟨_, e⟩ => by simp at e
  | s :: g, o :: σ, 0, a, ⟨⟨t, e, w⟩, q⟩ => by
    have e' : s = t := by simpa using e
    subst e'
    unfold maskO
    rw [if_pos w]
    simpa using q
  | s :: g, o :: σ, i + 1, a, ⟨⟨t, e, w⟩, q⟩ => by
    unfold maskO
    rw [List.getElem?_cons_succ]
    exact maskO_own ⟨⟨t, by simpa using e, w⟩, by simpa using q⟩
open Classical in
/-- the heap but for nested own lists -/
noncomputable def hide (g : Sg) (σ : L2.St) (H : Hp) : Hp := fun x => if ∃ i, NOwn g σ H i x then none else H x
theorem hide_n {x : Addr} {i : Nat} (h : NOwn g σ H i x) : hide g σ H x = none := if_pos ⟨i, h⟩
theorem hide_of {x : Addr} (h : ∀ i, ¬ NOwn g σ H i x) : hide g σ H x = H x := if_neg fun ⟨i, z⟩ => h i z
theorem hide_some {x : Addr} {o : HO} (h : hide g σ H x = some o) : H x = some o ∧ ∀ i, ¬ NOwn g σ H i x := by
  by_cases c : ∃ i, NOwn g σ H i x
  · obtain ⟨i, c⟩ := c
    rw [hide_n c] at h; cases h
  · have c' : ∀ i, ¬ NOwn g σ H i x := fun i z => c ⟨i, z⟩
    rw [hide_of c'] at h
    exact ⟨h, c'⟩
theorem hide_none {x : Addr} (h : hide g σ H x = none) : H x = none ∨ ∃ i, NOwn g σ H i x := by
  by_cases c : ∃ i, NOwn g σ H i x
  · exact .inr c
  · rw [hide_of fun i z => c ⟨i, z⟩] at h
    exact .inl h
/-- all that stands now is the entry -/
noncomputable def rebase (b : B) (Fz : Fzn) (g : Sg) (σ : L2.St) (H : Hp) : B := ⟨b.M, hide g σ H, Fz, fun a => ∃ i, Own g σ i a, g.length, maskO g σ, none⟩
theorem BRel.rebase (r : BRel b Fz g σ H) : BRel (rebase b Fz g σ H) Fz g σ H where
  gr := ⟨r.gr.dom, fun _ h => h, fun _ h => .inl h, fun _ _ h _ => (hide_some h).1, fun a ⟨i, h⟩ => by
    obtain ⟨s, u, _, nf, hu, _⟩ := r.there h
    exact ⟨⟨u, hu⟩, nf, u, (hide_of fun j z => (r.nst.free j a z).2.2 i h).trans hu⟩⟩
  rel := r.rel
  own := fun i a h => .inl ⟨by
    obtain ⟨⟨s, e, _⟩, _⟩ := h
    exact (List.getElem?_eq_some_iff.mp e).1, i, h⟩
  pin := fun i a _ h => maskO_own h
  px := fun _ _ h => nomatch h
  nst := r.nst.step rfl .refl (fun i dss h => ⟨h, rfl⟩) (fun _ _ _ => rfl) fun i x q => let ⟨k1, _, k3⟩ := r.nst.free i x q; ⟨k1, hide_n q, k3⟩
theorem BRel.debase (hx : b.px = none) (r : BRel b Fz g σ H) (r2 : BRel (DL.rebase b Fz g σ H) Fz' g' σ' H') (hl : g'.length = g.length) : BRel b Fz' g' σ' H' := by
  have own2 : ∀ {i a}, Own g' σ' i a → Own g σ i a := fun {i a} o => by
    obtain ⟨⟨s, e, w⟩, q⟩ := o
    have hi : i < g.length := by rw [← hl]; exact (List.getElem?_eq_some_iff.mp e).1
    have z := r2.pin i a hi ⟨⟨s, e, w⟩, q⟩
    exact maskO_get z
  have none0 : ∀ {a}, hide g σ H a = none → b.H0 a = none := fun {a} z => (hide_none z).elim r.new0 fun ⟨i, y⟩ => (r.nst.free i a y).2.1
  have some0 : ∀ {a o}, b.H0 a = some o → H a = some o → hide g σ H a = some o := fun {a o} h z => (hide_of fun i y => by
    have k := (r.nst.free i a y).2.1
    rw [h] at k; cases k).trans z
  refine ⟨⟨r2.gr.dom, fun a h => r2.gr.fz a (r.gr.fz a h), fun a h => ?_, fun a o h n => ?_, fun a h => ?_⟩, r2.rel, fun i a o => r.own i a (own2 o), fun i a l o => r.pin i a l (own2 o), (fun i a h => by rw [hx] at h; cases h), r2.nst.step rfl .refl (fun i dss h => ⟨h, rfl⟩) (fun _ _ _ => rfl) fun i x q => let ⟨k1, k2, k3⟩ := r2.nst.free i x q; ⟨k1, none0 k2, k3⟩⟩
  · rcases r2.gr.new a h with z | z
    · exact r.gr.new a z
    · exact .inr (none0 z)
  · refine r2.gr.fr a o (some0 h (r.gr.fr a o h n)) fun ⟨i, z⟩ => ?_
    rcases r.own i a z with ⟨_, y⟩ | ⟨_, y⟩
    · exact n y
    · rw [h] at y; cases y
  · obtain ⟨⟨o, z⟩, y⟩ := r.gr.oa a h
    refine ⟨?_, y⟩
    by_cases c : ∃ i, Own g σ i a
    · exact (r2.gr.oa a c).1
    · obtain ⟨_, _, o0, h0⟩ := r.gr.oa a h
      have k : hide g σ H a = some o := (hide_of fun i y => by
        have k := (r.nst.free i a y).2.1
        rw [h0] at k; cases k).trans z
      exact ⟨o, r2.gr.fr a o k c⟩
/-- a new object that no slot has is changed -/
theorem BRel.updNew (r : BRel b Fz g σ H) {p : Addr} {u u' : HO} (h0 : b.H0 p = none) (hf : ¬ Fz p) (hA : ∀ i, ¬ AOwn g σ H i p) (hu : H p = some u) (hm : Mut (some u)) : BRel b Fz g σ (upd H p u') ∧ Ext Fz H Fz (upd H p u') := by
  have ho : ∀ i, ¬ Own g σ i p := fun i z => hA i (.inl z)
  have ne : ∀ x o, H x = some o → (Fz x ∨ ¬ Mut (some o)) → upd H p u' x = some o := fun x o hx q => by
    rw [upd_ne]
    · exact hx
    · intro z
      subst z
      rcases q with q | q
      · exact hf q
      · rw [hu] at hx; cases hx; exact q hm
  have ex : Ext Fz H Fz (upd H p u') := ⟨fun _ q => q, ne⟩
  have some' : ∀ x o, H x = some o → ∃ o', upd H p u' x = some o' := fun x o hx => by
    by_cases c : x = p
    · subst c; exact ⟨u', upd_same⟩
    · exact ⟨o, by rw [upd_ne c]; exact hx⟩
  refine ⟨⟨⟨fun a h => ?_, r.gr.fz, r.gr.new, fun a o h n => ?_, fun a h => ?_⟩, ⟨r.rel.len, fun i s e => ?_, r.rel.apart⟩, r.own, r.pin, r.px, r.nst.step rfl ex (fun i dss h => ⟨h, rfl⟩) (r.nst.upd fun i z => hA i (.inr z)) r.nst.free⟩, ex⟩
  · obtain ⟨o, z⟩ := r.gr.dom a h
    exact some' a o z
  · rw [upd_ne]
    · exact r.gr.fr a o h n
    · intro z; subst z; rw [h0] at h; cases h
  · obtain ⟨⟨o, z⟩, y⟩ := r.gr.oa a h
    exact ⟨some' a o z, y⟩
  · have z := r.slot e
    by_cases ht : s.isOw = true
    · obtain ⟨x, o, e3, n3, h3, w3⟩ := z.own ht
      have hx : x ≠ p := fun y => by subst y; exact ho i ⟨⟨s, e, ht⟩, e3⟩
      exact SlotOk.of_own e3 n3 (by rw [upd_ne hx]; exact h3) (w3.mono ex)
    · cases s with
      | un => trivial
      | on dss => trivial
      | v d => obtain ⟨x, e3, r3⟩ := z; exact ⟨x, e3, Rep.mono ex d x r3⟩
      | _ => exact absurd rfl ht
end

/-! ### the comprehension -/
def keep? {α : Type} (r : R α) (n : Nat) (k : α → Sg → R (List D)) : R (List D) := match r with
  | .ok a g => if g.length = n then k a g else .no
  | _ => .no
def lcL (t : Tgt) (c : FB) (e : FE) (vs : List Nat) : List D → List D → Sg → R (List D)
  | [], acc, g => .ok acc g
  | d :: ds, acc, g => match t d g with
    | none => .no
    | some g1 => keep? (c g1) g1.length fun k g2 => if k = true then keep? (e g2) g1.length fun y g3 => lcL t c e vs ds (acc ++ [y]) (wipeG g3 vs) else lcL t c e vs ds acc (wipeG g2 vs)
def lcF (fi : FI) (t : Tgt) (c : FB) (e : FE) (vs : List Nat) : FF := fun g => (fi g).bd fun items g1 => if items.length ≤ sizeLine then lcL t c e vs items [] (wipeG g1 vs) else .no
theorem nown_same {b : B} {Fz : Fzn} {g : Sg} {σ : L2.St} {H H' : Hp} (n : Nst b Fz g σ H) (hh : ∀ (i : Nat) (x : Addr), NOwn g σ H i x → H' x = H x) {i : Nat} {x : Addr} (h : NOwn g σ H' i x) : NOwn g σ H i x := by
  obtain ⟨dss, a, vs, h1, h2, h3, h4⟩ := h
  rw [hh i a (n.nown h1 h2)] at h3
  exact ⟨dss, a, vs, h1, h2, h3, h4⟩
theorem BRel.notA_grow {b : B} {Fz Fz' : Fzn} {g : Sg} {σ : L2.St} {H H' : Hp} (r : BRel b Fz g σ H) (e : GrowTo Fz H Fz' H') {p : Addr} (hA : ∀ i, ¬ AOwn g σ H i p) : ∀ i, ¬ AOwn g σ H' i p := fun i h => h.elim (fun z => hA i (.inl z)) fun z => hA i (.inr (nown_same r.nst (fun j x q => by
  obtain ⟨vs, hv⟩ := NOwn.there r.nst q
  rw [hv]; exact e.st _ _ hv) z))
theorem BRel.notA_upd {b : B} {Fz : Fzn} {g : Sg} {σ : L2.St} {H : Hp} (r : BRel b Fz g σ H) {p : Addr} {u : HO} (hA : ∀ i, ¬ AOwn g σ H i p) : ∀ i, ¬ AOwn g σ (upd H p u) i p := fun i h => h.elim (fun z => hA i (.inl z)) fun z => hA i (.inr (nown_same r.nst (r.nst.upd fun j q => hA j (.inr q)) z))
def yesB : FB := fun g => .ok true g
section
variable {X : Cx} {b : B} {W : WX} {elt tg iter : Expr} {ifs : List Expr} {scope : Scope} {own : List (Str × Nat)} {pos : Pos} {fi : FI} {t : Tgt} {fc : FB} {fe : FE} {ta : List Nat}
abbrev W0 : WX := fun _ _ _ _ => False
theorem pts_nilD {X : Cx} {b : B} {W : WX} : PTs X [] (tBo b W yesB) := ⟨fun pins s σ H Q I ⟨Fz, g, r, h⟩ => pts_nil.run pins s σ H Q I (h true H Fz r .refl rfl)⟩
theorem pts_oneD {X : Cx} {b : B} {W : WX} {c : Expr} {fb : FB} (h : PT X c (tBo b W fb)) : PTs X [c] (tBo b W fb) := pts_one h
theorem fr_len {b : B} {Fz Fz2 : Fzn} {g g2 : Sg} {σ : L2.St} {H H2 : Hp} (r : BRel b Fz g σ H) (r2 : BRel b Fz2 g2 σ H2) : g2.length = g.length := by rw [r2.rel.len, r.rel.len]
theorem lc_run (hx : b.px = none) {σ : L2.St} {H : Hp} {Q : VK} {vs : List Nat} (hta : ∀ i ∈ ta, i ∈ vs) (h : tFr b W (lcF fi t fc fe vs) σ H Q) :
    tLc (tI b W fi) (fun v σ' H' Q' => ∃ b', (b'.M = b.M ∧ b'.px = none) ∧ gD b' ta t v σ' H' Q') (fun σ' H' Q' => ∃ b', (b'.M = b.M ∧ b'.px = none) ∧ tBo b' W0 fc σ' H' Q') (fun σ' H' Q' => ∃ b', (b'.M = b.M ∧ b'.px = none) ∧ tE b' W0 fe σ' H' Q') vs σ H Q := by
  obtain ⟨Fz, g, r, h⟩ := h
  refine tG_seq r h fun items J g1 Fz1 H1 r1 e1 src h1 => ?_
  have src' : SrcOk b J Fz1 H1 items := src
  by_cases hlen : items.length ≤ sizeLine
  rotate_left
  · rw [if_neg hlen] at h1; exact h1.elim
  rw [if_pos hlen] at h1
  intro D hD
  have hD0 := r1.new0 hD
  have rA : BRel b Fz1 (DL.wipeG g1 vs) (wipe σ vs) (upd H1 D (.lst [])) := (r1.alloc hD).wipe hx vs
  have nO : ∀ {g : Sg} {σ' : L2.St}, (∀ i a, Own g σ' i a → ∃ u, H1 a = some u) → ∀ i, ¬ Own g σ' i D := fun k i o => by
    obtain ⟨u, hu⟩ := k i D o
    rw [hD] at hu; cases hu
  have rA0 : ∀ i, ¬ AOwn (DL.wipeG g1 vs) (wipe σ vs) (upd H1 D (.lst [])) i D := (r1.wipe hx vs).notAu hD
  refine ⟨fun k m H' => m = items.length - k ∧ k ≤ items.length ∧ ∃ Fz' g' acc av, BRel b Fz' g' (wipe σ vs) H' ∧ DL.wipeG g' vs = g' ∧ Ext Fz1 H1 Fz' H' ∧ ¬ Fz' D ∧ H' D = some (.lst av) ∧ (∀ i, ¬ AOwn g' (wipe σ vs) H' i D) ∧ RepL b.M Fz' H' acc av ∧ acc.length ≤ k ∧
    Po b W (bF b) σ Fz' H' (fun x _ _ H' _ => Q x H') (lcL t fc fe vs (items.drop k) acc g'), ⟨_, rfl, Nat.zero_le _, Fz1, _, [], [], rA, ?_, (GrowTo.alloc hD).ext, r1.notFz hD, upd_same, rA0, RepL.nil, Nat.zero_le _, by rw [List.drop_zero]; exact h1.weak (GrowTo.alloc hD).ext⟩, ?_⟩
  · have ww : ∀ (vs : List Nat) (g : Sg), (∀ i ∈ vs, ∀ s, g[i]? = some s → s = .un) → DL.wipeG g vs = g := fun vs => by
      induction vs with
      | nil => intro g _; rfl
      | cons v vs ih =>
        intro g hg
        unfold DL.wipeG
        rw [ih g fun i hi => hg i (List.mem_cons_of_mem _ hi)]
        apply List.ext_getElem?
        intro i
        by_cases c : v = i
        · subst c
          by_cases l : v < g.length
          · rw [List.getElem?_set_self l]
            have := hg v List.mem_cons_self g[v] (by simp [l])
            simp [l, this]
          · rw [List.getElem?_eq_none (by rw [List.length_set]; omega), List.getElem?_eq_none (by omega)]
        · rw [List.getElem?_set_ne c]
    refine ww vs _ fun i hi s hs => ?_
    refine Classical.byContradiction fun n => ?_
    exact wipeG_get hs n hi
  rintro k m H2 ⟨rfl, hk, Fz2, g2, acc, av, r2, w2, e2, nf2, hD2, no2, rep2, hacc, h2⟩
  obtain ⟨go, stop⟩ := src' Fz2 H2 e2 r2.gr.dom
  by_cases hlt : k < items.length
  · refine .inr ?_
    have hd : items[k]? = some items[k] := by simp [hlt]
    obtain ⟨g0, yl⟩ := go k _ hd
    rw [List.drop_eq_getElem_cons hlt] at h2
    generalize hdk : items[k] = d at h2 hd yl
    refine ⟨g0, fun H' => ∃ Fz' g' acc av, BRel b Fz' g' (wipe σ vs) H' ∧ DL.wipeG g' vs = g' ∧ Ext Fz1 H1 Fz' H' ∧ ¬ Fz' D ∧ H' D = some (.lst av) ∧ (∀ i, ¬ AOwn g' (wipe σ vs) H' i D) ∧ RepL b.M Fz' H' acc av ∧ acc.length ≤ k + 1 ∧
      Po b W (bF b) σ Fz' H' (fun x _ _ H' _ => Q x H') (lcL t fc fe vs (items.drop (k + 1)) acc g'), fun H' q => ⟨_, by omega, rfl, hlt, q⟩, fun x H' y => ?_⟩
    obtain ⟨Fz3, gt, repd⟩ := yl x H' y
    have r3 := r2.grow gt
    have nf3 : ¬ Fz3 D := fun z => by
      rcases gt.new D z with z | ⟨z, _⟩
      · exact nf2 z
      · rw [hD2] at z; cases z
    have hD3 : H' D = some (.lst av) := gt.st _ _ hD2
    unfold lcL at h2
    cases ht : t d g2 with
    | none => rw [ht] at h2; exact h2.elim
    | some g3 =>
      rw [ht] at h2
      simp only at h2
      refine ⟨DL.rebase b Fz3 g2 (wipe σ vs) H', ⟨rfl, rfl⟩, Fz3, g2, d, g3, r3.rebase, repd, ht, fun σ4 r4 h4 hl => ⟨(wipe_eq hl fun i hi => h4 i fun z => hi (hta i z)).trans wipe_wipe, ?_⟩⟩
      -- the base of this turn
      generalize hb' : DL.rebase b Fz3 g2 (wipe σ vs) H' = b' at r4
      have hM' : b'.M = b.M := by rw [← hb']; rfl
      have hpx' : b'.px = none := by rw [← hb']; rfl
      have hH0 : b'.H0 = hide g2 (wipe σ vs) H' := by rw [← hb']; rfl
      have no3 := r2.notA_grow gt no2
      have hD4 : hide g2 (wipe σ vs) H' D = some (.lst av) := (hide_of fun i z => no3 i (.inr z)).trans hD3
      have hOA : ∀ a, b'.OA a → ∃ i, Own g2 (wipe σ vs) i a := fun a z => by rw [← hb'] at z; exact z
      have hnOA : ¬ b'.OA D := fun z => by obtain ⟨i, z⟩ := hOA D z; exact no2 i (.inl z)
      have hnp : b'.np = g2.length := by rw [← hb']; rfl
      have lg3 : g3.length = g2.length := by rw [r4.rel.len, hl, r3.rel.len]
      have back : ∀ {Fz' : Fzn} {g' : Sg} {H'' : Hp}, BRel b' Fz' g' σ4 H'' → BRel b Fz' (DL.wipeG g' vs) (wipe σ vs) H'' ∧ H'' D = some (.lst av) ∧ ¬ Fz' D ∧ ∀ i, ¬ AOwn (DL.wipeG g' vs) (wipe σ vs) H'' i D := fun {Fz' g' H''} br => by
        have lg' : g'.length = g2.length := (fr_len r4 br).trans lg3
        have rb := br
        rw [← hb'] at rb
        have rb2 := r3.debase hx rb lg'
        have kD : H'' D = some (.lst av) := br.gr.fr D _ (by rw [hH0]; exact hD4) hnOA
        have nfD : ¬ Fz' D := fun z => by
          rcases br.gr.new D z with z | z
          · have : Fz3 D := by rw [← hb'] at z; exact z
            exact nf3 this
          · rw [hH0, hD4] at z; cases z
        have bw : BRel b Fz' (DL.wipeG g' vs) (wipe σ vs) H'' := (rb2.wipeG vs).unwipe hx (hl.trans rfl) fun i hi => h4 i fun z => hi (hta i z)
        refine ⟨bw, kD, nfD, fun i o => ?_⟩
        -- an own slot of g' is an argument of the base
        have key : ∀ (vs : List Nat), i ∉ vs → (DL.wipeG g' vs)[i]? = g'[i]? := fun vs => by
          induction vs with
          | nil => intro _; rfl
          | cons v vs ih =>
            intro h
            rw [List.mem_cons, not_or] at h
            unfold DL.wipeG
            rw [List.getElem?_set_ne (fun z => h.1 z.symm)]
            exact ih h.2
        rcases o with o | o
        rotate_left
        · obtain ⟨dss, a, ws, h1, h2, h3⟩ := o
          have ni : i ∉ vs := wipeG_get h1 fun z => by cases z
          rw [key vs ni] at h1
          have q' : σ4[i]? = some (some (V.ref a)) := by rw [h4 i fun z => ni (hta i z)]; exact h2
          have k := (br.nst.free i D ⟨dss, a, ws, h1, q', h3⟩).2.1
          rw [hH0, hD4] at k; cases k
        obtain ⟨⟨s, e, w⟩, q⟩ := o
        have ni : i ∉ vs := wipeG_get e fun z => by rw [z] at w; cases w
        have e' : g'[i]? = some s := by rw [← key vs ni]; exact e
        have q' : σ4[i]? = some (some (V.ref D)) := by rw [h4 i fun z => ni (hta i z)]; exact q
        have hi : i < b'.np := by rw [hnp, ← lg']; exact (List.getElem?_eq_some_iff.mp e').1
        rcases br.own i D ⟨⟨s, e', w⟩, q'⟩ with ⟨_, z⟩ | ⟨z, _⟩
        · exact hnOA z
        · omega
      have wipe2 : ∀ g' : Sg, DL.wipeG (DL.wipeG g' vs) vs = DL.wipeG g' vs := fun g' => by
        have ww : ∀ (us : List Nat) (g : Sg), (∀ i ∈ us, ∀ s, g[i]? = some s → s = .un) → DL.wipeG g us = g := fun us => by
          induction us with
          | nil => intro g _; rfl
          | cons v us ih =>
            intro g hg
            unfold DL.wipeG
            rw [ih g fun i hi => hg i (List.mem_cons_of_mem _ hi)]
            apply List.ext_getElem?
            intro i
            by_cases c : v = i
            · subst c
              by_cases l : v < g.length
              · rw [List.getElem?_set_self l]
                have := hg v List.mem_cons_self g[v] (by simp [l])
                simp [l, this]
              · rw [List.getElem?_eq_none (by rw [List.length_set]; omega), List.getElem?_eq_none (by omega)]
            · rw [List.getElem?_set_ne c]
        exact ww vs _ fun i hi s hs => Classical.byContradiction fun n => wipeG_get hs n hi
      refine ⟨b', ⟨hM', hpx'⟩, Fz3, g3, r4, ?_⟩
      unfold keep? at h2
      cases hc : fc g3 with
      | no => rw [hc] at h2; exact h2.elim
      | ex ee g4 => rw [hc] at h2; exact h2.elim
      | ok kk g4 =>
        rw [hc] at h2
        simp only at h2
        split at h2
        rotate_left
        · exact h2.elim
        rename_i lg4
        intro kx H4 Fz4 r5 e5 hkx
        have hkx' : kx = kk := hkx
        subst hkx'
        cases kx with
        | false =>
          simp only [Bool.false_eq_true, if_false] at h2 ⊢
          obtain ⟨b1, b2, b3, b4⟩ := back r5
          exact ⟨Fz4, _, acc, av, b1, wipe2 _, e2.trans (gt.ext.trans e5), b3, b2, b4, RepL.mono (gt.ext.trans e5) _ _ rep2, by omega, h2.weak (gt.ext.trans e5)⟩
        | true =>
          simp only [if_true] at h2 ⊢
          refine ⟨b', ⟨hM', hpx'⟩, Fz4, g4, r5, ?_⟩
          cases he : fe g4 with
          | no => rw [he] at h2; exact h2.elim
          | ex ee g5 => rw [he] at h2; exact h2.elim
          | ok yd g5 =>
            rw [he] at h2
            simp only at h2
            split at h2
            rotate_left
            · exact h2.elim
            intro yv H5 Fz5 r6 e6 repy
            have repy' : Rep b.M Fz5 H5 yd yv := by rw [← hM']; exact repy
            obtain ⟨b1, b2, b3, b4⟩ := back r6
            have exA : Ext Fz2 H2 Fz5 H5 := gt.ext.trans (e5.trans e6)
            obtain ⟨b5, b6⟩ := b1.updNew (u' := .lst (av ++ [yv])) hD0 b3 b4 b2 trivial
            have lav : acc.length = av.length := RepL.length rep2
            refine ⟨av, b2, by omega, Fz5, _, acc ++ [yd], av ++ [yv], b5, wipe2 _, e2.trans (exA.trans b6), b3, upd_same, b1.notA_upd b4, RepL.append (RepL.mono (exA.trans b6) _ _ rep2) (RepL.cons (Rep.mono b6 _ _ repy') RepL.nil), by simp; omega, h2.weak (exA.trans b6)⟩
  · have e : k = items.length := by omega
    subst e
    rw [List.drop_length] at h2
    refine .inl ⟨stop, ?_⟩
    have r5 : BRel b Fz2 g2 σ H2 := by
      have z := r2
      rw [← w2] at z ⊢
      exact z.unwipe hx (wipe_length ..) fun i hi => wipe_out hi
    refine h2.ok r5 .refl ⟨D, av, rfl, hD0, nf2, hD2, fun i o => ?_, rep2⟩
    rcases o with o | o
    rotate_left
    · obtain ⟨dss, a, ws, h1, h2, h3⟩ := o
      have ni : i ∉ vs := wipeG_get (g := g2) (by rw [w2]; exact h1) fun z => by cases z
      exact no2 i (.inr ⟨dss, a, ws, h1, by rw [wipe_out ni]; exact h2, h3⟩)
    obtain ⟨⟨s, e, w⟩, q⟩ := o
    refine no2 i (.inl ⟨⟨s, e, w⟩, ?_⟩)
    rw [wipe_out]
    · exact q
    · rw [← w2] at e
      exact wipeG_get e fun z => by rw [z] at w; cases w
theorem pf_lc {vs : List Nat} (hx : b.px = none) (hc : X.calm = true) (hN : X.N.Nodup) (hi : PI X tg iter (tI b W fi)) (ok : BlkOk X.N X.env.scope scope own) (hvs : own.map (·.2) = vs) (hta : ∀ i ∈ ta, i ∈ vs)
    (hg : ∀ (s : Shared) (H : Hp) (C : Addr) (cl : List (Str × Addr)) (fp : List Addr) (b' : B), b'.M = b.M → b'.px = none → PG (X.blk s H scope (compEnvC scope cl C X.env) fp) tg (gD b' ta t))
    (ht : ∀ (s : Shared) (H : Hp) (C : Addr) (cl : List (Str × Addr)) (fp : List Addr) (b' : B), b'.M = b.M → b'.px = none → PTs (X.blk s H scope (compEnvC scope cl C X.env) fp) ifs (tBo b' W0 fc))
    (he : ∀ (s : Shared) (H : Hp) (C : Addr) (cl : List (Str × Addr)) (fp : List Addr) (b' : B), b'.M = b.M → b'.px = none → PE (X.blk s H scope (compEnvC scope cl C X.env) fp) elt (tE b' W0 fe)) (hs : ∀ x, foldedSetIterable iter X.env x = pure x := by intro _; rfl) :
    PE X (.ListComp elt [⟨tg, iter, ifs, 0⟩] scope pos) (tFr b W (lcF fi t fc fe vs)) :=
  pe_mono (pe_lc (g := fun v σ' H' Q' => ∃ b', (b'.M = b.M ∧ b'.px = none) ∧ gD b' ta t v σ' H' Q') (tt := fun σ' H' Q' => ∃ b', (b'.M = b.M ∧ b'.px = none) ∧ tBo b' W0 fc σ' H' Q') (te := fun σ' H' Q' => ∃ b', (b'.M = b.M ∧ b'.px = none) ∧ tE b' W0 fe σ' H' Q') hc hN hi ok (fun s H C cl fp => ⟨fun pins s' σ H' v u Q I r ⟨b', hb, hw⟩ => (hg s H C cl fp b' hb.1 hb.2).run pins s' σ H' v u Q I r hw⟩) (fun s H C cl fp => ⟨fun pins s' σ H' Q I ⟨b', hb, hw⟩ => (ht s H C cl fp b' hb.1 hb.2).run pins s' σ H' Q I hw⟩)
    (fun s H C cl fp => ⟨fun pins s' σ H' Q I ⟨b', hb, hw⟩ => (he s H C cl fp b' hb.1 hb.2).run pins s' σ H' Q I hw⟩) hs) fun σ H Q h => by
    subst hvs
    exact lc_run hx hta h
/-- name = [..] on one line -/
theorem pts_asgLc {vs : List Nat} {i : Nat} {y : Str} {py spos : Pos} (hx : b.px = none) (hnp : b.np ≤ i) (hc : X.calm = true) (hN : X.N.Nodup) (hy : X.N[i]? = some y) (hyl : X.env.scope.names.lookup y = some .local)
    (hsw : swapsWith (.ListComp elt [⟨tg, iter, ifs, 0⟩] scope pos) (some (.Name y py)) spos.line X.env = pure true) (hi : PI X tg iter (tI b W fi)) (ok : BlkOk X.N X.env.scope scope own) (hvs : own.map (·.2) = vs) (hta : ∀ i ∈ ta, i ∈ vs)
    (hg : ∀ (s : Shared) (H : Hp) (C : Addr) (cl : List (Str × Addr)) (fp : List Addr) (b' : B), b'.M = b.M → b'.px = none → PG (X.blk s H scope (compEnvC scope cl C X.env) fp) tg (gD b' ta t))
    (ht : ∀ (s : Shared) (H : Hp) (C : Addr) (cl : List (Str × Addr)) (fp : List Addr) (b' : B), b'.M = b.M → b'.px = none → PTs (X.blk s H scope (compEnvC scope cl C X.env) fp) ifs (tBo b' W0 fc))
    (he : ∀ (s : Shared) (H : Hp) (C : Addr) (cl : List (Str × Addr)) (fp : List Addr) (b' : B), b'.M = b.M → b'.px = none → PE (X.blk s H scope (compEnvC scope cl C X.env) fp) elt (tE b' W0 fe)) (hs : ∀ x, foldedSetIterable iter X.env x = pure x := by intro _; rfl) :
    PS X (.Assign [.Name y py] (.ListComp elt [⟨tg, iter, ifs, 0⟩] scope pos) spos) (tSt b W [i] (asgO i (lcF fi t fc fe vs))) :=
  ps_mono (ps_setLc (g := fun v σ' H' Q' => ∃ b', (b'.M = b.M ∧ b'.px = none) ∧ gD b' ta t v σ' H' Q') (tt := fun σ' H' Q' => ∃ b', (b'.M = b.M ∧ b'.px = none) ∧ tBo b' W0 fc σ' H' Q') (te := fun σ' H' Q' => ∃ b', (b'.M = b.M ∧ b'.px = none) ∧ tE b' W0 fe σ' H' Q') hc hN hy hyl hsw hi ok (fun s H C cl fp => ⟨fun pins s' σ H' v u Q I r ⟨b', hb, hw⟩ => (hg s H C cl fp b' hb.1 hb.2).run pins s' σ H' v u Q I r hw⟩) (fun s H C cl fp => ⟨fun pins s' σ H' Q I ⟨b', hb, hw⟩ => (ht s H C cl fp b' hb.1 hb.2).run pins s' σ H' Q I hw⟩)
    (fun s H C cl fp => ⟨fun pins s' σ H' Q I ⟨b', hb, hw⟩ => (he s H C cl fp b' hb.1 hb.2).run pins s' σ H' Q I hw⟩) hs) fun D σ H ⟨Fz, g, r, h⟩ => by
    subst hvs
    refine lc_run hx hta (tG_st r h fun d x' g1 Fz1 H1 r1 _ rep h1 => ?_)
    obtain ⟨p, vs, rfl, h0, nf, hu, ho, rr⟩ := rep
    exact h1 _ H1 Fz1 (r1.setO (PxOk.of hx i) hnp h0 nf hu ho ⟨vs, rfl, rr⟩) .set
end
end DL

set_option Elab.async false
set_option linter.all false
set_option maxRecDepth 100000
set_option maxHeartbeats 4000000
/-! Den9: chains, slices, constants of the module, own lists changed, calls with keywords or without arguments. -/
namespace DL
open PySem L2 PySem.Spec PyProof.Rows

section
variable {X : Cx} {b : B} {W : WX} {e e1 e2 e3 : Expr} {es : List Expr} {f f1 f2 f3 fi fv : FE} {pos p : Pos}
/-! ### chains -/
theorem tE_chain {r r' : R2} {o o' : D → D → Option D} (ho : OpT b.M r o) (ho' : OpT b.M r' o') {σ : L2.St} {H : Hp} {Q : VK} (h : tE b W (chF o o' f1 f2 f3) σ H Q) : tChain r r' (tE b W f1) (tE b W f2) (tE b W f3) σ H Q := by
  obtain ⟨Fz, g, r0, h⟩ := h
  refine tG_seq r0 h fun d x g1 Fz1 H1 r1 e1 rep1 h1 => ?_
  refine tG_seq r1 h1 fun e y g2 Fz2 H2 r2 e2 rep2 h2 => ?_
  cases hz : o d e with
  | none => rw [hz] at h2; exact h2.elim
  | some z =>
    rw [hz] at h2
    simp only [opt_some, R.bd_ok] at h2
    refine ho r2.gr.dom (Rep.mono e2 d x rep1).t rep2.t hz fun v Fz' H' gr rv => ?_
    cases z with
    | bl c =>
      refine ⟨c, rep_bl' rv, ?_⟩
      cases c with
      | false =>
        simp only [Bool.false_eq_true, if_false] at h2 ⊢
        exact h2.ok (r2.grow gr) gr.ext rep_bl
      | true =>
        simp only [if_true] at h2 ⊢
        refine tG_seq (r2.grow gr) (h2.weak gr.ext) fun k w g4 Fz4 H4 r4 e4 rep4 h4 => ?_
        obtain ⟨z', ez, h5⟩ := h4.opt
        exact ho' r4.gr.dom (Rep.mono (gr.ext.trans e4) e y rep2).t rep4.t ez fun v Fz' H' gr rv => h5.ok (r4.grow gr) gr.ext rv
    | _ => exact h2.elim
theorem pd_chain {op op' : CmpOp} {r r' : R2} {o o' : D → D → Option D} (hr : OpR X (compareOp op) r) (hr' : OpR X (compareOp op') r') (ho : OpT b.M r o) (ho' : OpT b.M r' o') (h1 : PE X e1 (tE b W f1)) (h2 : PE X e2 (tE b W f2)) (h3 : PE X e3 (tE b W f3))
    (hm : lastMarks [op, op'] [e2, e3] = false := by with_unfolding_all rfl) : PE X (.Compare e1 [op, op'] [e2, e3] pos) (tE b W (chF o o' f1 f2 f3)) :=
  pe_mono (pe_chain hr hr' h1 h2 h3 hm) fun _ _ _ h => tE_chain ho ho' h
theorem pt_chainD {op op' : CmpOp} {r r' : R2} {o o' : D → D → Option D} (hr : OpR X (compareOp op) r) (hr' : OpR X (compareOp op') r') (ho : OpT b.M r o) (ho' : OpT b.M r' o') (h1 : PE X e1 (tE b W f1)) (h2 : PE X e2 (tE b W f2)) (h3 : PE X e3 (tE b W f3))
    (hm : lastMarks [op, op'] [e2, e3] = false := by with_unfolding_all rfl) : PT X (.Compare e1 [op, op'] [e2, e3] pos) (tBo b W (tstF (chF o o' f1 f2 f3))) :=
  pt_mono (pt_chain hr hr' h1 h2 h3 hm) fun σ H Q q => by
    obtain ⟨Fz, g, r0, h⟩ := q
    have z : tE b W (chF o o' f1 f2 f3) σ H (fun x H' => ∃ k, x = V.bl k ∧ Q k H') := tG_seq r0 h fun d x g1 Fz1 H1 r1 e1 rep1 h1 => by
      cases d with
      | bl c =>
        have rep' : x = .bl c := rep_bl' rep1
        exact ⟨c, rep', h1.ok r1 .refl rfl⟩
      | _ => exact h1.elim
    exact tE_chain ho ho' z

/-! ### slices -/
def partF (f : FE) : Sg → R (Option Int) := fun g => (f g).bd fun d g1 => match d with
  | .int i => .ok (some i) g1
  | _ => .no
def noPart : Sg → R (Option Int) := fun g => .ok none g
def bO : Bear (Option Int) (Option Int) := fun _ _ _ _ c x => x = c
variable (b W) in
abbrev tO (f : Sg → R (Option Int)) : TO := tG b W bO f
theorem po_mono {e : Option Expr} {t t' : TO} (h : PO X e t) (i : ∀ σ H Q, t' σ H Q → t σ H Q) : PO X e t' := ⟨fun pins s σ H Q I hw => h.run pins s σ H Q I (i _ _ _ hw)⟩
theorem pod_none : PO X none (tO b W noPart) := po_mono po_none fun σ H Q ⟨Fz, g, r, h⟩ => h none H Fz r .refl rfl
theorem pod_some (h : PE X e (tE b W f)) : PO X (some e) (tO b W (partF f)) := po_mono (po_some h) fun σ H Q ⟨Fz, g, r, q⟩ => tG_seq r q fun d x g1 Fz1 H1 r1 e1 rep h1 => by
  cases d with
  | int i => exact ⟨i, rep_int' rep, h1.ok r1 .refl rfl⟩
  | _ => exact h1.elim
def cut (xs : List D) (lo hi : Option Int) : List D := (xs.drop (HT.sIx xs.length 0 lo)).take (HT.sIx xs.length xs.length hi - HT.sIx xs.length 0 lo)
theorem cut_rep {M : MM} {Fz : Fzn} {H : Hp} {ds : List D} {vs : List V} (r : RepL M Fz H ds vs) (lo hi : Option Int) : RepL M Fz H (cut ds lo hi) (cutV vs lo hi) := by
  unfold cut cutV
  rw [RepL.length r]
  exact (r.drop _).take _
/-- a list's slice, new -/
def slcF (fa : Sg → R AV) (lo hi : Sg → R (Option Int)) : FF := fun g => (fa g).bd fun a g1 => (lo g1).bd fun l g2 => (hi g2).bd fun u g3 => match res g3 a with
  | some (.lst ds) => .ok (cut ds l u) g3
  | _ => .no
theorem pf_slc {fa : Sg → R AV} {lo hi : Option Expr} {fl fh : Sg → R (Option Int)} {p2 : Pos} (hM : b.M = ⟨X.K, X.mg⟩) (h : PE X e (tA1 b W fa)) (hl : PO X lo (tO b W fl)) (hh : PO X hi (tO b W fh)) : PE X (.Subscript e (.Slice lo hi none p2) pos) (tFr b W (slcF fa fl fh)) :=
  pe_mono (pe_slice sl_list h hl hh) fun σ H Q ⟨Fz, g, r, q⟩ => by
    refine tG_seq r q fun a x g1 Fz1 H1 r1 e1 rep1 h1 => ?_
    refine tG_seq r1 h1 fun l l' g2 Fz2 H2 r2 e2 rep2 h2 => ?_
    refine tG_seq r2 h2 fun u u' g3 Fz3 H3 r3 e3 rep3 h3 => ?_
    have el : l' = l := rep2
    have eu : u' = u := rep3
    subst el; subst eu
    cases hr : res g3 a with
    | none => rw [hr] at h3; exact h3.elim
    | some d =>
      rw [hr] at h3
      cases d with
      | lst ds =>
        have av : AVOk b σ Fz3 H3 g3 a x := rep1.mono (e2.trans e3) (resI_ok (res_I hr))
        obtain ⟨ad, vs, rfl, hq, rr⟩ := res_ok r3 av hr
        rw [hM] at hq
        refine ⟨ad, vs, rfl, hq, fun p hp => ?_⟩
        have gr : GrowTo Fz3 H3 Fz3 (upd H3 p (.lst (cutV vs l' u'))) := .alloc hp
        refine h3.ok (r3.grow gr) gr.ext ⟨p, _, rfl, r3.new0 hp, r3.notFz hp, upd_same, fun i o => ?_, cut_rep (rr.grow gr) _ _⟩
        exact (r3.notAu hp) i o
      | _ => exact h3.elim
/-- a tuple's slice, not the whole -/
def sltF (f : FE) (lo hi : Sg → R (Option Int)) : FE := fun g => (f g).bd fun a g1 => (lo g1).bd fun l g2 => (hi g2).bd fun u g3 => match a with
  | .tup ds => if HT.sIx ds.length 0 l = 0 ∧ HT.sIx ds.length ds.length u = ds.length then .no else .ok (.tup (cut ds l u)) g3
  | _ => .no
theorem pd_slt {lo hi : Option Expr} {fl fh : Sg → R (Option Int)} {p2 : Pos} (hM : b.M = ⟨X.K, X.mg⟩) (h : PE X e (tE b W f)) (hl : PO X lo (tO b W fl)) (hh : PO X hi (tO b W fh)) : PE X (.Subscript e (.Slice lo hi none p2) pos) (tE b W (sltF f fl fh)) :=
  pe_mono (pe_slice sl_tup h hl hh) fun σ H Q ⟨Fz, g, r, q⟩ => by
    refine tG_seq r q fun a x g1 Fz1 H1 r1 e1 rep1 h1 => ?_
    refine tG_seq r1 h1 fun l l' g2 Fz2 H2 r2 e2 rep2 h2 => ?_
    refine tG_seq r2 h2 fun u u' g3 Fz3 H3 r3 e3 rep3 h3 => ?_
    have el : l' = l := rep2
    have eu : u' = u := rep3
    subst el; subst eu
    cases a with
    | tup ds =>
      simp only at h3
      by_cases c : HT.sIx ds.length 0 l' = 0 ∧ HT.sIx ds.length ds.length u' = ds.length
      · rw [if_pos c] at h3; exact h3.elim
      rw [if_neg c] at h3
      have rep' : Rep b.M Fz1 H1 (.tup ds) x := rep1
      unfold Rep at rep'
      obtain ⟨ad, vs, rfl, hq, rr⟩ := rep'
      rw [hM] at hq
      have hq3 := (e2.trans e3).sqT hq
      rw [RepL.length rr] at c
      refine ⟨ad, vs, rfl, hq3, c, fun p hp => ?_⟩
      have gr : GrowTo Fz3 H3 Fz3 (upd H3 p (.tup (cutV vs l' u'))) := .alloc hp
      exact h3.ok (r3.grow gr) gr.ext (rep_tupN (cut_rep (RepL.mono ((e2.trans e3).trans gr.ext) _ _ rr) _ _) .refl upd_same)
    | _ => exact h3.elim

/-! ### constants of the module -/
theorem pd_glob {x : Str} {u : Value} {v : V} {d : D} (hg : Gl X x) (hm : X.mg x = some u) (r : RelV v u) (hr : ∀ Fz H, Rep b.M Fz H d v) (hd : (x == ("__debug__" : Str)) = false := by decide) : PE X (.Name x pos) (tE b W (cF d)) := pd_c (pe_glob hg hm r hd) hr
/-- a tuple of the module -/
theorem rep_ktup {M : MM} {a : Addr} {od : Option Addr} {its : Array Value} {n : Nat} {sl : Array (Option Value)} {ds : List D} {vs : List V} (h : M.K.lookup a = some ⟨.type "tuple", od, .seq its n, sl⟩) (hz : its.size ≤ sizeLine) (rv : Vals vs its.toList) (r : ∀ Fz H, RepL M Fz H ds vs) (Fz : Fzn) (H : Hp) : Rep M Fz H (.tup ds) (.ref a) := by
  unfold Rep
  exact ⟨a, vs, rfl, .inr ⟨_, its, n, h, rfl, rfl, hz, rv⟩, r Fz H⟩

/-! ### own lists -/
/-- xs[i] = v -/
def setS (i : Nat) (fi fv : FE) : FS := fun g => (fv g).sb fun d g1 => match gat g1 i with
  | .ow _ => (fi g1).sb fun k g2 => match k, gat g2 i with
    | .int k, .ow ds => match ixN ds.length k with
      | some j => .nx (g2.set i (.ow (ds.set j d)))
      | none => .no
    | _, _ => .no
  | _ => .no
theorem own_of {σ : L2.St} {Fz : Fzn} {H : Hp} {g : Sg} {i : Nat} {ds : List D} (r : BRel b Fz g σ H) (hg : gat g i = .ow ds) : ∃ a vs, σ[i]? = some (some (.ref a)) ∧ Own g σ i a ∧ ¬ Fz a ∧ H a = some (.lst vs) ∧ RepL b.M Fz H ds vs := by
  have hgi := gat_get hg (by intro z; cases z)
  obtain ⟨a, u, e1, nf, hu, vs, eu, rep⟩ := r.slot hgi
  subst eu
  exact ⟨a, vs, e1, ⟨⟨_, hgi, rfl⟩, e1⟩, nf, hu, rep⟩
theorem BRel.mutL {σ : L2.St} {Fz : Fzn} {H : Hp} {g : Sg} {i : Nat} {a : Addr} {ds : List D} {vs : List V} (r : BRel b Fz g σ H) (o : Own g σ i a) (rr : RepL b.M Fz H ds vs) (nf : ¬ Fz a) (hu : ∃ ws, H a = some (.lst ws)) :
    BRel b Fz (g.set i (.ow ds)) σ (upd H a (.lst vs)) ∧ Ext Fz H Fz (upd H a (.lst vs)) := by
  refine ⟨r.mut o ⟨vs, rfl, rr⟩, fun _ q => q, fun x o hx q => ?_⟩
  rw [upd_ne]
  · exact hx
  · intro z
    subst z
    obtain ⟨ws, hw⟩ := hu
    rcases q with q | q
    · exact nf q
    · rw [hw] at hx; cases hx; exact q trivial
theorem pts_set {i : Nat} {o : Expr} {spos : Pos} (ho : PE X o (tVar i)) (h1 : PE X e1 (tE b W fi)) (h2 : PE X e2 (tE b W fv))
    (ha : ∀ v, assign (.Subscript o e1 pos) X.env v = (do
      let ov ← holding [v] (eval o X.env)
      let iv ← holding [v, ov] (eval e1 X.env)
      standAt pos
      holding [v, ov, iv] (setItem ov iv v)
      release [v, ov, iv] []) := by intro _; rfl) (hs : swapsWithSole [.Subscript o e1 pos] e2 spos.line X.env = pure false := by rfl) (hw : swappedStores [.Subscript o e1 pos] e2 X.env = pure none := by rfl)
    (h3 : (assignEach [.Subscript o e1 pos] X.env).map (·.2) = [assign (.Subscript o e1 pos) X.env] := by rfl) : PS X (.Assign [.Subscript o e1 pos] e2 spos) (tSt b W [] (setS i fi fv)) :=
  ps_mono (ps_asg h2 (pg_sub ho h1 set_list ha) hs hw h3) fun D σ H ⟨Fz, g, r, h⟩ => by
    refine tG_st r h fun d x g1 Fz1 H1 r1 ex1 rep h1 => ?_
    cases hg1 : gat g1 i with
    | ow ds0 =>
      rw [hg1] at h1
      simp only at h1
      obtain ⟨a, vs0, ea, _, _, _, _⟩ := own_of r1 hg1
      refine ⟨.ref a, ea, ?_⟩
      refine tG_st r1 h1 fun k y g2 Fz2 H2 r2 ex2 repk h2 => ?_
      cases k with
      | int k =>
        cases hg2 : gat g2 i with
        | ow ds =>
          rw [hg2] at h2
          simp only at h2
          obtain ⟨a2, vs, ea2, ow2, nf, hu, rr⟩ := own_of r2 hg2
          rw [ea] at ea2
          cases ea2
          cases hj : ixN ds.length k with
          | none => rw [hj] at h2; exact h2.elim
          | some j =>
            rw [hj] at h2
            simp only at h2
            obtain ⟨r3, ex3⟩ := r2.mutL ow2 (rr.set j (Rep.mono ex2 d x rep)) nf ⟨_, hu⟩
            exact ⟨a, vs, k, j, rfl, rep_int' repk, hu, by rw [← RepL.length rr]; exact hj, h2 _ _ _ r3 ⟨ex3, fun _ _ => rfl⟩⟩
        | _ => rw [hg2] at h2; exact h2.elim
      | _ => exact h2.elim
    | _ => rw [hg1] at h1; exact h1.elim
/-- methods of own lists -/
def apF (i : Nat) (f : FE) : FE := fun g => match gat g i with
  | .ow _ => (f g).bd fun d g1 => match gat g1 i with
    | .ow ds => if ds.length < sizeLine then .ok .non (g1.set i (.ow (ds ++ [d]))) else .no
    | _ => .no
  | _ => .no
theorem one_ofA {α : Type} {xs : List α} {a c : α} (h : xs[0]? = some a) (h1 : xs.length = 1) : xs = [a] := by
  match xs, h1 with
  | [z], _ => simpa using h
theorem pd_append {i : Nat} {o : Expr} {apos : Pos} (ho : PE X o (tVar i)) (h1 : PE X e (tE b W f)) (hbase : attributeBase o "append" X.env (eval o X.env) = eval o X.env := by rfl)
    (hfew : ((backTo pos (starEach (e :: []) X.env)).all (fun x => !x.1) && (backToKw pos (keywordEach [] X.env)).all (fun x => x.1.isSome)
      && decide ((e :: []).length + ([] : List Keyword).length + (if ([] : List Keyword).isEmpty then 0 else 1) < 30)) = true := by rfl)
    (hline : (apos.endLine == pos.line) = true := by rfl) (hs : starEach (e :: []) X.env = (false, eval e X.env) :: starEach [] X.env := by rfl) (hplain : (backTo pos (starEach [] X.env)).any (·.1) = false := by rfl) :
    PE X (.Call (.Attribute o "append" apos) [e] [] pos) (tE b W (apF i f)) :=
  pe_mono (pe_bm PySem.F.plainAttrs_list PySem.F.slot_list_append PySem.F.type_list_append mt_append ho (pa_cons h1 pa_nil hs) hbase hfew hline hs hplain) fun σ H Q ⟨Fz, g, r, h⟩ => by
    unfold apF at h
    cases hg : gat g i with
    | ow ds0 =>
      rw [hg] at h
      simp only at h
      obtain ⟨a, vs0, ea, _, _, hu0, _⟩ := own_of r hg
      refine ⟨.ref a, ea, .inl ⟨rfl, _, .inl (.inl hu0)⟩, ?_⟩
      refine tG_seq r h fun d x g1 Fz1 H1 r1 ex1 rep h1 => ?_
      cases hg1 : gat g1 i with
      | ow ds =>
        rw [hg1] at h1
        simp only at h1
        by_cases c : ds.length < sizeLine
        · rw [if_pos c] at h1
          obtain ⟨a2, vs, ea2, ow2, nf, hu, rr⟩ := own_of r1 hg1
          rw [ea] at ea2
          cases ea2
          obtain ⟨r3, ex3⟩ := r1.mutL ow2 (rr.append (RepL.cons rep RepL.nil)) nf ⟨_, hu⟩
          exact ⟨a, vs, x, rfl, rfl, hu, by rw [← RepL.length rr]; exact c, h1.ok r3 ex3 rep_non⟩
        · rw [if_neg c] at h1; exact h1.elim
      | _ => rw [hg1] at h1; exact h1.elim
    | _ => rw [hg] at h; exact h.elim
def popF (i : Nat) : FE := fun g => match gat g i with
  | .ow ds => match ds[ds.length - 1]? with
    | some d => .ok d (g.set i (.ow ds.dropLast))
    | none => .no
  | _ => .no
theorem repL_dropLast {M : MM} {Fz : Fzn} {H : Hp} {ds : List D} {vs : List V} (r : RepL M Fz H ds vs) : RepL M Fz H ds.dropLast vs.dropLast := by
  rw [List.dropLast_eq_take, List.dropLast_eq_take, RepL.length r]
  exact r.take _
theorem pd_pop {i : Nat} {o : Expr} {apos : Pos} (ho : PE X o (tVar i)) (hbase : attributeBase o "pop" X.env (eval o X.env) = eval o X.env := by rfl) (hline : (apos.endLine == pos.line) = true := by rfl) :
    PE X (.Call (.Attribute o "pop" apos) [] [] pos) (tE b W (popF i)) :=
  pe_mono (pe_bm0 PySem.F.plainAttrs_list PySem.F.slot_list_pop PySem.F.type_list_pop mt_pop ho hbase hline) fun σ H Q ⟨Fz, g, r, h⟩ => by
    unfold popF at h
    cases hg : gat g i with
    | ow ds =>
      rw [hg] at h
      simp only at h
      obtain ⟨a, vs, ea, ow, nf, hu, rr⟩ := own_of r hg
      cases hd : ds[ds.length - 1]? with
      | none => rw [hd] at h; exact h.elim
      | some d =>
        rw [hd] at h
        obtain ⟨y, ey, ry⟩ := rr.get hd
        obtain ⟨r3, ex3⟩ := r.mutL ow (repL_dropLast rr) nf ⟨_, hu⟩
        exact ⟨.ref a, ea, .inl ⟨rfl, _, .inl (.inl hu)⟩, a, vs, y, rfl, rfl, hu, by rw [← RepL.length rr]; exact ey, h.ok r3 ex3 (Rep.mono ex3 d y ry)⟩
    | _ => rw [hg] at h; exact h.elim
/-- xs.extend(new list) -/
def exF (i : Nat) (f : FF) : FE := fun g => match gat g i with
  | .ow _ => (f g).bd fun es g1 => match gat g1 i with
    | .ow ds => if ds.length + es.length ≤ sizeLine then .ok .non (g1.set i (.ow (ds ++ es))) else .no
    | _ => .no
  | _ => .no
theorem pd_extend {i : Nat} {o : Expr} {apos : Pos} {f : FF} (ho : PE X o (tVar i)) (h1 : PE X e (tFr b W f)) (hbase : attributeBase o "extend" X.env (eval o X.env) = eval o X.env := by rfl)
    (hfew : ((backTo pos (starEach (e :: []) X.env)).all (fun x => !x.1) && (backToKw pos (keywordEach [] X.env)).all (fun x => x.1.isSome)
      && decide ((e :: []).length + ([] : List Keyword).length + (if ([] : List Keyword).isEmpty then 0 else 1) < 30)) = true := by rfl)
    (hline : (apos.endLine == pos.line) = true := by rfl) (hs : starEach (e :: []) X.env = (false, eval e X.env) :: starEach [] X.env := by rfl) (hplain : (backTo pos (starEach [] X.env)).any (·.1) = false := by rfl) :
    PE X (.Call (.Attribute o "extend" apos) [e] [] pos) (tE b W (exF i f)) :=
  pe_mono (pe_bm PySem.F.plainAttrs_list PySem.F.slot_list_extend PySem.F.type_list_extend mt_extend ho (pa_cons h1 pa_nil hs) hbase hfew hline hs hplain) fun σ H Q ⟨Fz, g, r, h⟩ => by
    unfold exF at h
    cases hg : gat g i with
    | ow ds0 =>
      rw [hg] at h
      simp only at h
      obtain ⟨a, vs0, ea, _, _, hu0, _⟩ := own_of r hg
      refine ⟨.ref a, ea, .inl ⟨rfl, _, .inl (.inl hu0)⟩, ?_⟩
      refine tG_seq r h fun es x g1 Fz1 H1 r1 ex1 rep h1 => ?_
      cases hg1 : gat g1 i with
      | ow ds =>
        rw [hg1] at h1
        simp only at h1
        by_cases c : ds.length + es.length ≤ sizeLine
        · rw [if_pos c] at h1
          obtain ⟨a2, vs, ea2, ow2, nf, hu, rr⟩ := own_of r1 hg1
          rw [ea] at ea2
          cases ea2
          obtain ⟨q, ws, rfl, _, _, hq, _, rq⟩ := rep
          obtain ⟨r3, ex3⟩ := r1.mutL ow2 (rr.append rq) nf ⟨_, hu⟩
          exact ⟨a, q, vs, ws, rfl, rfl, hu, hq, by rw [← RepL.length rr, ← RepL.length rq]; exact c, h1.ok r3 ex3 rep_non⟩
        · rw [if_neg c] at h1; exact h1.elim
      | _ => rw [hg1] at h1; exact h1.elim
    | _ => rw [hg] at h; exact h.elim

/-! ### calls without arguments, with keywords -/
variable {k n : Nat} {fA : Addr} {fd : FuncData} {ps ks : List Str} {dn : Dn} {x : Str} {dvs : List V} {ds : List Value} {dfs : List D}
theorem pe_callSD0 {CX : CXT} {sp : Sp} {E : L2.St → XK} (F : FnOk X.prog X.w X.K X.mg X.base CX k fA fd ps sp) (hr : Room k X.A) (hg : Gl X x) (hm : X.mg x = some (.ref fA)) (hk : PySem.W.keepIn X.K (.ref fA) = true) (hb : Binds X.K fd ps ds) (hd : Vals dvs ds) (hx : ∀ σ, PassesAt CX X σ (E σ))
    (hdb : (x == ("__debug__" : Str)) = false := by decide) : PE X (.Call (.Name x p) [] [] pos) (tCallSD sp dvs E tNil) := by
  refine ⟨fun pins s σ H Q I h => ?_⟩
  refine wpAny_Call_Name_kw (ld_glob I hg hm ?_ hdb)
  exact PySem.W.callWith_K0 I.kIn hk (run_fnSD (us := []) F hr hb hd (hx σ) I .nil h)
theorem pd_call0 (hM : b.M = ⟨X.K, X.mg⟩) (tk : Takes X W) (F : FnOk X.prog X.w X.K X.mg X.base (L2.CX X.prog X.w) k fA fd ps (spD ⟨X.K, X.mg⟩ n dn)) (hr : Room k X.A) (hg : Gl X x) (hm : X.mg x = some (.ref fA)) (hk : PySem.W.keepIn X.K (.ref fA) = true)
    (hb : Binds X.K fd ps ds) (hd : Vals dvs ds) (hdf : ∀ M Fz H, RepL M Fz H dfs dvs) (hdb : (x == ("__debug__" : Str)) = false := by decide) : PE X (.Call (.Name x p) [] [] pos) (tE b W (callF n dn dfs nilV)) :=
  pe_mono (pe_callSD0 F hr hg hm hk hb hd (fun σ => passAt tk σ) hdb) fun σ H Q h => by
    have z := tE_call (hdf b.M) h
    rw [hM] at z
    obtain ⟨Fz, g, r, q⟩ := z
    exact q [] H Fz r .refl rfl
theorem pf_call0 (hM : b.M = ⟨X.K, X.mg⟩) (tk : Takes X W) (F : FnOk X.prog X.w X.K X.mg X.base (L2.CX X.prog X.w) k fA fd ps (spD ⟨X.K, X.mg⟩ n dn)) (hr : Room k X.A) (hg : Gl X x) (hm : X.mg x = some (.ref fA)) (hk : PySem.W.keepIn X.K (.ref fA) = true)
    (hb : Binds X.K fd ps ds) (hd : Vals dvs ds) (hdf : ∀ M Fz H, RepL M Fz H dfs dvs) (hdb : (x == ("__debug__" : Str)) = false := by decide) : PE X (.Call (.Name x p) [] [] pos) (tFr b W (callFF n dn dfs nilV)) :=
  pe_mono (pe_callSD0 F hr hg hm hk hb hd (fun σ => passAt tk σ) hdb) fun σ H Q h => by
    have z := tF_call (hdf b.M) h
    rw [hM] at z
    obtain ⟨Fz, g, r, q⟩ := z
    exact q [] H Fz r .refl rfl

/-! keywords -/
inductive KQ where
  | p (i : Nat) | k (i : Nat) | d (i : Nat)
def KQ.get {α : Type} (us its ws : List α) : KQ → Option α
  | .p i => us[i]?
  | .k i => ws[i]?
  | .d i => its[i]?
def pickG {α : Type} (us its ws : List α) : List KQ → List α
  | [] => []
  | q :: qs => match q.get us its ws with
    | some a => a :: pickG us its ws qs
    | none => pickG us its ws qs
theorem vals_get {vs : List V} {us : List Value} (r : Vals vs us) (i : Nat) : (∃ v u, vs[i]? = some v ∧ us[i]? = some u ∧ RelV v u) ∨ (vs[i]? = none ∧ us[i]? = none) := by
  by_cases h : i < vs.length
  · have e : vs[i]? = some vs[i] := by simp [h]
    obtain ⟨u, hu, ru⟩ := r.get e
    exact .inl ⟨_, u, e, hu, ru⟩
  · exact .inr ⟨List.getElem?_eq_none (by omega), List.getElem?_eq_none (by rw [← r.length]; omega)⟩
theorem pick_rel {vs ds zs : List V} {us its ws : List Value} (r1 : Vals vs us) (r2 : Vals ds its) (r3 : Vals zs ws) : ∀ qs : List KQ, Vals (pickG vs ds zs qs) (pickG us its ws qs)
  | [] => .nil
  | q :: qs => by
    have ih := pick_rel r1 r2 r3 qs
    unfold pickG
    cases q with
    | p i => rcases vals_get r1 i with ⟨v, u, h1, h2, h3⟩ | ⟨h1, h2⟩ <;> simp only [KQ.get, h1, h2] <;> first | exact .cons h3 ih | exact ih
    | k i => rcases vals_get r3 i with ⟨v, u, h1, h2, h3⟩ | ⟨h1, h2⟩ <;> simp only [KQ.get, h1, h2] <;> first | exact .cons h3 ih | exact ih
    | d i => rcases vals_get r2 i with ⟨v, u, h1, h2, h3⟩ | ⟨h1, h2⟩ <;> simp only [KQ.get, h1, h2] <;> first | exact .cons h3 ih | exact ih
theorem FunD.kb {K : PySem.W.Frag} {x qual : Str} {params : Arguments} {body : List Stmt} {scope : Scope} {dvs : List V} {f : Addr} {fd : FuncData} {ps : List Str} (F : FunD K x qual params body scope dvs [] f fd) (n : Nat) (ks : List Str) (qs : List KQ) (hd : dvs ≠ [])
    (h : ∀ (T : Addr) (kV doc pm : Value) (an : Option Addr) (cdv ct : Value) (us its ws : List Value), us.length = n → its.length = dvs.length → ws.length = ks.length →
      ∃ k, bindArgs (PySem.W.fnOf x qual params body scope (.ref T) kV doc pm an cdv ct) ⟨us, ks.zip ws⟩ = seqItems? (.ref T) >>= k ∧ k (some its.toArray) = pure (ps.zip (pickG us its ws qs))) :
    ∃ its : List Value, KBn K fd ps n ks (fun us ws => pickG us its ws qs) (fun vs zs => pickG vs dvs zs qs) := by
  obtain ⟨oc, od, dV, kV, doc, pm, an, cdv, ct, osl, rfl, lk, hcd, hD, hK⟩ := F.ex
  rcases hD with ⟨e, _⟩ | ⟨_, T, o, its, m, rfl, lT, oT, rT⟩
  · exact absurd e hd
  · refine ⟨its, ⟨fun s us ws X l1 l2 => ?_, fun r1 r2 => pick_rel r1 rT r2 qs⟩⟩
    obtain ⟨k, e1, e2⟩ := h T kV doc pm an cdv ct us its ws l1 rT.length.symm l2
    refine BindsTo.of_looks fun M => ?_
    rw [e1]
    exact looks_items X lT oT (PySem.W.Looks.of_pure e2)
def tCallNS (n m : Nat) (sp : Sp) (gV : List V → List V → List V) (E : L2.St → XK) (t tk : TA) : TE := fun σ H Q => t σ H fun vs H1 => tk σ H1 fun zs H2 => vs.length = n ∧ zs.length = m ∧ sp (gV vs zs) H2 Q (E σ)
variable {g g0 : List Value → List Value → List Value} {gV : List V → List V → List V} {kws : List Keyword} {fk : FV} {qs : List KQ}
theorem run_fnNS {CX : CXT} {sp : Sp} {E : L2.St → XK} {pins : List (Addr × Obj)} {σ : L2.St} {H : Hp} {s : Shared} {Q : VK} {us ws : List Value} {vs zs : List V} (F : FnOk X.prog X.w X.K X.mg X.base CX k fA fd ps sp) (hr : Room k X.A) (hb : KBn X.K fd ps n ks g gV) (hx : PassesAt CX X σ (E σ))
    (I : Inv X pins σ H s) (r : Vals vs us) (rz : Vals zs ws) (l1 : vs.length = n) (l2 : zs.length = ks.length) (h : sp (gV vs zs) H Q (E σ)) : wpAny (model X.prog X.w) X.A (call (.ref fA) us (ks.zip ws)) (EP X pins σ Q) X.xe s := by
  have r2 := hb.rel r rz
  refine wpAny_call (codeAny_mono (F.run X.A X.stack s H ⟨us, ks.zip ws⟩ (g us ws) (gV vs zs) Q (E σ) hr I.env0 (hb.to s us ws I.kIn (r.length.symm.trans l1) (rz.length.symm.trans l2)) r2 h) fun r s' hq => ?_)
  cases r with
  | error e => exact hx pins H s e s' I hq
  | ok fl =>
    cases fl with
    | ret u => exact I.after hq
    | next => exact False.elim hq
    | brk => exact False.elim hq
    | cont => exact False.elim hq
theorem pe_callNS {CX : CXT} {sp : Sp} {E : L2.St → XK} {t tk : TA} (F : FnOk X.prog X.w X.K X.mg X.base CX k fA fd ps sp) (hr : Room k X.A) (hg : Gl X x) (hm : X.mg x = some (.ref fA)) (hk : PySem.W.keepIn X.K (.ref fA) = true) (hb : KBn X.K fd ps n ks g gV) (hx : ∀ σ, PassesAt CX X σ (E σ))
    (ha : PA X (e :: es) t) (hkw : PK X kws tk) (hall : (backToKw pos (keywordEach kws X.env)).all (·.1.isSome) = true := by rfl) (hks : (backToKw pos (keywordEach kws X.env)).filterMap (·.1) = ks := by rfl)
    (hdb : (x == ("__debug__" : Str)) = false := by decide) (he : starEach (e :: es) X.env = (false, eval e X.env) :: starEach es X.env := by rfl)
    (hpl : ((backTo pos (starEach (e :: es) X.env)).any (·.1) || (backToKw pos (keywordEach kws X.env)).any (·.1.isNone)) = false := by rfl) :
    PE X (.Call (.Name x p) (e :: es) kws pos) (tCallNS n ks.length sp gV E t tk) := by
  refine ⟨fun pins s σ H Q I h => ?_⟩
  refine wpAny_Call_Name_kw (ld_glob I hg hm ?_ hdb)
  refine PySem.W.callWith_KW (h₀ := X.base) I.ok.mod.kin hk hall (thn (ha.run pos pins s σ H _ I h) fun us s1 ⟨vs, H1, I1, r, q⟩ => ?_) hpl he
  refine thn (hkw.run pos pins s1 σ H1 _ I1 q) fun ws s2 ⟨zs, H2, I2, rz, l1, l2, q2⟩ => ⟨I2.kIn, ?_⟩
  rw [hks]
  exact run_fnNS F hr hb (hx σ) I2 r rz l1 l2 q2
/-- the keywords' values -/
theorem pkv_nil : PK X [] (tAv b W nilV) := ⟨fun pos pins s σ H Q I ⟨Fz, g, r, h⟩ => pk_nil.run pos pins s σ H Q I (h [] H Fz r .refl rfl)⟩
theorem pkv_cons {nm : Option Str} {kpos : Pos} {f : Sg → R AV} {fr : FV} (h1 : PE X e (tA1 b W f)) (h2 : PK X kws (tAv b W fr)) : PK X (⟨nm, e, kpos⟩ :: kws) (tAv b W (consV f fr)) :=
  ⟨fun pos pins s σ H Q I ⟨Fz, g, r, h⟩ => (pk_cons h1 h2).run pos pins s σ H Q I (tG_seq r h fun a x g1 Fz1 H1 r1 e1 av h1 => tG_seq r1 h1 fun as xs g2 Fz2 H2 r2 e2 av2 h2 => by
    by_cases c : resI g2 a = true
    · rw [if_pos c] at h2
      exact h2.ok r2 .refl ⟨x, xs, rfl, av.mono e2 (resI_ok c), av2⟩
    · rw [if_neg c] at h2; exact h2.elim)⟩
def callKF (n n1 m : Nat) (dn : Dn) (qs : List KQ) (dfs : List D) (fa fk : FV) : FE := fun g => (fa g).bd fun as g1 => (fk g1).bd fun ks g2 => if as.length = n1 ∧ ks.length = m ∧ as.all (resI g2) = true then callR n dn (pickG as (dfs.map AV.d) ks qs) g2 else .no
theorem avs_mono {σ : L2.St} {Fz Fz' : Fzn} {H H' : Hp} {g g' : Sg} (e : Ext Fz H Fz' H') : ∀ {as : List AV} {xs : List V}, AVsOk b σ Fz H g as xs → as.all (resI g') = true → AVsOk b σ Fz' H' g' as xs
  | [], _, h, _ => h
  | a :: as, xs, ⟨x, r, h1, h2, h3⟩, c => by
    rw [List.all_cons, Bool.and_eq_true] at c
    exact ⟨x, r, h1, h2.mono e (resI_ok c.1), avs_mono e h3 c.2⟩
theorem avs_at {σ : L2.St} {Fz : Fzn} {H : Hp} {g : Sg} {as : List AV} {xs : List V} (h : AVsOk b σ Fz H g as xs) (i : Nat) : (∃ a x, as[i]? = some a ∧ xs[i]? = some x ∧ AVOk b σ Fz H g a x) ∨ (as[i]? = none ∧ xs[i]? = none) := by
  by_cases hi : i < as.length
  · have e : as[i]? = some as[i] := by simp [hi]
    obtain ⟨x, ex, ox⟩ := avs_get h e
    exact .inl ⟨_, x, e, ex, ox⟩
  · exact .inr ⟨List.getElem?_eq_none (by omega), List.getElem?_eq_none (by rw [← avs_len h]; omega)⟩
theorem avs_pick {σ : L2.St} {Fz : Fzn} {H : Hp} {g : Sg} {as bs cs : List AV} {xs ys zs : List V} (r1 : AVsOk b σ Fz H g as xs) (r2 : AVsOk b σ Fz H g bs ys) (r3 : AVsOk b σ Fz H g cs zs) : ∀ qs : List KQ, AVsOk b σ Fz H g (pickG as bs cs qs) (pickG xs ys zs qs)
  | [] => rfl
  | q :: qs => by
    have ih := avs_pick r1 r2 r3 qs
    unfold pickG
    cases q with
    | p i => rcases avs_at r1 i with ⟨v, u, h1, h2, h3⟩ | ⟨h1, h2⟩ <;> simp only [KQ.get, h1, h2] <;> first | exact ⟨_, _, rfl, h3, ih⟩ | exact ih
    | k i => rcases avs_at r3 i with ⟨v, u, h1, h2, h3⟩ | ⟨h1, h2⟩ <;> simp only [KQ.get, h1, h2] <;> first | exact ⟨_, _, rfl, h3, ih⟩ | exact ih
    | d i => rcases avs_at r2 i with ⟨v, u, h1, h2, h3⟩ | ⟨h1, h2⟩ <;> simp only [KQ.get, h1, h2] <;> first | exact ⟨_, _, rfl, h3, ih⟩ | exact ih
theorem pd_callK {n1 : Nat} {fv0 : FV} (hM : b.M = ⟨X.K, X.mg⟩) (tk : Takes X W) (F : FnOk X.prog X.w X.K X.mg X.base (L2.CX X.prog X.w) k fA fd ps (spD ⟨X.K, X.mg⟩ n dn)) (hr : Room k X.A) (hg : Gl X x) (hm : X.mg x = some (.ref fA)) (hk : PySem.W.keepIn X.K (.ref fA) = true)
    (hb : KBn X.K fd ps n1 ks g (fun vs zs => pickG vs dvs zs qs)) (hdf : ∀ M Fz H, RepL M Fz H dfs dvs) (ha : PA X (e :: es) (tAv b W fv0)) (hkw : PK X kws (tAv b W fk)) (hall : (backToKw pos (keywordEach kws X.env)).all (·.1.isSome) = true := by rfl) (hks : (backToKw pos (keywordEach kws X.env)).filterMap (·.1) = ks := by rfl)
    (hdb : (x == ("__debug__" : Str)) = false := by decide) (he : starEach (e :: es) X.env = (false, eval e X.env) :: starEach es X.env := by rfl)
    (hpl : ((backTo pos (starEach (e :: es) X.env)).any (·.1) || (backToKw pos (keywordEach kws X.env)).any (·.1.isNone)) = false := by rfl) :
    PE X (.Call (.Name x p) (e :: es) kws pos) (tE b W (callKF n n1 ks.length dn qs dfs fv0 fk)) :=
  pe_mono (pe_callNS F hr hg hm hk hb (fun σ => passAt tk σ) ha hkw hall hks hdb he hpl) fun σ H Q ⟨Fz, g, r, h⟩ => by
    refine tG_seq r h fun as xs g1 Fz1 H1 r1 e1 av1 h1 => ?_
    refine tG_seq r1 h1 fun cs zs g2 Fz2 H2 r2 e2 av2 h2 => ?_
    by_cases c : as.length = n1 ∧ cs.length = ks.length ∧ as.all (resI g2) = true
    · rw [if_pos c] at h2
      refine ⟨by rw [← avs_len av1]; exact c.1, by rw [← avs_len av2]; exact c.2.1, ?_⟩
      have avd : AVsOk b σ Fz2 H2 g2 (dfs.map AV.d) dvs := by
        have z := avs_app (b := b) (σ := σ) (g := g2) (as := []) (xs := []) (dfs := dfs) (dvs := dvs) rfl (hdf b.M Fz2 H2)
        simpa using z
      have z := callR_ok r2 (avs_pick (avs_mono e2 av1 c.2.2) avd av2 qs) h2
      rw [hM] at z
      exact z
    · rw [if_neg c] at h2; exact h2.elim
end
end DL

set_option Elab.async false
set_option linter.all false
set_option maxRecDepth 100000
set_option maxHeartbeats 4000000
/-! DenX: own exceptions made, raised, caught. -/
namespace DL
open PySem L2 PySem.Spec PyProof.Rows

/-! ### Base.__init__(self, ..) of an own base -/
section
variable {X : Cx} {e : Expr} {es : List Expr} {ta : TA} {x : Str} {p p1 p2 pos : Pos} {C0 : Addr} {mc : Value}
theorem pe_cinit {pl : Sem Bool} (hg : Gl X x) (hm : X.mg x = some (.ref C0)) (rd : ClX.CRead X.K C0 mc) (vV : PySem.W.findCls X.K (.ref C0) mc "__init__" = some (.val (.builtin "ValueError.__init__"))) (ha : PA X (e :: es) ta)
    (hdb : (x == ("__debug__" : Str)) = false := by decide)
    (hc : eval (.Call (.Attribute (.Name x p1) "__init__" p2) (e :: es) [] pos) X.env = (do
      let ov ← eval (.Name x p1) X.env
      standAt p2.atName
      let (f, first) ← holding [ov] (getMethod ov "__init__" pl)
      callWith pos f first (backTo pos (starEach (e :: es) X.env)) (backToKw pos (keywordEach [] X.env))) := by rfl)
    (he : starEach (e :: es) X.env = (false, eval e X.env) :: starEach es X.env := by rfl) (hpl : (backTo pos (starEach es X.env)).any (·.1) = false := by rfl) :
    PE X (.Call (.Attribute (.Name x p1) "__init__" p2) (e :: es) [] pos) (tVeI X.K ta) := by
  refine ⟨fun pins s σ H Q I h => ?_⟩
  refine PySem.W.methodCall_KW (ld_glob I hg hm ?_ hdb) hc
  refine PySem.W.method_cls I.kIn rd.ga ?_
  refine PySem.W.cls_value I.kIn rd.rd vV (by decide +kernel) ?_
  show wpAny _ _ (callWith pos (Value.builtin "ValueError.__init__") [] (backTo pos (starEach (e :: es) X.env)) []) _ _ _
  refine PyProof.Rows.callWith_method1 (thn (ha.run pos pins _ σ H _ (I.tok _) h) fun us s1 ⟨vs, H1, I1, r1, a, C, ws, ev, hl, T, ea, q⟩ => ?_) he hpl
  subst ev
  cases r1 with
  | @cons _ u0 _ ur ra rw' =>
    obtain rfl : u0 = Value.ref a := ra
    have hlen : ur.length ≤ sizeLine := by
      rw [← Paired.length rw', sizeLine_eq]
      omega
    exact oinit_ok T I1 ea hlen fun s' J => ⟨.non, H1, J, rfl, q⟩
end

theorem passF {X : Cx} : Passes (L2.CX X.prog X.w) X (fun _ _ _ => False) := fun pins σ H s e s' I c => passAt takes0 σ pins H s e s' I c
/-! ### own exceptions made -/
/-- what __init__ of an own exception promises: fs its fields, the parameters -/
def spMk (C : Addr) (fs : List Str) : Sp := fun vs H Q _ => ∃ a ys, vs = .ref a :: ys ∧ ys.length = fs.length ∧ H a = some (exo a C none) ∧
  (fs = [] → Q .non H) ∧ (fs ≠ [] → ∀ dx, H dx = none → dx ≠ a → Q .non (upd (upd H dx (exd dx (fs.zip ys).reverse)) a (exo a C (some dx))))
/-- a statement that does nothing to the exception -/
def SkipX (K : PySem.W.Frag) (C : Addr) (t : TS) : Prop := ∀ D σ H a, σ[0]? = some (some (.ref a)) → OexC K C → H a = some (exo a C none) → D.nx σ H → t D σ H
theorem skip_none {K : PySem.W.Frag} {C : Addr} : SkipX K C tNext := fun _ _ _ _ _ _ _ h => h
theorem skip_sup {K : PySem.W.Frag} {C : Addr} {m : Str} : SkipX K C (tDrop (tVeI K (tCons (tVar 0) (tCons (tC (.str m)) tNil)))) := fun D σ H a h0 T e h =>
  ⟨.ref a, h0, a, C, [.str m], rfl, by show 1 ≤ 1000; decide, T, e, h⟩
section
variable {P : Program} {w : World} {K : PySem.W.Frag} {mg : Str → Option Value} {base : Heap} {C : Addr} {x qual : Str} {st : Stmt} {f : Addr} {fd : FuncData} {t0 : TS} {f1 f2 n1 n2 ns : Str}
theorem ok_init0 (T : OexC K C) (F : FunD K x qual (defArgs st) (defBody st) (defScope st) [] [] f fd) (S : FnScope [ns] [ns] (defScope st)) (s0 : SkipX K C t0)
    (hb : ∀ (cdv : Value) (A : Around) (outer : List Env) (s : Shared) (H : Hp) (E : XK), PSs (cxOf (L2.CX P w) P w K mg base [ns] qual (defScope st) f cdv A outer s H E) (defBody st) t0) : FnOk P w K mg base (L2.CX P w) 1 f fd [ns] (spMk C []) := by
  refine F.ok (CX := L2.CX P w) S (fun vs H Q E h => ?_) (fun cdv A outer s H vs Q E hr h => ?_)
  · obtain ⟨a, ys, rfl, hl, _⟩ := h
    simp [hl]
  · obtain ⟨a, ys, rfl, hl, ea, h1, _⟩ := h
    have hy : ys = [] := List.eq_nil_of_length_eq_zero hl
    subst hy
    exact ⟨_, hb cdv A outer s H E, s0 _ _ _ a rfl T ea (h1 rfl)⟩
theorem ok_init1 (T : OexC K C) (g1 : PySem.W.findIn K (.ref C) f1 = some none) (F : FunD K x qual (defArgs st) (defBody st) (defScope st) [] [] f fd) (S : FnScope [ns, n1] [ns, n1] (defScope st)) (s0 : SkipX K C t0)
    (hb : ∀ (cdv : Value) (A : Around) (outer : List Env) (s : Shared) (H : Hp) (E : XK), PSs (cxOf (L2.CX P w) P w K mg base [ns, n1] qual (defScope st) f cdv A outer s H E) (defBody st) (tSeq t0 (tOst K f1 (tVar 0) (tVar 1)))) : FnOk P w K mg base (L2.CX P w) 1 f fd [ns, n1] (spMk C [f1]) := by
  refine F.ok (CX := L2.CX P w) S (fun vs H Q E h => ?_) (fun cdv A outer s H vs Q E hr h => ?_)
  · obtain ⟨a, ys, rfl, hl, _⟩ := h
    simp [hl]
  · obtain ⟨a, ys, rfl, hl, ea, _, h2⟩ := h
    match ys, hl with
    | [y], _ =>
      refine ⟨_, hb cdv A outer s H E, s0 _ _ _ a rfl T ea ?_⟩
      exact ⟨y, rfl, .ref a, rfl, a, C, rfl, T, g1, .inl ⟨ea, fun dx n ne => h2 (by simp) dx n ne⟩⟩
theorem ok_init2 (T : OexC K C) (g1 : PySem.W.findIn K (.ref C) f1 = some none) (g2 : PySem.W.findIn K (.ref C) f2 = some none) (F : FunD K x qual (defArgs st) (defBody st) (defScope st) [] [] f fd) (S : FnScope [ns, n1, n2] [ns, n1, n2] (defScope st)) (s0 : SkipX K C t0)
    (hb : ∀ (cdv : Value) (A : Around) (outer : List Env) (s : Shared) (H : Hp) (E : XK), PSs (cxOf (L2.CX P w) P w K mg base [ns, n1, n2] qual (defScope st) f cdv A outer s H E) (defBody st) (tSeq t0 (tSeq (tOst K f1 (tVar 0) (tVar 1)) (tOst K f2 (tVar 0) (tVar 2))))) : FnOk P w K mg base (L2.CX P w) 1 f fd [ns, n1, n2] (spMk C [f1, f2]) := by
  refine F.ok (CX := L2.CX P w) S (fun vs H Q E h => ?_) (fun cdv A outer s H vs Q E hr h => ?_)
  · obtain ⟨a, ys, rfl, hl, _⟩ := h
    simp [hl]
  · obtain ⟨a, ys, rfl, hl, ea, _, h2⟩ := h
    match ys, hl with
    | [y, z], _ =>
      refine ⟨_, hb cdv A outer s H E, s0 _ _ _ a rfl T ea ?_⟩
      refine ⟨y, rfl, .ref a, rfl, a, C, rfl, T, g1, .inl ⟨ea, fun dx n ne => ?_⟩⟩
      refine ⟨z, rfl, .ref a, rfl, a, C, rfl, T, g2, .inr ⟨dx, [(f1, y)], upd_same, by rw [upd_ne ne]; exact upd_same, by show 1 ≤ 900; decide, ?_⟩⟩
      have e : upd (upd (upd H dx (exd dx [(f1, y)])) a (exo a C (some dx))) dx (exd dx [(f2, z), (f1, y)]) = upd (upd H dx (exd dx [(f2, z), (f1, y)])) a (exo a C (some dx)) := by
        funext c
        by_cases hc : c = dx
        · subst hc
          rw [upd_same, upd_ne ne, upd_same]
        · rw [upd_ne hc]
          by_cases ha : c = a
          · subst ha; rw [upd_same, upd_same]
          · rw [upd_ne ha, upd_ne ha, upd_ne hc, upd_ne hc]
      show Q .non _
      rw [e]
      exact h2 (by simp) dx n ne
end

/-! ### raise -/
section
variable {X : Cx} {b : B} {W : WX} {e : Expr} {es : List Expr} {fa : FA} {x : Str} {p pos rpos : Pos} {C fI : Addr} {fd : FuncData} {ps : List Str} {fs : List Str} {cn : Str}
def mkE (cn : Str) (fs : List Str) (ds : List D) : Exn := ⟨cn, fs.reverse, ds.reverse⟩
/-- raise C(e, ..) -/
def raiseS (cn : Str) (fs : List Str) (fa : FA) : FS := fun g => (fa g).sb fun ds g1 => if ds.length = fs.length then .ex (mkE cn fs ds) g1 else .no
theorem zip_rev {α β : Type} : ∀ {l : List α} {m : List β}, l.length = m.length → (l.zip m).reverse = l.reverse.zip m.reverse
  | [], [], _ => rfl
  | a :: l, c :: m, h => by
    have h' : l.length = m.length := by simpa using h
    rw [List.zip_cons_cons, List.reverse_cons, List.reverse_cons, List.reverse_cons, zip_rev h', List.zip_append (by simp [h'])]
    rfl
theorem pts_raise (hM : b.M = ⟨X.K, X.mg⟩) (hc : X.calm = true) (tk : Takes X W) (T : OexC X.K C) (iC : PySem.W.findIn X.K (.ref C) "__init__" = some (some (.ref fI))) (tI : PySem.W.typeIn X.K (.ref fI) = some (.type "function"))
    (F1 : FnOk X.prog X.w X.K X.mg X.base (L2.CX X.prog X.w) 1 fI fd ps (spMk C fs)) (hr : Room 2 X.A) (hb : Binds X.K fd ps []) (hg : Gl X x) (hm : X.mg x = some (.ref C)) (hne : fs ≠ []) (hfs : fs.length ≤ 100) (ha : PA X (e :: es) (tAr b W fa))
    (hdb : (x == ("__debug__" : Str)) = false := by decide) (he : starEach (e :: es) X.env = (false, eval e X.env) :: starEach es X.env := by rfl) (hpl : (backTo pos (starEach es X.env)).any (·.1) = false := by rfl) :
    PS X (.Raise (some (.Call (.Name x p) (e :: es) [] pos)) none rpos) (tSt b W [] (raiseS x fs fa)) := ps_mono (ps_raise hc tk (pmk_oex T iC tI F1 hr hb .nil passF hg hm ha hdb he hpl)) fun D σ H ⟨Fz, g, r, h⟩ => by
  refine tG_st r h fun ds xs g1 Fz1 H1 r1 ex1 rep h1 => ?_
  have rep' : RepL b.M Fz1 H1 ds xs := rep
  by_cases hl : ds.length = fs.length
  · rw [if_pos hl] at h1
    have hxs : xs.length = fs.length := by rw [← RepL.length rep']; exact hl
    refine ⟨by omega, fun a ha => ⟨a, xs, by rw [List.append_nil], hxs, upd_same, fun z => absurd z hne, fun _ dx hdx nda => ⟨rfl, dx, (fs.zip xs).reverse, upd_same, by rw [upd_ne nda]; exact upd_same, by rw [upd_ne nda] at hdx; exact hdx, ?_⟩⟩⟩
    rw [upd_ne nda] at hdx
    have e1 : upd (del (upd (upd (upd H1 a (exo a C none)) dx (exd dx (fs.zip xs).reverse)) a (exo a C (some dx))) a) dx (.xd (fs.zip xs).reverse) = upd H1 dx (.xd (fs.zip xs).reverse) := by
      funext c
      by_cases hc1 : c = dx
      · subst hc1; rw [upd_same, upd_same]
      · rw [upd_ne hc1, upd_ne hc1]
        by_cases hc2 : c = a
        · subst hc2; rw [del_same, ha]
        · rw [del_ne hc2, upd_ne hc2, upd_ne hc1, upd_ne hc2]
    rw [e1]
    have gr : GrowTo Fz1 H1 Fz1 (upd H1 dx (.xd (fs.zip xs).reverse)) := .alloc hdx
    refine h1 σ _ _ _ _ (r1.grow gr) ⟨gr.ext, fun _ _ => rfl⟩ ⟨C, rfl, by rw [hM]; exact hm, .inr ⟨dx, xs.reverse, rfl, ?_, by simp [mkE, hxs], ?_⟩⟩
    · rw [upd_same]
      show some (HO.xd _) = some (HO.xd (fs.reverse.zip xs.reverse))
      rw [zip_rev hxs.symm]
    · exact (rep'.grow gr).reverse
  · rw [if_neg hl] at h1; exact h1.elim
end

/-! ### an own exception without fields -/
section
variable {X : Cx} {b : B} {W : WX} {x : Str} {p pos rpos : Pos} {C fI : Addr} {fd : FuncData} {ps : List Str} {cn : Str}
theorem mk_endN {pins : List (Addr × Obj)} {σ : L2.St} {H1 H2 : Hp} {Q : XK} {hp hp2 h2 : Heap} {g1 g2 : Array GenState} {d1 d2 : Drawn} {t1 t2 : Nat} {os1 os2 : OsState} {a C : Addr} (T : Raises X (.ref C)) (I1 : Inv X pins σ H1 ⟨hp, g1, d1, t1, os1⟩)
    (ha : hp.objs.size ≤ a) (k : ∀ b o, hp.get? b = some o → hp2.get? b = some o) (un : Un (frs X.stack) [] (upd H1 a (exo a C none)) H2 hp2 h2) (hok : HOk X.prog X.w H2 h2) (ho : os2 = os1) (hb : AllBare g2)
    (ea : H2 a = some (exo a C none)) (q : Q (.ref C) none (del H2 a)) : MkP X pins σ Q (.ref a) ⟨h2, g2, d2, t2, os2⟩ := by
  obtain ⟨t0, hoe⟩ := exo_at hok ea
  have hn : H1 a = none := I1.hok.fresh ha
  obtain ⟨G, g1', g2'⟩ := restrict h2 fun b => decide (b ≠ a)
  have gk : ∀ b, b ≠ a → G.get? b = h2.get? b := fun b hb => g1' b (decide_eq_true hb)
  have ge : G.get? a = none := g2' a (by simp)
  have nha : ∀ {b : Addr} {o : Obj}, hp.get? b = some o → b ≠ a := fun {b o} z => Nat.ne_of_lt (Nat.lt_of_lt_of_le (Heap.lt_size z) ha)
  have up : ∀ {b : Addr}, b ≠ a → H1 b = none → upd H1 a (exo a C none) b = none := fun {b} hb n => by rw [upd_ne hb]; exact n
  have U : Un (frs X.stack) [] H1 (del H2 a) hp G := {
    keep := fun b o z n hf hx => by
      rw [gk b (nha z)]
      exact un.keep b o (k b o z) (up (nha z) n) hf hx
    slot := fun b o z n hf hx => by
      rw [gk b (nha z)]
      exact un.slot b o (k b o z) (up (nha z) n) hf hx
    free := fun b o z n hx => by
      rw [del_ne (nha z)]
      exact un.free b o (k b o z) (up (nha z) n) hx
    there := fun b o z hx => by
      rw [gk b (nha z)]
      exact un.there b o (k b o z) hx
    tups := fun b xs z => by
      rw [del_ne (ne_of_none z hn)]
      exact un.tups b xs (by rw [upd_ne (ne_of_none z hn)]; exact z)
    frzs := fun b o v z => by
      rw [del_ne (ne_of_none z hn)]
      exact un.frzs b o v (by rw [upd_ne (ne_of_none z hn)]; exact z)
    tbls := fun b ps z => by
      rw [del_ne (ne_of_none z hn)]
      exact un.tbls b ps (by rw [upd_ne (ne_of_none z hn)]; exact z) }
  have hok3 : HOk X.prog X.w (del H2 a) G := fun b o z => by
    have hba : b ≠ a := fun e => by
      rw [e, del_same] at z
      cases z
    rw [del_ne hba] at z
    have noa : ∀ {c : Addr}, H2 c = some (.own b) → c ≠ a := fun {c} hc => at_ne ea hc exo_own
    exact (hok b o z).stay (fun c v hc y => by
        have hca : c ≠ a := by
          rcases hc with hc | hc
          · rw [hc]
            exact hba
          · exact noa hc
        rw [gk c hca]
        exact y)
      (fun c hc => by rw [del_ne (noa hc)]; exact hc) (fun c xs hc => by rw [del_ne (at_ne ea hc exo_tup)]; exact hc)
  have J : Inv X pins σ (del H2 a) ⟨G, g2, d2, t2, os2⟩ := I1.call' (ch := []) ho U hok3 hb (fun b z => absurd z (by simp))
  refine ⟨a, _, _, ⟨G, g2, d2, t2, os2⟩, _, .ref C, none, rfl, J, fun b o z => ?_, ge, hoe, ⟨rfl, rfl⟩, rfl, rfl, del_same, rfl, hb, T, q⟩
  by_cases hba : b = a
  · rw [hba, ge] at z
    cases z
  · exact (gk b hba).symm.trans z
def tMkO0 (C : Addr) (sp : Sp) : L2.St → Hp → XK → Prop := fun σ H1 Q => ∀ a, H1 a = none → sp [.ref a] (upd H1 a (exo a C none))
  (fun v H2 => v = .non ∧ H2 a = some (exo a C none) ∧ Q (.ref C) none (del H2 a)) (fun _ _ _ => False)
theorem pmk_oex0 {CX : CXT} {k : Nat} {sp : Sp} (T : OexC X.K C) (iC : PySem.W.findIn X.K (.ref C) "__init__" = some (some (.ref fI))) (tI : PySem.W.typeIn X.K (.ref fI) = some (.type "function"))
    (F1 : FnOk X.prog X.w X.K X.mg X.base CX k fI fd ps sp) (hr : Room (k + 1) X.A) (hb : Binds X.K fd ps []) (hx : Passes CX X (fun _ _ _ => False)) (hg : Gl X x) (hm : X.mg x = some (.ref C))
    (hdb : (x == ("__debug__" : Str)) = false := by decide) :
    PMk X (.Call (.Name x p) [] [] pos) (tMkO0 C sp) := by
  intro pins s σ H Q I q1
  obtain ⟨nm, q, N, bs, bm, sn, sub, ab, col, dd, k0, k1, k2, k3, k5, hC, hbm⟩ := T.cls
  refine wpAny_Call_Name_kw (ld_glob I hg hm ?_ hdb)
  refine PySem.W.callWith_K0 I.kIn T.kC ?_
  have I1 := I
  obtain ⟨hp, g, dr, tk, os⟩ := s
  have hsz : hp.objs.size ≤ hp.objs.size + 1 := Nat.le_succ _
  have hn : H (hp.objs.size + 1) = none := I1.hok.fresh hsz
  have hq := q1 (hp.objs.size + 1) hn
  have kk : ∀ b o, hp.get? b = some o → ((hp.push (PySem.W.kdv_tup [])).push (PySem.HandSPX.excO C hp.objs.size)).get? b = some o := fun b o e => Heap.get?_push_of_some _ (Heap.get?_push_of_some _ e)
  have hget : ((hp.push (PySem.W.kdv_tup [])).push (PySem.HandSPX.excO C hp.objs.size)).get? (hp.objs.size + 1) = some (PySem.HandSPX.excO C hp.objs.size) := by heap_get
  have I2 : Inv X pins σ (upd H (hp.objs.size + 1) (exo (hp.objs.size + 1) C none)) ⟨(hp.push (PySem.W.kdv_tup [])).push (PySem.HandSPX.excO C hp.objs.size), g, dr, tk, os⟩ :=
    I1.laid (t' := tk) (a := hp.objs.size + 1) (o := exo (hp.objs.size + 1) C none) (h' := (hp.push (PySem.W.kdv_tup [])).push (PySem.HandSPX.excO C hp.objs.size)) kk hsz (exo_ok hget)
  have r2 : Vals [V.ref (hp.objs.size + 1)] ([Value.ref (hp.objs.size + 1)] ++ []) := .cons rfl .nil
  have hl : ([Value.ref (hp.objs.size + 1)] ++ []).length = ps.length := by
    have e := r2.length
    rw [F1.len _ _ _ _ hq] at e
    exact e.symm
  refine wpAny_call (PySem.HandSPX.call_own F.excBase_ValueError (fun Y => PySem.HandSPX.refsVE_contains Y bm hbm) (I1.kIn _ _ hC) (PySem.W.looks_findIn I1.kIn iC) (fun self => PySem.W.bind_fn I1.kIn self tI) (by show 0 ≤ sizeLine; decide)
    (codeAny_mono (F1.run _ X.stack _ _ ⟨[Value.ref (hp.objs.size + 1)], []⟩ ([Value.ref (hp.objs.size + 1)] ++ []) _ _ (fun _ _ _ => False) (hr.make C [] []) (I2.env0.make C [] []) (hb _ [Value.ref (hp.objs.size + 1)] I2.kIn hl) r2 hq) fun r s' hq' => ?_))
  cases r with
  | error er => exact hx pins σ _ _ er s' I2 hq'
  | ok fl =>
    cases fl with
    | ret u =>
      obtain ⟨v, H2, os2, bare2, un2, hok2, rv, ev, ea, q2⟩ := hq'
      subst ev
      obtain ⟨h2, g2, d2, t2, os'⟩ := s'
      exact ⟨rv, mk_endN (raises_own T.exC T.tyC) I1 hsz kk un2 hok2 os2 bare2 ea q2⟩
    | next => exact False.elim hq'
    | brk => exact False.elim hq'
    | cont => exact False.elim hq'
def raise0S (cn : Str) : FS := fun g => .ex ⟨cn, [], []⟩ g
theorem pts_raise0 (hM : b.M = ⟨X.K, X.mg⟩) (hc : X.calm = true) (tk : Takes X W) (T : OexC X.K C) (iC : PySem.W.findIn X.K (.ref C) "__init__" = some (some (.ref fI))) (tI : PySem.W.typeIn X.K (.ref fI) = some (.type "function"))
    (F1 : FnOk X.prog X.w X.K X.mg X.base (L2.CX X.prog X.w) 1 fI fd ps (spMk C [])) (hr : Room 2 X.A) (hb : Binds X.K fd ps []) (hg : Gl X x) (hm : X.mg x = some (.ref C))
    (hdb : (x == ("__debug__" : Str)) = false := by decide) :
    PS X (.Raise (some (.Call (.Name x p) [] [] pos)) none rpos) (tSt b W [] (raise0S x)) := ps_mono (ps_raise hc tk (pmk_oex0 T iC tI F1 hr hb passF hg hm hdb)) fun D σ H ⟨Fz, g, r, h⟩ => fun a ha => by
  refine ⟨a, [], rfl, rfl, upd_same, fun _ => ⟨rfl, upd_same, ?_⟩, fun z => absurd rfl z⟩
  have e1 : del (upd H a (exo a C none)) a = H := by
    funext c
    by_cases hc2 : c = a
    · subst hc2; rw [del_same, ha]
    · rw [del_ne hc2, upd_ne hc2]
  rw [e1]
  exact h σ _ _ H Fz r .refl ⟨C, rfl, by rw [hM]; exact hm, .inl ⟨rfl, rfl, rfl⟩⟩
end
end DL

set_option Elab.async false
set_option linter.all false
set_option maxRecDepth 100000
set_option maxHeartbeats 4000000
/-! DenY: try. -/
namespace DL
open PySem L2 PySem.Spec PyProof.Rows

section
variable {X : Cx} {b : B} {W : WX} {i : Nat}
/-- the caught exception ex, of class cls, its dict d, as the suite's entry b holds it -/
structure XHeld (b : B) (ex : Exn) (cls : Value) (d : Option Addr) : Prop where
  cl : ∃ C, cls = .ref C ∧ b.M.mg ex.cls = some (.ref C)
  fl : (ex.ns = [] ∧ ex.ds = [] ∧ d = none) ∨ ∃ dd vs, d = some dd ∧ b.H0 dd = some (.xd (ex.ns.zip vs)) ∧ ex.ns.length = vs.length ∧ RepL b.M b.Fz0 b.H0 ex.ds vs
  oa : ∀ a, b.OA a → ¬ b.Fz0 a ∧ Mut (b.H0 a)
theorem XHeld.ext {ex : Exn} {cls : Value} {d : Option Addr} {Fz : Fzn} {g : Sg} {σ : L2.St} {H : Hp} (h : XHeld b ex cls d) (r : BRel b Fz g σ H) : Ext b.Fz0 b.H0 Fz H := ⟨r.gr.fz, fun a o e q => r.gr.fr a o e fun z => by
  obtain ⟨h1, h2⟩ := h.oa a z
  rcases q with q | q
  · exact h1 q
  · rw [e] at h2; exact q h2⟩
theorem hide_ext {Fz : Fzn} {g : Sg} {σ : L2.St} {H : Hp} (r : BRel b Fz g σ H) : Ext Fz H Fz (hide g σ H) := ⟨fun _ h => h, fun a o h q => (hide_of fun j z => by
  rcases q with q | q
  · exact (r.nst.free j a z).1 q
  · obtain ⟨vs, hv⟩ := NOwn.there r.nst z
    rw [hv] at h; cases h; exact q trivial).trans h⟩
/-- the entry of a suite -/
noncomputable def suiteB (b : B) (Fz : Fzn) (g : Sg) (σ : L2.St) (H : Hp) (i : Nat) (a : Addr) : B := { rebase b Fz g σ H with px := some (i, a) }
theorem BRel.setRaw (hx : b.px = none) {Fz : Fzn} {g : Sg} {σ : L2.St} {H : Hp} (r : BRel b Fz g σ H) (i : Nat) (v : Option V) : BRel b Fz (g.set i .un) (σ.set i v) H :=
  (r.forget i).congr hx (List.length_set ..) fun j s e n => by
    rcases gset_get e with ⟨_, z⟩ | ⟨z, _⟩
    · exact absurd z n
    · exact List.getElem?_set_ne (Ne.symm z)
theorem suite_rel (hx : b.px = none) {Fz : Fzn} {g : Sg} {σ : L2.St} {H : Hp} {a : Addr} (r : BRel b Fz g σ H) (hi : i < g.length) :
    BRel (suiteB b Fz (g.set i .un) (σ.set i (some (.ref a))) H i a) Fz (g.set i .un) (σ.set i (some (.ref a))) H := by
  have r1 := (r.setRaw hx i (some (.ref a))).rebase
  exact ⟨⟨r1.gr.dom, r1.gr.fz, r1.gr.new, r1.gr.fr, r1.gr.oa⟩, r1.rel, r1.own, r1.pin, fun j c h => by
    have h' : some (i, a) = some (j, c) := h
    cases h'
    exact List.getElem?_set_self (by rw [← r.rel.len]; exact hi), ⟨r1.nst.at_, r1.nst.free, r1.nst.one⟩⟩
theorem suite_back (hx : b.px = none) {Fz Fz' : Fzn} {g g' : Sg} {σ σ' : L2.St} {H H' : Hp} {a : Addr} (r : BRel b Fz g σ H) (r2 : BRel (suiteB b Fz (g.set i .un) (σ.set i (some (.ref a))) H i a) Fz' g' σ' H') (hl : g'.length = g.length) : BRel b Fz' g' σ' H' := by
  refine (r.setRaw hx i (some (.ref a))).debase hx ⟨⟨r2.gr.dom, r2.gr.fz, r2.gr.new, r2.gr.fr, r2.gr.oa⟩, r2.rel, r2.own, r2.pin, (fun _ _ h => nomatch h), ⟨r2.nst.at_, r2.nst.free, r2.nst.one⟩⟩ (by rw [hl, List.length_set])

/-! ### the reading -/
/-- the suite's end: slot i is gone -/
def endX (i n : Nat) : RS → RS
  | .nx g => if g.length = n then .nx (g.set i .un) else .no
  | .bk g => if g.length = n then .bk (g.set i .un) else .no
  | .ct g => if g.length = n then .ct (g.set i .un) else .no
  | .rt d g => if g.length = n then .rt d (g.set i .un) else .no
  | .rf ds g => if g.length = n then .rf ds (g.set i .un) else .no
  | _ => .no
/-- try: body, except c as (slot i): sx; hd tells which class the clause takes -/
def tryF (i : Nat) (hd : Str → Option Bool) (body : FS) (sx : Exn → FS) : FS := fun g => match body g with
  | .ex e g' => match hd e.cls with
    | some true => if i < g'.length then endX i g'.length (sx e (g'.set i .un)) else .no
    | some false => .ex e g'
    | none => .no
  | r => r
theorem pts_try {body suite : List Stmt} {b₀ : Stmt} {n x : Str} {c : Value} {np pos pos' : Pos} {as as2 : List Nat} {f : FS} {sx : Exn → FS} {hd : Str → Option Bool} (hx : b.px = none) (hs : X.stack = X.env :: X.outer) (hf : X.env.frame = some X.env.locals) (hN : X.N.Nodup) (hi : X.N[i]? = some n) (hln : X.env.kindOf n = some .local) (hc : Names X x c) (tk : Takes X W)
    (hM : b.M = ⟨X.K, X.mg⟩) (hcl : ∀ nm r C, hd nm = some r → X.mg nm = some (.ref C) → PySem.W.exmOne X.K (.ref C) c = some r)
    (hb : ∀ (W : WX) (pn : List (Addr × Obj)) (xe : Value → Shared → Prop), Takes (X.tr pn xe) W → PassesOwn (model X.prog X.w) X.A X.env xe → PSs (X.tr pn xe) body (tSt b W as f))
    (hsu : ∀ (a : Addr) (oe : Obj) (cls : Value) (d : Option Addr) (pn : List (Addr × Obj)) (ex : Exn) (b' : B), Zc cls d oe → (∃ vs, oe.data = .fields vs) → b'.M = ⟨X.K, X.mg⟩ → b'.px = some (i, a) → XHeld b' ex cls d → PSs (X.suite a ((a, oe) :: pn)) (b₀ :: suite) (tSt b' W0 as2 (sx ex))) :
    PS X (.Try body [.ExceptHandler (some (.Name x np)) (some n) (b₀ :: suite) pos'] [] [] pos) (tSt b W (as ++ i :: as2) (tryF i hd f sx)) := by
  refine ps_mono (ps_try_as (tb := fun W => tSt b W as f) (ts := fun a cls d D σ H => ∃ ex b', b'.M = ⟨X.K, X.mg⟩ ∧ b'.px = some (i, a) ∧ XHeld b' ex cls d ∧ tSt b' W0 as2 (sx ex) D σ H) hs hf hN hi hln hc tk hb
    (fun a oe cls d pn hz hv => ⟨fun pins s σ H D I ⟨ex, b', h1, h2, h3, h4⟩ => (hsu a oe cls d pn ex b' hz hv h1 h2 h3).run pins s σ H D I h4⟩)) fun D σ H ⟨Fz, g, r, h⟩ => ⟨Fz, g, r, ?_⟩
  unfold tryF at h
  cases hfg : f g with
  | nx g' => rw [hfg] at h; exact fun σ' H' Fz' br go => h σ' H' Fz' br (go.sub fun i z => List.mem_append_left _ z)
  | bk g' => rw [hfg] at h; exact fun σ' H' Fz' br go => h σ' H' Fz' br (go.sub fun i z => List.mem_append_left _ z)
  | ct g' => rw [hfg] at h; exact fun σ' H' Fz' br go => h σ' H' Fz' br (go.sub fun i z => List.mem_append_left _ z)
  | rt d g' => rw [hfg] at h; exact h
  | rf d g' => rw [hfg] at h; exact h
  | no => rw [hfg] at h; exact h
  | ex e g' =>
    rw [hfg] at h
    simp only at h
    intro σ1 cl dx H1 Fz1 r1 go1 ok
    obtain ⟨C, rfl, hmg, hfl⟩ := ok
    cases hh : hd e.cls with
    | none => rw [hh] at h; exact h.elim
    | some q =>
      rw [hh] at h
      have hmg' : X.mg e.cls = some (.ref C) := by rw [hM] at hmg; exact hmg
      refine ⟨q, hcl _ _ _ hh hmg', fun hq a ha => ?_, fun hq => ?_⟩
      · subst hq
        simp only at h
        by_cases hil : i < g'.length
        · rw [if_pos hil] at h
          have r2 := suite_rel (i := i) (a := a) hx r1 hil
          have r1' := r1.setRaw hx i (some (.ref a))
          refine ⟨e, _, (by exact hM : (suiteB b Fz1 (g'.set i .un) (σ1.set i (some (.ref a))) H1 i a).M = _), rfl, ⟨⟨C, rfl, hmg⟩, hfl.imp id (fun ⟨dd, ws, k1, k2, k3, k4⟩ => ⟨dd, ws, k1, ?kd, k3, RepL.mono (hide_ext r1') _ _ k4⟩), fun c ⟨j, o⟩ => ?_⟩, Fz1, _, r2, ?_⟩
          case kd =>
            exact (hide_of fun j z => by
              obtain ⟨vs, hv⟩ := NOwn.there r1'.nst z
              rw [hv] at k2; cases k2).trans k2
          · obtain ⟨s, u, _, nf, hu, w⟩ := r1'.there o
            exact ⟨nf, by
              show Mut (hide _ _ H1 c)
              rw [hide_of fun k z => (r1'.nst.free k c z).2.2 j o, hu]; exact w.mut⟩
          · have go2 : Go [i] σ1 Fz1 H1 (σ1.set i (some (V.ref a))) Fz1 H1 := .set
            have fin : ∀ {σ' : L2.St} {H' : Hp} {Fz' : Fzn} {g3 : Sg}, BRel (suiteB b Fz1 (g'.set i .un) (σ1.set i (some (.ref a))) H1 i a) Fz' g3 σ' H' → g3.length = g'.length → BRel b Fz' (g3.set i .un) (σ'.set i none) H' := fun br hl => (suite_back hx r1 br hl).setRaw hx i none
            have fgo : ∀ {σ' : L2.St} {H' : Hp} {Fz' : Fzn}, Go as2 (σ1.set i (some (.ref a))) Fz1 H1 σ' Fz' H' → Go (as ++ i :: as2) σ Fz H (σ'.set i none) Fz' H' := fun go3 => by
              have z := (go1.trans (go2.trans go3)).trans (Go.set (i := i) (v := none))
              exact z.sub fun j hj => by
                rcases List.mem_append.mp hj with hj | hj
                · rcases List.mem_append.mp hj with hj | hj
                  · exact List.mem_append_left _ hj
                  · exact List.mem_append_right _ hj
                · exact List.mem_append_right _ (List.mem_append_left (bs := as2) (as := [i]) hj)
            cases hsx : sx e (g'.set i .un) with
            | nx g3 =>
              rw [hsx] at h
              dsimp only [endX] at h
              by_cases hl : g3.length = g'.length
              · rw [if_pos hl] at h; exact fun σ' H' Fz' br go3 => h _ H' Fz' (fin br hl) (fgo go3)
              · rw [if_neg hl] at h; exact h.elim
            | bk g3 =>
              rw [hsx] at h
              dsimp only [endX] at h
              by_cases hl : g3.length = g'.length
              · rw [if_pos hl] at h; exact fun σ' H' Fz' br go3 => h _ H' Fz' (fin br hl) (fgo go3)
              · rw [if_neg hl] at h; exact h.elim
            | ct g3 =>
              rw [hsx] at h
              dsimp only [endX] at h
              by_cases hl : g3.length = g'.length
              · rw [if_pos hl] at h; exact fun σ' H' Fz' br go3 => h _ H' Fz' (fin br hl) (fgo go3)
              · rw [if_neg hl] at h; exact h.elim
            | rt d g3 =>
              rw [hsx] at h
              dsimp only [endX] at h
              by_cases hl : g3.length = g'.length
              · rw [if_pos hl] at h; exact fun x σ' H' Fz' br rep => h x _ H' Fz' (fin br hl) rep
              · rw [if_neg hl] at h; exact h.elim
            | rf d g3 =>
              rw [hsx] at h
              dsimp only [endX] at h
              by_cases hl : g3.length = g'.length
              · rw [if_pos hl] at h
                refine fun x σ' H' Fz' br rep => h x _ H' Fz' (fin br hl) ?_
                obtain ⟨p, vs, rfl, h0, nf, hu, no, rr⟩ := rep
                refine ⟨p, vs, rfl, (hide_none h0).elim r1.new0 (fun ⟨j, z⟩ => (r1'.nst.free j p z).2.1), nf, hu, fun j o => ?_, rr⟩
                rcases o with o | o
                rotate_left
                · obtain ⟨dss, a', ws, k1, k2, k3⟩ := o
                  rcases gset_get k1 with ⟨_, z⟩ | ⟨z, k1⟩
                  · cases z
                  · rw [List.getElem?_set_ne (Ne.symm z)] at k2
                    exact no j (.inr ⟨dss, a', ws, k1, k2, k3⟩)
                obtain ⟨⟨s, es, ws⟩, qq⟩ := o
                rcases gset_get es with ⟨_, z⟩ | ⟨z, es⟩
                · rw [z] at ws; cases ws
                · rw [List.getElem?_set_ne (Ne.symm z)] at qq
                  exact no j (.inl ⟨⟨s, es, ws⟩, qq⟩)
              · rw [if_neg hl] at h; exact h.elim
            | ex d g3 => rw [hsx] at h; exact h.elim
            | no => rw [hsx] at h; exact h.elim
        · rw [if_neg hil] at h; exact h.elim
      · subst hq
        exact h σ1 _ dx H1 Fz1 r1 (go1.sub fun i z => List.mem_append_left _ z) ⟨C, rfl, hmg, hfl⟩

/-! ### except c: without a name -/
def noEx : RS → RS
  | .ex _ _ => .no
  | r => r
def tryO (hd : Str → Option Bool) (body s : FS) : FS := fun g => match body g with
  | .ex e g' => match hd e.cls with
    | some true => noEx (s g')
    | some false => .ex e g'
    | none => .no
  | r => r
theorem pts_tryO {body suite : List Stmt} {b₀ : Stmt} {x : Str} {c : Value} {np pos pos' : Pos} {as as2 : List Nat} {f s : FS} {hd : Str → Option Bool} (hs : X.stack = X.env :: X.outer) (hf : X.env.frame = some X.env.locals) (hc : Names X x c) (tk : Takes X W)
    (hM : b.M = ⟨X.K, X.mg⟩) (hcl : ∀ nm r C, hd nm = some r → X.mg nm = some (.ref C) → PySem.W.exmOne X.K (.ref C) c = some r)
    (hb : ∀ (W : WX) (pn : List (Addr × Obj)) (xe : Value → Shared → Prop), Takes (X.tr pn xe) W → PassesOwn (model X.prog X.w) X.A X.env xe → PSs (X.tr pn xe) body (tSt b W as f))
    (hsu : ∀ (a : Addr) (oe : Obj) (pn : List (Addr × Obj)), PSs (X.suite a ((a, oe) :: pn)) (b₀ :: suite) (tSt b W0 as2 s)) :
    PS X (.Try body [.ExceptHandler (some (.Name x np)) none (b₀ :: suite) pos'] [] [] pos) (tSt b W (as ++ as2) (tryO hd f s)) := by
  refine ps_mono (ps_try_only (tb := fun W => tSt b W as f) (ts := fun a cls d => tSt b W0 as2 s) hs hf hc tk hb (fun a oe cls d pn hz hv => hsu a oe pn)) fun D σ H ⟨Fz, g, r, h⟩ => ⟨Fz, g, r, ?_⟩
  unfold tryO at h
  cases hfg : f g with
  | nx g' => rw [hfg] at h; exact fun σ' H' Fz' br go => h σ' H' Fz' br (go.sub fun i z => List.mem_append_left _ z)
  | bk g' => rw [hfg] at h; exact fun σ' H' Fz' br go => h σ' H' Fz' br (go.sub fun i z => List.mem_append_left _ z)
  | ct g' => rw [hfg] at h; exact fun σ' H' Fz' br go => h σ' H' Fz' br (go.sub fun i z => List.mem_append_left _ z)
  | rt d g' => rw [hfg] at h; exact h
  | rf d g' => rw [hfg] at h; exact h
  | no => rw [hfg] at h; exact h
  | ex e g' =>
    rw [hfg] at h
    simp only at h
    intro σ1 cl dx H1 Fz1 r1 go1 ok
    obtain ⟨C, rfl, hmg, hfl⟩ := ok
    cases hh : hd e.cls with
    | none => rw [hh] at h; exact h.elim
    | some q =>
      rw [hh] at h
      have hmg' : X.mg e.cls = some (.ref C) := by rw [hM] at hmg; exact hmg
      refine ⟨q, hcl _ _ _ hh hmg', fun hq a ha => ?_, fun hq => ?_⟩
      · subst hq
        refine ⟨Fz1, g', r1, ?_⟩
        have h' : PoS b W (as ++ as2) σ Fz H D (noEx (s g')) := h
        cases hs3 : s g' with
        | nx g3 => rw [hs3] at h'; exact fun σ' H' Fz' br go => h' σ' H' Fz' br (go1.trans go)
        | bk g3 => rw [hs3] at h'; exact fun σ' H' Fz' br go => h' σ' H' Fz' br (go1.trans go)
        | ct g3 => rw [hs3] at h'; exact fun σ' H' Fz' br go => h' σ' H' Fz' br (go1.trans go)
        | rt d g3 => rw [hs3] at h'; exact h'
        | rf d g3 => rw [hs3] at h'; exact h'
        | no => rw [hs3] at h'; exact h'
        | ex e3 g3 => rw [hs3] at h'; exact h'.elim
      · subst hq
        exact h σ1 _ dx H1 Fz1 r1 (go1.sub fun i z => List.mem_append_left _ z) ⟨C, rfl, hmg, hfl⟩
end

/-! ### in the suite -/
section
variable {X : Cx} {b : B} {i : Nat} {a : Addr} {oe : Obj} {cls : Value} {d : Option Addr} {pn : List (Addr × Obj)} {ex : Exn} {e : Expr} {pos p : Pos}
def lookD (n : Str) : List Str → List D → Option D
  | m :: ns, d :: ds => if n = m then some d else lookD n ns ds
  | _, _ => none
theorem lookD_ok {M : MM} {Fz : Fzn} {H : Hp} {n : Str} {z : D} : ∀ {ns : List Str} {ds : List D} {vs : List V}, lookD n ns ds = some z → RepL M Fz H ds vs → ∃ v, (ns.zip vs).lookup n = some v ∧ Rep M Fz H z v
  | [], _, _, h, _ => by simp [lookD] at h
  | _ :: _, [], _, h, _ => by simp [lookD] at h
  | m :: ns, d :: ds, vs, h, r => by
    obtain ⟨v, vr, rfl, r1, r2⟩ := RepL.cons_iff.mp r
    unfold lookD at h
    rw [List.zip_cons_cons, lookup_put]
    by_cases c : n = m
    · rw [if_pos c] at h ⊢
      cases h
      exact ⟨v, rfl, r1⟩
    · rw [if_neg c] at h ⊢
      exact lookD_ok h r2
/-- e.n -/
def xfF (cs : List Str) (n : Str) (ex : Exn) : FE := fun g => if ex.cls ∈ cs then opt (lookD n ex.ns ex.ds) g else .no
theorem pd_xf {cs : List Str} {n : Str} (hM : b.M = ⟨X.K, X.mg⟩) (hp : b.px = some (i, a)) (hh : XHeld b ex cls d) (hz : Zc cls d oe) (hf : ∃ vs, oe.data = .fields vs) (hcs : ∀ c ∈ cs, ∀ C, X.mg c = some (.ref C) → XfC X.K C ∧ PySem.W.findIn X.K (.ref C) n = some none)
    (he : PE (X.suite a ((a, oe) :: pn)) e (tVar i)) (hb : attributeBase e n X.env (eval e X.env) = eval e X.env := by rfl) :
    PE (X.suite a ((a, oe) :: pn)) (.Attribute e n pos) (tE b W0 (xfF cs n ex)) := ⟨fun pins s σ H Q I ⟨Fz, g, r, h⟩ => by
  unfold xfF at h
  by_cases c : ex.cls ∈ cs
  · rw [if_pos c] at h
    obtain ⟨C, rfl, hmg⟩ := hh.cl
    rw [hM] at hmg
    obtain ⟨k1, k2⟩ := hcs _ c C hmg
    obtain ⟨z, ez, h1⟩ := Po.opt h
    have ext := hh.ext r
    rcases hh.fl with ⟨q1, q2, q3⟩ | ⟨dd, vs, rfl, hdd, hl, rr⟩
    · rw [q1, q2] at ez
      cases ez
    · obtain ⟨v, ev, rv⟩ := lookD_ok ez (RepL.mono ext _ _ rr)
      refine (pe_xf k1 k2 hz hf he hb).run pins s σ H Q I ⟨.ref a, r.px i a hp, rfl, rfl, dd, _, v, rfl, ext.st _ _ hdd (.inr fun z => z), ev, h1.ok r .refl rv⟩
  · rw [if_neg c] at h; exact h.elim⟩

/-! isinstance(e, c) -/
end
end DL
namespace PySem.W
open PySem PySem.Spec PySem.Calls PyProof.Rows
section
variable {prog : Program} {w : World} {A : Around} {E : Value → Shared → Prop} {s : Shared} {K : Frag} {x D : Addr} {ox : Obj} {od : Option Obj}
theorem findObj_dataD {C : Addr} {name : Str} {a g : Value} (hc : (clsIn K C).isSome = true) (ha : findIn K (.ref C) name = some (some a)) (hg : specialIn K a "__get__" = some (some g)) (ht : takesIn K a = some true) : findObj K C od name = some (.bind g a) := by
  obtain ⟨cd, hc⟩ := Option.isSome_iff_exists.mp hc
  unfold findObj
  rw [hc, Option.bind_some, ha, Option.bind_some]
  simp [hg, ht]
theorem kin_classD {Q : Option Value → Shared → Prop} (hga : findIn K (.ref D) "__getattribute__" = some (some (.builtin "BaseException.__getattribute__"))) (hgt : findIn K (.ref D) "__getattr__" = some none) (hsub : subIn K (.ref D) (.type "BaseException") = some true)
    (hdct : hasDictIn K D = true) (ha : findIn K (.ref D) "__class__" = some (some (.builtin "object.__class__")))
    (hn : specialIn K (.builtin "object.__class__") "__get__" = some (some (.builtin "getset_descriptor.__get__"))) (htk : takesIn K (.builtin "object.__class__") = some true) (hm : mroIn K D (.type "object") = some true)
    (X : K.In s.heap) (I : InstAt s.heap x ox D od) (h : Q (some (.ref D)) { s with toks := s.toks + 1 }) : wpAny (model prog w) A (getAttr? (.ref x) "__class__") Q E s := by
  have hf : findObj K D od "__class__" = some (.bind (.builtin "getset_descriptor.__get__") (.builtin "object.__class__")) := findObj_dataD (by obtain ⟨cd, hc, _⟩ := any_some hdct; rw [hc]; rfl) ha hn htk
  obtain ⟨hp, g, d, t, os⟩ := s
  have L0 := I.type (M := model prog w)
  have L1 := looks_findIn (M := model prog w) X hga
  have L2 := looks_findIn (M := model prog w) X hgt
  have L3 := looks_find (M := model prog w) X I hf
  have sub : Looks (model prog w) hp (isInstance (.ref x) (.type "BaseException")) true := L0.andThen (looks_subIn X hsub)
  have hx0 : (false && onTheHeap (Value.builtin "BaseException.__getattribute__")) = false := rfl
  have hx2 : (Value.builtin "BaseException.__getattribute__" == Value.builtin "object.__getattribute__") = false := by decide +kernel
  have hx1 : (onTheHeap (Value.ref D) && Value.builtin "BaseException.__getattribute__" == Value.builtin "object.__getattribute__") = false := by rw [hx2]; rfl
  unfold getAttr? getAttrBy? getAttrBy
  refine wpAny_bind (wpAny_mkText (wpAny_bind (wpAny_attempt (wpAny_holding (wpAny_bind (L0.at (wpAny_bind (L1.at ?_))))))))
  show wpAny _ _ (if (onTheHeap (Value.ref D) && Value.builtin "BaseException.__getattribute__" == Value.builtin "object.__getattribute__") = true then _ else _) _ _ _
  rw [hx1, if_neg Bool.false_ne_true]
  unfold getAttrByItsOwn hookBefore
  refine wpAny_bind ?_
  rw [if_pos (show onTheHeap (Value.ref D) = true from rfl)]
  refine L2.at ?_
  refine wpAny_bind (wpAny_attempt (wpAny_holding ?_))
  unfold callGetattribute
  rw [hx0, if_neg Bool.false_ne_true]
  unfold boundAndCalled
  rw [PySem.F.excAttr_ValueError.ga.bind (.ref x)]
  refine wpAny_bind (wpAny_pure ?_)
  show wpAny _ _ (call (.builtin "BaseException.__getattribute__") [.ref x, .str "__class__" t]) _ _ _
  refine wpAny_call (codeAny_call_builtin PySem.F.excAttr_ValueError.ga.plain PySem.F.entry_bexc_ga ?_)
  refine @check_slot (model prog w) _ _ ⟨hp, g, d, t + 1, os⟩ "BaseException.__getattribute__" "BaseException" "__getattribute__" (.ref x) [.str "__class__" t] [] _ (by decide +kernel) (by decide +kernel) sub (PySem.F.args_bexc_ga (.ref x) (.str "__class__" t)) ?_
  unfold Builtin.«object.__getattribute__»
  refine wpAny_bind (wpAny_of_eq (a := ((Value.ref x : Value), [Value.str "__class__" t])) (by first | rfl | (simp only [slotArgs]; rfl)) ?_)
  refine wpAny_bind (wpAny_pure (wpAny_bind (L0.at (wpAny_bind (L3.at ?_)))))
  show wpAny _ _ (holding [Value.builtin "object.__class__"] (call (.builtin "getset_descriptor.__get__") [.builtin "object.__class__", .ref x, .ref D]) >>= ret) _ _ _
  refine wpAny_bind (wpAny_holding (wpAny_call (class_get (s := ⟨hp, g, d, t + 1, os⟩) (ox := ox) (od := od) X I hm ?_)))
  refine wpAny_pure ?_
  show wpAny _ _ (handedOut (.ref D)) _ _ _
  rw [handedOut_of (v := .ref D) rfl]
  first
    | exact wpAny_pure (wpAny_pure h)
    | exact wpAny_pure h
    | exact wpAny_pure (wpAny_bind (wpAny_pure (wpAny_pure h)))
theorem kitx_excD (hga : findIn K (.ref D) "__getattribute__" = some (some (.builtin "BaseException.__getattribute__"))) (hgt : findIn K (.ref D) "__getattr__" = some none) (hsub : subIn K (.ref D) (.type "BaseException") = some true) (hdct : hasDictIn K D = true) (ha : findIn K (.ref D) "__class__" = some (some (.builtin "object.__class__")))
    (hn : specialIn K (.builtin "object.__class__") "__get__" = some (some (.builtin "getset_descriptor.__get__"))) (htk : takesIn K (.builtin "object.__class__") = some true) (hm : mroIn K D (.type "object") = some true) :
    KitX K (.ref x) (.ref D) (fun h => InstAt h x ox D od) where
  ty := fun _ _ _ I => I.type
  it := fun _ _ X _ => by
    obtain ⟨cdD, hcD, _⟩ := any_some hdct
    unfold clsIn at hcD
    split at hcD
    · rename_i c' d' cd' sl' ho
      intro A' Q' E' s' k q
      unfold isType loadHead
      exact wpAny_bind (wpAny_loadPart (k _ _ (X _ _ ho)) (wpAny_pure q))
    · cases hcD
  ne := fun h tp dd its n sl X htp => by
    obtain ⟨cdD, hcD, _⟩ := any_some hdct
    refine Bool.eq_false_iff.mpr fun q => ?_
    have e : D = tp := Value.ref.inj (beq_iff_eq.mp q)
    subst e
    unfold clsIn at hcD
    split at hcD
    · rename_i c' d' cd' sl' ho
      have z := (X _ _ ho).symm.trans htp
      cases z
    · cases hcD
  ca := fun X I k => kin_classD hga hgt hsub hdct ha hn htk hm X I k
end
end PySem.W
namespace DL
open PySem L2 PySem.Spec PyProof.Rows
section
variable {X : Cx} {b : B} {i : Nat} {a : Addr} {oe : Obj} {cls : Value} {d : Option Addr} {pn : List (Addr × Obj)} {ex : Exn} {e e2 : Expr} {pos p : Pos}
def rIsD (K : PySem.W.Frag) (D a : Addr) (d : Option Addr) : List V → Hp → VK → Prop := fun xs H Q => ∃ (c : V) (cv : Value) (r : Bool), xs = [.ref a, c] ∧ (∀ u, RelV c u → u = cv) ∧ PySem.W.kitOne K (.ref D) cv = some r ∧ (∀ dd, d = some dd → ∃ fs, H dd = some (.xd fs)) ∧ Q (.bl r) H
theorem call_isD {D : Addr} (C : ExcC X.K D) (hz : Zc (.ref D) d oe) (hf : ∃ vs, oe.data = .fields vs) : CallR (X.suite a ((a, oe) :: pn)) (.builtin "isinstance") (rIsD X.K D a d) := by
  intro pins s σ H xs us Q I r h
  obtain ⟨c, cv, b, rfl, hcv, e, hd, q⟩ := h
  cases r with
  | cons rx rr =>
    cases rr with
    | cons rt rr =>
      cases rr
      cases rx
      have ec := hcv _ rt
      subst ec
      obtain ⟨hget, _⟩ := I.pin (a, oe) (List.mem_append.mpr (.inl List.mem_cons_self))
      obtain ⟨vs, hv⟩ := hf
      have J : ∃ od, PySem.W.InstAt s.heap a oe D od := by
        cases d with
        | none => exact ⟨none, hget, hz.1, by unfold PySem.W.notCls; rw [hv] <;> rfl, by rw [hz.2]; trivial⟩
        | some dd =>
          obtain ⟨fs, hx⟩ := hd dd rfl
          have ho : ObjOk X.prog X.w H s.heap dd (.xd fs) := I.hok dd _ hx
          obtain ⟨mA, hns, hr⟩ := ho
          obtain ⟨od, ho, hl⟩ := lookIn_ns hns
          exact ⟨some od, hget, hz.1, by unfold PySem.W.notCls; rw [hv] <;> rfl, by rw [hz.2]; exact ho⟩
      obtain ⟨od, J⟩ := J
      exact PySem.W.kia_one (PySem.W.kitx_excD C.hg C.hk C.hs C.hd C.ha C.hn C.ht C.hm) I.kIn J e (fun z => nomatch z) fun tk => ⟨.bl b, H, I.kept (t' := tk) fun _ _ z => z, rfl, q⟩
/-- isinstance(e, c): by the class's name -/
def isxF (tb : List (Str × Bool)) (ex : Exn) : FE := fun g => opt ((tb.lookup ex.cls).map D.bl) g
theorem pd_isx {tb : List (Str × Bool)} {c : V} {cv : Value} (hM : b.M = ⟨X.K, X.mg⟩) (hp : b.px = some (i, a)) (hh : XHeld b ex cls d) (hz : Zc cls d oe) (hf : ∃ vs, oe.data = .fields vs)
    (htb : ∀ q ∈ tb, ∀ C, X.mg q.1 = some (.ref C) → ExcC X.K C ∧ PySem.W.kitOne X.K (.ref C) cv = some q.2) (hcv : ∀ u, RelV c u → u = cv)
    (hg : Gl X "isinstance") (hm : X.mg "isinstance" = none) (h1 : PE (X.suite a ((a, oe) :: pn)) e (tVar i)) (h2 : PE (X.suite a ((a, oe) :: pn)) e2 (tC c))
    (hs1 : starEach (e2 :: []) X.env = (false, eval e2 X.env) :: starEach [] X.env := by rfl) (he : starEach (e :: [e2]) X.env = (false, eval e X.env) :: starEach [e2] X.env := by rfl) (hpl : (backTo pos (starEach [e2] X.env)).any (·.1) = false := by rfl) :
    PE (X.suite a ((a, oe) :: pn)) (.Call (.Name "isinstance" p) [e, e2] [] pos) (tE b W0 (isxF tb ex)) := ⟨fun pins s σ H Q I ⟨Fz, g, r, h⟩ => by
  unfold isxF at h
  obtain ⟨z, ez, h1'⟩ := Po.opt h
  obtain ⟨r', er, rfl⟩ := Option.map_eq_some_iff.mp ez
  obtain ⟨C, rfl, hmg⟩ := hh.cl
  rw [hM] at hmg
  have mem : (ex.cls, r') ∈ tb := PySem.mem_of_lookup er
  obtain ⟨k1, k2⟩ := htb _ mem C hmg
  have ext := hh.ext r
  refine (pe_callB (X := X.suite a ((a, oe) :: pn)) (call_isD k1 hz hf) hg hm (by decide +kernel) (pa_cons h1 (pa_cons h2 pa_nil hs1) he) (by decide) (by decide) he hpl).run pins s σ H Q I ⟨.ref a, r.px i a hp, c, cv, r', rfl, hcv, k2, fun dd hd => ?_, h1'.ok r .refl rep_bl⟩
  rcases hh.fl with ⟨q1, q2, q3⟩ | ⟨dd', vs, e1, hdd, hl, rr⟩
  · rw [q3] at hd; cases hd
  · rw [hd] at e1
    cases e1
    exact ⟨_, ext.st _ _ hdd (.inr fun z => z)⟩⟩
end
end DL
namespace DL
open PySem L2 PySem.Spec PyProof.Rows
/-- a clause's table, by the classes' names -/
def hdT (l : List (Str × Bool)) (nm : Str) : Option Bool := l.lookup nm
theorem hdT_ok {K : PySem.W.Frag} {mg : Str → Option Value} {c : Value} {l : List (Str × Bool)} (h : ∀ q ∈ l, ∀ C, mg q.1 = some (.ref C) → PySem.W.exmOne K (.ref C) c = some q.2) : ∀ nm r C, hdT l nm = some r → mg nm = some (.ref C) → PySem.W.exmOne K (.ref C) c = some r := fun nm r C e hm => h (nm, r) (PySem.mem_of_lookup e) C hm
theorem pxne {b : B} {i j : Nat} {a : Addr} (h : b.px = some (i, a)) (n : j ≠ i) : PxOk b j := fun c z => by
  rw [h] at z
  cases z
  exact n rfl
theorem skip_pss {X : Cx} {sts : List Stmt} {t : TS} (h : PSs X sts t) : PSs X sts (tSeq tNext t) := pss_mono h fun _ _ _ q => q
end DL

set_option Elab.async false
set_option linter.all false
set_option maxRecDepth 100000
set_option maxHeartbeats 4000000
/-! DenZ: shorthands (printed by mkz.py). -/
namespace DL
open PySem L2 PySem.Spec PyProof.Rows
section
variable {X : Cx} {b : B} {W : WX} {e1 e2 e3 : Expr} {f1 f2 f3 : FE} {g1 g2 : Sg → R AV} {pos : Pos} {k : Nat}
theorem castO {M M' : MM} {r : R2} {o : D → D → Option D} (h : M = M') (q : OpT M' r o) : OpT M r o := by rw [h]; exact q
theorem q_add (hM : b.M = ⟨X.K, X.mg⟩) (h1 : PE X e1 (tE b W f1)) (h2 : PE X e2 (tE b W f2)) : PE X (.BinOp e1 .Add e2 pos) (tE b W (op2F addD f1 f2)) := pd_op op_addA (castO hM opt_add) h1 h2
theorem v_add (hM : b.M = ⟨X.K, X.mg⟩) (h1 : PE X e1 (tA1 b W g1)) (h2 : PE X e2 (tA1 b W g2)) : PE X (.BinOp e1 .Add e2 pos) (tE b W (op2V addD g1 g2)) := pd_opV op_addA (castO hM opt_add) h1 h2
theorem q_sub (hM : b.M = ⟨X.K, X.mg⟩) (h1 : PE X e1 (tE b W f1)) (h2 : PE X e2 (tE b W f2)) : PE X (.BinOp e1 .Sub e2 pos) (tE b W (op2F subD f1 f2)) := pd_op op_sub (castO hM opt_sub) h1 h2
theorem v_sub (hM : b.M = ⟨X.K, X.mg⟩) (h1 : PE X e1 (tA1 b W g1)) (h2 : PE X e2 (tA1 b W g2)) : PE X (.BinOp e1 .Sub e2 pos) (tE b W (op2V subD g1 g2)) := pd_opV op_sub (castO hM opt_sub) h1 h2
theorem q_mul (hM : b.M = ⟨X.K, X.mg⟩) (h1 : PE X e1 (tE b W f1)) (h2 : PE X e2 (tE b W f2)) : PE X (.BinOp e1 .Mult e2 pos) (tE b W (op2F mulD f1 f2)) := pd_op op_mulA (castO hM opt_mul) h1 h2
theorem v_mul (hM : b.M = ⟨X.K, X.mg⟩) (h1 : PE X e1 (tA1 b W g1)) (h2 : PE X e2 (tA1 b W g2)) : PE X (.BinOp e1 .Mult e2 pos) (tE b W (op2V mulD g1 g2)) := pd_opV op_mulA (castO hM opt_mul) h1 h2
theorem q_fdiv (hM : b.M = ⟨X.K, X.mg⟩) (h1 : PE X e1 (tE b W f1)) (h2 : PE X e2 (tE b W f2)) : PE X (.BinOp e1 .FloorDiv e2 pos) (tE b W (op2F fdivD f1 f2)) := pd_op op_fdivL (castO hM opt_fdiv) h1 h2
theorem v_fdiv (hM : b.M = ⟨X.K, X.mg⟩) (h1 : PE X e1 (tA1 b W g1)) (h2 : PE X e2 (tA1 b W g2)) : PE X (.BinOp e1 .FloorDiv e2 pos) (tE b W (op2V fdivD g1 g2)) := pd_opV op_fdivL (castO hM opt_fdiv) h1 h2
theorem q_mod (hM : b.M = ⟨X.K, X.mg⟩) (h1 : PE X e1 (tE b W f1)) (h2 : PE X e2 (tE b W f2)) : PE X (.BinOp e1 .Mod e2 pos) (tE b W (op2F modD f1 f2)) := pd_op op_modN (castO hM opt_mod) h1 h2
theorem v_mod (hM : b.M = ⟨X.K, X.mg⟩) (h1 : PE X e1 (tA1 b W g1)) (h2 : PE X e2 (tA1 b W g2)) : PE X (.BinOp e1 .Mod e2 pos) (tE b W (op2V modD g1 g2)) := pd_opV op_modN (castO hM opt_mod) h1 h2
theorem q_pow (hM : b.M = ⟨X.K, X.mg⟩) (h1 : PE X e1 (tE b W f1)) (h2 : PE X e2 (tE b W f2)) : PE X (.BinOp e1 .Pow e2 pos) (tE b W (op2F powD f1 f2)) := pd_op op_pow (castO hM opt_pow) h1 h2
theorem v_pow (hM : b.M = ⟨X.K, X.mg⟩) (h1 : PE X e1 (tA1 b W g1)) (h2 : PE X e2 (tA1 b W g2)) : PE X (.BinOp e1 .Pow e2 pos) (tE b W (op2V powD g1 g2)) := pd_opV op_pow (castO hM opt_pow) h1 h2
theorem q_shl (hM : b.M = ⟨X.K, X.mg⟩) (h1 : PE X e1 (tE b W f1)) (h2 : PE X e2 (tE b W f2)) : PE X (.BinOp e1 .LShift e2 pos) (tE b W (op2F shlD f1 f2)) := pd_op op_shl (castO hM opt_shl) h1 h2
theorem v_shl (hM : b.M = ⟨X.K, X.mg⟩) (h1 : PE X e1 (tA1 b W g1)) (h2 : PE X e2 (tA1 b W g2)) : PE X (.BinOp e1 .LShift e2 pos) (tE b W (op2V shlD g1 g2)) := pd_opV op_shl (castO hM opt_shl) h1 h2
theorem q_shr (hM : b.M = ⟨X.K, X.mg⟩) (h1 : PE X e1 (tE b W f1)) (h2 : PE X e2 (tE b W f2)) : PE X (.BinOp e1 .RShift e2 pos) (tE b W (op2F shrD f1 f2)) := pd_op op_shr (castO hM opt_shr) h1 h2
theorem v_shr (hM : b.M = ⟨X.K, X.mg⟩) (h1 : PE X e1 (tA1 b W g1)) (h2 : PE X e2 (tA1 b W g2)) : PE X (.BinOp e1 .RShift e2 pos) (tE b W (op2V shrD g1 g2)) := pd_opV op_shr (castO hM opt_shr) h1 h2
theorem q_band (hM : b.M = ⟨X.K, X.mg⟩) (h1 : PE X e1 (tE b W f1)) (h2 : PE X e2 (tE b W f2)) : PE X (.BinOp e1 .BitAnd e2 pos) (tE b W (op2F andD f1 f2)) := pd_op op_and (castO hM opt_and) h1 h2
theorem v_band (hM : b.M = ⟨X.K, X.mg⟩) (h1 : PE X e1 (tA1 b W g1)) (h2 : PE X e2 (tA1 b W g2)) : PE X (.BinOp e1 .BitAnd e2 pos) (tE b W (op2V andD g1 g2)) := pd_opV op_and (castO hM opt_and) h1 h2
theorem q_bor (hM : b.M = ⟨X.K, X.mg⟩) (h1 : PE X e1 (tE b W f1)) (h2 : PE X e2 (tE b W f2)) : PE X (.BinOp e1 .BitOr e2 pos) (tE b W (op2F orD f1 f2)) := pd_op op_or (castO hM opt_or) h1 h2
theorem v_bor (hM : b.M = ⟨X.K, X.mg⟩) (h1 : PE X e1 (tA1 b W g1)) (h2 : PE X e2 (tA1 b W g2)) : PE X (.BinOp e1 .BitOr e2 pos) (tE b W (op2V orD g1 g2)) := pd_opV op_or (castO hM opt_or) h1 h2
theorem q_bxor (hM : b.M = ⟨X.K, X.mg⟩) (h1 : PE X e1 (tE b W f1)) (h2 : PE X e2 (tE b W f2)) : PE X (.BinOp e1 .BitXor e2 pos) (tE b W (op2F xorD f1 f2)) := pd_op op_xor (castO hM opt_xor) h1 h2
theorem v_bxor (hM : b.M = ⟨X.K, X.mg⟩) (h1 : PE X e1 (tA1 b W g1)) (h2 : PE X e2 (tA1 b W g2)) : PE X (.BinOp e1 .BitXor e2 pos) (tE b W (op2V xorD g1 g2)) := pd_opV op_xor (castO hM opt_xor) h1 h2
theorem q_lt (hM : b.M = ⟨X.K, X.mg⟩) (h1 : PE X e1 (tE b W f1)) (h2 : PE X e2 (tE b W f2)) (hm : behindInMarks .Lt e2 = false := by first | exact nobehind _ (by decide) (by decide) | rfl) : PE X (.Compare e1 [.Lt] [e2] pos) (tE b W (op2F ltD f1 f2)) := pd_cmp (op_lt) (castO hM opt_lt) h1 h2 hm
theorem v_lt (hM : b.M = ⟨X.K, X.mg⟩) (h1 : PE X e1 (tA1 b W g1)) (h2 : PE X e2 (tA1 b W g2)) (hm : behindInMarks .Lt e2 = false := by first | exact nobehind _ (by decide) (by decide) | rfl) : PE X (.Compare e1 [.Lt] [e2] pos) (tE b W (op2V ltD g1 g2)) := pd_cmpV (op_lt) (castO hM opt_lt) h1 h2 hm
theorem qt_lt (hM : b.M = ⟨X.K, X.mg⟩) (h1 : PE X e1 (tE b W f1)) (h2 : PE X e2 (tE b W f2)) (hm : behindInMarks .Lt e2 = false := by first | exact nobehind _ (by decide) (by decide) | rfl) : PT X (.Compare e1 [.Lt] [e2] pos) (tBo b W (tstF (op2F ltD f1 f2))) := pt_cmpD (op_lt) (castO hM opt_lt) h1 h2 hm
theorem vt_lt (hM : b.M = ⟨X.K, X.mg⟩) (h1 : PE X e1 (tA1 b W g1)) (h2 : PE X e2 (tA1 b W g2)) (hm : behindInMarks .Lt e2 = false := by first | exact nobehind _ (by decide) (by decide) | rfl) : PT X (.Compare e1 [.Lt] [e2] pos) (tBo b W (tstF (op2V ltD g1 g2))) := pt_cmpDV (op_lt) (castO hM opt_lt) h1 h2 hm
theorem q_le (hM : b.M = ⟨X.K, X.mg⟩) (h1 : PE X e1 (tE b W f1)) (h2 : PE X e2 (tE b W f2)) (hm : behindInMarks .LtE e2 = false := by first | exact nobehind _ (by decide) (by decide) | rfl) : PE X (.Compare e1 [.LtE] [e2] pos) (tE b W (op2F leD f1 f2)) := pd_cmp (op_le) (castO hM opt_le) h1 h2 hm
theorem v_le (hM : b.M = ⟨X.K, X.mg⟩) (h1 : PE X e1 (tA1 b W g1)) (h2 : PE X e2 (tA1 b W g2)) (hm : behindInMarks .LtE e2 = false := by first | exact nobehind _ (by decide) (by decide) | rfl) : PE X (.Compare e1 [.LtE] [e2] pos) (tE b W (op2V leD g1 g2)) := pd_cmpV (op_le) (castO hM opt_le) h1 h2 hm
theorem qt_le (hM : b.M = ⟨X.K, X.mg⟩) (h1 : PE X e1 (tE b W f1)) (h2 : PE X e2 (tE b W f2)) (hm : behindInMarks .LtE e2 = false := by first | exact nobehind _ (by decide) (by decide) | rfl) : PT X (.Compare e1 [.LtE] [e2] pos) (tBo b W (tstF (op2F leD f1 f2))) := pt_cmpD (op_le) (castO hM opt_le) h1 h2 hm
theorem vt_le (hM : b.M = ⟨X.K, X.mg⟩) (h1 : PE X e1 (tA1 b W g1)) (h2 : PE X e2 (tA1 b W g2)) (hm : behindInMarks .LtE e2 = false := by first | exact nobehind _ (by decide) (by decide) | rfl) : PT X (.Compare e1 [.LtE] [e2] pos) (tBo b W (tstF (op2V leD g1 g2))) := pt_cmpDV (op_le) (castO hM opt_le) h1 h2 hm
theorem q_gt (hM : b.M = ⟨X.K, X.mg⟩) (h1 : PE X e1 (tE b W f1)) (h2 : PE X e2 (tE b W f2)) (hm : behindInMarks .Gt e2 = false := by first | exact nobehind _ (by decide) (by decide) | rfl) : PE X (.Compare e1 [.Gt] [e2] pos) (tE b W (op2F gtD f1 f2)) := pd_cmp (op_gt) (castO hM opt_gt) h1 h2 hm
theorem v_gt (hM : b.M = ⟨X.K, X.mg⟩) (h1 : PE X e1 (tA1 b W g1)) (h2 : PE X e2 (tA1 b W g2)) (hm : behindInMarks .Gt e2 = false := by first | exact nobehind _ (by decide) (by decide) | rfl) : PE X (.Compare e1 [.Gt] [e2] pos) (tE b W (op2V gtD g1 g2)) := pd_cmpV (op_gt) (castO hM opt_gt) h1 h2 hm
theorem qt_gt (hM : b.M = ⟨X.K, X.mg⟩) (h1 : PE X e1 (tE b W f1)) (h2 : PE X e2 (tE b W f2)) (hm : behindInMarks .Gt e2 = false := by first | exact nobehind _ (by decide) (by decide) | rfl) : PT X (.Compare e1 [.Gt] [e2] pos) (tBo b W (tstF (op2F gtD f1 f2))) := pt_cmpD (op_gt) (castO hM opt_gt) h1 h2 hm
theorem vt_gt (hM : b.M = ⟨X.K, X.mg⟩) (h1 : PE X e1 (tA1 b W g1)) (h2 : PE X e2 (tA1 b W g2)) (hm : behindInMarks .Gt e2 = false := by first | exact nobehind _ (by decide) (by decide) | rfl) : PT X (.Compare e1 [.Gt] [e2] pos) (tBo b W (tstF (op2V gtD g1 g2))) := pt_cmpDV (op_gt) (castO hM opt_gt) h1 h2 hm
theorem q_ge (hM : b.M = ⟨X.K, X.mg⟩) (h1 : PE X e1 (tE b W f1)) (h2 : PE X e2 (tE b W f2)) (hm : behindInMarks .GtE e2 = false := by first | exact nobehind _ (by decide) (by decide) | rfl) : PE X (.Compare e1 [.GtE] [e2] pos) (tE b W (op2F geD f1 f2)) := pd_cmp (op_ge) (castO hM opt_ge) h1 h2 hm
theorem v_ge (hM : b.M = ⟨X.K, X.mg⟩) (h1 : PE X e1 (tA1 b W g1)) (h2 : PE X e2 (tA1 b W g2)) (hm : behindInMarks .GtE e2 = false := by first | exact nobehind _ (by decide) (by decide) | rfl) : PE X (.Compare e1 [.GtE] [e2] pos) (tE b W (op2V geD g1 g2)) := pd_cmpV (op_ge) (castO hM opt_ge) h1 h2 hm
theorem qt_ge (hM : b.M = ⟨X.K, X.mg⟩) (h1 : PE X e1 (tE b W f1)) (h2 : PE X e2 (tE b W f2)) (hm : behindInMarks .GtE e2 = false := by first | exact nobehind _ (by decide) (by decide) | rfl) : PT X (.Compare e1 [.GtE] [e2] pos) (tBo b W (tstF (op2F geD f1 f2))) := pt_cmpD (op_ge) (castO hM opt_ge) h1 h2 hm
theorem vt_ge (hM : b.M = ⟨X.K, X.mg⟩) (h1 : PE X e1 (tA1 b W g1)) (h2 : PE X e2 (tA1 b W g2)) (hm : behindInMarks .GtE e2 = false := by first | exact nobehind _ (by decide) (by decide) | rfl) : PT X (.Compare e1 [.GtE] [e2] pos) (tBo b W (tstF (op2V geD g1 g2))) := pt_cmpDV (op_ge) (castO hM opt_ge) h1 h2 hm
theorem q_eq (hM : b.M = ⟨X.K, X.mg⟩) (hr : Room k X.A) (h1 : PE X e1 (tE b W f1)) (h2 : PE X e2 (tE b W f2)) (hm : behindInMarks .Eq e2 = false := by first | exact nobehind _ (by decide) (by decide) | rfl) : PE X (.Compare e1 [.Eq] [e2] pos) (tE b W (op2F eqD f1 f2)) := pd_cmp (op_eqR hr) (castO hM opt_eq) h1 h2 hm
theorem v_eq (hM : b.M = ⟨X.K, X.mg⟩) (hr : Room k X.A) (h1 : PE X e1 (tA1 b W g1)) (h2 : PE X e2 (tA1 b W g2)) (hm : behindInMarks .Eq e2 = false := by first | exact nobehind _ (by decide) (by decide) | rfl) : PE X (.Compare e1 [.Eq] [e2] pos) (tE b W (op2V eqD g1 g2)) := pd_cmpV (op_eqR hr) (castO hM opt_eq) h1 h2 hm
theorem qt_eq (hM : b.M = ⟨X.K, X.mg⟩) (hr : Room k X.A) (h1 : PE X e1 (tE b W f1)) (h2 : PE X e2 (tE b W f2)) (hm : behindInMarks .Eq e2 = false := by first | exact nobehind _ (by decide) (by decide) | rfl) : PT X (.Compare e1 [.Eq] [e2] pos) (tBo b W (tstF (op2F eqD f1 f2))) := pt_cmpD (op_eqR hr) (castO hM opt_eq) h1 h2 hm
theorem vt_eq (hM : b.M = ⟨X.K, X.mg⟩) (hr : Room k X.A) (h1 : PE X e1 (tA1 b W g1)) (h2 : PE X e2 (tA1 b W g2)) (hm : behindInMarks .Eq e2 = false := by first | exact nobehind _ (by decide) (by decide) | rfl) : PT X (.Compare e1 [.Eq] [e2] pos) (tBo b W (tstF (op2V eqD g1 g2))) := pt_cmpDV (op_eqR hr) (castO hM opt_eq) h1 h2 hm
theorem q_ne (hM : b.M = ⟨X.K, X.mg⟩) (hr : Room k X.A) (h1 : PE X e1 (tE b W f1)) (h2 : PE X e2 (tE b W f2)) (hm : behindInMarks .NotEq e2 = false := by first | exact nobehind _ (by decide) (by decide) | rfl) : PE X (.Compare e1 [.NotEq] [e2] pos) (tE b W (op2F neD f1 f2)) := pd_cmp (op_neR hr) (castO hM opt_ne) h1 h2 hm
theorem v_ne (hM : b.M = ⟨X.K, X.mg⟩) (hr : Room k X.A) (h1 : PE X e1 (tA1 b W g1)) (h2 : PE X e2 (tA1 b W g2)) (hm : behindInMarks .NotEq e2 = false := by first | exact nobehind _ (by decide) (by decide) | rfl) : PE X (.Compare e1 [.NotEq] [e2] pos) (tE b W (op2V neD g1 g2)) := pd_cmpV (op_neR hr) (castO hM opt_ne) h1 h2 hm
theorem qt_ne (hM : b.M = ⟨X.K, X.mg⟩) (hr : Room k X.A) (h1 : PE X e1 (tE b W f1)) (h2 : PE X e2 (tE b W f2)) (hm : behindInMarks .NotEq e2 = false := by first | exact nobehind _ (by decide) (by decide) | rfl) : PT X (.Compare e1 [.NotEq] [e2] pos) (tBo b W (tstF (op2F neD f1 f2))) := pt_cmpD (op_neR hr) (castO hM opt_ne) h1 h2 hm
theorem vt_ne (hM : b.M = ⟨X.K, X.mg⟩) (hr : Room k X.A) (h1 : PE X e1 (tA1 b W g1)) (h2 : PE X e2 (tA1 b W g2)) (hm : behindInMarks .NotEq e2 = false := by first | exact nobehind _ (by decide) (by decide) | rfl) : PT X (.Compare e1 [.NotEq] [e2] pos) (tBo b W (tstF (op2V neD g1 g2))) := pt_cmpDV (op_neR hr) (castO hM opt_ne) h1 h2 hm
theorem q_in (hM : b.M = ⟨X.K, X.mg⟩) (hr : Room k X.A) (h1 : PE X e1 (tE b W f1)) (h2 : PE X e2 (tE b W f2)) (hm : behindInMarks .In e2 = false := by first | exact nobehind _ (by decide) (by decide) | rfl) : PE X (.Compare e1 [.In] [e2] pos) (tE b W (op2F inD f1 f2)) := pd_cmp (op_inR hr) (castO hM opt_in) h1 h2 hm
theorem v_in (hM : b.M = ⟨X.K, X.mg⟩) (hr : Room k X.A) (h1 : PE X e1 (tA1 b W g1)) (h2 : PE X e2 (tA1 b W g2)) (hm : behindInMarks .In e2 = false := by first | exact nobehind _ (by decide) (by decide) | rfl) : PE X (.Compare e1 [.In] [e2] pos) (tE b W (op2V inD g1 g2)) := pd_cmpV (op_inR hr) (castO hM opt_in) h1 h2 hm
theorem qt_in (hM : b.M = ⟨X.K, X.mg⟩) (hr : Room k X.A) (h1 : PE X e1 (tE b W f1)) (h2 : PE X e2 (tE b W f2)) (hm : behindInMarks .In e2 = false := by first | exact nobehind _ (by decide) (by decide) | rfl) : PT X (.Compare e1 [.In] [e2] pos) (tBo b W (tstF (op2F inD f1 f2))) := pt_cmpD (op_inR hr) (castO hM opt_in) h1 h2 hm
theorem vt_in (hM : b.M = ⟨X.K, X.mg⟩) (hr : Room k X.A) (h1 : PE X e1 (tA1 b W g1)) (h2 : PE X e2 (tA1 b W g2)) (hm : behindInMarks .In e2 = false := by first | exact nobehind _ (by decide) (by decide) | rfl) : PT X (.Compare e1 [.In] [e2] pos) (tBo b W (tstF (op2V inD g1 g2))) := pt_cmpDV (op_inR hr) (castO hM opt_in) h1 h2 hm
theorem q_notin (hM : b.M = ⟨X.K, X.mg⟩) (hr : Room k X.A) (h1 : PE X e1 (tE b W f1)) (h2 : PE X e2 (tE b W f2)) (hm : behindInMarks .NotIn e2 = false := by first | exact nobehind _ (by decide) (by decide) | rfl) : PE X (.Compare e1 [.NotIn] [e2] pos) (tE b W (op2F notInD f1 f2)) := pd_cmp (op_notInR hr) (castO hM opt_notIn) h1 h2 hm
theorem v_notin (hM : b.M = ⟨X.K, X.mg⟩) (hr : Room k X.A) (h1 : PE X e1 (tA1 b W g1)) (h2 : PE X e2 (tA1 b W g2)) (hm : behindInMarks .NotIn e2 = false := by first | exact nobehind _ (by decide) (by decide) | rfl) : PE X (.Compare e1 [.NotIn] [e2] pos) (tE b W (op2V notInD g1 g2)) := pd_cmpV (op_notInR hr) (castO hM opt_notIn) h1 h2 hm
theorem qt_notin (hM : b.M = ⟨X.K, X.mg⟩) (hr : Room k X.A) (h1 : PE X e1 (tE b W f1)) (h2 : PE X e2 (tE b W f2)) (hm : behindInMarks .NotIn e2 = false := by first | exact nobehind _ (by decide) (by decide) | rfl) : PT X (.Compare e1 [.NotIn] [e2] pos) (tBo b W (tstF (op2F notInD f1 f2))) := pt_cmpD (op_notInR hr) (castO hM opt_notIn) h1 h2 hm
theorem vt_notin (hM : b.M = ⟨X.K, X.mg⟩) (hr : Room k X.A) (h1 : PE X e1 (tA1 b W g1)) (h2 : PE X e2 (tA1 b W g2)) (hm : behindInMarks .NotIn e2 = false := by first | exact nobehind _ (by decide) (by decide) | rfl) : PT X (.Compare e1 [.NotIn] [e2] pos) (tBo b W (tstF (op2V notInD g1 g2))) := pt_cmpDV (op_notInR hr) (castO hM opt_notIn) h1 h2 hm
theorem q_is (hM : b.M = ⟨X.K, X.mg⟩) (h1 : PE X e1 (tE b W f1)) (h2 : PE X e2 (tE b W f2)) (hm : behindInMarks .Is e2 = false := by first | exact nobehind _ (by decide) (by decide) | rfl) : PE X (.Compare e1 [.Is] [e2] pos) (tE b W (op2F isD f1 f2)) := pd_cmp (op_isN) (castO hM opt_is) h1 h2 hm
theorem v_is (hM : b.M = ⟨X.K, X.mg⟩) (h1 : PE X e1 (tA1 b W g1)) (h2 : PE X e2 (tA1 b W g2)) (hm : behindInMarks .Is e2 = false := by first | exact nobehind _ (by decide) (by decide) | rfl) : PE X (.Compare e1 [.Is] [e2] pos) (tE b W (op2V isD g1 g2)) := pd_cmpV (op_isN) (castO hM opt_is) h1 h2 hm
theorem qt_is (hM : b.M = ⟨X.K, X.mg⟩) (h1 : PE X e1 (tE b W f1)) (h2 : PE X e2 (tE b W f2)) (hm : behindInMarks .Is e2 = false := by first | exact nobehind _ (by decide) (by decide) | rfl) : PT X (.Compare e1 [.Is] [e2] pos) (tBo b W (tstF (op2F isD f1 f2))) := pt_cmpD (op_isN) (castO hM opt_is) h1 h2 hm
theorem vt_is (hM : b.M = ⟨X.K, X.mg⟩) (h1 : PE X e1 (tA1 b W g1)) (h2 : PE X e2 (tA1 b W g2)) (hm : behindInMarks .Is e2 = false := by first | exact nobehind _ (by decide) (by decide) | rfl) : PT X (.Compare e1 [.Is] [e2] pos) (tBo b W (tstF (op2V isD g1 g2))) := pt_cmpDV (op_isN) (castO hM opt_is) h1 h2 hm
theorem q_isnot (hM : b.M = ⟨X.K, X.mg⟩) (h1 : PE X e1 (tE b W f1)) (h2 : PE X e2 (tE b W f2)) (hm : behindInMarks .IsNot e2 = false := by first | exact nobehind _ (by decide) (by decide) | rfl) : PE X (.Compare e1 [.IsNot] [e2] pos) (tE b W (op2F isNotD f1 f2)) := pd_cmp (op_notN) (castO hM opt_isNot) h1 h2 hm
theorem v_isnot (hM : b.M = ⟨X.K, X.mg⟩) (h1 : PE X e1 (tA1 b W g1)) (h2 : PE X e2 (tA1 b W g2)) (hm : behindInMarks .IsNot e2 = false := by first | exact nobehind _ (by decide) (by decide) | rfl) : PE X (.Compare e1 [.IsNot] [e2] pos) (tE b W (op2V isNotD g1 g2)) := pd_cmpV (op_notN) (castO hM opt_isNot) h1 h2 hm
theorem qt_isnot (hM : b.M = ⟨X.K, X.mg⟩) (h1 : PE X e1 (tE b W f1)) (h2 : PE X e2 (tE b W f2)) (hm : behindInMarks .IsNot e2 = false := by first | exact nobehind _ (by decide) (by decide) | rfl) : PT X (.Compare e1 [.IsNot] [e2] pos) (tBo b W (tstF (op2F isNotD f1 f2))) := pt_cmpD (op_notN) (castO hM opt_isNot) h1 h2 hm
theorem vt_isnot (hM : b.M = ⟨X.K, X.mg⟩) (h1 : PE X e1 (tA1 b W g1)) (h2 : PE X e2 (tA1 b W g2)) (hm : behindInMarks .IsNot e2 = false := by first | exact nobehind _ (by decide) (by decide) | rfl) : PT X (.Compare e1 [.IsNot] [e2] pos) (tBo b W (tstF (op2V isNotD g1 g2))) := pt_cmpDV (op_notN) (castO hM opt_isNot) h1 h2 hm
theorem q_lt_lt (hM : b.M = ⟨X.K, X.mg⟩) (h1 : PE X e1 (tE b W f1)) (h2 : PE X e2 (tE b W f2)) (h3 : PE X e3 (tE b W f3)) (hm : lastMarks [.Lt, .Lt] [e2, e3] = false := by with_unfolding_all rfl) : PE X (.Compare e1 [.Lt, .Lt] [e2, e3] pos) (tE b W (chF ltD ltD f1 f2 f3)) := pd_chain (op_lt) (op_lt) (castO hM opt_lt) (castO hM opt_lt) h1 h2 h3 hm
theorem qt_lt_lt (hM : b.M = ⟨X.K, X.mg⟩) (h1 : PE X e1 (tE b W f1)) (h2 : PE X e2 (tE b W f2)) (h3 : PE X e3 (tE b W f3)) (hm : lastMarks [.Lt, .Lt] [e2, e3] = false := by with_unfolding_all rfl) : PT X (.Compare e1 [.Lt, .Lt] [e2, e3] pos) (tBo b W (tstF (chF ltD ltD f1 f2 f3))) := pt_chainD (op_lt) (op_lt) (castO hM opt_lt) (castO hM opt_lt) h1 h2 h3 hm
theorem q_lt_le (hM : b.M = ⟨X.K, X.mg⟩) (h1 : PE X e1 (tE b W f1)) (h2 : PE X e2 (tE b W f2)) (h3 : PE X e3 (tE b W f3)) (hm : lastMarks [.Lt, .LtE] [e2, e3] = false := by with_unfolding_all rfl) : PE X (.Compare e1 [.Lt, .LtE] [e2, e3] pos) (tE b W (chF ltD leD f1 f2 f3)) := pd_chain (op_lt) (op_le) (castO hM opt_lt) (castO hM opt_le) h1 h2 h3 hm
theorem qt_lt_le (hM : b.M = ⟨X.K, X.mg⟩) (h1 : PE X e1 (tE b W f1)) (h2 : PE X e2 (tE b W f2)) (h3 : PE X e3 (tE b W f3)) (hm : lastMarks [.Lt, .LtE] [e2, e3] = false := by with_unfolding_all rfl) : PT X (.Compare e1 [.Lt, .LtE] [e2, e3] pos) (tBo b W (tstF (chF ltD leD f1 f2 f3))) := pt_chainD (op_lt) (op_le) (castO hM opt_lt) (castO hM opt_le) h1 h2 h3 hm
theorem q_lt_gt (hM : b.M = ⟨X.K, X.mg⟩) (h1 : PE X e1 (tE b W f1)) (h2 : PE X e2 (tE b W f2)) (h3 : PE X e3 (tE b W f3)) (hm : lastMarks [.Lt, .Gt] [e2, e3] = false := by with_unfolding_all rfl) : PE X (.Compare e1 [.Lt, .Gt] [e2, e3] pos) (tE b W (chF ltD gtD f1 f2 f3)) := pd_chain (op_lt) (op_gt) (castO hM opt_lt) (castO hM opt_gt) h1 h2 h3 hm
theorem qt_lt_gt (hM : b.M = ⟨X.K, X.mg⟩) (h1 : PE X e1 (tE b W f1)) (h2 : PE X e2 (tE b W f2)) (h3 : PE X e3 (tE b W f3)) (hm : lastMarks [.Lt, .Gt] [e2, e3] = false := by with_unfolding_all rfl) : PT X (.Compare e1 [.Lt, .Gt] [e2, e3] pos) (tBo b W (tstF (chF ltD gtD f1 f2 f3))) := pt_chainD (op_lt) (op_gt) (castO hM opt_lt) (castO hM opt_gt) h1 h2 h3 hm
theorem q_lt_ge (hM : b.M = ⟨X.K, X.mg⟩) (h1 : PE X e1 (tE b W f1)) (h2 : PE X e2 (tE b W f2)) (h3 : PE X e3 (tE b W f3)) (hm : lastMarks [.Lt, .GtE] [e2, e3] = false := by with_unfolding_all rfl) : PE X (.Compare e1 [.Lt, .GtE] [e2, e3] pos) (tE b W (chF ltD geD f1 f2 f3)) := pd_chain (op_lt) (op_ge) (castO hM opt_lt) (castO hM opt_ge) h1 h2 h3 hm
theorem qt_lt_ge (hM : b.M = ⟨X.K, X.mg⟩) (h1 : PE X e1 (tE b W f1)) (h2 : PE X e2 (tE b W f2)) (h3 : PE X e3 (tE b W f3)) (hm : lastMarks [.Lt, .GtE] [e2, e3] = false := by with_unfolding_all rfl) : PT X (.Compare e1 [.Lt, .GtE] [e2, e3] pos) (tBo b W (tstF (chF ltD geD f1 f2 f3))) := pt_chainD (op_lt) (op_ge) (castO hM opt_lt) (castO hM opt_ge) h1 h2 h3 hm
theorem q_lt_eq (hM : b.M = ⟨X.K, X.mg⟩) (hr : Room k X.A) (h1 : PE X e1 (tE b W f1)) (h2 : PE X e2 (tE b W f2)) (h3 : PE X e3 (tE b W f3)) (hm : lastMarks [.Lt, .Eq] [e2, e3] = false := by with_unfolding_all rfl) : PE X (.Compare e1 [.Lt, .Eq] [e2, e3] pos) (tE b W (chF ltD eqD f1 f2 f3)) := pd_chain (op_lt) (op_eqR hr) (castO hM opt_lt) (castO hM opt_eq) h1 h2 h3 hm
theorem qt_lt_eq (hM : b.M = ⟨X.K, X.mg⟩) (hr : Room k X.A) (h1 : PE X e1 (tE b W f1)) (h2 : PE X e2 (tE b W f2)) (h3 : PE X e3 (tE b W f3)) (hm : lastMarks [.Lt, .Eq] [e2, e3] = false := by with_unfolding_all rfl) : PT X (.Compare e1 [.Lt, .Eq] [e2, e3] pos) (tBo b W (tstF (chF ltD eqD f1 f2 f3))) := pt_chainD (op_lt) (op_eqR hr) (castO hM opt_lt) (castO hM opt_eq) h1 h2 h3 hm
theorem q_lt_ne (hM : b.M = ⟨X.K, X.mg⟩) (hr : Room k X.A) (h1 : PE X e1 (tE b W f1)) (h2 : PE X e2 (tE b W f2)) (h3 : PE X e3 (tE b W f3)) (hm : lastMarks [.Lt, .NotEq] [e2, e3] = false := by with_unfolding_all rfl) : PE X (.Compare e1 [.Lt, .NotEq] [e2, e3] pos) (tE b W (chF ltD neD f1 f2 f3)) := pd_chain (op_lt) (op_neR hr) (castO hM opt_lt) (castO hM opt_ne) h1 h2 h3 hm
theorem qt_lt_ne (hM : b.M = ⟨X.K, X.mg⟩) (hr : Room k X.A) (h1 : PE X e1 (tE b W f1)) (h2 : PE X e2 (tE b W f2)) (h3 : PE X e3 (tE b W f3)) (hm : lastMarks [.Lt, .NotEq] [e2, e3] = false := by with_unfolding_all rfl) : PT X (.Compare e1 [.Lt, .NotEq] [e2, e3] pos) (tBo b W (tstF (chF ltD neD f1 f2 f3))) := pt_chainD (op_lt) (op_neR hr) (castO hM opt_lt) (castO hM opt_ne) h1 h2 h3 hm
theorem q_le_lt (hM : b.M = ⟨X.K, X.mg⟩) (h1 : PE X e1 (tE b W f1)) (h2 : PE X e2 (tE b W f2)) (h3 : PE X e3 (tE b W f3)) (hm : lastMarks [.LtE, .Lt] [e2, e3] = false := by with_unfolding_all rfl) : PE X (.Compare e1 [.LtE, .Lt] [e2, e3] pos) (tE b W (chF leD ltD f1 f2 f3)) := pd_chain (op_le) (op_lt) (castO hM opt_le) (castO hM opt_lt) h1 h2 h3 hm
theorem qt_le_lt (hM : b.M = ⟨X.K, X.mg⟩) (h1 : PE X e1 (tE b W f1)) (h2 : PE X e2 (tE b W f2)) (h3 : PE X e3 (tE b W f3)) (hm : lastMarks [.LtE, .Lt] [e2, e3] = false := by with_unfolding_all rfl) : PT X (.Compare e1 [.LtE, .Lt] [e2, e3] pos) (tBo b W (tstF (chF leD ltD f1 f2 f3))) := pt_chainD (op_le) (op_lt) (castO hM opt_le) (castO hM opt_lt) h1 h2 h3 hm
theorem q_le_le (hM : b.M = ⟨X.K, X.mg⟩) (h1 : PE X e1 (tE b W f1)) (h2 : PE X e2 (tE b W f2)) (h3 : PE X e3 (tE b W f3)) (hm : lastMarks [.LtE, .LtE] [e2, e3] = false := by with_unfolding_all rfl) : PE X (.Compare e1 [.LtE, .LtE] [e2, e3] pos) (tE b W (chF leD leD f1 f2 f3)) := pd_chain (op_le) (op_le) (castO hM opt_le) (castO hM opt_le) h1 h2 h3 hm
theorem qt_le_le (hM : b.M = ⟨X.K, X.mg⟩) (h1 : PE X e1 (tE b W f1)) (h2 : PE X e2 (tE b W f2)) (h3 : PE X e3 (tE b W f3)) (hm : lastMarks [.LtE, .LtE] [e2, e3] = false := by with_unfolding_all rfl) : PT X (.Compare e1 [.LtE, .LtE] [e2, e3] pos) (tBo b W (tstF (chF leD leD f1 f2 f3))) := pt_chainD (op_le) (op_le) (castO hM opt_le) (castO hM opt_le) h1 h2 h3 hm
theorem q_le_gt (hM : b.M = ⟨X.K, X.mg⟩) (h1 : PE X e1 (tE b W f1)) (h2 : PE X e2 (tE b W f2)) (h3 : PE X e3 (tE b W f3)) (hm : lastMarks [.LtE, .Gt] [e2, e3] = false := by with_unfolding_all rfl) : PE X (.Compare e1 [.LtE, .Gt] [e2, e3] pos) (tE b W (chF leD gtD f1 f2 f3)) := pd_chain (op_le) (op_gt) (castO hM opt_le) (castO hM opt_gt) h1 h2 h3 hm
theorem qt_le_gt (hM : b.M = ⟨X.K, X.mg⟩) (h1 : PE X e1 (tE b W f1)) (h2 : PE X e2 (tE b W f2)) (h3 : PE X e3 (tE b W f3)) (hm : lastMarks [.LtE, .Gt] [e2, e3] = false := by with_unfolding_all rfl) : PT X (.Compare e1 [.LtE, .Gt] [e2, e3] pos) (tBo b W (tstF (chF leD gtD f1 f2 f3))) := pt_chainD (op_le) (op_gt) (castO hM opt_le) (castO hM opt_gt) h1 h2 h3 hm
theorem q_le_ge (hM : b.M = ⟨X.K, X.mg⟩) (h1 : PE X e1 (tE b W f1)) (h2 : PE X e2 (tE b W f2)) (h3 : PE X e3 (tE b W f3)) (hm : lastMarks [.LtE, .GtE] [e2, e3] = false := by with_unfolding_all rfl) : PE X (.Compare e1 [.LtE, .GtE] [e2, e3] pos) (tE b W (chF leD geD f1 f2 f3)) := pd_chain (op_le) (op_ge) (castO hM opt_le) (castO hM opt_ge) h1 h2 h3 hm
theorem qt_le_ge (hM : b.M = ⟨X.K, X.mg⟩) (h1 : PE X e1 (tE b W f1)) (h2 : PE X e2 (tE b W f2)) (h3 : PE X e3 (tE b W f3)) (hm : lastMarks [.LtE, .GtE] [e2, e3] = false := by with_unfolding_all rfl) : PT X (.Compare e1 [.LtE, .GtE] [e2, e3] pos) (tBo b W (tstF (chF leD geD f1 f2 f3))) := pt_chainD (op_le) (op_ge) (castO hM opt_le) (castO hM opt_ge) h1 h2 h3 hm
theorem q_le_eq (hM : b.M = ⟨X.K, X.mg⟩) (hr : Room k X.A) (h1 : PE X e1 (tE b W f1)) (h2 : PE X e2 (tE b W f2)) (h3 : PE X e3 (tE b W f3)) (hm : lastMarks [.LtE, .Eq] [e2, e3] = false := by with_unfolding_all rfl) : PE X (.Compare e1 [.LtE, .Eq] [e2, e3] pos) (tE b W (chF leD eqD f1 f2 f3)) := pd_chain (op_le) (op_eqR hr) (castO hM opt_le) (castO hM opt_eq) h1 h2 h3 hm
theorem qt_le_eq (hM : b.M = ⟨X.K, X.mg⟩) (hr : Room k X.A) (h1 : PE X e1 (tE b W f1)) (h2 : PE X e2 (tE b W f2)) (h3 : PE X e3 (tE b W f3)) (hm : lastMarks [.LtE, .Eq] [e2, e3] = false := by with_unfolding_all rfl) : PT X (.Compare e1 [.LtE, .Eq] [e2, e3] pos) (tBo b W (tstF (chF leD eqD f1 f2 f3))) := pt_chainD (op_le) (op_eqR hr) (castO hM opt_le) (castO hM opt_eq) h1 h2 h3 hm
theorem q_le_ne (hM : b.M = ⟨X.K, X.mg⟩) (hr : Room k X.A) (h1 : PE X e1 (tE b W f1)) (h2 : PE X e2 (tE b W f2)) (h3 : PE X e3 (tE b W f3)) (hm : lastMarks [.LtE, .NotEq] [e2, e3] = false := by with_unfolding_all rfl) : PE X (.Compare e1 [.LtE, .NotEq] [e2, e3] pos) (tE b W (chF leD neD f1 f2 f3)) := pd_chain (op_le) (op_neR hr) (castO hM opt_le) (castO hM opt_ne) h1 h2 h3 hm
theorem qt_le_ne (hM : b.M = ⟨X.K, X.mg⟩) (hr : Room k X.A) (h1 : PE X e1 (tE b W f1)) (h2 : PE X e2 (tE b W f2)) (h3 : PE X e3 (tE b W f3)) (hm : lastMarks [.LtE, .NotEq] [e2, e3] = false := by with_unfolding_all rfl) : PT X (.Compare e1 [.LtE, .NotEq] [e2, e3] pos) (tBo b W (tstF (chF leD neD f1 f2 f3))) := pt_chainD (op_le) (op_neR hr) (castO hM opt_le) (castO hM opt_ne) h1 h2 h3 hm
theorem q_gt_lt (hM : b.M = ⟨X.K, X.mg⟩) (h1 : PE X e1 (tE b W f1)) (h2 : PE X e2 (tE b W f2)) (h3 : PE X e3 (tE b W f3)) (hm : lastMarks [.Gt, .Lt] [e2, e3] = false := by with_unfolding_all rfl) : PE X (.Compare e1 [.Gt, .Lt] [e2, e3] pos) (tE b W (chF gtD ltD f1 f2 f3)) := pd_chain (op_gt) (op_lt) (castO hM opt_gt) (castO hM opt_lt) h1 h2 h3 hm
theorem qt_gt_lt (hM : b.M = ⟨X.K, X.mg⟩) (h1 : PE X e1 (tE b W f1)) (h2 : PE X e2 (tE b W f2)) (h3 : PE X e3 (tE b W f3)) (hm : lastMarks [.Gt, .Lt] [e2, e3] = false := by with_unfolding_all rfl) : PT X (.Compare e1 [.Gt, .Lt] [e2, e3] pos) (tBo b W (tstF (chF gtD ltD f1 f2 f3))) := pt_chainD (op_gt) (op_lt) (castO hM opt_gt) (castO hM opt_lt) h1 h2 h3 hm
theorem q_gt_le (hM : b.M = ⟨X.K, X.mg⟩) (h1 : PE X e1 (tE b W f1)) (h2 : PE X e2 (tE b W f2)) (h3 : PE X e3 (tE b W f3)) (hm : lastMarks [.Gt, .LtE] [e2, e3] = false := by with_unfolding_all rfl) : PE X (.Compare e1 [.Gt, .LtE] [e2, e3] pos) (tE b W (chF gtD leD f1 f2 f3)) := pd_chain (op_gt) (op_le) (castO hM opt_gt) (castO hM opt_le) h1 h2 h3 hm
theorem qt_gt_le (hM : b.M = ⟨X.K, X.mg⟩) (h1 : PE X e1 (tE b W f1)) (h2 : PE X e2 (tE b W f2)) (h3 : PE X e3 (tE b W f3)) (hm : lastMarks [.Gt, .LtE] [e2, e3] = false := by with_unfolding_all rfl) : PT X (.Compare e1 [.Gt, .LtE] [e2, e3] pos) (tBo b W (tstF (chF gtD leD f1 f2 f3))) := pt_chainD (op_gt) (op_le) (castO hM opt_gt) (castO hM opt_le) h1 h2 h3 hm
theorem q_gt_gt (hM : b.M = ⟨X.K, X.mg⟩) (h1 : PE X e1 (tE b W f1)) (h2 : PE X e2 (tE b W f2)) (h3 : PE X e3 (tE b W f3)) (hm : lastMarks [.Gt, .Gt] [e2, e3] = false := by with_unfolding_all rfl) : PE X (.Compare e1 [.Gt, .Gt] [e2, e3] pos) (tE b W (chF gtD gtD f1 f2 f3)) := pd_chain (op_gt) (op_gt) (castO hM opt_gt) (castO hM opt_gt) h1 h2 h3 hm
theorem qt_gt_gt (hM : b.M = ⟨X.K, X.mg⟩) (h1 : PE X e1 (tE b W f1)) (h2 : PE X e2 (tE b W f2)) (h3 : PE X e3 (tE b W f3)) (hm : lastMarks [.Gt, .Gt] [e2, e3] = false := by with_unfolding_all rfl) : PT X (.Compare e1 [.Gt, .Gt] [e2, e3] pos) (tBo b W (tstF (chF gtD gtD f1 f2 f3))) := pt_chainD (op_gt) (op_gt) (castO hM opt_gt) (castO hM opt_gt) h1 h2 h3 hm
theorem q_gt_ge (hM : b.M = ⟨X.K, X.mg⟩) (h1 : PE X e1 (tE b W f1)) (h2 : PE X e2 (tE b W f2)) (h3 : PE X e3 (tE b W f3)) (hm : lastMarks [.Gt, .GtE] [e2, e3] = false := by with_unfolding_all rfl) : PE X (.Compare e1 [.Gt, .GtE] [e2, e3] pos) (tE b W (chF gtD geD f1 f2 f3)) := pd_chain (op_gt) (op_ge) (castO hM opt_gt) (castO hM opt_ge) h1 h2 h3 hm
theorem qt_gt_ge (hM : b.M = ⟨X.K, X.mg⟩) (h1 : PE X e1 (tE b W f1)) (h2 : PE X e2 (tE b W f2)) (h3 : PE X e3 (tE b W f3)) (hm : lastMarks [.Gt, .GtE] [e2, e3] = false := by with_unfolding_all rfl) : PT X (.Compare e1 [.Gt, .GtE] [e2, e3] pos) (tBo b W (tstF (chF gtD geD f1 f2 f3))) := pt_chainD (op_gt) (op_ge) (castO hM opt_gt) (castO hM opt_ge) h1 h2 h3 hm
theorem q_gt_eq (hM : b.M = ⟨X.K, X.mg⟩) (hr : Room k X.A) (h1 : PE X e1 (tE b W f1)) (h2 : PE X e2 (tE b W f2)) (h3 : PE X e3 (tE b W f3)) (hm : lastMarks [.Gt, .Eq] [e2, e3] = false := by with_unfolding_all rfl) : PE X (.Compare e1 [.Gt, .Eq] [e2, e3] pos) (tE b W (chF gtD eqD f1 f2 f3)) := pd_chain (op_gt) (op_eqR hr) (castO hM opt_gt) (castO hM opt_eq) h1 h2 h3 hm
theorem qt_gt_eq (hM : b.M = ⟨X.K, X.mg⟩) (hr : Room k X.A) (h1 : PE X e1 (tE b W f1)) (h2 : PE X e2 (tE b W f2)) (h3 : PE X e3 (tE b W f3)) (hm : lastMarks [.Gt, .Eq] [e2, e3] = false := by with_unfolding_all rfl) : PT X (.Compare e1 [.Gt, .Eq] [e2, e3] pos) (tBo b W (tstF (chF gtD eqD f1 f2 f3))) := pt_chainD (op_gt) (op_eqR hr) (castO hM opt_gt) (castO hM opt_eq) h1 h2 h3 hm
theorem q_gt_ne (hM : b.M = ⟨X.K, X.mg⟩) (hr : Room k X.A) (h1 : PE X e1 (tE b W f1)) (h2 : PE X e2 (tE b W f2)) (h3 : PE X e3 (tE b W f3)) (hm : lastMarks [.Gt, .NotEq] [e2, e3] = false := by with_unfolding_all rfl) : PE X (.Compare e1 [.Gt, .NotEq] [e2, e3] pos) (tE b W (chF gtD neD f1 f2 f3)) := pd_chain (op_gt) (op_neR hr) (castO hM opt_gt) (castO hM opt_ne) h1 h2 h3 hm
theorem qt_gt_ne (hM : b.M = ⟨X.K, X.mg⟩) (hr : Room k X.A) (h1 : PE X e1 (tE b W f1)) (h2 : PE X e2 (tE b W f2)) (h3 : PE X e3 (tE b W f3)) (hm : lastMarks [.Gt, .NotEq] [e2, e3] = false := by with_unfolding_all rfl) : PT X (.Compare e1 [.Gt, .NotEq] [e2, e3] pos) (tBo b W (tstF (chF gtD neD f1 f2 f3))) := pt_chainD (op_gt) (op_neR hr) (castO hM opt_gt) (castO hM opt_ne) h1 h2 h3 hm
theorem q_ge_lt (hM : b.M = ⟨X.K, X.mg⟩) (h1 : PE X e1 (tE b W f1)) (h2 : PE X e2 (tE b W f2)) (h3 : PE X e3 (tE b W f3)) (hm : lastMarks [.GtE, .Lt] [e2, e3] = false := by with_unfolding_all rfl) : PE X (.Compare e1 [.GtE, .Lt] [e2, e3] pos) (tE b W (chF geD ltD f1 f2 f3)) := pd_chain (op_ge) (op_lt) (castO hM opt_ge) (castO hM opt_lt) h1 h2 h3 hm
theorem qt_ge_lt (hM : b.M = ⟨X.K, X.mg⟩) (h1 : PE X e1 (tE b W f1)) (h2 : PE X e2 (tE b W f2)) (h3 : PE X e3 (tE b W f3)) (hm : lastMarks [.GtE, .Lt] [e2, e3] = false := by with_unfolding_all rfl) : PT X (.Compare e1 [.GtE, .Lt] [e2, e3] pos) (tBo b W (tstF (chF geD ltD f1 f2 f3))) := pt_chainD (op_ge) (op_lt) (castO hM opt_ge) (castO hM opt_lt) h1 h2 h3 hm
theorem q_ge_le (hM : b.M = ⟨X.K, X.mg⟩) (h1 : PE X e1 (tE b W f1)) (h2 : PE X e2 (tE b W f2)) (h3 : PE X e3 (tE b W f3)) (hm : lastMarks [.GtE, .LtE] [e2, e3] = false := by with_unfolding_all rfl) : PE X (.Compare e1 [.GtE, .LtE] [e2, e3] pos) (tE b W (chF geD leD f1 f2 f3)) := pd_chain (op_ge) (op_le) (castO hM opt_ge) (castO hM opt_le) h1 h2 h3 hm
theorem qt_ge_le (hM : b.M = ⟨X.K, X.mg⟩) (h1 : PE X e1 (tE b W f1)) (h2 : PE X e2 (tE b W f2)) (h3 : PE X e3 (tE b W f3)) (hm : lastMarks [.GtE, .LtE] [e2, e3] = false := by with_unfolding_all rfl) : PT X (.Compare e1 [.GtE, .LtE] [e2, e3] pos) (tBo b W (tstF (chF geD leD f1 f2 f3))) := pt_chainD (op_ge) (op_le) (castO hM opt_ge) (castO hM opt_le) h1 h2 h3 hm
theorem q_ge_gt (hM : b.M = ⟨X.K, X.mg⟩) (h1 : PE X e1 (tE b W f1)) (h2 : PE X e2 (tE b W f2)) (h3 : PE X e3 (tE b W f3)) (hm : lastMarks [.GtE, .Gt] [e2, e3] = false := by with_unfolding_all rfl) : PE X (.Compare e1 [.GtE, .Gt] [e2, e3] pos) (tE b W (chF geD gtD f1 f2 f3)) := pd_chain (op_ge) (op_gt) (castO hM opt_ge) (castO hM opt_gt) h1 h2 h3 hm
theorem qt_ge_gt (hM : b.M = ⟨X.K, X.mg⟩) (h1 : PE X e1 (tE b W f1)) (h2 : PE X e2 (tE b W f2)) (h3 : PE X e3 (tE b W f3)) (hm : lastMarks [.GtE, .Gt] [e2, e3] = false := by with_unfolding_all rfl) : PT X (.Compare e1 [.GtE, .Gt] [e2, e3] pos) (tBo b W (tstF (chF geD gtD f1 f2 f3))) := pt_chainD (op_ge) (op_gt) (castO hM opt_ge) (castO hM opt_gt) h1 h2 h3 hm
theorem q_ge_ge (hM : b.M = ⟨X.K, X.mg⟩) (h1 : PE X e1 (tE b W f1)) (h2 : PE X e2 (tE b W f2)) (h3 : PE X e3 (tE b W f3)) (hm : lastMarks [.GtE, .GtE] [e2, e3] = false := by with_unfolding_all rfl) : PE X (.Compare e1 [.GtE, .GtE] [e2, e3] pos) (tE b W (chF geD geD f1 f2 f3)) := pd_chain (op_ge) (op_ge) (castO hM opt_ge) (castO hM opt_ge) h1 h2 h3 hm
theorem qt_ge_ge (hM : b.M = ⟨X.K, X.mg⟩) (h1 : PE X e1 (tE b W f1)) (h2 : PE X e2 (tE b W f2)) (h3 : PE X e3 (tE b W f3)) (hm : lastMarks [.GtE, .GtE] [e2, e3] = false := by with_unfolding_all rfl) : PT X (.Compare e1 [.GtE, .GtE] [e2, e3] pos) (tBo b W (tstF (chF geD geD f1 f2 f3))) := pt_chainD (op_ge) (op_ge) (castO hM opt_ge) (castO hM opt_ge) h1 h2 h3 hm
theorem q_ge_eq (hM : b.M = ⟨X.K, X.mg⟩) (hr : Room k X.A) (h1 : PE X e1 (tE b W f1)) (h2 : PE X e2 (tE b W f2)) (h3 : PE X e3 (tE b W f3)) (hm : lastMarks [.GtE, .Eq] [e2, e3] = false := by with_unfolding_all rfl) : PE X (.Compare e1 [.GtE, .Eq] [e2, e3] pos) (tE b W (chF geD eqD f1 f2 f3)) := pd_chain (op_ge) (op_eqR hr) (castO hM opt_ge) (castO hM opt_eq) h1 h2 h3 hm
theorem qt_ge_eq (hM : b.M = ⟨X.K, X.mg⟩) (hr : Room k X.A) (h1 : PE X e1 (tE b W f1)) (h2 : PE X e2 (tE b W f2)) (h3 : PE X e3 (tE b W f3)) (hm : lastMarks [.GtE, .Eq] [e2, e3] = false := by with_unfolding_all rfl) : PT X (.Compare e1 [.GtE, .Eq] [e2, e3] pos) (tBo b W (tstF (chF geD eqD f1 f2 f3))) := pt_chainD (op_ge) (op_eqR hr) (castO hM opt_ge) (castO hM opt_eq) h1 h2 h3 hm
theorem q_ge_ne (hM : b.M = ⟨X.K, X.mg⟩) (hr : Room k X.A) (h1 : PE X e1 (tE b W f1)) (h2 : PE X e2 (tE b W f2)) (h3 : PE X e3 (tE b W f3)) (hm : lastMarks [.GtE, .NotEq] [e2, e3] = false := by with_unfolding_all rfl) : PE X (.Compare e1 [.GtE, .NotEq] [e2, e3] pos) (tE b W (chF geD neD f1 f2 f3)) := pd_chain (op_ge) (op_neR hr) (castO hM opt_ge) (castO hM opt_ne) h1 h2 h3 hm
theorem qt_ge_ne (hM : b.M = ⟨X.K, X.mg⟩) (hr : Room k X.A) (h1 : PE X e1 (tE b W f1)) (h2 : PE X e2 (tE b W f2)) (h3 : PE X e3 (tE b W f3)) (hm : lastMarks [.GtE, .NotEq] [e2, e3] = false := by with_unfolding_all rfl) : PT X (.Compare e1 [.GtE, .NotEq] [e2, e3] pos) (tBo b W (tstF (chF geD neD f1 f2 f3))) := pt_chainD (op_ge) (op_neR hr) (castO hM opt_ge) (castO hM opt_ne) h1 h2 h3 hm
theorem q_eq_lt (hM : b.M = ⟨X.K, X.mg⟩) (hr : Room k X.A) (h1 : PE X e1 (tE b W f1)) (h2 : PE X e2 (tE b W f2)) (h3 : PE X e3 (tE b W f3)) (hm : lastMarks [.Eq, .Lt] [e2, e3] = false := by with_unfolding_all rfl) : PE X (.Compare e1 [.Eq, .Lt] [e2, e3] pos) (tE b W (chF eqD ltD f1 f2 f3)) := pd_chain (op_eqR hr) (op_lt) (castO hM opt_eq) (castO hM opt_lt) h1 h2 h3 hm
theorem qt_eq_lt (hM : b.M = ⟨X.K, X.mg⟩) (hr : Room k X.A) (h1 : PE X e1 (tE b W f1)) (h2 : PE X e2 (tE b W f2)) (h3 : PE X e3 (tE b W f3)) (hm : lastMarks [.Eq, .Lt] [e2, e3] = false := by with_unfolding_all rfl) : PT X (.Compare e1 [.Eq, .Lt] [e2, e3] pos) (tBo b W (tstF (chF eqD ltD f1 f2 f3))) := pt_chainD (op_eqR hr) (op_lt) (castO hM opt_eq) (castO hM opt_lt) h1 h2 h3 hm
theorem q_eq_le (hM : b.M = ⟨X.K, X.mg⟩) (hr : Room k X.A) (h1 : PE X e1 (tE b W f1)) (h2 : PE X e2 (tE b W f2)) (h3 : PE X e3 (tE b W f3)) (hm : lastMarks [.Eq, .LtE] [e2, e3] = false := by with_unfolding_all rfl) : PE X (.Compare e1 [.Eq, .LtE] [e2, e3] pos) (tE b W (chF eqD leD f1 f2 f3)) := pd_chain (op_eqR hr) (op_le) (castO hM opt_eq) (castO hM opt_le) h1 h2 h3 hm
theorem qt_eq_le (hM : b.M = ⟨X.K, X.mg⟩) (hr : Room k X.A) (h1 : PE X e1 (tE b W f1)) (h2 : PE X e2 (tE b W f2)) (h3 : PE X e3 (tE b W f3)) (hm : lastMarks [.Eq, .LtE] [e2, e3] = false := by with_unfolding_all rfl) : PT X (.Compare e1 [.Eq, .LtE] [e2, e3] pos) (tBo b W (tstF (chF eqD leD f1 f2 f3))) := pt_chainD (op_eqR hr) (op_le) (castO hM opt_eq) (castO hM opt_le) h1 h2 h3 hm
theorem q_eq_gt (hM : b.M = ⟨X.K, X.mg⟩) (hr : Room k X.A) (h1 : PE X e1 (tE b W f1)) (h2 : PE X e2 (tE b W f2)) (h3 : PE X e3 (tE b W f3)) (hm : lastMarks [.Eq, .Gt] [e2, e3] = false := by with_unfolding_all rfl) : PE X (.Compare e1 [.Eq, .Gt] [e2, e3] pos) (tE b W (chF eqD gtD f1 f2 f3)) := pd_chain (op_eqR hr) (op_gt) (castO hM opt_eq) (castO hM opt_gt) h1 h2 h3 hm
theorem qt_eq_gt (hM : b.M = ⟨X.K, X.mg⟩) (hr : Room k X.A) (h1 : PE X e1 (tE b W f1)) (h2 : PE X e2 (tE b W f2)) (h3 : PE X e3 (tE b W f3)) (hm : lastMarks [.Eq, .Gt] [e2, e3] = false := by with_unfolding_all rfl) : PT X (.Compare e1 [.Eq, .Gt] [e2, e3] pos) (tBo b W (tstF (chF eqD gtD f1 f2 f3))) := pt_chainD (op_eqR hr) (op_gt) (castO hM opt_eq) (castO hM opt_gt) h1 h2 h3 hm
theorem q_eq_ge (hM : b.M = ⟨X.K, X.mg⟩) (hr : Room k X.A) (h1 : PE X e1 (tE b W f1)) (h2 : PE X e2 (tE b W f2)) (h3 : PE X e3 (tE b W f3)) (hm : lastMarks [.Eq, .GtE] [e2, e3] = false := by with_unfolding_all rfl) : PE X (.Compare e1 [.Eq, .GtE] [e2, e3] pos) (tE b W (chF eqD geD f1 f2 f3)) := pd_chain (op_eqR hr) (op_ge) (castO hM opt_eq) (castO hM opt_ge) h1 h2 h3 hm
theorem qt_eq_ge (hM : b.M = ⟨X.K, X.mg⟩) (hr : Room k X.A) (h1 : PE X e1 (tE b W f1)) (h2 : PE X e2 (tE b W f2)) (h3 : PE X e3 (tE b W f3)) (hm : lastMarks [.Eq, .GtE] [e2, e3] = false := by with_unfolding_all rfl) : PT X (.Compare e1 [.Eq, .GtE] [e2, e3] pos) (tBo b W (tstF (chF eqD geD f1 f2 f3))) := pt_chainD (op_eqR hr) (op_ge) (castO hM opt_eq) (castO hM opt_ge) h1 h2 h3 hm
theorem q_eq_eq (hM : b.M = ⟨X.K, X.mg⟩) (hr : Room k X.A) (h1 : PE X e1 (tE b W f1)) (h2 : PE X e2 (tE b W f2)) (h3 : PE X e3 (tE b W f3)) (hm : lastMarks [.Eq, .Eq] [e2, e3] = false := by with_unfolding_all rfl) : PE X (.Compare e1 [.Eq, .Eq] [e2, e3] pos) (tE b W (chF eqD eqD f1 f2 f3)) := pd_chain (op_eqR hr) (op_eqR hr) (castO hM opt_eq) (castO hM opt_eq) h1 h2 h3 hm
theorem qt_eq_eq (hM : b.M = ⟨X.K, X.mg⟩) (hr : Room k X.A) (h1 : PE X e1 (tE b W f1)) (h2 : PE X e2 (tE b W f2)) (h3 : PE X e3 (tE b W f3)) (hm : lastMarks [.Eq, .Eq] [e2, e3] = false := by with_unfolding_all rfl) : PT X (.Compare e1 [.Eq, .Eq] [e2, e3] pos) (tBo b W (tstF (chF eqD eqD f1 f2 f3))) := pt_chainD (op_eqR hr) (op_eqR hr) (castO hM opt_eq) (castO hM opt_eq) h1 h2 h3 hm
theorem q_eq_ne (hM : b.M = ⟨X.K, X.mg⟩) (hr : Room k X.A) (h1 : PE X e1 (tE b W f1)) (h2 : PE X e2 (tE b W f2)) (h3 : PE X e3 (tE b W f3)) (hm : lastMarks [.Eq, .NotEq] [e2, e3] = false := by with_unfolding_all rfl) : PE X (.Compare e1 [.Eq, .NotEq] [e2, e3] pos) (tE b W (chF eqD neD f1 f2 f3)) := pd_chain (op_eqR hr) (op_neR hr) (castO hM opt_eq) (castO hM opt_ne) h1 h2 h3 hm
theorem qt_eq_ne (hM : b.M = ⟨X.K, X.mg⟩) (hr : Room k X.A) (h1 : PE X e1 (tE b W f1)) (h2 : PE X e2 (tE b W f2)) (h3 : PE X e3 (tE b W f3)) (hm : lastMarks [.Eq, .NotEq] [e2, e3] = false := by with_unfolding_all rfl) : PT X (.Compare e1 [.Eq, .NotEq] [e2, e3] pos) (tBo b W (tstF (chF eqD neD f1 f2 f3))) := pt_chainD (op_eqR hr) (op_neR hr) (castO hM opt_eq) (castO hM opt_ne) h1 h2 h3 hm
theorem q_ne_lt (hM : b.M = ⟨X.K, X.mg⟩) (hr : Room k X.A) (h1 : PE X e1 (tE b W f1)) (h2 : PE X e2 (tE b W f2)) (h3 : PE X e3 (tE b W f3)) (hm : lastMarks [.NotEq, .Lt] [e2, e3] = false := by with_unfolding_all rfl) : PE X (.Compare e1 [.NotEq, .Lt] [e2, e3] pos) (tE b W (chF neD ltD f1 f2 f3)) := pd_chain (op_neR hr) (op_lt) (castO hM opt_ne) (castO hM opt_lt) h1 h2 h3 hm
theorem qt_ne_lt (hM : b.M = ⟨X.K, X.mg⟩) (hr : Room k X.A) (h1 : PE X e1 (tE b W f1)) (h2 : PE X e2 (tE b W f2)) (h3 : PE X e3 (tE b W f3)) (hm : lastMarks [.NotEq, .Lt] [e2, e3] = false := by with_unfolding_all rfl) : PT X (.Compare e1 [.NotEq, .Lt] [e2, e3] pos) (tBo b W (tstF (chF neD ltD f1 f2 f3))) := pt_chainD (op_neR hr) (op_lt) (castO hM opt_ne) (castO hM opt_lt) h1 h2 h3 hm
theorem q_ne_le (hM : b.M = ⟨X.K, X.mg⟩) (hr : Room k X.A) (h1 : PE X e1 (tE b W f1)) (h2 : PE X e2 (tE b W f2)) (h3 : PE X e3 (tE b W f3)) (hm : lastMarks [.NotEq, .LtE] [e2, e3] = false := by with_unfolding_all rfl) : PE X (.Compare e1 [.NotEq, .LtE] [e2, e3] pos) (tE b W (chF neD leD f1 f2 f3)) := pd_chain (op_neR hr) (op_le) (castO hM opt_ne) (castO hM opt_le) h1 h2 h3 hm
theorem qt_ne_le (hM : b.M = ⟨X.K, X.mg⟩) (hr : Room k X.A) (h1 : PE X e1 (tE b W f1)) (h2 : PE X e2 (tE b W f2)) (h3 : PE X e3 (tE b W f3)) (hm : lastMarks [.NotEq, .LtE] [e2, e3] = false := by with_unfolding_all rfl) : PT X (.Compare e1 [.NotEq, .LtE] [e2, e3] pos) (tBo b W (tstF (chF neD leD f1 f2 f3))) := pt_chainD (op_neR hr) (op_le) (castO hM opt_ne) (castO hM opt_le) h1 h2 h3 hm
theorem q_ne_gt (hM : b.M = ⟨X.K, X.mg⟩) (hr : Room k X.A) (h1 : PE X e1 (tE b W f1)) (h2 : PE X e2 (tE b W f2)) (h3 : PE X e3 (tE b W f3)) (hm : lastMarks [.NotEq, .Gt] [e2, e3] = false := by with_unfolding_all rfl) : PE X (.Compare e1 [.NotEq, .Gt] [e2, e3] pos) (tE b W (chF neD gtD f1 f2 f3)) := pd_chain (op_neR hr) (op_gt) (castO hM opt_ne) (castO hM opt_gt) h1 h2 h3 hm
theorem qt_ne_gt (hM : b.M = ⟨X.K, X.mg⟩) (hr : Room k X.A) (h1 : PE X e1 (tE b W f1)) (h2 : PE X e2 (tE b W f2)) (h3 : PE X e3 (tE b W f3)) (hm : lastMarks [.NotEq, .Gt] [e2, e3] = false := by with_unfolding_all rfl) : PT X (.Compare e1 [.NotEq, .Gt] [e2, e3] pos) (tBo b W (tstF (chF neD gtD f1 f2 f3))) := pt_chainD (op_neR hr) (op_gt) (castO hM opt_ne) (castO hM opt_gt) h1 h2 h3 hm
theorem q_ne_ge (hM : b.M = ⟨X.K, X.mg⟩) (hr : Room k X.A) (h1 : PE X e1 (tE b W f1)) (h2 : PE X e2 (tE b W f2)) (h3 : PE X e3 (tE b W f3)) (hm : lastMarks [.NotEq, .GtE] [e2, e3] = false := by with_unfolding_all rfl) : PE X (.Compare e1 [.NotEq, .GtE] [e2, e3] pos) (tE b W (chF neD geD f1 f2 f3)) := pd_chain (op_neR hr) (op_ge) (castO hM opt_ne) (castO hM opt_ge) h1 h2 h3 hm
theorem qt_ne_ge (hM : b.M = ⟨X.K, X.mg⟩) (hr : Room k X.A) (h1 : PE X e1 (tE b W f1)) (h2 : PE X e2 (tE b W f2)) (h3 : PE X e3 (tE b W f3)) (hm : lastMarks [.NotEq, .GtE] [e2, e3] = false := by with_unfolding_all rfl) : PT X (.Compare e1 [.NotEq, .GtE] [e2, e3] pos) (tBo b W (tstF (chF neD geD f1 f2 f3))) := pt_chainD (op_neR hr) (op_ge) (castO hM opt_ne) (castO hM opt_ge) h1 h2 h3 hm
theorem q_ne_eq (hM : b.M = ⟨X.K, X.mg⟩) (hr : Room k X.A) (h1 : PE X e1 (tE b W f1)) (h2 : PE X e2 (tE b W f2)) (h3 : PE X e3 (tE b W f3)) (hm : lastMarks [.NotEq, .Eq] [e2, e3] = false := by with_unfolding_all rfl) : PE X (.Compare e1 [.NotEq, .Eq] [e2, e3] pos) (tE b W (chF neD eqD f1 f2 f3)) := pd_chain (op_neR hr) (op_eqR hr) (castO hM opt_ne) (castO hM opt_eq) h1 h2 h3 hm
theorem qt_ne_eq (hM : b.M = ⟨X.K, X.mg⟩) (hr : Room k X.A) (h1 : PE X e1 (tE b W f1)) (h2 : PE X e2 (tE b W f2)) (h3 : PE X e3 (tE b W f3)) (hm : lastMarks [.NotEq, .Eq] [e2, e3] = false := by with_unfolding_all rfl) : PT X (.Compare e1 [.NotEq, .Eq] [e2, e3] pos) (tBo b W (tstF (chF neD eqD f1 f2 f3))) := pt_chainD (op_neR hr) (op_eqR hr) (castO hM opt_ne) (castO hM opt_eq) h1 h2 h3 hm
theorem q_ne_ne (hM : b.M = ⟨X.K, X.mg⟩) (hr : Room k X.A) (h1 : PE X e1 (tE b W f1)) (h2 : PE X e2 (tE b W f2)) (h3 : PE X e3 (tE b W f3)) (hm : lastMarks [.NotEq, .NotEq] [e2, e3] = false := by with_unfolding_all rfl) : PE X (.Compare e1 [.NotEq, .NotEq] [e2, e3] pos) (tE b W (chF neD neD f1 f2 f3)) := pd_chain (op_neR hr) (op_neR hr) (castO hM opt_ne) (castO hM opt_ne) h1 h2 h3 hm
theorem qt_ne_ne (hM : b.M = ⟨X.K, X.mg⟩) (hr : Room k X.A) (h1 : PE X e1 (tE b W f1)) (h2 : PE X e2 (tE b W f2)) (h3 : PE X e3 (tE b W f3)) (hm : lastMarks [.NotEq, .NotEq] [e2, e3] = false := by with_unfolding_all rfl) : PT X (.Compare e1 [.NotEq, .NotEq] [e2, e3] pos) (tBo b W (tstF (chF neD neD f1 f2 f3))) := pt_chainD (op_neR hr) (op_neR hr) (castO hM opt_ne) (castO hM opt_ne) h1 h2 h3 hm
theorem q_ix (hM : b.M = ⟨X.K, X.mg⟩) (h1 : PE X e1 (tE b W f1)) (h2 : PE X e2 (tE b W f2)) (hs : PlainIx e2) : PE X (.Subscript e1 e2 pos) (tE b W (op2F ixD f1 f2)) := pd_ix ix_A (castO hM opt_ix) h1 h2 hs
theorem v_ix (hM : b.M = ⟨X.K, X.mg⟩) (h1 : PE X e1 (tA1 b W g1)) (h2 : PE X e2 (tA1 b W g2)) (hs : PlainIx e2) : PE X (.Subscript e1 e2 pos) (tE b W (op2V ixD g1 g2)) := pd_ixV ix_A (castO hM opt_ix) h1 h2 hs
theorem q_neg (h1 : PE X e1 (tE b W f1)) : PE X (.UnaryOp .USub e1 pos) (tE b W (op1F negD f1)) := pd_un un_neg unt_neg h1
end
section
variable {X : Cx} {b : B} {W : WX} {e : Expr} {es : List Expr} {fa : FV} {p pos : Pos} {r : List V → Hp → VK → Prop} {M M' : MM}
theorem castC {o : List D → Option D} (h : M = M') (q : CallT M' r o) : CallT M r o := by rw [h]; exact q
theorem castCF {o : List D → Option (List D)} (h : M = M') (q : CallTF M' r o) : CallTF M r o := by rw [h]; exact q
theorem c_len (hM : b.M = ⟨X.K, X.mg⟩) (hg : Gl X "len") (hm : X.mg "len" = none) (ha : PA X (e :: es) (tAv b W fa)) (he : starEach (e :: es) X.env = (false, eval e X.env) :: starEach es X.env := by rfl) (hpl : (backTo pos (starEach es X.env)).any (·.1) = false := by rfl) : PE X (.Call (.Name "len" p) (e :: es) [] pos) (tE b W (bltF lenD fa)) := pd_blt (call_lenA) (castC hM callT_len) hg hm (by decide +kernel) ha (by decide) (by decide) he hpl
theorem c_abs (hM : b.M = ⟨X.K, X.mg⟩) (hg : Gl X "abs") (hm : X.mg "abs" = none) (ha : PA X (e :: es) (tAv b W fa)) (he : starEach (e :: es) X.env = (false, eval e X.env) :: starEach es X.env := by rfl) (hpl : (backTo pos (starEach es X.env)).any (·.1) = false := by rfl) : PE X (.Call (.Name "abs" p) (e :: es) [] pos) (tE b W (bltF absD fa)) := pd_blt (call_abs) (castC hM callT_abs) hg hm (by decide +kernel) ha (by decide) (by decide) he hpl
theorem c_sum (hM : b.M = ⟨X.K, X.mg⟩) (hc : X.calm = true) (hg : Gl X "sum") (hm : X.mg "sum" = none) (ha : PA X (e :: es) (tAv b W fa)) (he : starEach (e :: es) X.env = (false, eval e X.env) :: starEach es X.env := by rfl) (hpl : (backTo pos (starEach es X.env)).any (·.1) = false := by rfl) : PE X (.Call (.Name "sum" p) (e :: es) [] pos) (tE b W (bltF sumD fa)) := pd_blt (cr_sumA hc) (castC hM callT_sum) hg hm (by decide +kernel) ha (by decide) (by decide) he hpl
theorem c_min (hM : b.M = ⟨X.K, X.mg⟩) (hc : X.calm = true) (hg : Gl X "min") (hm : X.mg "min" = none) (ha : PA X (e :: es) (tAv b W fa)) (he : starEach (e :: es) X.env = (false, eval e X.env) :: starEach es X.env := by rfl) (hpl : (backTo pos (starEach es X.env)).any (·.1) = false := by rfl) : PE X (.Call (.Name "min" p) (e :: es) [] pos) (tE b W (bltF minD fa)) := pd_blt (cr_minA hc) (castC hM callT_min) hg hm (by decide +kernel) ha (by decide) (by decide) he hpl
theorem c_max (hM : b.M = ⟨X.K, X.mg⟩) (hc : X.calm = true) (hg : Gl X "max") (hm : X.mg "max" = none) (ha : PA X (e :: es) (tAv b W fa)) (he : starEach (e :: es) X.env = (false, eval e X.env) :: starEach es X.env := by rfl) (hpl : (backTo pos (starEach es X.env)).any (·.1) = false := by rfl) : PE X (.Call (.Name "max" p) (e :: es) [] pos) (tE b W (bltF maxD fa)) := pd_blt (cr_maxA hc) (castC hM callT_max) hg hm (by decide +kernel) ha (by decide) (by decide) he hpl
theorem c_any (hM : b.M = ⟨X.K, X.mg⟩) (hc : X.calm = true) (hg : Gl X "any") (hm : X.mg "any" = none) (ha : PA X (e :: es) (tAv b W fa)) (he : starEach (e :: es) X.env = (false, eval e X.env) :: starEach es X.env := by rfl) (hpl : (backTo pos (starEach es X.env)).any (·.1) = false := by rfl) : PE X (.Call (.Name "any" p) (e :: es) [] pos) (tE b W (bltF anyD fa)) := pd_blt (cr_any hc) (castC hM callT_any) hg hm (by decide +kernel) ha (by decide) (by decide) he hpl
theorem c_all (hM : b.M = ⟨X.K, X.mg⟩) (hc : X.calm = true) (hg : Gl X "all") (hm : X.mg "all" = none) (ha : PA X (e :: es) (tAv b W fa)) (he : starEach (e :: es) X.env = (false, eval e X.env) :: starEach es X.env := by rfl) (hpl : (backTo pos (starEach es X.env)).any (·.1) = false := by rfl) : PE X (.Call (.Name "all" p) (e :: es) [] pos) (tE b W (bltF allD fa)) := pd_blt (cr_all hc) (castC hM callT_all) hg hm (by decide +kernel) ha (by decide) (by decide) he hpl
theorem c_int (hM : b.M = ⟨X.K, X.mg⟩) (hg : Gl X "int") (hm : X.mg "int" = none) (ha : PA X (e :: es) (tAv b W fa)) (he : starEach (e :: es) X.env = (false, eval e X.env) :: starEach es X.env := by rfl) (hpl : (backTo pos (starEach es X.env)).any (·.1) = false := by rfl) : PE X (.Call (.Name "int" p) (e :: es) [] pos) (tE b W (bltF intF fa)) := pd_ty (call_int1) (castC hM callT_int) hg hm (by decide +kernel) ha (by decide) (by decide) he hpl
theorem c_tuple (hM : b.M = ⟨X.K, X.mg⟩) (hg : Gl X "tuple") (hm : X.mg "tuple" = none) (ha : PA X (e :: es) (tAv b W fa)) (he : starEach (e :: es) X.env = (false, eval e X.env) :: starEach es X.env := by rfl) (hpl : (backTo pos (starEach es X.env)).any (·.1) = false := by rfl) : PE X (.Call (.Name "tuple" p) (e :: es) [] pos) (tE b W (bltF tupleD fa)) := pd_ty (call_tuple_of) (castC hM callT_tuple) hg hm (by decide +kernel) ha (by decide) (by decide) he hpl
theorem c_list (hM : b.M = ⟨X.K, X.mg⟩) (hg : Gl X "list") (hm : X.mg "list" = none) (ha : PA X (e :: es) (tAv b W fa)) (he : starEach (e :: es) X.env = (false, eval e X.env) :: starEach es X.env := by rfl) (hpl : (backTo pos (starEach es X.env)).any (·.1) = false := by rfl) : PE X (.Call (.Name "list" p) (e :: es) [] pos) (tFr b W (bltFF listD fa)) := pf_ty (call_list_of) (castCF hM callTF_list) hg hm (by decide +kernel) ha (by decide) (by decide) he hpl
theorem c_max2 (hM : b.M = ⟨X.K, X.mg⟩) (hc : X.calm = true) (hg : Gl X "max") (hm : X.mg "max" = none) (ha : PA X (e :: es) (tAv b W fa)) (he : starEach (e :: es) X.env = (false, eval e X.env) :: starEach es X.env := by rfl) (hpl : (backTo pos (starEach es X.env)).any (·.1) = false := by rfl) : PE X (.Call (.Name "max" p) (e :: es) [] pos) (tE b W (bltF max2D fa)) := pd_blt (call_max2 hc) (castC hM callT_max2) hg hm (by decide +kernel) ha (by decide) (by decide) he hpl
theorem c_min2 (hM : b.M = ⟨X.K, X.mg⟩) (hc : X.calm = true) (hg : Gl X "min") (hm : X.mg "min" = none) (ha : PA X (e :: es) (tAv b W fa)) (he : starEach (e :: es) X.env = (false, eval e X.env) :: starEach es X.env := by rfl) (hpl : (backTo pos (starEach es X.env)).any (·.1) = false := by rfl) : PE X (.Call (.Name "min" p) (e :: es) [] pos) (tE b W (bltF min2D fa)) := pd_blt (call_min2 hc) (castC hM callT_min2) hg hm (by decide +kernel) ha (by decide) (by decide) he hpl
end
section
variable {X : Cx} {b : B} {W : WX} {e : Expr} {es : List Expr} {fa fk : FV} {p pos : Pos} {k n n1 : Nat} {fA : Addr} {fd : FuncData} {ps ks : List Str} {dn : Dn} {x : Str} {dvs : List V} {dfs : List D} {kws : List Keyword} {qs : List KQ}
theorem q_call (hM : b.M = ⟨X.K, X.mg⟩) (tk : Takes X W) (F : FnOk X.prog X.w X.K X.mg X.base (L2.CX X.prog X.w) k fA fd ps (spD ⟨X.K, X.mg⟩ n dn)) (hr : Room k X.A) (hg : Gl X x) (hm : X.mg x = some (.ref fA)) (hk : PySem.W.keepIn X.K (.ref fA) = true)
    (hb : ∃ ds, Vals dvs ds ∧ Binds X.K fd ps ds) (hdf : ∀ M Fz H, RepL M Fz H dfs dvs) (ha : PA X (e :: es) (tAv b W fa)) (hdb : (x == ("__debug__" : Str)) = false := by decide)
    (he : starEach (e :: es) X.env = (false, eval e X.env) :: starEach es X.env := by rfl) (hpl : (backTo pos (starEach es X.env)).any (·.1) = false := by rfl) : PE X (.Call (.Name x p) (e :: es) [] pos) (tE b W (callF n dn dfs fa)) :=
  let ⟨_, hd, hb⟩ := hb
  pd_call hM tk F hr hg hm hk hb hd hdf ha hdb he hpl
theorem f_call (hM : b.M = ⟨X.K, X.mg⟩) (tk : Takes X W) (F : FnOk X.prog X.w X.K X.mg X.base (L2.CX X.prog X.w) k fA fd ps (spD ⟨X.K, X.mg⟩ n dn)) (hr : Room k X.A) (hg : Gl X x) (hm : X.mg x = some (.ref fA)) (hk : PySem.W.keepIn X.K (.ref fA) = true)
    (hb : ∃ ds, Vals dvs ds ∧ Binds X.K fd ps ds) (hdf : ∀ M Fz H, RepL M Fz H dfs dvs) (ha : PA X (e :: es) (tAv b W fa)) (hdb : (x == ("__debug__" : Str)) = false := by decide)
    (he : starEach (e :: es) X.env = (false, eval e X.env) :: starEach es X.env := by rfl) (hpl : (backTo pos (starEach es X.env)).any (·.1) = false := by rfl) : PE X (.Call (.Name x p) (e :: es) [] pos) (tFr b W (callFF n dn dfs fa)) :=
  let ⟨_, hd, hb⟩ := hb
  pf_call hM tk F hr hg hm hk hb hd hdf ha hdb he hpl
theorem q_call0 (hM : b.M = ⟨X.K, X.mg⟩) (tk : Takes X W) (F : FnOk X.prog X.w X.K X.mg X.base (L2.CX X.prog X.w) k fA fd ps (spD ⟨X.K, X.mg⟩ n dn)) (hr : Room k X.A) (hg : Gl X x) (hm : X.mg x = some (.ref fA)) (hk : PySem.W.keepIn X.K (.ref fA) = true)
    (hb : ∃ ds, Vals dvs ds ∧ Binds X.K fd ps ds) (hdf : ∀ M Fz H, RepL M Fz H dfs dvs) (hdb : (x == ("__debug__" : Str)) = false := by decide) : PE X (.Call (.Name x p) [] [] pos) (tE b W (callF n dn dfs nilV)) :=
  let ⟨_, hd, hb⟩ := hb
  pd_call0 hM tk F hr hg hm hk hb hd hdf hdb
theorem f_call0 (hM : b.M = ⟨X.K, X.mg⟩) (tk : Takes X W) (F : FnOk X.prog X.w X.K X.mg X.base (L2.CX X.prog X.w) k fA fd ps (spD ⟨X.K, X.mg⟩ n dn)) (hr : Room k X.A) (hg : Gl X x) (hm : X.mg x = some (.ref fA)) (hk : PySem.W.keepIn X.K (.ref fA) = true)
    (hb : ∃ ds, Vals dvs ds ∧ Binds X.K fd ps ds) (hdf : ∀ M Fz H, RepL M Fz H dfs dvs) (hdb : (x == ("__debug__" : Str)) = false := by decide) : PE X (.Call (.Name x p) [] [] pos) (tFr b W (callFF n dn dfs nilV)) :=
  let ⟨_, hd, hb⟩ := hb
  pf_call0 hM tk F hr hg hm hk hb hd hdf hdb
theorem q_callK (hM : b.M = ⟨X.K, X.mg⟩) (tk : Takes X W) (F : FnOk X.prog X.w X.K X.mg X.base (L2.CX X.prog X.w) k fA fd ps (spD ⟨X.K, X.mg⟩ n dn)) (hr : Room k X.A) (hg : Gl X x) (hm : X.mg x = some (.ref fA)) (hk : PySem.W.keepIn X.K (.ref fA) = true)
    (hb : ∃ its, KBn X.K fd ps n1 ks (fun us ws => pickG us its ws qs) (fun vs zs => pickG vs dvs zs qs)) (hdf : ∀ M Fz H, RepL M Fz H dfs dvs) (ha : PA X (e :: es) (tAv b W fa)) (hkw : PK X kws (tAv b W fk)) (hall : (backToKw pos (keywordEach kws X.env)).all (·.1.isSome) = true := by rfl) (hks : (backToKw pos (keywordEach kws X.env)).filterMap (·.1) = ks := by rfl)
    (hdb : (x == ("__debug__" : Str)) = false := by decide) (he : starEach (e :: es) X.env = (false, eval e X.env) :: starEach es X.env := by rfl)
    (hpl : ((backTo pos (starEach (e :: es) X.env)).any (·.1) || (backToKw pos (keywordEach kws X.env)).any (·.1.isNone)) = false := by rfl) :
    PE X (.Call (.Name x p) (e :: es) kws pos) (tE b W (callKF n n1 ks.length dn qs dfs fa fk)) :=
  let ⟨_, hb⟩ := hb
  pd_callK hM tk F hr hg hm hk hb hdf ha hkw hall hks hdb he hpl
theorem tyN {T : String} {x : Str} (hg : Gl X x) (hm : X.mg x = none) (hv : bootBuiltins x = some (.type T)) (hn : x ≠ "__name__" := by decide) (hd : (x == ("__debug__" : Str)) = false := by decide) : PE X (.Name x p) (tC (.ty T)) := pe_bltn hg hm hv rfl hn hd
end
theorem npl {b : B} {n i : Nat} (h : b.np = n) (q : n ≤ i) : b.np ≤ i := by rw [h]; exact q
end DL

set_option Elab.async false
set_option linter.all false
set_option maxRecDepth 100000
set_option maxHeartbeats 4000000
/-! DenC: own classes: making, fields. -/
namespace DL
open PySem L2 PySem.Spec PyProof.Rows

/-! ### C(e, ..), what goes out told by the state of the caller -/
section
variable {X : Cx} {CX : CXT} {k : Nat} {f C : Addr} {fd : FuncData} {ps : List Str} {sp : Sp} {dvs : List V} {ds : List Value} {E : L2.St → XK} {x : Str} {p pos : Pos} {e : Expr} {es : List Expr} {t : TA}
def tMakeS (C : Addr) (sp : Sp) (dvs : List V) (E : L2.St → XK) (t : TA) : TE := fun σ H Q => t σ H fun vs H1 => ∀ x dx, H1 x = none → H1 dx = none → dx ≠ x →
  sp (.ref x :: (vs ++ dvs)) (upd (upd H1 dx (.own x)) x (.ins C dx [])) (fun v H2 => v = .non ∧ Q (.ref x) H2) (E σ)
theorem pe_makeS (M : Mk X.K C f) (F : FnOk X.prog X.w X.K X.mg X.base CX k f fd ps sp) (hr : Room (k + 1) X.A) (hg : Gl X x) (hm : X.mg x = some (.ref C)) (hb : Binds X.K fd ps ds) (hd : Vals dvs ds) (hx : ∀ σ, PassesAt CX X σ (E σ))
    (ha : PA X (e :: es) t) (hdb : (x == ("__debug__" : Str)) = false := by decide) (he : starEach (e :: es) X.env = (false, eval e X.env) :: starEach es X.env := by rfl) (hpl : (backTo pos (starEach es X.env)).any (·.1) = false := by rfl) :
    PE X (.Call (.Name x p) (e :: es) [] pos) (tMakeS C sp dvs E t) := by
  refine ⟨fun pins s σ H Q I h => ?_⟩
  refine wpAny_Call_Name_kw (ld_glob I hg hm ?_ hdb)
  refine PySem.W.callWith_K (h₀ := X.base) I.ok.mod.kin M.kp (thn (ha.run pos pins s σ H _ I h) fun us s1 ⟨vs, H1, I1, r, q⟩ => ⟨I1.kIn, ?_⟩) he hpl
  have hq := q (s1.heap.objs.size + 1) s1.heap.objs.size (I1.hok.fresh (Nat.le_succ _)) (I1.hok.fresh (Nat.le_refl _)) (Nat.ne_of_lt (Nat.lt_succ_self _))
  have I2 := Inv.made (C := C) I1
  have rr : Vals (V.ref (s1.heap.objs.size + 1) :: (vs ++ dvs)) (Value.ref (s1.heap.objs.size + 1) :: (us ++ ds)) := .cons rfl (r.append hd)
  have hl : (Value.ref (s1.heap.objs.size + 1) :: us ++ ds).length = ps.length := by
    have z := rr.length
    rw [F.len _ _ _ _ hq] at z
    exact z.symm
  have go := F.run _ X.stack _ _ ⟨Value.ref (s1.heap.objs.size + 1) :: us, []⟩ (Value.ref (s1.heap.objs.size + 1) :: (us ++ ds)) _ _ (E σ) (hr.make C us []) (I2.env0.make C us []) (hb _ (Value.ref (s1.heap.objs.size + 1) :: us) I2.kIn hl) rr hq
  refine wpAny_call (make_map (f := f) I1.kIn M.makes M.init (beq_iff_eq.mp M.fn) (codeAny_mono go fun r s' w => ?_))
  match r, w with
  | .error e, w => exact hx σ pins _ _ e s' I2 w
  | .ok (.ret u), w =>
    obtain ⟨v, H', I3, rv, ev, q3⟩ := I2.after w
    subst ev
    exact ⟨rv, ⟨V.ref (s1.heap.objs.size + 1), H', I3, rfl, q3⟩⟩
  | .ok .next, w => exact w.elim
  | .ok .brk, w => exact w.elim
  | .ok .cont, w => exact w.elim
end

/-! ### making, as data -/
section
variable {X : Cx} {b : B} {W : WX} {k n : Nat} {C fI : Addr} {fd : FuncData} {ps : List Str} {dn : Dn} {x : Str} {p pos : Pos} {e : Expr} {es : List Expr} {fa : FV} {dvs : List V} {ds : List Value} {dfs : List D}
/-- C(..): the new instance, from now on data -/
def mkR (cn : Str) (n : Nat) (dn : Dn) (as : List AV) (g : Sg) : R D := if as.length + 1 = n ∧ nodupB (ownIx as) = true then match dn (.oi cn [] [] :: as.map (toS g)) with
    | .ok .non (.oi c ns ds :: ss) => .ok (.obj c ns ds) (merge g as ss)
    | .ex e (_ :: ss) => .ex e (merge g as ss)
    | _ => .no
  else .no
def mkF (cn : Str) (n : Nat) (dn : Dn) (dfs : List D) (fa : FV) : FE := fun g => (fa g).bd fun as g1 => mkR cn n dn (as ++ dfs.map AV.d) g1
theorem own_shift {s : S} {as : Sg} {o : Option V} {σ : L2.St} {i : Nat} {a : Addr} : Own (s :: as) (o :: σ) (i + 1) a ↔ Own as σ i a := by
  unfold Own
  rw [List.getElem?_cons_succ, List.getElem?_cons_succ]
theorem merge_back {σ : L2.St} {Fz : Fzn} {H : Hp} {g ss : Sg} {as : List AV} {xs : List V} {j : Nat} {a : Addr} (av : AVsOk b σ Fz H g as xs) (o : Own (merge g as ss) σ j a) : Own g σ j a := by
  obtain ⟨⟨t, et, wt⟩, q⟩ := o
  by_cases hm : j ∈ ownIx as
  · obtain ⟨k, e⟩ := List.getElem?_of_mem (mem_ownIx.mp hm)
    obtain ⟨x, ex, ox⟩ := avs_get av e
    obtain ⟨a2, _, ow2⟩ := ox
    exact ⟨ow2.1, q⟩
  · rw [merge_out as g ss j hm] at et
    exact ⟨⟨t, et, wt⟩, q⟩
section
variable {σ : L2.St} {H1 H' : Hp} {Fz1 Fz' : Fzn} {g1 ss : Sg} {as : List AV} {xs : List V} {y dx : Addr} {s0 s1 : S}
theorem mk_post (r1 : BRel b Fz1 g1 σ H1) (hy : H1 y = none) (hdx : H1 dx = none)
    (po : PostC b.M Fz1 (upd (upd H1 dx (.own y)) y (.ins C dx [])) (.ref y :: xs) (s0 :: as.map (toS g1)) Fz' H' (s1 :: ss)) : PostC b.M Fz1 H1 xs (as.map (toS g1)) Fz' H' ss where
  dom := po.dom
  fz := po.fz
  new := fun a h => (po.new a h).imp id fun z => by
    by_cases c : a = y
    · subst c; exact hy
    · rw [upd_ne c] at z
      by_cases c2 : a = dx
      · subst c2; exact hdx
      · rw [upd_ne c2] at z; exact z
  fr := fun a o h n => by
    have ny : a ≠ y := ne_of_none h hy
    have nd : a ≠ dx := ne_of_none h hdx
    refine po.fr a o (by rw [upd_ne ny, upd_ne nd]; exact h) fun ⟨i, z⟩ => ?_
    match i, z with
    | 0, ⟨_, q⟩ =>
      have e : (some (V.ref y) : Option V) = some (.ref a) := by simpa using q
      injection e with e
      injection e with e
      exact ny e.symm
    | i + 1, z => exact n ⟨i, own_shift.mp z⟩
  len := by have := po.len; simpa using this
  out := fun i a h => by
    obtain ⟨s, u, e, z⟩ := po.out (i + 1) a (own_shift.mpr h)
    exact ⟨s, u, by simpa using e, z⟩
theorem mk_ok {cn : Str} {Q : VK} (hmC : b.M.mg cn = some (.ref C)) (r1 : BRel b Fz1 g1 σ H1) (av : AVsOk b σ Fz1 H1 g1 as xs) (h1 : Po b W (bE b) σ Fz1 H1 (fun x _ _ H' _ => Q x H') (mkR cn n dn as g1))
    (hy : H1 y = none) (hdx : H1 dx = none) (hne : dx ≠ y) : spD b.M n dn (.ref y :: xs) (upd (upd H1 dx (.own y)) y (.ins C dx [])) (fun v H2 => v = .non ∧ Q (.ref y) H2) (WE W σ) := by
  unfold mkR at h1
  by_cases c : as.length + 1 = n ∧ nodupB (ownIx as) = true
  · rw [if_pos c] at h1
    have hy2 : upd H1 dx (.own y) y = none := by rw [upd_ne (Ne.symm hne)]; exact hy
    have gr : GrowTo Fz1 H1 Fz1 (upd (upd H1 dx (.own y)) y (.ins C dx [])) := (GrowTo.alloc hdx).trans (.alloc hy2)
    have r2 := r1.grow gr
    have av2 : AVsOk b σ Fz1 (upd (upd H1 dx (.own y)) y (.ins C dx [])) g1 as xs := by
      have key : ∀ {as : List AV} {xs : List V}, AVsOk b σ Fz1 H1 g1 as xs → AVsOk b σ Fz1 (upd (upd H1 dx (.own y)) y (.ins C dx [])) g1 as xs := fun {as} => by
        induction as with
        | nil => intro xs h; exact h
        | cons a as ih =>
          intro xs ⟨x, r, e1, e2, e3⟩
          refine ⟨x, r, e1, ?_, ih e3⟩
          cases a with
          | d d => exact Rep.grow gr e2
          | o i => exact e2
      exact key av
    have rel := args_rel r2 av2 c.2
    have nf : ¬ Fz1 y := r1.notFz hy
    have rel2 : ARel b.M Fz1 (upd (upd H1 dx (.own y)) y (.ins C dx [])) (.oi cn [] [] :: as.map (toS g1)) ((V.ref y :: xs).map some) := by
      refine ⟨by have := rel.len; simpa using this, fun i s e => ?_, fun i j a p q => ?_⟩
      · match i, e with
        | 0, e =>
          have e' : S.oi cn [] [] = s := by simpa using e
          subst e'
          exact ⟨y, _, rfl, nf, upd_same, C, dx, [], rfl, hmC, rfl, RepL.nil⟩
        | i + 1, e =>
          have z := rel.ok i s (by simpa using e)
          simpa using z
      · match i, j, p, q with
        | 0, 0, _, _ => rfl
        | 0, j + 1, ⟨_, p⟩, q =>
          have e : (some (V.ref y) : Option V) = some (.ref a) := by simpa using p
          injection e with e
          injection e with e
          subst e
          obtain ⟨k, e1, o1⟩ := toS_own r2 av2 (own_shift.mp q)
          obtain ⟨s, u, _, _, hu, _⟩ := r1.there o1
          rw [hy] at hu; cases hu
        | i + 1, 0, p, ⟨_, q⟩ =>
          have e : (some (V.ref y) : Option V) = some (.ref a) := by simpa using q
          injection e with e
          injection e with e
          subst e
          obtain ⟨k, e1, o1⟩ := toS_own r2 av2 (own_shift.mp p)
          obtain ⟨s, u, _, _, hu, _⟩ := r1.there o1
          rw [hy] at hu; cases hu
        | i + 1, j + 1, p, q => rw [rel.apart i j a (own_shift.mp p) (own_shift.mp q)]
    refine ⟨by rw [List.length_cons, ← avs_len av]; exact c.1, Fz1, _, r2.gr.dom, rel2, (fun i dss e => match i, e with
      | 0, e => by cases e
      | i + 1, e => args_noon r2 av2 i dss (by simpa using e)), ?_⟩
    cases q : dn (.oi cn [] [] :: as.map (toS g1)) with
    | ok d ss =>
      rw [q] at h1
      match d, ss, h1 with
      | .non, .oi c' ns ds' :: ss, h1 =>
        intro x H' Fz' po rep
        obtain ⟨r3, e3⟩ := after_call r1 av c.2 (mk_post r1 hy hdx po)
        refine ⟨rep_non' rep, ?_⟩
        obtain ⟨s, u, es, nf', hu, w⟩ := po.out 0 y ⟨⟨_, rfl, rfl⟩, rfl⟩
        have es' : S.oi c' ns ds' = s := by simpa using es
        subst es'
        obtain ⟨C', dx', vs', eu, hm', hl', rr'⟩ := w
        subst eu
        have no : ∀ i, ¬ AOwn (merge g1 as ss) σ H' i y := fun i o => by
          rcases o with o | o
          · obtain ⟨s, u, _, _, hu, _⟩ := r1.there (merge_back av o)
            rw [hy] at hu; cases hu
          · exact r1.notN hy i (call_nown r1 av c.2 (mk_post r1 hy hdx po) o)
        have r4 := r3.fzFresh (r1.new0 hy) hu no
        have ex4 : Ext Fz' H' (fzAdd Fz' y) H' := ⟨fun _ q => .inl q, fun _ _ q _ => q⟩
        refine h1.ok r4 (e3.trans ex4) ?_
        show Rep b.M (fzAdd Fz' y) H' (.obj c' ns ds') (.ref y)
        unfold Rep
        exact ⟨y, C', dx', vs', rfl, hm', .inr rfl, hu, hl', RepL.mono ex4 _ _ rr'⟩
    | okf zs ss => rw [q] at h1; exact h1.elim
    | ex ee ss =>
      rw [q] at h1
      match ss, h1 with
      | s1 :: ss, h1 =>
        intro cl dx' H' Fz' po ok
        obtain ⟨r3, e3⟩ := after_call r1 av c.2 (mk_post r1 hy hdx po)
        exact h1 cl dx' H' Fz' r3 e3 ok
    | no => rw [q] at h1; exact h1.elim
  · rw [if_neg c] at h1; exact h1.elim
end
theorem pd_make (hM : b.M = ⟨X.K, X.mg⟩) (tk : Takes X W) (M : Mk X.K C fI) (F : FnOk X.prog X.w X.K X.mg X.base (L2.CX X.prog X.w) k fI fd ps (spD ⟨X.K, X.mg⟩ n dn)) (hr : Room (k + 1) X.A) (hg : Gl X x) (hm : X.mg x = some (.ref C))
    (hb : ∃ ds, Vals dvs ds ∧ Binds X.K fd ps ds) (hdf : ∀ M Fz H, RepL M Fz H dfs dvs) (ha : PA X (e :: es) (tAv b W fa)) (hdb : (x == ("__debug__" : Str)) = false := by decide)
    (he : starEach (e :: es) X.env = (false, eval e X.env) :: starEach es X.env := by rfl) (hpl : (backTo pos (starEach es X.env)).any (·.1) = false := by rfl) : PE X (.Call (.Name x p) (e :: es) [] pos) (tE b W (mkF x n dn dfs fa)) :=
  let ⟨_, hd, hb⟩ := hb
  pe_mono (pe_makeS M F hr hg hm hb hd (fun σ => passAt tk σ) ha hdb he hpl) fun σ H Q ⟨Fz, g, r, h⟩ => tG_seq r h fun as xs g1 Fz1 H1 r1 e1 av h1 => fun y dx hy hdx hne => by
    have z := mk_ok (C := C) (by rw [hM]; exact hm) r1 (avs_app (dfs := dfs) av (hdf b.M Fz1 H1)) h1 hy hdx hne
    rw [hM] at z
    exact z
end

/-! ### self.f = e -/
section
variable {X : Cx} {b : B} {W : WX} {i : Nat} {e o : Expr} {fe : FE} {f0 cn : Str} {pos p' : Pos}
def putO (f : Str) (d : D) : List Str → List D → List Str × List D
  | m :: ns, x :: ds => if m = f then (m :: ns, d :: ds) else ((m :: (putO f d ns ds).1), (x :: (putO f d ns ds).2))
  | _, _ => ([f], [d])
theorem putO_ok {M : MM} {Fz : Fzn} {H : Hp} {f : Str} {d : D} {v : V} (rv : Rep M Fz H d v) : ∀ {ns : List Str} {ds : List D} {vs : List V}, ns.length = vs.length → RepL M Fz H ds vs →
    ∃ ws, putF f v (ns.zip vs) = (putO f d ns ds).1.zip ws ∧ (putO f d ns ds).1.length = ws.length ∧ RepL M Fz H (putO f d ns ds).2 ws
  | [], ds, vs, hl, r => by
    have hv : vs = [] := List.eq_nil_of_length_eq_zero hl.symm
    subst hv
    cases ds with
    | nil => exact ⟨[v], rfl, rfl, RepL.cons rv RepL.nil⟩
    | cons d ds => obtain ⟨_, _, h, _⟩ := RepL.cons_iff.mp r; cases h
  | m :: ns, ds, [], hl, r => by simp at hl
  | m :: ns, ds, w :: vs, hl, r => by
    cases ds with
    | nil => have := RepL.nil_iff.mp r; cases this
    | cons x ds =>
      obtain ⟨w', vr, e, r1, r2⟩ := RepL.cons_iff.mp r
      cases e
      unfold putO
      rw [List.zip_cons_cons]
      show ∃ ws, (if m = f then (m, v) :: ns.zip vs else (m, w) :: putF f v (ns.zip vs)) = _ ∧ _
      by_cases c : m = f
      · rw [if_pos c, if_pos c]
        exact ⟨v :: vs, rfl, by simpa using hl, RepL.cons rv r2⟩
      · rw [if_neg c, if_neg c]
        obtain ⟨ws, e1, e2, e3⟩ := putO_ok rv (by simpa using hl) r2
        exact ⟨w :: ws, by rw [e1]; rfl, by simp [e2], RepL.cons r1 e3⟩
/-- slot i's own instance gets a field -/
def sfS (cn : Str) (i : Nat) (f : Str) (fe : FE) : FS := fun g => (fe g).sb fun d g1 => match gat g1 i with
  | .oi c ns ds => if c = cn ∧ ns.length < 1000 then .nx (g1.set i (.oi c (putO f d ns ds).1 (putO f d ns ds).2)) else .no
  | _ => .no
theorem pts_sf (hM : b.M = ⟨X.K, X.mg⟩) (hc : FldC ⟨X.K, X.mg⟩ cn f0) (ho : PE X o (tVar i)) (he : PE X e (tE b W fe)) (hs : swapsWith e (some (.Attribute o f0 p')) pos.line X.env = pure false := by rfl) : PS X (.Assign [.Attribute o f0 p'] e pos) (tSt b W [] (sfS cn i f0 fe)) :=
  ps_mono (ps_fld ho he hs) fun D σ H ⟨Fz, g, r, h⟩ => by
    refine tG_st r h fun d x g1 Fz1 H1 r1 ex1 rep h1 => ?_
    cases hg : gat g1 i with
    | oi c ns ds =>
      rw [hg] at h1
      simp only at h1
      by_cases cc : c = cn ∧ ns.length < 1000
      · rw [if_pos cc] at h1
        obtain ⟨rfl, hlt⟩ := cc
        have hgi := gat_get hg (by intro z; cases z)
        obtain ⟨a, u, e1, nf, hu, C, dx, vs, eu, hm, hl, rr⟩ := r1.slot hgi
        subst eu
        have hm' : X.mg c = some (.ref C) := by rw [hM] at hm; exact hm
        obtain ⟨k1, k2⟩ := hc.ok C hm'
        obtain ⟨ws, q1, q2, q3⟩ := putO_ok (f := f0) (d := d) (v := x) rep hl rr
        have ow : Own g1 σ i a := ⟨⟨_, hgi, rfl⟩, e1⟩
        have w : OwnAt b.M Fz1 H1 (.oi c (putO f0 d ns ds).1 (putO f0 d ns ds).2) (.ins C dx (putF f0 x (ns.zip vs))) := ⟨C, dx, ws, by rw [q1], hm, q2, q3⟩
        have r2 := r1.mut ow w
        have ex2 : Ext Fz1 H1 Fz1 (upd H1 a (.ins C dx (putF f0 x (ns.zip vs)))) := ⟨fun _ q => q, fun y o hy q => by
          rw [upd_ne]
          · exact hy
          · intro z
            subst z
            rcases q with q | q
            · exact nf q
            · rw [hu] at hy; cases hy; exact q trivial⟩
        refine ⟨.ref a, e1, a, C, dx, _, rfl, hu, k1, k2, ?_, h1 _ _ _ r2 ⟨ex2, fun _ _ => rfl⟩⟩
        rw [List.length_zip]
        omega
      · rw [if_neg cc] at h1; exact h1.elim
    | _ => rw [hg] at h1; exact h1.elim
end
end DL

set_option Elab.async false
set_option linter.all false
set_option maxRecDepth 100000
set_option maxHeartbeats 4000000
/-! DenF: sorted (ints, of lists and tuples). -/
namespace DL
open PySem L2 PySem.Spec PyProof.Rows

section
variable {prog : Program} {w : World} {A : Around} {E : Value → Shared → Prop} {s : Shared}
theorem collect_tupT {l : Addr} {vs : List Value} {Q : List Value → Shared → Prop} {o : Obj} {n : Nat} (ho : s.heap.get? l = some o) (hc : o.cls = .type "tuple") (hd : o.data = .seq vs.toArray n)
    (h : Q vs { s with heap := (s.heap.push (seqObj "list" #[] 0)).update s.heap.objs.size (Obj.mapSeq (· ++ vs.toArray)) }) (hsz : vs.length ≤ sizeLine) :
    wpAny (model prog w) A (collect (.ref l)) Q E s := by
  unfold collect
  refine wpAny_bind (wpAny_runValue (codeAny_builtin entry_proto_collect' ?_))
  show wpAny _ _ (do again (.builtin "list.__iadd__" ⟨[← newList [], .ref l], []⟩)) _ _ s
  refine wpAny_bind (wpAny_newList (wpAny_pure ⟨Code.quiet_builtin _ (by decide +kernel), codeAny_builtin entry_list_iadd' ?_⟩))
  show wpAny _ _ (Builtin.List.listExtendWith (.ref s.heap.objs.size) (.ref l) (.ref s.heap.objs.size)) _ _ { s with heap := s.heap.push (seqObj "list" #[] 0) }
  unfold Builtin.List.listExtendWith
  have ho' : (s.heap.push (seqObj "list" #[] 0)).get? l = some o := Heap.get?_push_of_some _ ho
  refine wpAny_bind (wpAny_typeOf (T := "tuple") ⟨o, ho', hc⟩ ?_)
  have ht : (Value.type "tuple" == Value.type "tuple") = true := by rfl
  rw [if_pos (by rw [ht]; simp)]
  refine wpAny_bind (listItems_at ho' hd ?_)
  refine wpAny_bind (listItems_at (xs := #[]) (n := 0) (Heap.get?_push_size _ rfl) rfl ?_)
  rw [if_neg (by simp)]
  refine wpAny_bind (listUpdate_at (xs := #[]) (n := 0) (Heap.get?_push_size _ rfl) rfl ?_ (Nat.zero_le _) (by show (#[] ++ vs.toArray).size ≤ sizeLine + 1; simp only [Array.size_append, List.size_toArray, List.length_nil]; omega))
  refine wpAny_pure ?_
  show wpAny (model prog w) A (do
      let o ← load s.heap.objs.size
      match o.data with
      | .seq xs _ => pure xs.toList
      | _ => unsupported "internal:collect") Q E { s with heap := (s.heap.push (seqObj "list" #[] 0)).update s.heap.objs.size (Obj.mapSeq (· ++ vs.toArray)) }
  refine wpAny_bind (wpAny_load (get?_update_seq (Heap.get?_push_size _ rfl) _) ?_)
  show wpAny _ _ (pure ((#[] : Array Value) ++ vs.toArray).toList) Q E _
  rw [show ((#[] : Array Value) ++ vs.toArray).toList = vs by simp]
  exact wpAny_pure h
open SrtO in
theorem sorted_ordT {l : Addr} {vs : List Value} {ltv : Value → Value → Bool} {Q : Value → Shared → Prop} {o : Obj} {n : Nat} (O : Swo ltv) (ho : s.heap.get? l = some o) (hc : o.cls = .type "tuple") (hd : o.data = .seq vs.toArray n) (hz : vs.length ≤ sizeLine)
    (hS : 2 ≤ vs.length → ∀ (h₁ : Heap) (a : Addr), h₁.get? a = some (seqObj "list" vs.toArray 0) → (∀ b o, s.heap.get? b = some o → b ≠ a ∧ h₁.get? b = some o) → SortableO prog w A.in1.in1 { s with heap := h₁ } a vs ltv)
    (h : ∀ out : List Value, Srtd ltv out → Stb ltv out vs → Q (.ref (s.heap.objs.size + 1)) { s with heap := sortedAll s.heap vs out.toArray }) :
    wpAny (model prog w) A (call (.builtin "sorted") [.ref l]) Q E s := by
  refine Calls.call_function_entry kind_sorted plain_sorted entry_sorted (args_sorted1 _) ?_
  unfold Builtin.«sorted»
  refine wpAny_bind (m := checkCount "sorted" 1 1 _) (wpAny_pure ?_)
  refine wpAny_bind (collect_tupT ho hc hd ?_ hz)
  refine wpAny_bind (wpAny_newList ?_ hz)
  have hsz : ((s.heap.push (seqObj "list" #[] 0)).update s.heap.objs.size (Obj.mapSeq (· ++ vs.toArray))).objs.size = s.heap.objs.size + 1 := by
    rw [Heap.size_update, size_push']
  have hoL : (((s.heap.push (seqObj "list" #[] 0)).update s.heap.objs.size (Obj.mapSeq (· ++ vs.toArray))).push (seqObj "list" vs.toArray 0)).get? (s.heap.objs.size + 1) = some (seqObj "list" vs.toArray 0) := by
    rw [← hsz]; exact Heap.get?_push_size _ rfl
  have keep : ∀ b o, s.heap.get? b = some o → b ≠ s.heap.objs.size + 1 ∧ (((s.heap.push (seqObj "list" #[] 0)).update s.heap.objs.size (Obj.mapSeq (· ++ vs.toArray))).push (seqObj "list" vs.toArray 0)).get? b = some o := fun b o q => by
    have hlt : b < s.heap.objs.size := Heap.lt_size q
    refine ⟨Nat.ne_of_lt (Nat.lt_succ_of_lt hlt), Heap.get?_push_of_some _ ?_⟩
    rw [Heap.get?_update_ne _ _ _ _ (Nat.ne_of_lt hlt)]
    exact Heap.get?_push_of_some _ q
  show wpAny _ _ _ _ _ { s with heap := ((s.heap.push (seqObj "list" #[] 0)).update s.heap.objs.size (Obj.mapSeq (· ++ vs.toArray))).push (seqObj "list" vs.toArray 0) }
  rw [hsz]
  refine wpAny_bind (wpAny_holding (wpAny_call_entry slot_list_sort ⟨_, hoL, rfl⟩ entry_list_sort (list_sort_ord O hoL hz (fun h2 => hS h2 _ _ hoL keep) fun out hs hb => ⟨_, rfl, ?_⟩) (args_list_sort _)))
  exact wpAny_pure ⟨_, rfl, h out hs hb⟩
end

section
variable {X : Cx} {M : MM}
/-- sorted(t), ints -/
def rSortedT (K : PySem.W.Frag) : List V → Hp → VK → Prop := fun vs H Q => ∃ (a : Addr) (ns : List Int), vs = [V.ref a] ∧ SqT K H a (ns.map V.int) ∧
  ∀ (ns' : List Int) (p : Addr), ns'.Perm ns → ns'.Pairwise (· ≤ ·) → H p = none → Q (.ref p) (upd H p (.lst (ns'.map V.int)))
theorem cr_sortedT : CallR X (.builtin "sorted") (rSortedT X.K) := by
  intro pins s σ H vs us Q I r h
  obtain ⟨a, ns, rfl, hs, q⟩ := h
  obtain ⟨its, rv, pl, hz⟩ := I.tuple hs
  obtain ⟨o, ho, hc, n, hd⟩ := pl
  rw [Vals.ref1 r]
  have hi := rv.ints
  refine sorted_ordT SrtO.swo_int ho hc hd (by rw [← rv.length]; exact hz) (fun h2 h₁ a' _ _ => SrtO.ints_sortable hi h2) fun out h1 h2 => ?_
  obtain ⟨k1, k2, k3⟩ := SrtO.ints_out hi h1 h2
  obtain ⟨ep, he'⟩ := PyProof.Rows.sortedAll_at s.heap its out.toArray
  have hlen : ((out.map SrtO.iv).map V.int).length ≤ sizeLine := by
    rw [List.length_map, k2.length_eq]
    rw [List.length_map] at hz
    exact hz
  exact ⟨.ref _, upd H (s.heap.objs.size + 1) (.lst ((out.map SrtO.iv).map V.int)), I.laid (t' := s.toks) (fun _ _ => PyProof.Rows.sortedAll_old) (Nat.le_succ _) ⟨hlen, out, ep, vals_of_ints k1, he'⟩, rfl, q _ _ k2 k3 (I.hok.fresh (Nat.le_succ _))⟩
def srtI (ns : List Int) : List Int := ns.mergeSort (fun i j => decide (i ≤ j))
theorem srtI_perm (ns : List Int) : (srtI ns).Perm ns := List.mergeSort_perm _ _
theorem srtI_le (ns : List Int) : (srtI ns).Pairwise (· ≤ ·) := by
  have h := List.pairwise_mergeSort (le := fun i j : Int => decide (i ≤ j)) (fun a b c h1 h2 => by simp only [decide_eq_true_eq] at *; omega) (fun a b => by simp only [Bool.or_eq_true, decide_eq_true_eq]; omega) ns
  exact h.imp fun h => by simpa using h
theorem le_perm_eq : ∀ {xs ys : List Int}, xs.Perm ys → xs.Pairwise (· ≤ ·) → ys.Pairwise (· ≤ ·) → xs = ys := by
  intro xs
  induction xs with
  | nil => intro ys p _ _; exact (List.nil_perm.mp p).symm
  | cons x xs ih =>
    intro ys p h1 h2
    cases ys with
    | nil => exact absurd (List.perm_nil.mp p) (by simp)
    | cons y ys =>
      have hx := List.pairwise_cons.mp h1
      have hy := List.pairwise_cons.mp h2
      have e : x = y := by
        have m1 : x ∈ y :: ys := p.mem_iff.mp List.mem_cons_self
        have m2 : y ∈ x :: xs := p.mem_iff.mpr List.mem_cons_self
        rcases List.mem_cons.mp m1 with e | m1
        · exact e
        · rcases List.mem_cons.mp m2 with e | m2
          · exact e.symm
          · have a := hx.1 y m2
            have b := hy.1 x m1
            omega
      subst e
      rw [ih (List.Perm.cons_inv p) hx.2 hy.2]
theorem srtI_eq {ns ns' : List Int} (p : ns'.Perm ns) (h : ns'.Pairwise (· ≤ ·)) : ns' = srtI ns := le_perm_eq (p.trans (srtI_perm ns).symm) h (srtI_le ns)
def sortedD : List D → Option (List D)
  | [d] => (seqOf d).bind fun ds => (intsD ds).bind fun ns => some ((srtI ns).map D.int)
  | _ => none
def rSortedA (K : PySem.W.Frag) : List V → Hp → VK → Prop := fun xs H Q => rSortedI K xs H Q ∨ rSortedT K xs H Q
theorem cr_sortedA : CallR X (.builtin "sorted") (rSortedA X.K) := cr_sortedI.or cr_sortedT
theorem rep_ints {Fz : Fzn} {H : Hp} : ∀ ns : List Int, RepL M Fz H (ns.map D.int) (ns.map V.int)
  | [] => RepL.nil
  | _ :: ns => RepL.cons rep_int (rep_ints ns)
theorem callTF_sorted : CallTF M (rSortedA M.K) sortedD := by
  intro Fz H ds zs xs Q dom rx eo k
  unfold sortedD at eo
  split at eo
  · rename_i d
    obtain ⟨es, ees, eo⟩ := Option.bind_eq_some_iff.mp eo
    obtain ⟨ns, ens, eo⟩ := Option.bind_eq_some_iff.mp eo
    injection eo with eo; subst eo
    have rx0 := trep1 rx
    clear rx
    obtain ⟨x, rfl, rx⟩ := rx0
    obtain ⟨a, vs, rfl, h, r⟩ := seq_rep rx ees
    obtain ⟨e1, e2⟩ := ints_rep r ens
    subst e1
    rcases h with h | h
    · refine .inl ⟨a, ns, rfl, h, fun ns' p hp hs hn => ?_⟩
      rw [srtI_eq hp hs]
      exact k p _ hn (rep_ints _)
    · refine .inr ⟨a, ns, rfl, h, fun ns' p hp hs hn => ?_⟩
      rw [srtI_eq hp hs]
      exact k p _ hn (rep_ints _)
  · cases eo
section
variable {b : B} {W : WX} {e : Expr} {es : List Expr} {fa : FV} {p pos : Pos}
theorem c_sorted (hM : b.M = ⟨X.K, X.mg⟩) (hg : Gl X "sorted") (hm : X.mg "sorted" = none) (ha : PA X (e :: es) (tAv b W fa)) (he : starEach (e :: es) X.env = (false, eval e X.env) :: starEach es X.env := by rfl) (hpl : (backTo pos (starEach es X.env)).any (·.1) = false := by rfl) : PE X (.Call (.Name "sorted" p) (e :: es) [] pos) (tFr b W (bltFF sortedD fa)) := pf_blt cr_sortedA (castCF hM callTF_sorted) hg hm (by decide +kernel) ha (by decide) (by decide) he hpl
end
end
end DL
namespace DL
open PySem L2 PySem.Spec PyProof.Rows
/-! ### a statement that is never reached -/
section
variable {X : Cx} {b : B} {W : WX}
def noS : FS := fun _ => .no
theorem pts_no {st : Stmt} : PS X st (tSt b W [] noS) := ⟨fun pins s σ H D I ⟨Fz, g, r, h⟩ => h.elim⟩
def noE : FE := fun _ => .no
theorem pd_no {e : Expr} : PE X e (tE b W noE) := ⟨fun pins s σ H Q I ⟨Fz, g, r, h⟩ => h.elim⟩

/-! ### x is True, x is False -/
def isBD : D → D → Option D
  | .bl a, .bl c => some (.bl (decide (a = c)))
  | _, _ => none
def isNotBD : D → D → Option D
  | .bl a, .bl c => some (.bl (!decide (a = c)))
  | _, _ => none
theorem opt_isB {M : MM} : OpT M rIsB isBD := by
  intro Fz H d e z x y Q dom rx ry eo k
  unfold isBD at eo
  split at eo
  · injection eo with eo; subst eo
    exact ⟨_, _, tbl' rx, tbl' ry, k _ Fz H .refl rep_bl⟩
  · cases eo
theorem opt_isNotB {M : MM} : OpT M rNotB isNotBD := by
  intro Fz H d e z x y Q dom rx ry eo k
  unfold isNotBD at eo
  split at eo
  · injection eo with eo; subst eo
    exact ⟨_, _, tbl' rx, tbl' ry, k _ Fz H .refl rep_bl⟩
  · cases eo
variable {e1 e2 : Expr} {f1 f2 : FE} {g1 g2 : Sg → R AV} {pos : Pos}
theorem q_isb (hM : b.M = ⟨X.K, X.mg⟩) (h1 : PE X e1 (tE b W f1)) (h2 : PE X e2 (tE b W f2)) (hm : behindInMarks .Is e2 = false := by first | exact nobehind _ (by decide) (by decide) | rfl) : PE X (.Compare e1 [.Is] [e2] pos) (tE b W (op2F isBD f1 f2)) := pd_cmp op_isBl (castO hM opt_isB) h1 h2 hm
theorem qt_isb (hM : b.M = ⟨X.K, X.mg⟩) (h1 : PE X e1 (tE b W f1)) (h2 : PE X e2 (tE b W f2)) (hm : behindInMarks .Is e2 = false := by first | exact nobehind _ (by decide) (by decide) | rfl) : PT X (.Compare e1 [.Is] [e2] pos) (tBo b W (tstF (op2F isBD f1 f2))) := pt_cmpD op_isBl (castO hM opt_isB) h1 h2 hm
theorem q_isnotb (hM : b.M = ⟨X.K, X.mg⟩) (h1 : PE X e1 (tE b W f1)) (h2 : PE X e2 (tE b W f2)) (hm : behindInMarks .IsNot e2 = false := by first | exact nobehind _ (by decide) (by decide) | rfl) : PE X (.Compare e1 [.IsNot] [e2] pos) (tE b W (op2F isNotBD f1 f2)) := pd_cmp op_notBl (castO hM opt_isNotB) h1 h2 hm
theorem qt_isnotb (hM : b.M = ⟨X.K, X.mg⟩) (h1 : PE X e1 (tE b W f1)) (h2 : PE X e2 (tE b W f2)) (hm : behindInMarks .IsNot e2 = false := by first | exact nobehind _ (by decide) (by decide) | rfl) : PT X (.Compare e1 [.IsNot] [e2] pos) (tBo b W (tstF (op2F isNotBD f1 f2))) := pt_cmpD op_notBl (castO hM opt_isNotB) h1 h2 hm

/-! ### pop(i) of an own list -/
def popAtF (i : Nat) (f : FE) : FE := fun g => match gat g i with
  | .ow _ => (f g).bd fun d g1 => match d, gat g1 i with
    | .int k, .ow ds => if k.natAbs < 9223372036854775808 then match seqIndex? k ds.length with
      | some j => match ds[j]? with
        | some y => .ok y (g1.set i (.ow (ds.eraseIdx j)))
        | none => .no
      | none => .no
      else .no
    | _, _ => .no
  | _ => .no
theorem pd_popAt {i : Nat} {e o : Expr} {f : FE} {apos : Pos} (ho : PE X o (tVar i)) (h1 : PE X e (tE b W f)) (hbase : attributeBase o "pop" X.env (eval o X.env) = eval o X.env := by rfl)
    (hfew : ((backTo pos (starEach (e :: []) X.env)).all (fun x => !x.1) && (backToKw pos (keywordEach [] X.env)).all (fun x => x.1.isSome)
      && decide ((e :: []).length + ([] : List Keyword).length + (if ([] : List Keyword).isEmpty then 0 else 1) < 30)) = true := by rfl)
    (hline : (apos.endLine == pos.line) = true := by rfl) (hs : starEach (e :: []) X.env = (false, eval e X.env) :: starEach [] X.env := by rfl) (hplain : (backTo pos (starEach [] X.env)).any (·.1) = false := by rfl) :
    PE X (.Call (.Attribute o "pop" apos) [e] [] pos) (tE b W (popAtF i f)) :=
  pe_mono (pe_bm PySem.F.plainAttrs_list PySem.F.slot_list_pop PySem.F.type_list_pop mt_popAt ho (pa_cons h1 pa_nil hs) hbase hfew hline hs hplain) fun σ H Q ⟨Fz, g, r, h⟩ => by
    unfold popAtF at h
    cases hg : gat g i with
    | ow ds0 =>
      rw [hg] at h
      simp only at h
      obtain ⟨a, vs0, ea, _, _, hu0, _⟩ := own_of r hg
      refine ⟨.ref a, ea, .inl ⟨rfl, _, .inl (.inl hu0)⟩, ?_⟩
      refine tG_seq r h fun d x g1 Fz1 H1 r1 ex1 rep h1 => ?_
      cases d with
      | int k =>
        cases hg1 : gat g1 i with
        | ow ds =>
          rw [hg1] at h1
          simp only at h1
          by_cases c : k.natAbs < 9223372036854775808
          · rw [if_pos c] at h1
            cases hj : seqIndex? k ds.length with
            | none => rw [hj] at h1; exact h1.elim
            | some j =>
              rw [hj] at h1
              simp only at h1
              cases hy : ds[j]? with
              | none => rw [hy] at h1; exact h1.elim
              | some y =>
                rw [hy] at h1
                simp only at h1
                obtain ⟨a2, vs, ea2, ow2, nf, hu, rr⟩ := own_of r1 hg1
                rw [ea] at ea2
                cases ea2
                obtain ⟨v, hv, rv⟩ := rr.get hy
                obtain ⟨r3, ex3⟩ := r1.mutL ow2 (rr.eraseIdx j) nf ⟨_, hu⟩
                exact ⟨a, vs, k, j, v, rfl, by rw [rep_int' rep], hu, by omega, by omega, by rw [← RepL.length rr]; exact hj, hv, h1.ok r3 ex3 (Rep.mono ex3 y v rv)⟩
          · rw [if_neg c] at h1; exact h1.elim
        | _ => rw [hg1] at h1; exact h1.elim
      | _ => exact h1.elim
    | _ => rw [hg] at h; exact h.elim
end
end DL
namespace DL
open PySem L2 PySem.Spec PyProof.Rows
/-! ### xs[i] += e, ints -/
section
variable {X : Cx} {b : B} {W : WX}
theorem get_listD : PGet X (rIxL X.K) := by
  intro pins s σ H x y v u Q I rx ry h
  obtain ⟨p, xs, i, z, rfl, rfl, hq, he, q⟩ := h
  cases rx
  obtain ⟨t, rfl⟩ := ry
  obtain ⟨its, r, pl, hz⟩ := I.list hq
  obtain ⟨j, h1, h2, h3, h4, h5⟩ := atI_get he
  obtain ⟨w, ew, rw'⟩ := r.get h2
  have hl := r.length
  have hn := line63
  have fin : EP X pins σ Q w s := ⟨z, H, I, rw', q⟩
  by_cases h0 : 0 ≤ i
  · have hj : i.toNat = j := by
      rw [seqIndex_of h0 h5] at h1
      exact Option.some.inj h1
    exact wpAny_getItem_list pl.isList h0 (by omega) (by rw [hj]; simpa using ew) fin
  · have hj : (i + (its.toArray.size : Int)).toNat = j := by
      rw [seqIndex_neg (by omega) h4] at h1
      rw [List.size_toArray, ← hl]
      exact Option.some.inj h1
    exact wpAny_getItem_list_neg pl.isList (by omega) (by rw [List.size_toArray] <;> omega) (by omega) (by rw [hj]; simpa using ew) fin
def augIS (op : Int → Int → Int) (i : Nat) (fi fv : FE) : FS := fun g => match gat g i with
  | .ow _ => (fi g).sb fun k g2 => match k, gat g2 i with
    | .int k, .ow ds => match atI ds k with
      | some (.int m) => (fv g2).sb fun d g3 => match d, gat g3 i with
        | .int n, .ow es => match ixN es.length k with
          | some j => .nx (g3.set i (.ow (es.set j (.int (op m n)))))
          | none => .no
        | _, _ => .no
      | _ => .no
    | _, _ => .no
  | _ => .no
theorem pts_augI {i : Nat} {o e1 e2 : Expr} {op : Operator} {ff : Int → Int → Int} {fi fv : FE} {tpos pos : Pos} (hp : PIp X op (ipI ff)) (ho : PE X o (tVar i)) (h1 : PE X e1 (tE b W fi)) (h2 : PE X e2 (tE b W fv))
    (ha : ∀ ov iv new, augStore e1 ov iv new = (do holding [new, ov, iv] (setItem ov iv new); release [new, ov, iv] []; pure .next) := by intros; rfl) : PS X (.AugAssign (.Subscript o e1 tpos) op e2 pos) (tSt b W [] (augIS ff i fi fv)) :=
  ps_mono (ps_augS ho h1 get_listD h2 hp set_list ha) fun D σ H ⟨Fz, g, r, h⟩ => by
    unfold augIS at h
    cases hg1 : gat g i with
    | ow ds0 =>
      rw [hg1] at h
      simp only at h
      obtain ⟨a, vs0, ea, _, _, _, _⟩ := own_of r hg1
      refine ⟨.ref a, ea, ?_⟩
      refine tG_st r h fun k y g2 Fz2 H2 r2 ex2 repk h2 => ?_
      cases k with
      | int k =>
        cases hg2 : gat g2 i with
        | ow ds =>
          rw [hg2] at h2
          simp only at h2
          obtain ⟨a2, vs, ea2, ow2, nf, hu, rr⟩ := own_of r2 hg2
          rw [ea] at ea2
          cases ea2
          cases hm : atI ds k with
          | none => rw [hm] at h2; exact h2.elim
          | some m =>
            rw [hm] at h2
            cases m with
            | int m =>
              simp only at h2
              obtain ⟨v, hv, rv⟩ := atI_rep rr hm
              have ev : v = .int m := rep_int' rv
              subst ev
              refine ⟨a, vs, k, _, rfl, rep_int' repk, .inl (.inl hu), hv, ?_⟩
              refine tG_st r2 h2 fun d x g3 Fz3 H3 r3 ex3 repd h3 => ?_
              cases d with
              | int n =>
                cases hg3 : gat g3 i with
                | ow es =>
                  rw [hg3] at h3
                  simp only at h3
                  obtain ⟨a3, ws, ea3, ow3, nf3, hu3, rr3⟩ := own_of r3 hg3
                  rw [ea] at ea3
                  cases ea3
                  cases hj : ixN es.length k with
                  | none => rw [hj] at h3; exact h3.elim
                  | some j =>
                    rw [hj] at h3
                    simp only at h3
                    obtain ⟨r4, ex4⟩ := r3.mutL ow3 (rr3.set j (rep_int (c := ff m n))) nf3 ⟨_, hu3⟩
                    refine ⟨m, n, rfl, rep_int' repd, ?_⟩
                    exact ⟨a, ws, k, j, rfl, rep_int' repk, hu3, by rw [← RepL.length rr3]; exact hj, h3 _ _ _ r4 ⟨ex4, fun _ _ => rfl⟩⟩
                | _ => rw [hg3] at h3; exact h3.elim
              | _ => exact h3.elim
            | _ => exact h2.elim
        | _ => rw [hg2] at h2; exact h2.elim
      | _ => exact h2.elim
    | _ => rw [hg1] at h; exact h.elim
end
end DL
namespace DL
open PySem L2 PySem.Spec PyProof.Rows
/-! ### x += e, ints -/
section
variable {X : Cx} {b : B} {W : WX}
def augNS (op : Int → Int → Int) (i : Nat) (fv : FE) : FS := fun g => match gat g i with
  | .v (.int m) => (fv g).sb fun d g1 => match d with
    | .int n => .nx (g1.set i (.v (.int (op m n))))
    | _ => .no
  | _ => .no
theorem pts_augN {i : Nat} {x : Str} {e : Expr} {op : Operator} {ff : Int → Int → Int} {fv : FE} {p' pos : Pos} (hp : PIp X op (ipI ff)) (hN : X.N.Nodup) (hi : X.N[i]? = some x) (hx : Loc X.env.scope x) (he : PE X e (tE b W fv))
    (hf : X.fn x = true ∨ X.env.scope.names.lookup x = some .local := by first | exact .inl rfl | exact .inr rfl | assumption) (hpx : PxOk b i) : PS X (.AugAssign (.Name x p') op e pos) (tSt b W [i] (augNS ff i fv)) :=
  ps_mono (ps_aug hN hi hx he hp hf) fun D σ H ⟨Fz, g, r, h⟩ => by
    unfold augNS at h
    cases hg : gat g i with
    | v d =>
      rw [hg] at h
      cases d with
      | int m =>
        simp only at h
        obtain ⟨y, e1, r1⟩ := r.slot (gat_get hg (by intro z; cases z))
        refine ⟨y, e1, ?_⟩
        refine tG_st r h fun d x' g1 Fz1 H1 r2 _ rep h1 => ?_
        cases d with
        | int n => exact ⟨m, n, rep_int' r1, rep_int' rep, h1 _ H1 Fz1 (r2.setV hpx rep_int) .set⟩
        | _ => exact h1.elim
      | _ => exact h.elim
    | _ => rw [hg] at h; exact h.elim
end
end DL

set_option Elab.async false
set_option linter.all false
set_option maxRecDepth 100000
set_option maxHeartbeats 4000000
/-! DenN: nested own lists: made, appended to, melted to data. -/
namespace DL
open PySem L2 PySem.Spec PyProof.Rows

section
variable {b : B} {W : WX} {Fz Fz' : Fzn} {g g' : Sg} {σ σ' : L2.St} {H H' : Hp} {i : Nat} {a : Addr} {ps : List Addr} {dss : List (List D)}
/-- slot i takes nested lists that no slot has -/
theorem BRel.setN (r : BRel b Fz g σ H) (hun : g[i]? = some .un) (hs : σ[i]? = some (some (V.ref a))) (ha : H a = some (.lst (ps.map V.ref))) (nd : (a :: ps).Nodup) (hl : ps.length = dss.length)
    (cells : ∀ (k : Nat) (p : Addr) (ds : List D), ps[k]? = some p → dss[k]? = some ds → ∃ vs : List V, H p = some (.lst vs) ∧ RepL b.M Fz H ds vs)
    (fr : ∀ x, x ∈ a :: ps → ¬ Fz x ∧ b.H0 x = none ∧ ∀ j, ¬ AOwn g σ H j x) : BRel b Fz (g.set i (.on dss)) σ H := by
  have ow : ∀ {j x}, Own (g.set i (.on dss)) σ j x → Own g σ j x := fun {j x} q => by
    obtain ⟨⟨t, e, w⟩, z⟩ := q
    rcases gset_get e with ⟨_, e2⟩ | ⟨hj, e2⟩
    · subst e2; cases w
    · exact ⟨⟨t, e2, w⟩, z⟩
  have nw : ∀ {j x}, NOwn (g.set i (.on dss)) σ H j x → (j = i ∧ x ∈ a :: ps) ∨ (j ≠ i ∧ NOwn g σ H j x) := fun {j x} q => by
    obtain ⟨d2, a2, vs, h1, h2, h3, h4⟩ := q
    rcases gset_get h1 with ⟨e1, e2⟩ | ⟨hj, e2⟩
    · subst e1
      rw [hs] at h2
      injection h2 with h2
      injection h2 with h2
      injection h2 with h2
      subst h2
      rw [ha] at h3
      injection h3 with h3
      injection h3 with h3
      subst h3
      refine .inl ⟨rfl, ?_⟩
      rcases h4 with h4 | h4
      · rw [h4]; exact List.mem_cons_self
      · obtain ⟨p, hp, ep⟩ := List.mem_map.mp h4
        injection ep with ep
        rw [← ep]; exact List.mem_cons_of_mem _ hp
    · exact .inr ⟨hj, d2, a2, vs, e2, h2, h3, h4⟩
  refine ⟨r.gr, ⟨by rw [List.length_set]; exact r.rel.len, fun j t q => ?_, fun j k x p q => r.rel.apart j k x (ow p) (ow q)⟩, fun j x q => r.own j x (ow q), fun j x l q => r.pin j x l (ow q), r.px, ⟨fun j d2 q => ?_, fun j x q => ?_, fun j k x p q => ?_⟩⟩
  · rcases gset_get q with ⟨_, e2⟩ | ⟨_, e2⟩
    · subst e2; trivial
    · exact r.slot e2
  · rcases gset_get q with ⟨e1, e2⟩ | ⟨_, e2⟩
    · subst e1
      injection e2 with e2
      subst e2
      exact ⟨a, ps, hs, ha, nd, hl, cells⟩
    · exact r.nst.at_ j d2 e2
  · rcases nw q with ⟨_, z⟩ | ⟨_, z⟩
    · obtain ⟨k1, k2, k3⟩ := fr x z
      exact ⟨k1, k2, fun l o => k3 l (.inl (ow o))⟩
    · obtain ⟨k1, k2, k3⟩ := r.nst.free j x z
      exact ⟨k1, k2, fun l o => k3 l (ow o)⟩
  · rcases nw p with ⟨e1, z1⟩ | ⟨_, z1⟩
    · rcases nw q with ⟨e2, z2⟩ | ⟨_, z2⟩
      · rw [e1, e2]
      · exact absurd (.inr z2) ((fr x z1).2.2 k)
    · rcases nw q with ⟨e2, z2⟩ | ⟨_, z2⟩
      · exact absurd (.inr z1) ((fr x z2).2.2 j)
      · exact r.nst.one j k x z1 z2
/-- what stands at a nested slot -/
theorem nst_of (r : BRel b Fz g σ H) (hg : gat g i = .on dss) : ∃ a ps, σ[i]? = some (some (V.ref a)) ∧ H a = some (.lst (ps.map V.ref)) ∧ (a :: ps).Nodup ∧ ps.length = dss.length ∧
    (∀ (k : Nat) (p : Addr) (ds : List D), ps[k]? = some p → dss[k]? = some ds → ∃ vs : List V, H p = some (.lst vs) ∧ RepL b.M Fz H ds vs) ∧
    (∀ x, x ∈ a :: ps → ¬ Fz x ∧ b.H0 x = none ∧ ∀ j, ¬ AOwn (g.set i .un) σ H j x) ∧ ∀ x, x ∈ a :: ps → ∀ j, ¬ Own g σ j x := by
  have hgi := gat_get hg (by intro z; cases z)
  obtain ⟨a, ps, h1, h2, h3, h4, h5⟩ := r.nst.at_ i dss hgi
  have no : ∀ x, x ∈ a :: ps → NOwn g σ H i x := fun x hx => by
    refine ⟨dss, a, _, hgi, h1, h2, ?_⟩
    rcases List.mem_cons.mp hx with e | e
    · exact .inl e
    · exact .inr (List.mem_map.mpr ⟨x, e, rfl⟩)
  refine ⟨a, ps, h1, h2, h3, h4, h5, fun x hx => ?_, fun x hx j o => (r.nst.free i x (no x hx)).2.2 j o⟩
  obtain ⟨k1, k2, k3⟩ := r.nst.free i x (no x hx)
  refine ⟨k1, k2, fun j o => ?_⟩
  rcases o with o | o
  · obtain ⟨⟨t, e, w⟩, z⟩ := o
    rcases gset_get e with ⟨_, e2⟩ | ⟨_, e2⟩
    · subst e2; cases w
    · exact k3 j ⟨⟨t, e2, w⟩, z⟩
  · obtain ⟨d2, a2, vs, e, z⟩ := o
    rcases gset_get e with ⟨_, e2⟩ | ⟨hj, e2⟩
    · cases e2
    · exact hj (r.nst.one j i x ⟨d2, a2, vs, e2, z⟩ (no x hx))
theorem on_at (r : BRel b Fz g σ H) {p : Addr} {k : Nat} (h1 : H a = some (.lst (ps.map V.ref))) (nd : (a :: ps).Nodup) (hk : ps[k]? = some p) : p ≠ a ∧ ∀ j q, ps[j]? = some q → q = p → j = k := by
  have nd' := List.nodup_cons.mp nd
  refine ⟨fun z => nd'.1 (by rw [← z]; exact List.mem_of_getElem? hk), fun j q hj e => ?_⟩
  subst e
  exact (List.getElem?_inj (List.getElem?_eq_some_iff.mp hj).1 nd'.2).mp (hj.trans hk.symm)
/-- an inner list is changed -/
theorem BRel.mutN (r : BRel b Fz g σ H) (hg : gat g i = .on dss) (hi : σ[i]? = some (some (V.ref a))) (ha : H a = some (.lst (ps.map V.ref))) {k : Nat} {p : Addr} {ds' : List D} {ws : List V} (hk : ps[k]? = some p) (rr : RepL b.M Fz H ds' ws) :
    BRel b Fz (g.set i (.on (dss.set k ds'))) σ (upd H p (.lst ws)) ∧ Ext Fz H Fz (upd H p (.lst ws)) := by
  obtain ⟨a2, qs, h1, h2, nd, hl, cells, fr, no⟩ := nst_of r hg
  rw [hi] at h1
  injection h1 with h1
  injection h1 with h1
  injection h1 with h1
  subst h1
  rw [ha] at h2
  injection h2 with h2
  injection h2 with h2
  have h2' : ps = qs := List.map_inj_right (fun x y z => by injection z) |>.mp h2
  subst h2'
  obtain ⟨na, nk⟩ := on_at r ha nd hk
  have hp : p ∈ a :: ps := List.mem_cons_of_mem _ (List.mem_of_getElem? hk)
  have hlk : k < dss.length := by rw [← hl]; exact (List.getElem?_eq_some_iff.mp hk).1
  obtain ⟨vs0, hv0, _⟩ := cells k p dss[k] hk (List.getElem?_eq_getElem hlk)
  have r0 := r.forget i
  obtain ⟨f1, f2, f3⟩ := fr p hp
  obtain ⟨r1, ex⟩ := r0.updNew (u' := .lst ws) f2 f1 f3 hv0 trivial
  refine ⟨?_, ex⟩
  have hlen : i < g.length := (List.getElem?_eq_some_iff.mp (gat_get hg (by intro z; cases z))).1
  have z := r1.setN (a := a) (ps := ps) (dss := dss.set k ds') (i := i) (List.getElem?_set_self hlen) hi (by rw [upd_ne na.symm]; exact ha) nd (by rw [List.length_set]; exact hl) (fun j q ds e1 e2 => by
    by_cases c : j = k
    · subst c
      rw [hk] at e1
      injection e1 with e1
      subst e1
      rw [List.getElem?_set_self hlk] at e2
      injection e2 with e2
      subst e2
      exact ⟨ws, upd_same, RepL.mono ex _ _ rr⟩
    · rw [List.getElem?_set_ne (Ne.symm c)] at e2
      obtain ⟨vs, k1, k2⟩ := cells j q ds e1 e2
      exact ⟨vs, by rw [upd_ne fun z => c (nk j q e1 z)]; exact k1, RepL.mono ex _ _ k2⟩) fun x hx => by
    obtain ⟨k1, k2, k3⟩ := fr x hx
    refine ⟨k1, k2, fun j o => k3 j ?_⟩
    rcases o with o | o
    · exact .inl o
    · exact .inr (nown_same r0.nst (r0.nst.upd fun l q => f3 l (.inr q)) o)
  rw [List.set_set] at z
  exact z
end
section
variable {X : Cx} {b : B} {W : WX} {i jk je : Nat} {o e ke : Expr} {pos kpos apos : Pos}
/-- x[k].append(v), x nested own lists, k and v variables -/
def apNF (i jk je : Nat) : FE := fun g => match gat g i, gat g jk, gat g je with
  | .on dss, .v (.int k), .v d => match ixN dss.length k with
    | some j => match dss[j]? with
      | some ds => if ds.length < sizeLine then .ok .non (g.set i (.on (dss.set j (ds ++ [d])))) else .no
      | none => .no
    | none => .no
  | _, _, _ => .no
theorem pd_apN (ho : PE X o (tVar i)) (hk : PE X ke (tVar jk)) (he : PE X e (tVar je)) (hs0 : PlainIx ke) (hbase : attributeBase (.Subscript o ke kpos) "append" X.env (eval (.Subscript o ke kpos) X.env) = eval (.Subscript o ke kpos) X.env := by rfl)
    (hfew : ((backTo pos (starEach (e :: []) X.env)).all (fun x => !x.1) && (backToKw pos (keywordEach [] X.env)).all (fun x => x.1.isSome)
      && decide ((e :: []).length + ([] : List Keyword).length + (if ([] : List Keyword).isEmpty then 0 else 1) < 30)) = true := by rfl)
    (hline : (apos.endLine == pos.line) = true := by rfl) (hs : starEach (e :: []) X.env = (false, eval e X.env) :: starEach [] X.env := by rfl) (hplain : (backTo pos (starEach [] X.env)).any (·.1) = false := by rfl) :
    PE X (.Call (.Attribute (.Subscript o ke kpos) "append" apos) [e] [] pos) (tE b W (apNF i jk je)) :=
  pe_mono (pe_bm PySem.F.plainAttrs_list PySem.F.slot_list_append PySem.F.type_list_append mt_append (pe_ix ix_list ho hk hs0) (pa_cons he pa_nil hs) hbase hfew hline hs hplain) fun σ H Q ⟨Fz, g, r, h⟩ => by
    unfold apNF at h
    cases hg : gat g i with
    | on dss =>
      rw [hg] at h
      cases hgk : gat g jk with
      | v dk =>
        rw [hgk] at h
        cases dk with
        | int k =>
          cases hge : gat g je with
          | v d =>
            rw [hge] at h
            simp only at h
            cases hj : ixN dss.length k with
            | none => rw [hj] at h; exact h.elim
            | some j =>
              rw [hj] at h
              simp only at h
              cases hd : dss[j]? with
              | none => rw [hd] at h; exact h.elim
              | some ds =>
                rw [hd] at h
                simp only at h
                by_cases c : ds.length < sizeLine
                · rw [if_pos c] at h
                  obtain ⟨a, ps, h1, h2, nd, hl, cells, fr, no⟩ := nst_of r hg
                  have hlp : j < ps.length := by rw [hl]; exact (List.getElem?_eq_some_iff.mp hd).1
                  have hp : ps[j]? = some ps[j] := List.getElem?_eq_getElem hlp
                  obtain ⟨vs, hv, rr⟩ := cells j _ ds hp hd
                  obtain ⟨kv, ek, rk⟩ := r.slot (gat_get hgk (by intro z; cases z))
                  obtain ⟨ev, ee, re⟩ := r.slot (gat_get hge (by intro z; cases z))
                  have rk' := rep_int' rk
                  subst rk'
                  obtain ⟨r3, ex3⟩ := r.mutN hg h1 h2 hp (rr.append (RepL.cons re RepL.nil))
                  refine ⟨.ref a, h1, .int k, ek, a, ps.map V.ref, k, .ref ps[j], rfl, rfl, .inl (.inl h2), ?_, ?_⟩
                  · unfold atI
                    rw [List.length_map, hl, hj]
                    show (ps.map V.ref)[j]? = _
                    rw [List.getElem?_map, hp]; rfl
                  · refine ⟨.inl ⟨rfl, _, .inl (.inl hv)⟩, ev, ee, ps[j], vs, ev, rfl, rfl, hv, by rw [← RepL.length rr]; exact c, ?_⟩
                    exact h.ok r3 ex3 rep_non
                · rw [if_neg c] at h; exact h.elim
          | _ => rw [hge] at h; exact h.elim
        | _ => exact h.elim
      | _ => rw [hgk] at h; exact h.elim
    | _ => rw [hg] at h; exact h.elim
end
end DL

namespace DL
open PySem L2 PySem.Spec PyProof.Rows
/-! ### melted: the nested lists become data -/
section
variable {b : B} {W : WX} {Fz Fz' : Fzn} {g g' : Sg} {σ σ' : L2.St} {H H' : Hp} {i : Nat} {a : Addr} {ps : List Addr} {dss : List (List D)}
theorem BRel.knowV (r : BRel b Fz g σ H) {d : D} {x : V} (hs : σ[i]? = some (some x)) (h : Rep b.M Fz H d x) : BRel b Fz (g.set i (.v d)) σ H := by
  have ow : ∀ {j a}, Own (g.set i (.v d)) σ j a → Own g σ j a := fun {j a} q => by
    obtain ⟨⟨t, e, w⟩, z⟩ := q
    rcases gset_get e with ⟨_, e2⟩ | ⟨hj, e2⟩
    · subst e2; cases w
    · exact ⟨⟨t, e2, w⟩, z⟩
  refine ⟨r.gr, ⟨by rw [List.length_set]; exact r.rel.len, fun j t q => ?_, fun j k a p q => r.rel.apart j k a (ow p) (ow q)⟩, fun j a q => r.own j a (ow q), fun j a l q => r.pin j a l (ow q), r.px,
    r.nst.step rfl .refl (fun j dss q => (gset_get q).elim (fun ⟨_, e2⟩ => by cases e2) fun ⟨_, e2⟩ => ⟨e2, rfl⟩) (fun _ _ _ => rfl) fun j x q => let ⟨k1, k2, k3⟩ := r.nst.free j x q; ⟨k1, k2, fun l o => k3 l (ow o)⟩⟩
  rcases gset_get q with ⟨e1, e2⟩ | ⟨_, e2⟩
  · subst e1; subst e2; exact ⟨x, hs, h⟩
  · exact r.slot e2
def fzAdds (Fz : Fzn) : List Addr → Fzn
  | [] => Fz
  | p :: ps => fzAdd (fzAdds Fz ps) p
theorem fzAdds_old {ps : List Addr} {x : Addr} (h : Fz x) : fzAdds Fz ps x := by
  induction ps with
  | nil => exact h
  | cons p ps ih => exact .inl ih
theorem fzAdds_in {ps : List Addr} {x : Addr} (h : x ∈ ps) : fzAdds Fz ps x := by
  induction ps with
  | nil => cases h
  | cons p ps ih =>
    rcases List.mem_cons.mp h with e | e
    · exact .inr e
    · exact .inl (ih e)
theorem BRel.fzFreshs (r : BRel b Fz g σ H) : ∀ {ps : List Addr}, (∀ p ∈ ps, b.H0 p = none ∧ (∃ u, H p = some u) ∧ ∀ i, ¬ AOwn g σ H i p) → BRel b (fzAdds Fz ps) g σ H
  | [], _ => r
  | p :: ps, h => by
    have r1 := BRel.fzFreshs r (ps := ps) fun q hq => h q (List.mem_cons_of_mem _ hq)
    obtain ⟨h1, ⟨u, h2⟩, h3⟩ := h p List.mem_cons_self
    exact r1.fzFresh h1 h2 h3
theorem repL_cells {M : MM} : ∀ {ps : List Addr} {dss : List (List D)}, ps.length = dss.length → (∀ p ∈ ps, Fz p) → (∀ (k : Nat) (p : Addr) (ds : List D), ps[k]? = some p → dss[k]? = some ds → ∃ vs : List V, H p = some (.lst vs) ∧ RepL M Fz H ds vs) →
    RepL M Fz H (dss.map D.lst) (ps.map V.ref)
  | [], [], _, _, _ => RepL.nil
  | [], _ :: _, h, _, _ => by cases h
  | _ :: _, [], h, _, _ => by cases h
  | p :: ps, ds :: dss, h, hf, hc => by
    obtain ⟨vs, h1, h2⟩ := hc 0 p ds rfl rfl
    exact RepL.cons (rep_lst (.inl ⟨hf p List.mem_cons_self, h1⟩) h2) (repL_cells (by simpa using h) (fun q hq => hf q (List.mem_cons_of_mem _ hq)) fun k q es e1 e2 => hc (k + 1) q es (by simpa using e1) (by simpa using e2))
def frzNF (i : Nat) : FE := fun g => match gat g i with
  | .v d => .ok d g
  | .ow ds => .no
  | .on dss => .ok (.lst (dss.map D.lst)) (g.set i (.v (.lst (dss.map D.lst))))
  | _ => .no
theorem pd_frzN {X : Cx} {e : Expr} (h : PE X e (tVar i)) : PE X e (tE b W (frzNF i)) := pe_mono h fun σ H Q ⟨Fz, g, r, q⟩ => by
  unfold frzNF at q
  cases hg : gat g i with
  | v d =>
    rw [hg] at q
    obtain ⟨x, e1, rep⟩ := r.slot (gat_get hg (by intro z; cases z))
    exact ⟨x, e1, q x H Fz r .refl rep⟩
  | on dss =>
    rw [hg] at q
    obtain ⟨a, ps, h1, h2, nd, hl, cells, fr, no⟩ := nst_of r hg
    have there : ∀ p ∈ a :: ps, ∃ u, H p = some u := fun p hp => by
      rcases List.mem_cons.mp hp with e | e
      · subst e; exact ⟨_, h2⟩
      · obtain ⟨k, hk⟩ := List.getElem?_of_mem e
        have hlk : k < dss.length := by rw [← hl]; exact (List.getElem?_eq_some_iff.mp hk).1
        obtain ⟨vs, hv, _⟩ := cells k p dss[k] hk (List.getElem?_eq_getElem hlk)
        exact ⟨_, hv⟩
    have r1 := (r.forget i).fzFreshs (ps := a :: ps) fun p hp => ⟨(fr p hp).2.1, there p hp, (fr p hp).2.2⟩
    have ex : Ext Fz H (fzAdds Fz (a :: ps)) H := ⟨fun _ q => fzAdds_old q, fun _ _ q _ => q⟩
    have rep : Rep b.M (fzAdds Fz (a :: ps)) H (.lst (dss.map D.lst)) (.ref a) := rep_lst (.inl ⟨fzAdds_in List.mem_cons_self, h2⟩) (repL_cells hl (fun p hp => fzAdds_in (List.mem_cons_of_mem _ hp)) fun k p ds e1 e2 => by
      obtain ⟨vs, k1, k2⟩ := cells k p ds e1 e2
      exact ⟨vs, k1, RepL.mono ex _ _ k2⟩)
    have r2 := r1.knowV h1 rep
    rw [List.set_set] at r2
    exact ⟨.ref a, h1, q (.ref a) H _ r2 ex rep⟩
  | _ => rw [hg] at q; exact q.elim
end
end DL

set_option Elab.async false
set_option linter.all false
set_option maxRecDepth 100000
set_option maxHeartbeats 4000000
/-! DenNL: a comprehension that makes nested own lists. -/
namespace DL
open PySem L2 PySem.Spec PyProof.Rows

structure CellsOk (b : B) (Fz : Fzn) (g : Sg) (σ : L2.St) (H : Hp) (a : Addr) (ps : List Addr) (dss : List (List D)) : Prop where
  ha : H a = some (.lst (ps.map V.ref))
  nd : (a :: ps).Nodup
  hl : ps.length = dss.length
  cells : ∀ (k : Nat) (p : Addr) (ds : List D), ps[k]? = some p → dss[k]? = some ds → ∃ vs : List V, H p = some (.lst vs) ∧ RepL b.M Fz H ds vs
  fr : ∀ x, x ∈ a :: ps → ¬ Fz x ∧ b.H0 x = none ∧ ∀ j, ¬ AOwn g σ H j x
section
variable {b : B} {W : WX} {Fz Fz' : Fzn} {g g' : Sg} {σ σ' : L2.St} {H H' : Hp} {a : Addr} {ps : List Addr} {dss : List (List D)}
theorem CellsOk.there (c : CellsOk b Fz g σ H a ps dss) {x : Addr} (hx : x ∈ a :: ps) : ∃ vs : List V, H x = some (.lst vs) := by
  rcases List.mem_cons.mp hx with e | e
  · subst e; exact ⟨_, c.ha⟩
  · obtain ⟨k, hk⟩ := List.getElem?_of_mem e
    have hlk : k < dss.length := by rw [← c.hl]; exact (List.getElem?_eq_some_iff.mp hk).1
    obtain ⟨vs, hv, _⟩ := c.cells k x dss[k] hk (List.getElem?_eq_getElem hlk)
    exact ⟨_, hv⟩
theorem CellsOk.step (c : CellsOk b Fz g σ H a ps dss) (ex : Ext Fz H Fz' H') (hh : ∀ x, x ∈ a :: ps → H' x = H x) (hf : ∀ x, x ∈ a :: ps → ¬ Fz' x ∧ ∀ j, ¬ AOwn g' σ' H' j x) : CellsOk b Fz' g' σ' H' a ps dss where
  ha := (hh a List.mem_cons_self).trans c.ha
  nd := c.nd
  hl := c.hl
  cells := fun k p ds e1 e2 => by
    obtain ⟨vs, h1, h2⟩ := c.cells k p ds e1 e2
    exact ⟨vs, (hh p (List.mem_cons_of_mem _ (List.mem_of_getElem? e1))).trans h1, RepL.mono ex _ _ h2⟩
  fr := fun x hx => ⟨(hf x hx).1, (c.fr x hx).2.1, (hf x hx).2⟩
theorem CellsOk.grow (c : CellsOk b Fz g σ H a ps dss) (r : BRel b Fz g σ H) (e : GrowTo Fz H Fz' H') : CellsOk b Fz' g σ H' a ps dss :=
  c.step e.ext (fun x hx => by
    obtain ⟨vs, hv⟩ := c.there hx
    rw [hv]; exact e.st _ _ hv) fun x hx => ⟨(fun z => by
    rcases e.new x z with y | ⟨y, _⟩
    · exact (c.fr x hx).1 y
    · obtain ⟨vs, hv⟩ := c.there hx
      rw [hv] at y; cases y), r.notA_grow e (c.fr x hx).2.2⟩
theorem BRel.notA_updX (r : BRel b Fz g σ H) {p x : Addr} {u : HO} (hp : ∀ i, ¬ AOwn g σ H i p) (hA : ∀ i, ¬ AOwn g σ H i x) : ∀ i, ¬ AOwn g σ (upd H p u) i x := fun i h => h.elim (fun z => hA i (.inl z)) fun z => hA i (.inr (nown_same r.nst (r.nst.upd fun j q => hp j (.inr q)) z))
theorem CellsOk.push (c : CellsOk b Fz g σ H a ps dss) (r : BRel b Fz g σ H) {p : Addr} {ws : List V} {ds : List D} (hp : p ∉ a :: ps) (hH : H p = some (.lst ws)) (rr : RepL b.M Fz H ds ws) (nf : ¬ Fz p) (h0 : b.H0 p = none) (hA : ∀ i, ¬ AOwn g σ H i p) :
    CellsOk b Fz g σ (upd H a (.lst (ps.map V.ref ++ [V.ref p]))) a (ps ++ [p]) (dss ++ [ds]) := by
  have ca := (c.fr a List.mem_cons_self)
  have ex : Ext Fz H Fz (upd H a (.lst (ps.map V.ref ++ [V.ref p]))) := ⟨fun _ q => q, fun x o hx q => by
    rw [upd_ne]
    · exact hx
    · intro z
      subst z
      rcases q with q | q
      · exact ca.1 q
      · rw [c.ha] at hx; cases hx; exact q trivial⟩
  have nd := List.nodup_cons.mp c.nd
  have hp' : p ≠ a ∧ p ∉ ps := by simpa [not_or] using hp
  refine ⟨by rw [upd_same, List.map_append]; rfl, ?_, by rw [List.length_append, List.length_append, c.hl]; rfl, fun k q es e1 e2 => ?_, fun x hx => ?_⟩
  · rw [List.nodup_cons]
    refine ⟨by simp only [List.mem_append, List.mem_singleton, not_or]; exact ⟨nd.1, fun z => hp'.1 z.symm⟩, ?_⟩
    rw [List.nodup_append]
    exact ⟨nd.2, by simp, fun x hx y hy z => by
      rw [List.mem_singleton] at hy
      subst hy; subst z; exact hp'.2 hx⟩
  · by_cases hk : k < ps.length
    · rw [List.getElem?_append_left hk] at e1
      rw [List.getElem?_append_left (by rw [← c.hl]; exact hk)] at e2
      obtain ⟨vs, h1, h2⟩ := c.cells k q es e1 e2
      have nq : q ≠ a := fun z => nd.1 (by rw [← z]; exact List.mem_of_getElem? e1)
      exact ⟨vs, by rw [upd_ne nq]; exact h1, RepL.mono ex _ _ h2⟩
    · rw [List.getElem?_append_right (by omega)] at e1
      rw [List.getElem?_append_right (by rw [← c.hl]; omega)] at e2
      have hk0 : k - ps.length = 0 := by
        have := (List.getElem?_eq_some_iff.mp e1).1
        simp at this; omega
      rw [hk0] at e1
      rw [← c.hl, hk0] at e2
      simp at e1 e2
      subst e1; subst e2
      exact ⟨ws, by rw [upd_ne hp'.1]; exact hH, RepL.mono ex _ _ rr⟩
  · rw [List.mem_cons, List.mem_append, List.mem_singleton] at hx
    rcases hx with e | e | e
    · subst e; exact ⟨ca.1, ca.2.1, r.notA_updX ca.2.2 ca.2.2⟩
    · obtain ⟨k1, k2, k3⟩ := c.fr x (List.mem_cons_of_mem _ e)
      exact ⟨k1, k2, r.notA_updX ca.2.2 k3⟩
    · subst e; exact ⟨nf, h0, r.notA_updX ca.2.2 hA⟩
def bN (b : B) : Bear (List (List D)) V := fun σ Fz H g dss x => ∃ a ps, x = V.ref a ∧ CellsOk b Fz g σ H a ps dss

def keepN? {α : Type} (r : R α) (n : Nat) (k : α → Sg → R (List (List D))) : R (List (List D)) := match r with
  | .ok a g => if g.length = n then k a g else .no
  | _ => .no
def lcNL (t : Tgt) (c : FB) (e : FF) (vs : List Nat) : List D → List (List D) → Sg → R (List (List D))
  | [], acc, g => .ok acc g
  | d :: ds, acc, g => match t d g with
    | none => .no
    | some g1 => keepN? (c g1) g1.length fun k g2 => if k = true then keepN? (e g2) g1.length fun y g3 => lcNL t c e vs ds (acc ++ [y]) (wipeG g3 vs) else lcNL t c e vs ds acc (wipeG g2 vs)
/-- [fresh list for ..], nested -/
def lcN (fi : FI) (t : Tgt) (c : FB) (e : FF) (vs : List Nat) : Sg → R (List (List D)) := fun g => (fi g).bd fun items g1 => if items.length ≤ sizeLine then lcNL t c e vs items [] (wipeG g1 vs) else .no
theorem wipeG_id (vs : List Nat) (g : Sg) (hg : ∀ i ∈ vs, ∀ s, g[i]? = some s → s = .un) : DL.wipeG g vs = g := by
  induction vs with
  | nil => rfl
  | cons v vs ih =>
    unfold DL.wipeG
    rw [ih fun i hi => hg i (List.mem_cons_of_mem _ hi)]
    apply List.ext_getElem?
    intro i
    by_cases c : v = i
    · subst c
      by_cases l : v < g.length
      · rw [List.getElem?_set_self l]
        have := hg v List.mem_cons_self g[v] (by simp [l])
        simp [l, this]
      · rw [List.getElem?_eq_none (by rw [List.length_set]; omega), List.getElem?_eq_none (by omega)]
    · rw [List.getElem?_set_ne c]
theorem wipeG_wipe (vs : List Nat) (g : Sg) : DL.wipeG (DL.wipeG g vs) vs = DL.wipeG g vs := wipeG_id vs _ fun i hi s hs => Classical.byContradiction fun n => wipeG_get hs n hi
theorem wipeG_out {g : Sg} {i : Nat} : ∀ {vs : List Nat}, i ∉ vs → (DL.wipeG g vs)[i]? = g[i]?
  | [], _ => rfl
  | v :: vs, h => by
    rw [List.mem_cons, not_or] at h
    unfold DL.wipeG
    rw [List.getElem?_set_ne (fun z => h.1 z.symm)]
    exact wipeG_out h.2
variable {fi : FI} {t : Tgt} {fc : FB} {ff : FF} {ta : List Nat}
theorem lc_runN (hx : b.px = none) {σ : L2.St} {H : Hp} {Q : VK} {vs : List Nat} (hta : ∀ i ∈ ta, i ∈ vs) (h : tG b W (bN b) (lcN fi t fc ff vs) σ H Q) :
    tLc (tI b W fi) (fun v σ' H' Q' => ∃ b', (b'.M = b.M ∧ b'.px = none) ∧ gD b' ta t v σ' H' Q') (fun σ' H' Q' => ∃ b', (b'.M = b.M ∧ b'.px = none) ∧ tBo b' W0 fc σ' H' Q') (fun σ' H' Q' => ∃ b', (b'.M = b.M ∧ b'.px = none) ∧ tFr b' W0 ff σ' H' Q') vs σ H Q := by
  obtain ⟨Fz, g, r, h⟩ := h
  refine tG_seq r h fun items J g1 Fz1 H1 r1 e1 src h1 => ?_
  have src' : SrcOk b J Fz1 H1 items := src
  by_cases hlen : items.length ≤ sizeLine
  rotate_left
  · rw [if_neg hlen] at h1; exact h1.elim
  rw [if_pos hlen] at h1
  intro D hD
  have hD0 := r1.new0 hD
  have rA : BRel b Fz1 (DL.wipeG g1 vs) (wipe σ vs) (upd H1 D (.lst [])) := (r1.alloc hD).wipe hx vs
  have rA0 : ∀ i, ¬ AOwn (DL.wipeG g1 vs) (wipe σ vs) (upd H1 D (.lst [])) i D := (r1.wipe hx vs).notAu hD
  have cA : CellsOk b Fz1 (DL.wipeG g1 vs) (wipe σ vs) (upd H1 D (.lst [])) D [] [] := ⟨upd_same, by simp, rfl, fun k p ds e => by simp at e, fun x hx => by
    rw [List.mem_singleton] at hx
    subst hx
    exact ⟨r1.notFz hD, hD0, rA0⟩⟩
  refine ⟨fun k m H' => m = items.length - k ∧ k ≤ items.length ∧ ∃ Fz' g' acc ps, BRel b Fz' g' (wipe σ vs) H' ∧ DL.wipeG g' vs = g' ∧ Ext Fz1 H1 Fz' H' ∧ CellsOk b Fz' g' (wipe σ vs) H' D ps acc ∧ acc.length ≤ k ∧
    Po b W (bN b) σ Fz' H' (fun x _ _ H' _ => Q x H') (lcNL t fc ff vs (items.drop k) acc g'), ⟨_, rfl, Nat.zero_le _, Fz1, _, [], [], rA, wipeG_wipe vs g1, (GrowTo.alloc hD).ext, cA, Nat.zero_le _, by rw [List.drop_zero]; exact h1.weak (GrowTo.alloc hD).ext⟩, ?_⟩
  rintro k m H2 ⟨rfl, hk, Fz2, g2, acc, ps, r2, w2, e2, c2, hacc, h2⟩
  obtain ⟨go, stop⟩ := src' Fz2 H2 e2 r2.gr.dom
  by_cases hlt : k < items.length
  · refine .inr ?_
    have hd : items[k]? = some items[k] := by simp [hlt]
    obtain ⟨g0, yl⟩ := go k _ hd
    rw [List.drop_eq_getElem_cons hlt] at h2
    generalize hdk : items[k] = d at h2 hd yl
    refine ⟨g0, fun H' => ∃ Fz' g' acc ps, BRel b Fz' g' (wipe σ vs) H' ∧ DL.wipeG g' vs = g' ∧ Ext Fz1 H1 Fz' H' ∧ CellsOk b Fz' g' (wipe σ vs) H' D ps acc ∧ acc.length ≤ k + 1 ∧
      Po b W (bN b) σ Fz' H' (fun x _ _ H' _ => Q x H') (lcNL t fc ff vs (items.drop (k + 1)) acc g'), fun H' q => ⟨_, by omega, rfl, hlt, q⟩, fun x H' y => ?_⟩
    obtain ⟨Fz3, gt, repd⟩ := yl x H' y
    have r3 := r2.grow gt
    have c3 := c2.grow r2 gt
    unfold lcNL at h2
    cases ht : t d g2 with
    | none => rw [ht] at h2; exact h2.elim
    | some g3 =>
      rw [ht] at h2
      simp only at h2
      refine ⟨DL.rebase b Fz3 g2 (wipe σ vs) H', ⟨rfl, rfl⟩, Fz3, g2, d, g3, r3.rebase, repd, ht, fun σ4 r4 h4 hl => ⟨(wipe_eq hl fun i hi => h4 i fun z => hi (hta i z)).trans wipe_wipe, ?_⟩⟩
      generalize hb' : DL.rebase b Fz3 g2 (wipe σ vs) H' = b' at r4
      have hM' : b'.M = b.M := by rw [← hb']; rfl
      have hpx' : b'.px = none := by rw [← hb']; rfl
      have hH0 : b'.H0 = hide g2 (wipe σ vs) H' := by rw [← hb']; rfl
      have hFz0 : b'.Fz0 = Fz3 := by rw [← hb']; rfl
      have hOA : ∀ a, b'.OA a → ∃ i, Own g2 (wipe σ vs) i a := fun a z => by rw [← hb'] at z; exact z
      have hnp : b'.np = g2.length := by rw [← hb']; rfl
      have lg3 : g3.length = g2.length := by rw [r4.rel.len, hl, r3.rel.len]
      have hide3 : ∀ x, x ∈ D :: ps → hide g2 (wipe σ vs) H' x = H' x := fun x hx => hide_of fun i z => (c3.fr x hx).2.2 i (.inr z)
      have nOA : ∀ x, x ∈ D :: ps → ¬ b'.OA x := fun x hx z => by
        obtain ⟨i, z⟩ := hOA x z
        exact (c3.fr x hx).2.2 i (.inl z)
      -- slots of g' that have x
      have slots : ∀ {Fz' : Fzn} {g' : Sg} {H'' : Hp} {i : Nat} {x : Addr}, BRel b' Fz' g' σ4 H'' → AOwn (DL.wipeG g' vs) (wipe σ vs) H'' i x → AOwn g' σ4 H'' i x := fun {Fz' g' H'' i x} br o => by
        rcases o with o | o
        · obtain ⟨⟨s, e, w⟩, q⟩ := o
          have ni : i ∉ vs := wipeG_get e fun z => by rw [z] at w; cases w
          rw [wipeG_out ni] at e
          exact .inl ⟨⟨s, e, w⟩, by rw [h4 i fun z => ni (hta i z)]; exact q⟩
        · obtain ⟨dss, a, ws, h1, h2, h3⟩ := o
          have ni : i ∉ vs := wipeG_get h1 fun z => by cases z
          rw [wipeG_out ni] at h1
          exact .inr ⟨dss, a, ws, h1, by rw [h4 i fun z => ni (hta i z)]; exact h2, h3⟩
      have back : ∀ {Fz' : Fzn} {g' : Sg} {H'' : Hp}, BRel b' Fz' g' σ4 H'' → Ext Fz3 H' Fz' H'' → BRel b Fz' (DL.wipeG g' vs) (wipe σ vs) H'' ∧ CellsOk b Fz' (DL.wipeG g' vs) (wipe σ vs) H'' D ps acc := fun {Fz' g' H''} br ex => by
        have lg' : g'.length = g2.length := (fr_len r4 br).trans lg3
        have rb := br
        rw [← hb'] at rb
        have rb2 := r3.debase hx rb lg'
        have bw : BRel b Fz' (DL.wipeG g' vs) (wipe σ vs) H'' := (rb2.wipeG vs).unwipe hx (hl.trans rfl) fun i hi => h4 i fun z => hi (hta i z)
        refine ⟨bw, c3.step ex (fun x hx => ?_) fun x hx => ⟨fun z => ?_, fun i o => ?_⟩⟩
        · obtain ⟨u, hu⟩ := c3.there hx
          rw [hu]
          exact br.gr.fr x _ (by rw [hH0, hide3 x hx]; exact hu) (nOA x hx)
        · rcases br.gr.new x z with z | z
          · rw [hFz0] at z; exact (c3.fr x hx).1 z
          · obtain ⟨u, hu⟩ := c3.there hx
            rw [hH0, hide3 x hx, hu] at z; cases z
        · rcases slots br o with o | o
          · have hi : i < b'.np := by
              obtain ⟨⟨s, e, w⟩, q⟩ := o
              rw [hnp, ← lg']; exact (List.getElem?_eq_some_iff.mp e).1
            rcases br.own i x o with ⟨_, z⟩ | ⟨z, _⟩
            · exact nOA x hx z
            · omega
          · have k := (br.nst.free i x o).2.1
            obtain ⟨u, hu⟩ := c3.there hx
            rw [hH0, hide3 x hx, hu] at k; cases k
      refine ⟨b', ⟨hM', hpx'⟩, Fz3, g3, r4, ?_⟩
      unfold keepN? at h2
      cases hc : fc g3 with
      | no => rw [hc] at h2; exact h2.elim
      | ex ee g4 => rw [hc] at h2; exact h2.elim
      | ok kk g4 =>
        rw [hc] at h2
        simp only at h2
        split at h2
        rotate_left
        · exact h2.elim
        rename_i lg4
        intro kx H4 Fz4 r5 e5 hkx
        have hkx' : kx = kk := hkx
        subst hkx'
        cases kx with
        | false =>
          simp only [Bool.false_eq_true, if_false] at h2 ⊢
          obtain ⟨b1, b2⟩ := back r5 e5
          exact ⟨Fz4, _, acc, ps, b1, wipeG_wipe vs _, e2.trans (gt.ext.trans e5), b2, by omega, h2.weak (gt.ext.trans e5)⟩
        | true =>
          simp only [if_true] at h2 ⊢
          refine ⟨b', ⟨hM', hpx'⟩, Fz4, g4, r5, ?_⟩
          cases he : ff g4 with
          | no => rw [he] at h2; exact h2.elim
          | ex ee g5 => rw [he] at h2; exact h2.elim
          | ok yd g5 =>
            rw [he] at h2
            simp only at h2
            split at h2
            rotate_left
            · exact h2.elim
            intro yv H5 Fz5 r6 e6 repy
            obtain ⟨p, ws, rfl, hp0, pnf, pH, pA, prr⟩ := repy
            rw [hM'] at prr
            obtain ⟨b1, b2⟩ := back r6 (e5.trans e6)
            have exA : Ext Fz2 H2 Fz5 H5 := gt.ext.trans (e5.trans e6)
            rw [hH0] at hp0
            have hp0' : b.H0 p = none := (hide_none hp0).elim r3.new0 fun ⟨i, z⟩ => (r3.nst.free i p z).2.1
            have hpn : p ∉ D :: ps := fun z => by
              obtain ⟨u, hu⟩ := c3.there z
              rw [hide3 p z, hu] at hp0; cases hp0
            have pA' : ∀ i, ¬ AOwn (DL.wipeG g5 vs) (wipe σ vs) H5 i p := fun i o => pA i (slots r6 o)
            have c6 := b2.push b1 hpn pH prr pnf hp0' pA'
            obtain ⟨b5, b6⟩ := b1.updNew (u' := .lst (ps.map V.ref ++ [V.ref p])) hD0 (b2.fr D List.mem_cons_self).1 (b2.fr D List.mem_cons_self).2.2 b2.ha trivial
            have lav : acc.length = ps.length := c2.hl.symm
            refine ⟨ps.map V.ref, b2.ha, by rw [List.length_map]; omega, Fz5, _, acc ++ [yd], ps ++ [p], b5, wipeG_wipe vs _, e2.trans (exA.trans b6), c6, by simp; omega, h2.weak (exA.trans b6)⟩
  · have e : k = items.length := by omega
    subst e
    rw [List.drop_length] at h2
    refine .inl ⟨stop, ?_⟩
    have r5 : BRel b Fz2 g2 σ H2 := by
      have z := r2
      rw [← w2] at z ⊢
      exact z.unwipe hx (wipe_length ..) fun i hi => wipe_out hi
    refine h2.ok r5 .refl ⟨D, ps, rfl, c2.step .refl (fun _ _ => rfl) fun x hx => ⟨(c2.fr x hx).1, fun i o => (c2.fr x hx).2.2 i ?_⟩⟩
    rcases o with o | o
    · obtain ⟨⟨s, e, w⟩, q⟩ := o
      have ni : i ∉ vs := wipeG_get (g := g2) (by rw [w2]; exact e) fun z => by rw [z] at w; cases w
      exact .inl ⟨⟨s, e, w⟩, by rw [wipe_out ni]; exact q⟩
    · obtain ⟨dss, a, ws, h1, h2, h3⟩ := o
      have ni : i ∉ vs := wipeG_get (g := g2) (by rw [w2]; exact h1) fun z => by cases z
      exact .inr ⟨dss, a, ws, h1, by rw [wipe_out ni]; exact h2, h3⟩
end
end DL
namespace DL
open PySem L2 PySem.Spec PyProof.Rows
section
variable {X : Cx} {b : B} {W : WX} {elt tg iter : Expr} {ifs : List Expr} {scope : Scope} {own : List (Str × Nat)} {pos : Pos} {fi : FI} {t : Tgt} {fc : FB} {ff : FF} {ta : List Nat}
/-- slot i gets nested own lists -/
def asgN (i : Nat) (f : Sg → R (List (List D))) : FS := fun g => (f g).sb fun dss g1 => if i < g1.length then .nx (g1.set i (.on dss)) else .no
/-- name = [fresh list for ..] -/
theorem pts_asgLcN {vs : List Nat} {i : Nat} {y : Str} {py spos : Pos} (hx : b.px = none) (hc : X.calm = true) (hN : X.N.Nodup) (hy : X.N[i]? = some y) (hyl : X.env.scope.names.lookup y = some .local)
    (hsw : swapsWith (.ListComp elt [⟨tg, iter, ifs, 0⟩] scope pos) (some (.Name y py)) spos.line X.env = pure true) (hi : PI X tg iter (tI b W fi)) (ok : BlkOk X.N X.env.scope scope own) (hvs : own.map (·.2) = vs) (hta : ∀ i ∈ ta, i ∈ vs)
    (hg : ∀ (s : Shared) (H : Hp) (C : Addr) (cl : List (Str × Addr)) (fp : List Addr) (b' : B), b'.M = b.M → b'.px = none → PG (X.blk s H scope (compEnvC scope cl C X.env) fp) tg (gD b' ta t))
    (ht : ∀ (s : Shared) (H : Hp) (C : Addr) (cl : List (Str × Addr)) (fp : List Addr) (b' : B), b'.M = b.M → b'.px = none → PTs (X.blk s H scope (compEnvC scope cl C X.env) fp) ifs (tBo b' W0 fc))
    (he : ∀ (s : Shared) (H : Hp) (C : Addr) (cl : List (Str × Addr)) (fp : List Addr) (b' : B), b'.M = b.M → b'.px = none → PE (X.blk s H scope (compEnvC scope cl C X.env) fp) elt (tFr b' W0 ff)) (hs : ∀ x, foldedSetIterable iter X.env x = pure x := by intro _; rfl) :
    PS X (.Assign [.Name y py] (.ListComp elt [⟨tg, iter, ifs, 0⟩] scope pos) spos) (tSt b W [i] (asgN i (lcN fi t fc ff vs))) :=
  ps_mono (ps_setLc (g := fun v σ' H' Q' => ∃ b', (b'.M = b.M ∧ b'.px = none) ∧ gD b' ta t v σ' H' Q') (tt := fun σ' H' Q' => ∃ b', (b'.M = b.M ∧ b'.px = none) ∧ tBo b' W0 fc σ' H' Q') (te := fun σ' H' Q' => ∃ b', (b'.M = b.M ∧ b'.px = none) ∧ tFr b' W0 ff σ' H' Q') hc hN hy hyl hsw hi ok (fun s H C cl fp => ⟨fun pins s' σ H' v u Q I r ⟨b', hb, hw⟩ => (hg s H C cl fp b' hb.1 hb.2).run pins s' σ H' v u Q I r hw⟩) (fun s H C cl fp => ⟨fun pins s' σ H' Q I ⟨b', hb, hw⟩ => (ht s H C cl fp b' hb.1 hb.2).run pins s' σ H' Q I hw⟩)
    (fun s H C cl fp => ⟨fun pins s' σ H' Q I ⟨b', hb, hw⟩ => (he s H C cl fp b' hb.1 hb.2).run pins s' σ H' Q I hw⟩) hs) fun D σ H ⟨Fz, g, r, h⟩ => by
    subst hvs
    refine lc_runN hx hta (tG_st r h fun dss x' g1 Fz1 H1 r1 _ rep h1 => ?_)
    obtain ⟨a, ps, rfl, c⟩ := rep
    by_cases hl : i < g1.length
    · rw [if_pos hl] at h1
      have hls : i < σ.length := by rw [← r1.rel.len]; exact hl
      have r2 := r1.setRaw hx i (some (.ref a))
      have notA : ∀ x, (∀ j, ¬ AOwn g1 σ H1 j x) → ∀ j, ¬ AOwn (g1.set i .un) (σ.set i (some (.ref a))) H1 j x := fun x hA j o => by
        rcases o with o | o
        · obtain ⟨⟨s, e, w⟩, q⟩ := o
          rcases gset_get e with ⟨_, e2⟩ | ⟨hj, e2⟩
          · subst e2; cases w
          · rw [List.getElem?_set_ne (Ne.symm hj)] at q
            exact hA j (.inl ⟨⟨s, e2, w⟩, q⟩)
        · obtain ⟨d2, a2, ws, e, h2, h3⟩ := o
          rcases gset_get e with ⟨_, e2⟩ | ⟨hj, e2⟩
          · cases e2
          · rw [List.getElem?_set_ne (Ne.symm hj)] at h2
            exact hA j (.inr ⟨d2, a2, ws, e2, h2, h3⟩)
      have r3 := r2.setN (i := i) (a := a) (ps := ps) (dss := dss) (List.getElem?_set_self hl) (List.getElem?_set_self hls) c.ha c.nd c.hl c.cells fun x hx' => ⟨(c.fr x hx').1, (c.fr x hx').2.1, notA x (c.fr x hx').2.2⟩
      rw [List.set_set] at r3
      exact h1 _ H1 Fz1 r3 .set
    · rw [if_neg hl] at h1; exact h1.elim
end
end DL
namespace DL
open PySem L2 PySem.Spec PyProof.Rows
/-! ### list(range(n)) -/
section
variable {X : Cx} {b : B} {W : WX} {e : Expr} {f : FE}
def rgLF (f : FE) : FF := fun g => (f g).bd fun d g1 => match d with
  | .int j => if 0 ≤ j ∧ j.natAbs ≤ 16777216 then .ok (rng j.toNat 0) g1 else .no
  | _ => .no
theorem rep_mapI {M : MM} {Fz : Fzn} {H : Hp} (a : Int) : ∀ l : List Nat, RepL M Fz H (l.map fun (k : Nat) => D.int (a + (k : Int))) (l.map fun (k : Nat) => V.int (a + (k : Int)))
  | [] => RepL.nil
  | _ :: l => RepL.cons rep_int (rep_mapI a l)
theorem rep_rng {M : MM} {Fz : Fzn} {H : Hp} (n : Nat) (a : Int) : RepL M Fz H (rng n a) ((List.range n).map fun (k : Nat) => V.int (a + (k : Int))) := rep_mapI a _
theorem pf_listRg1 {p p2 pos pos2 : Pos} (hc : X.calm = true) (hg : Gl X "list") (hm : X.mg "list" = none) (hg2 : Gl X "range") (hm2 : X.mg "range" = none) (h : PE X e (tE b W f)) (na : starEach [e] X.env = (false, eval e X.env) :: starEach [] X.env := by rfl)
    (na2 : starEach [Expr.Call (.Name "range" p2) [e] [] pos2] X.env = (false, eval (.Call (.Name "range" p2) [e] [] pos2) X.env) :: starEach [] X.env := by rfl) :
    PE X (.Call (.Name "list" p) [.Call (.Name "range" p2) [e] [] pos2] [] pos) (tFr b W (rgLF f)) :=
  pe_mono (pe_listRg hc hg hm (prg_1 hg2 hm2 h na) na2) fun σ H Q ⟨Fz, g, r, q⟩ => by
    refine tG_seq r q fun d x g1 Fz1 H1 r1 e1 rep h1 => ?_
    cases d with
    | int j =>
      simp only at h1
      by_cases c : 0 ≤ j ∧ j.natAbs ≤ 16777216
      · rw [if_pos c] at h1
        refine ⟨j, rep_int' rep, .of_le (by omega) (by omega) (by omega) c.1, fun q hq => ?_⟩
        obtain ⟨r2, fr⟩ := fresh_new (ds := rng j.toNat 0) (vs := rgV 0 j) r1 hq (by unfold rgV; rw [show (j - 0).toNat = j.toNat by omega]; exact rep_rng _ _)
        exact h1.ok r2 (GrowTo.alloc hq).ext fr
      · rw [if_neg c] at h1; exact h1.elim
    | _ => exact h1.elim
end
end DL

set_option Elab.async false
set_option linter.all false
set_option maxRecDepth 100000
set_option maxHeartbeats 4000000
/-! DenO: len(set(t)) of distinct ints. -/
namespace DL
open PySem L2 PySem.Spec PyProof.Rows
def tLenSetT (K : PySem.W.Frag) (ta : TE) : TE := fun σ H Q => ta σ H fun x H1 => ∃ (l : Addr) (ns : List Int), x = V.ref l ∧ SqT K H1 l (ns.map V.int) ∧ ns.length < 4000 ∧ ns.Nodup ∧ Q (.int ns.length) H1
theorem perm_of_mem {xs ys : List Int} (hx : xs.Nodup) (hy : ys.Nodup) (h : ∀ k, k ∈ xs ↔ k ∈ ys) : xs.length = ys.length := by
  exact ((List.perm_ext_iff_of_nodup hx hy).mpr h).length_eq
theorem pe_lenSetT {X : Cx} {a : Expr} {ta : TE} {p p2 q pos : Pos} (hc : X.calm = true) (hg : Gl X "len") (hm : X.mg "len" = none) (hg2 : Gl X "set") (hm2 : X.mg "set" = none) (ha : PE X a ta)
    (na : starEach [a] X.env = (false, eval a X.env) :: starEach [] X.env := by rfl) : PE X (.Call (.Name "len" p) [.Call (.Name "set" p2) [a] [] q] [] pos) (tLenSetT X.K ta) := by
  refine ⟨fun pins s σ H Q I h => ?_⟩
  refine Call_ (ld_blt I hg hm PySem.boot_len ?_)
  refine PyProof.Rows.callWith_builtin1 (PyProof.Rows.args_cons ?_ rfl) rfl rfl
  refine Call_ (ld_blt I hg2 hm2 PyProof.Rows.boot_set ?_)
  refine PyProof.Rows.callWith_type1 (PyProof.Rows.args_cons (thn (ha.run pins s σ H _ I h) fun v s1 ⟨x, H1, I1, r1, q1⟩ => PyProof.Rows.args_nil ?_) na) na rfl
  obtain ⟨l, ns, rfl, hq, h1, hnd, q1⟩ := q1
  cases r1
  obtain ⟨its, r, pl, hz⟩ := I1.tuple hq
  refine call_set_tupI ns (I1.ok.hd hc) pl (by simpa using r.ints) (by unfold scanBound; omega) fun h' tk c hS hcl hk => ?_
  refine PyProof.Rows.args_nil ?_
  obtain ⟨o, es, ep, t, ho, hex, hd, _, hnk, hmem, hsz, hf, hn, _⟩ := hS
  have hlen : es.size = ns.length := by
    have e := perm_of_mem hnk hnd (fun k => by rw [← hmem k]; simp)
    rw [List.length_map, Array.length_toList] at e
    exact e
  have I2 : Inv X pins σ H1 { s1 with heap := h', toks := tk } := I1.kept hk
  refine call_len_set ho hex hd hf (by rw [hlen] <;> omega) ⟨.int ns.length, H1, I2.tok _, ⟨_, by rw [hlen]⟩, q1⟩
section
variable {X : Cx} {b : B} {W : WX} {e : Expr} {f : FE}
def lenSetF (f : FE) : FE := fun g => (f g).bd fun d g1 => match d with
  | .tup ds => match intsD ds with
    | some ns => if ns.length < 4000 ∧ ns.Nodup then .ok (.int ns.length) g1 else .no
    | none => .no
  | _ => .no
theorem pd_lenSet {p p2 q pos : Pos} (hM : b.M = ⟨X.K, X.mg⟩) (hc : X.calm = true) (hg : Gl X "len") (hm : X.mg "len" = none) (hg2 : Gl X "set") (hm2 : X.mg "set" = none) (h : PE X e (tE b W f))
    (na : starEach [e] X.env = (false, eval e X.env) :: starEach [] X.env := by rfl) : PE X (.Call (.Name "len" p) [.Call (.Name "set" p2) [e] [] q] [] pos) (tE b W (lenSetF f)) :=
  pe_mono (pe_lenSetT hc hg hm hg2 hm2 h na) fun σ H Q ⟨Fz, g, r, q⟩ => by
    refine tG_seq r q fun d x g1 Fz1 H1 r1 e1 rep h1 => ?_
    cases d with
    | tup ds =>
      simp only at h1
      cases hi : intsD ds with
      | none => rw [hi] at h1; exact h1.elim
      | some ns =>
        rw [hi] at h1
        simp only at h1
        by_cases c : ns.length < 4000 ∧ ns.Nodup
        · rw [if_pos c] at h1
          obtain ⟨a, vs, rfl, hq, rr⟩ := sqT_rep (M := b.M) rep
          obtain ⟨e2, _⟩ := ints_rep rr hi
          subst e2
          rw [hM] at hq
          exact ⟨a, ns, rfl, hq, c.1, c.2, h1.ok r1 .refl rep_int⟩
        · rw [if_neg c] at h1; exact h1.elim
    | _ => exact h1.elim
end
end DL
namespace DL
open PySem L2 PySem.Spec PyProof.Rows
/-! ### list + list, list * int, as new lists -/
section
variable {X : Cx} {b : B} {W : WX} {e1 e2 : Expr} {f1 f2 : Sg → R AV} {pos : Pos}
def catD : D → D → Option (List D)
  | .lst xs, .lst ys => if szOk (xs.length + ys.length) then some (xs ++ ys) else none
  | _, _ => none
def repD : D → D → Option (List D)
  | .lst xs, .int k => if szOk (xs.length * k.toNat) && decide (k.natAbs < 9223372036854775808) then some (List.replicate k.toNat xs).flatten else none
  | _, _ => none
def op2L (o : D → D → Option (List D)) (f1 f2 : Sg → R AV) : FF := fun g => (f1 g).bd fun a g1 => (f2 g1).bd fun c g2 => opt ((res g2 a).bind fun d => (res g2 c).bind fun e => o d e) g2
theorem pf_cat (hM : b.M = ⟨X.K, X.mg⟩) (h1 : PE X e1 (tA1 b W f1)) (h2 : PE X e2 (tA1 b W f2)) : PE X (.BinOp e1 .Add e2 pos) (tFr b W (op2L catD f1 f2)) :=
  pe_mono (pe_op op_catL h1 h2) fun σ H Q ⟨Fz, g, r0, h⟩ => by
    refine tG_seq r0 h fun a x g1 Fz1 H1 r1 e1 rep1 h1 => ?_
    refine tG_seq r1 h1 fun c y g2 Fz2 H2 r2 e2 rep2 h2 => ?_
    obtain ⟨z, ez, h3⟩ := h2.opt
    obtain ⟨d, ed, ez⟩ := Option.bind_eq_some_iff.mp ez
    obtain ⟨e, ee, ez⟩ := Option.bind_eq_some_iff.mp ez
    have rx := res_ok r2 (rep1.mono e2 (resI_ok (res_I ed))) ed
    have ry := res_ok r2 rep2 ee
    unfold catD at ez
    split at ez
    · split at ez
      · rename_i hz
        injection ez with ez; subst ez
        obtain ⟨a, vs, rfl, q1, rr1⟩ := rx
        obtain ⟨a2, vs2, rfl, q2, rr2⟩ := ry
        rw [hM] at q1 q2
        refine ⟨a, a2, vs, vs2, rfl, rfl, q1, q2, by rw [← rr1.length, ← rr2.length]; exact szOk_le hz, fun p hp => ?_⟩
        obtain ⟨r3, fr⟩ := fresh_new r2 hp (rr1.append rr2)
        exact h3.ok r3 (GrowTo.alloc hp).ext fr
      · cases ez
    · cases ez
theorem pf_rep (hM : b.M = ⟨X.K, X.mg⟩) (h1 : PE X e1 (tA1 b W f1)) (h2 : PE X e2 (tA1 b W f2)) : PE X (.BinOp e1 .Mult e2 pos) (tFr b W (op2L repD f1 f2)) :=
  pe_mono (pe_op op_repL h1 h2) fun σ H Q ⟨Fz, g, r0, h⟩ => by
    refine tG_seq r0 h fun a x g1 Fz1 H1 r1 e1 rep1 h1 => ?_
    refine tG_seq r1 h1 fun c y g2 Fz2 H2 r2 e2 rep2 h2 => ?_
    obtain ⟨z, ez, h3⟩ := h2.opt
    obtain ⟨d, ed, ez⟩ := Option.bind_eq_some_iff.mp ez
    obtain ⟨e, ee, ez⟩ := Option.bind_eq_some_iff.mp ez
    have rx := res_ok r2 (rep1.mono e2 (resI_ok (res_I ed))) ed
    have ry := res_ok r2 rep2 ee
    unfold repD at ez
    split at ez
    · split at ez
      · rename_i hz
        simp only [Bool.and_eq_true, decide_eq_true_eq] at hz
        injection ez with ez; subst ez
        obtain ⟨a, vs, rfl, q1, rr1⟩ := rx
        rw [hM] at q1
        refine ⟨a, _, vs, rfl, tint' ry, q1, by omega, by omega, by rw [← rr1.length]; exact szOk_le hz.1, fun p hp => ?_⟩
        obtain ⟨r3, fr⟩ := fresh_new r2 hp (rr1.rep _)
        exact h3.ok r3 (GrowTo.alloc hp).ext fr
      · cases ez
    · cases ez
end
end DL

set_option Elab.async false
set_option linter.all false
set_option maxRecDepth 100000
set_option maxHeartbeats 4000000
/-! DenQ: slices of lists, tuples and texts as data. -/
namespace DL
open PySem L2 PySem.Spec PyProof.Rows
def rSlQ (K : PySem.W.Frag) : V → Option Int → Option Int → Hp → VK → Prop := fun x lo hi H Q => rSlL K x lo hi H Q ∨ rSlA K x lo hi H Q ∨ rSlS x lo hi H Q
theorem sl_Q {X : Cx} : SlR X (rSlQ X.K) := by
  intro pins s σ H x v vl vu lo hi sl Q I rx hs pl pu h
  rcases h with h | h | h
  · exact sl_list pins s σ H x v vl vu lo hi sl Q I rx hs pl pu h
  · exact sl_tupA pins s σ H x v vl vu lo hi sl Q I rx hs pl pu h
  · exact sl_str pins s σ H x v vl vu lo hi sl Q I rx hs pl pu h
def slD (d : D) (lo hi : Option Int) : Option D := match d with
  | .lst ds => some (.lst (cut ds lo hi))
  | .tup ds => some (.tup (cut ds lo hi))
  | .str z => if szOk z.length then some (.str (cutS z lo hi)) else none
  | _ => none
def slF (fa : Sg → R AV) (lo hi : Sg → R (Option Int)) : FE := fun g => (fa g).bd fun a g1 => (lo g1).bd fun l g2 => (hi g2).bd fun u g3 => opt ((res g3 a).bind fun d => slD d l u) g3
theorem pd_sl {X : Cx} {b : B} {W : WX} {e : Expr} {pos : Pos} {fa : Sg → R AV} {lo hi : Option Expr} {fl fh : Sg → R (Option Int)} {p2 : Pos} (hM : b.M = ⟨X.K, X.mg⟩) (h : PE X e (tA1 b W fa)) (hl : PO X lo (tO b W fl)) (hh : PO X hi (tO b W fh)) : PE X (.Subscript e (.Slice lo hi none p2) pos) (tE b W (slF fa fl fh)) :=
  pe_mono (pe_slice sl_Q h hl hh) fun σ H Q ⟨Fz, g, r, q⟩ => by
    refine tG_seq r q fun a x g1 Fz1 H1 r1 e1 rep1 h1 => ?_
    refine tG_seq r1 h1 fun l l' g2 Fz2 H2 r2 e2 rep2 h2 => ?_
    refine tG_seq r2 h2 fun u u' g3 Fz3 H3 r3 e3 rep3 h3 => ?_
    have el : l' = l := rep2
    have eu : u' = u := rep3
    subst el; subst eu
    obtain ⟨z, ez, hz⟩ := h3.opt
    obtain ⟨d, hr, hd⟩ := Option.bind_eq_some_iff.mp ez
    have av : AVOk b σ Fz3 H3 g3 a x := rep1.mono (e2.trans e3) (resI_ok (res_I hr))
    have tr := res_ok r3 av hr
    cases d with
    | lst ds =>
      obtain ⟨ad, vs, rfl, hq, rr⟩ := tr
      rw [hM] at hq
      injection hd with hd; subst hd
      refine .inl ⟨ad, vs, rfl, hq, fun p hp => ?_⟩
      have gr : GrowTo Fz3 H3 Fz3 (upd H3 p (.lst (cutV vs l' u'))) := .alloc hp
      have fr : bF b σ Fz3 (upd H3 p (.lst (cutV vs l' u'))) g3 (cut ds l' u') (.ref p) := ⟨p, _, rfl, r3.new0 hp, r3.notFz hp, upd_same, fun i o => (r3.notAu hp) i o, cut_rep (rr.grow gr) _ _⟩
      obtain ⟨Fz4, r4, e4, rv⟩ := fresh_rep (r3.grow gr) fr
      exact hz.ok r4 (gr.ext.trans e4) rv
    | tup ds =>
      obtain ⟨ad, vs, rfl, hq, rr⟩ := sqT_rep (M := b.M) (Fz := Fz3) (H := H3) tr
      have hq' := hq
      rw [hM] at hq
      injection hd with hd; subst hd
      refine .inr (.inl ⟨ad, vs, rfl, hq, fun c => ?_, fun c p hp => ?_⟩)
      · rw [← RepL.length rr] at c
        have e : cut ds l' u' = ds := by
          unfold cut; rw [c.1, c.2]; simp
        rw [e] at hz
        refine hz.ok r3 .refl ?_
        show Rep b.M Fz3 H3 (.tup ds) (.ref ad)
        unfold Rep
        exact ⟨ad, vs, rfl, hq', rr⟩
      · have gr : GrowTo Fz3 H3 Fz3 (upd H3 p (.tup (cutV vs l' u'))) := .alloc hp
        exact hz.ok (r3.grow gr) gr.ext (rep_tupN (cut_rep (rr.grow gr) _ _) .refl upd_same)
    | str z0 =>
      have e0 := tstr' tr
      subst e0
      have hd : (if szOk z0.length then some (D.str (cutS z0 l' u')) else none) = some z := hd
      by_cases c : szOk z0.length = true
      · rw [if_pos c] at hd
        injection hd with hd; subst hd
        exact .inr (.inr ⟨z0, rfl, szOk_iff.mp c, hz.ok r3 .refl rep_str⟩)
      · rw [if_neg c] at hd; cases hd
    | _ => cases hd
end DL

set_option Elab.async false
set_option linter.all false
set_option maxRecDepth 100000
set_option maxHeartbeats 4000000
/-! DenFX: own errors whose message is an f-string. -/
namespace DL
open PySem L2 PySem.Spec PyProof.Rows
/-- what a message may show -/
def FmtV (v : V) : Prop := (∃ s : Str, v = .str s ∧ s.length ≤ 100) ∨ ∃ i : Int, v = .int i ∧ i.natAbs < 1000000
def fmtD : D → Bool
  | .int i => decide (i.natAbs < 1000000)
  | .str s => decide (s.length ≤ 100)
  | _ => false
def okF (is : List Nat) (ds : List D) : Bool := is.all fun i => match ds[i]? with
  | some d => fmtD d
  | none => false
def OkV (is : List Nat) (xs : List V) : Prop := ∀ i ∈ is, ∃ y, xs[i]? = some y ∧ FmtV y
theorem okF_V {M : MM} {Fz : Fzn} {H : Hp} {is : List Nat} {ds : List D} {xs : List V} (r : RepL M Fz H ds xs) (h : okF is ds = true) : OkV is xs := fun i hi => by
  have h1 := List.all_eq_true.mp h i hi
  cases e : ds[i]? with
  | none => rw [e] at h1; cases h1
  | some d =>
    rw [e] at h1
    obtain ⟨y, hy, ry⟩ := r.get e
    refine ⟨y, hy, ?_⟩
    cases d with
    | int i => exact .inr ⟨i, rep_int' ry, of_decide_eq_true h1⟩
    | str s => exact .inl ⟨s, rep_str' ry, of_decide_eq_true h1⟩
    | _ => cases h1
def spMkF (C : Addr) (fs : List Str) (is : List Nat) : Sp := fun vs H Q _ => ∃ a ys, vs = .ref a :: ys ∧ ys.length = fs.length ∧ H a = some (exo a C none) ∧ OkV is ys ∧
  (fs ≠ [] → ∀ dx, H dx = none → dx ≠ a → Q .non (upd (upd H dx (exd dx (fs.zip ys).reverse)) a (exo a C (some dx))))
def SkipXF (K : PySem.W.Frag) (C : Addr) (is : List Nat) (t : TS) : Prop := ∀ D σ H a ys, σ[0]? = some (some (.ref a)) → (∀ (i : Nat) (y : V), ys[i]? = some y → σ[i + 1]? = some (some y)) → OkV is ys → OexC K C → H a = some (exo a C none) → D.nx σ H → t D σ H
/-- a part of the message -/
def PartOk (σ : L2.St) (H : Hp) (t : TE) : Prop := ∃ y : Str, y.length ≤ 2000 ∧ ∀ Q : VK, Q (.str y) H → t σ H Q
theorem tJs_ok {σ : L2.St} {H : Hp} {Q : Str → Hp → Prop} (hq : ∀ out, Q out H) : ∀ (ts : List TE) (acc : Str), (∀ t ∈ ts, PartOk σ H t) → acc.length + 2000 * ts.length ≤ sizeLine → tJs ts acc σ H Q
  | [], acc, _, _ => hq acc
  | t :: ts, acc, h, hl => by
    obtain ⟨y, hy, ht⟩ := h t List.mem_cons_self
    have hlen : (acc ++ y).length = acc.length + y.length := Str.length_append ..
    rw [List.length_cons] at hl
    refine ht _ ⟨y, rfl, by rw [hlen]; omega, tJs_ok hq ts (acc ++ y) (fun x hx => h x (List.mem_cons_of_mem _ hx)) (by rw [hlen]; omega)⟩
theorem part_lit {σ : L2.St} {H : Hp} {m : Str} (h : m.length ≤ 2000) : PartOk σ H (tC (.str m)) := ⟨m, h, fun Q q => q⟩
theorem part_fmt {σ : L2.St} {H : Hp} {k : Nat} {v : V} (h : σ[k]? = some (some v)) (hv : FmtV v) : PartOk σ H (tFmt (tVar k)) := by
  rcases hv with ⟨s, rfl, hs⟩ | ⟨i, rfl, hi⟩
  · exact ⟨s, by omega, fun Q q => ⟨.str s, h, .inl ⟨s, rfl, by rw [sizeLine_eq]; omega, q⟩⟩⟩
  · have hl : i.natAbs.log2 < 1920 := by
      by_cases z : i.natAbs = 0
      · rw [z]; decide
      · have : i.natAbs.log2 < 20 := (Nat.log2_lt z).mpr (by omega)
        omega
    exact ⟨toString i, Nat.le_trans (int_text_len_1921 hl) (by decide), fun Q q => ⟨.int i, h, .inr ⟨i, rfl, hl, q⟩⟩⟩
/-- a part, as gen.py prints it: a text, or the field at a place -/
inductive FP where
  | s (m : Str) | f (i : Nat)
def FP.te : FP → TE
  | .s m => tC (.str m)
  | .f i => tFmt (tVar (i + 1))
def FP.ok (is : List Nat) : FP → Bool
  | .s m => decide (m.length ≤ 2000)
  | .f i => is.contains i
theorem skip_fs {K : PySem.W.Frag} {C : Addr} {is : List Nat} (fps : List FP) (hok : fps.all (FP.ok is) = true) (hl : fps.length ≤ 20) : SkipXF K C is (tDrop (tVeI K (tCons (tVar 0) (tCons (fun σ H Q => tJs (fps.map FP.te) Str.empty σ H fun out H1 => Q (.str out) H1) tNil)))) := fun D σ H a ys h0 hy hv T e h => by
  refine ⟨.ref a, h0, ?_⟩
  refine tJs_ok (fun out => ?_) _ _ (fun t ht => ?_) (by rw [List.length_map, sizeLine_eq]; show 0 + _ ≤ _; omega)
  · exact ⟨a, C, [.str out], rfl, by show 1 ≤ 1000; decide, T, e, h⟩
  · obtain ⟨p, hp, rfl⟩ := List.mem_map.mp ht
    have hpo := List.all_eq_true.mp hok p hp
    cases p with
    | s m => exact part_lit (of_decide_eq_true hpo)
    | f i =>
      have hm : i ∈ is := by simpa [FP.ok] using hpo
      obtain ⟨y, h1, h2⟩ := hv i hm
      exact part_fmt (hy i y h1) h2
section
variable {P : Program} {w : World} {K : PySem.W.Frag} {mg : Str → Option Value} {base : Heap} {C : Addr} {x qual : Str} {st : Stmt} {f : Addr} {fd : FuncData} {t0 : TS} {f1 f2 n1 n2 ns : Str} {is : List Nat}
theorem ok_initF1 (T : OexC K C) (g1 : PySem.W.findIn K (.ref C) f1 = some none) (F : FunD K x qual (defArgs st) (defBody st) (defScope st) [] [] f fd) (S : FnScope [ns, n1] [ns, n1] (defScope st)) (s0 : SkipXF K C is t0)
    (hb : ∀ (cdv : Value) (A : Around) (outer : List Env) (s : Shared) (H : Hp) (E : XK), PSs (cxOf (L2.CX P w) P w K mg base [ns, n1] qual (defScope st) f cdv A outer s H E) (defBody st) (tSeq t0 (tOst K f1 (tVar 0) (tVar 1)))) : FnOk P w K mg base (L2.CX P w) 1 f fd [ns, n1] (spMkF C [f1] is) := by
  refine F.ok (CX := L2.CX P w) S (fun vs H Q E h => ?_) (fun cdv A outer s H vs Q E hr h => ?_)
  · obtain ⟨a, ys, rfl, hl, _⟩ := h
    simp [hl]
  · obtain ⟨a, ys, rfl, hl, ea, hv, h2⟩ := h
    match ys, hl with
    | [y], _ =>
      refine ⟨_, hb cdv A outer s H E, s0 _ _ _ a [y] rfl (fun i z hz => ?_) hv T ea ?_⟩
      · match i, hz with
        | 0, hz => injection hz with hz; subst hz; rfl
      exact ⟨y, rfl, .ref a, rfl, a, C, rfl, T, g1, .inl ⟨ea, fun dx n ne => h2 (by simp) dx n ne⟩⟩
theorem ok_initF2 (T : OexC K C) (g1 : PySem.W.findIn K (.ref C) f1 = some none) (g2 : PySem.W.findIn K (.ref C) f2 = some none) (F : FunD K x qual (defArgs st) (defBody st) (defScope st) [] [] f fd) (S : FnScope [ns, n1, n2] [ns, n1, n2] (defScope st)) (s0 : SkipXF K C is t0)
    (hb : ∀ (cdv : Value) (A : Around) (outer : List Env) (s : Shared) (H : Hp) (E : XK), PSs (cxOf (L2.CX P w) P w K mg base [ns, n1, n2] qual (defScope st) f cdv A outer s H E) (defBody st) (tSeq t0 (tSeq (tOst K f1 (tVar 0) (tVar 1)) (tOst K f2 (tVar 0) (tVar 2))))) : FnOk P w K mg base (L2.CX P w) 1 f fd [ns, n1, n2] (spMkF C [f1, f2] is) := by
  refine F.ok (CX := L2.CX P w) S (fun vs H Q E h => ?_) (fun cdv A outer s H vs Q E hr h => ?_)
  · obtain ⟨a, ys, rfl, hl, _⟩ := h
    simp [hl]
  · obtain ⟨a, ys, rfl, hl, ea, hv, h2⟩ := h
    match ys, hl with
    | [y, z], _ =>
      refine ⟨_, hb cdv A outer s H E, s0 _ _ _ a [y, z] rfl (fun i v hz => ?_) hv T ea ?_⟩
      · match i, hz with
        | 0, hz => injection hz with hz; subst hz; rfl
        | 1, hz => injection hz with hz; subst hz; rfl
      refine ⟨y, rfl, .ref a, rfl, a, C, rfl, T, g1, .inl ⟨ea, fun dx n ne => ?_⟩⟩
      refine ⟨z, rfl, .ref a, rfl, a, C, rfl, T, g2, .inr ⟨dx, [(f1, y)], upd_same, by rw [upd_ne ne]; exact upd_same, by show 1 ≤ 900; decide, ?_⟩⟩
      have e : upd (upd (upd H dx (exd dx [(f1, y)])) a (exo a C (some dx))) dx (exd dx [(f2, z), (f1, y)]) = upd (upd H dx (exd dx [(f2, z), (f1, y)])) a (exo a C (some dx)) := by
        funext c
        by_cases hc : c = dx
        · subst hc
          rw [upd_same, upd_ne ne, upd_same]
        · rw [upd_ne hc]
          by_cases ha : c = a
          · subst ha; rw [upd_same, upd_same]
          · rw [upd_ne ha, upd_ne ha, upd_ne hc, upd_ne hc]
      show Q .non _
      rw [e]
      exact h2 (by simp) dx n ne
end
section
variable {X : Cx} {b : B} {W : WX} {e : Expr} {es : List Expr} {fa : FA} {x : Str} {p pos rpos : Pos} {C fI : Addr} {fd : FuncData} {ps : List Str} {fs : List Str} {cn : Str}
/-- raise C(e, ..) with a message that shows fields -/
def raiseFS (cn : Str) (fs : List Str) (is : List Nat) (fa : FA) : FS := fun g => (fa g).sb fun ds g1 => if ds.length = fs.length ∧ okF is ds = true then .ex (mkE cn fs ds) g1 else .no
theorem pts_raiseF {is : List Nat} (hM : b.M = ⟨X.K, X.mg⟩) (hc : X.calm = true) (tk : Takes X W) (T : OexC X.K C) (iC : PySem.W.findIn X.K (.ref C) "__init__" = some (some (.ref fI))) (tI : PySem.W.typeIn X.K (.ref fI) = some (.type "function"))
    (F1 : FnOk X.prog X.w X.K X.mg X.base (L2.CX X.prog X.w) 1 fI fd ps (spMkF C fs is)) (hr : Room 2 X.A) (hb : Binds X.K fd ps []) (hg : Gl X x) (hm : X.mg x = some (.ref C)) (hne : fs ≠ []) (hfs : fs.length ≤ 100) (ha : PA X (e :: es) (tAr b W fa))
    (hdb : (x == ("__debug__" : Str)) = false := by decide) (he : starEach (e :: es) X.env = (false, eval e X.env) :: starEach es X.env := by rfl) (hpl : (backTo pos (starEach es X.env)).any (·.1) = false := by rfl) :
    PS X (.Raise (some (.Call (.Name x p) (e :: es) [] pos)) none rpos) (tSt b W [] (raiseFS x fs is fa)) := ps_mono (ps_raise hc tk (pmk_oex T iC tI F1 hr hb .nil passF hg hm ha hdb he hpl)) fun D σ H ⟨Fz, g, r, h⟩ => by
  refine tG_st r h fun ds xs g1 Fz1 H1 r1 ex1 rep h1 => ?_
  have rep' : RepL b.M Fz1 H1 ds xs := rep
  by_cases hl : ds.length = fs.length ∧ okF is ds = true
  · rw [if_pos hl] at h1
    have hxs : xs.length = fs.length := by rw [← RepL.length rep']; exact hl.1
    have hov : OkV is xs := okF_V rep' hl.2
    refine ⟨by omega, fun a ha => ⟨a, xs, by rw [List.append_nil], hxs, upd_same, hov, fun _ dx hdx nda => ⟨rfl, dx, (fs.zip xs).reverse, upd_same, by rw [upd_ne nda]; exact upd_same, by rw [upd_ne nda] at hdx; exact hdx, ?_⟩⟩⟩
    rw [upd_ne nda] at hdx
    have e1 : upd (del (upd (upd (upd H1 a (exo a C none)) dx (exd dx (fs.zip xs).reverse)) a (exo a C (some dx))) a) dx (.xd (fs.zip xs).reverse) = upd H1 dx (.xd (fs.zip xs).reverse) := by
      funext c
      by_cases hc1 : c = dx
      · subst hc1; rw [upd_same, upd_same]
      · rw [upd_ne hc1, upd_ne hc1]
        by_cases hc2 : c = a
        · subst hc2; rw [del_same, ha]
        · rw [del_ne hc2, upd_ne hc2, upd_ne hc1, upd_ne hc2]
    rw [e1]
    have gr : GrowTo Fz1 H1 Fz1 (upd H1 dx (.xd (fs.zip xs).reverse)) := .alloc hdx
    refine h1 σ _ _ _ _ (r1.grow gr) ⟨gr.ext, fun _ _ => rfl⟩ ⟨C, rfl, by rw [hM]; exact hm, .inr ⟨dx, xs.reverse, rfl, ?_, by simp [mkE, hxs], ?_⟩⟩
    · rw [upd_same]
      show some (HO.xd _) = some (HO.xd (fs.reverse.zip xs.reverse))
      rw [zip_rev hxs.symm]
    · exact (rep'.grow gr).reverse
  · rw [if_neg hl] at h1; exact h1.elim
end
end DL

set_option Elab.async false
set_option linter.all false
set_option maxRecDepth 100000
set_option maxHeartbeats 4000000
/-! DenTM: try with several clauses, each with or without a name. -/
namespace DL
open PySem L2 PySem.Spec PyProof.Rows
/-- a clause: its class, the slot of its name, its suite -/
structure Clause where
  c : Value
  i : Option Nat
  ts : Addr → Value → Option Addr → TS
/-- the ends of a suite whose name is unbound behind it -/
def unE (i : Nat) (D : Ends) : Ends := ⟨fun σ' H' => D.nx (σ'.set i none) H', D.rt, fun σ' H' => D.bk (σ'.set i none) H', fun σ' H' => D.ct (σ'.set i none) H'⟩
def wMix (K : PySem.W.Frag) (Wo : WX) (D : Ends) : List Clause → WX
  | [] => Wo
  | q :: l => fun cls d σ H => ∃ t, PySem.W.exmOne K cls q.c = some t ∧ (t = true → ∀ a, H a = none → match q.i with
      | none => q.ts a cls d D σ H
      | some i => q.ts a cls d (unE i D) (σ.set i (some (.ref a))) H) ∧ (t = false → wMix K Wo D l cls d σ H)
inductive MixOk (X : Cx) : List ExceptHandler → List Clause → Prop where
  | nil : MixOk X [] []
  | plain {x : Str} {c : Value} {ts : Addr → Value → Option Addr → TS} {z : Stmt} {suite : List Stmt} {np p : Pos} {hl : List ExceptHandler} {l : List Clause} (hc : Names X x c)
      (hsu : ∀ (a : Addr) (oe : Obj) (cls : Value) (d : Option Addr) (pn : List (Addr × Obj)), Zc cls d oe → (∃ vs, oe.data = .fields vs) → PSs (X.suite a ((a, oe) :: pn)) (z :: suite) (ts a cls d)) (r : MixOk X hl l) :
      MixOk X (.ExceptHandler (some (.Name x np)) none (z :: suite) p :: hl) (⟨c, none, ts⟩ :: l)
  | named {x n : Str} {c : Value} {i : Nat} {ts : Addr → Value → Option Addr → TS} {z : Stmt} {suite : List Stmt} {np p : Pos} {hl : List ExceptHandler} {l : List Clause} (hN : X.N.Nodup) (hi : X.N[i]? = some n) (hln : X.env.kindOf n = some .local) (hc : Names X x c)
      (hsu : ∀ (a : Addr) (oe : Obj) (cls : Value) (d : Option Addr) (pn : List (Addr × Obj)), Zc cls d oe → (∃ vs, oe.data = .fields vs) → PSs (X.suite a ((a, oe) :: pn)) (z :: suite) (ts a cls d)) (r : MixOk X hl l) :
      MixOk X (.ExceptHandler (some (.Name x np)) (some n) (z :: suite) p :: hl) (⟨c, some i, ts⟩ :: l)
section
variable {X : Cx} {body : List Stmt} {h0 : ExceptHandler} {hl : List ExceptHandler} {l : List Clause} {pos : Pos} {tb : WX → TS} {Wo : WX}
theorem ps_try_mix (st : X.stack = X.env :: X.outer) (fr : X.env.frame = some X.env.locals) (tk : Takes X Wo)
    (hb : ∀ (W : WX) (pn : List (Addr × Obj)) (xe : Value → Shared → Prop), Takes (X.tr pn xe) W → PassesOwn (model X.prog X.w) X.A X.env xe → PSs (X.tr pn xe) body (tb W))
    (hm : MixOk X (h0 :: hl) l) : PS X (.Try body (h0 :: hl) [] [] pos) (fun D σ H => tb (wMix X.K Wo D l) D σ H) := by
  constructor
  intro pins s σ H D I w0
  have okI := I.ok
  have frm : X.A.frames = some (X.env :: X.outer) := by rw [okI.frames, st]
  apply wpAny_Try_except
  have run := (hb (wMix X.K Wo D l) (X.pn ++ pins) (fun e s₁ => wpAny (model X.prog X.w) X.A (noteFrame e X.env) (fun _ s₂ => wpAny (model X.prog X.w) X.A (setFlight e none) (fun _ s₃ =>
    wpAny (model X.prog X.w) X.A (handleBy e X.env (h0 :: hl)) (SP X pins D) X.xe s₃) X.xe s₂) X.xe s₁) ?tk PassesOwn.looking).run [] s σ H D (I.toTry _) w0
  · refine wpAny_mono run (fun f s1 sp => ?_) fun _ _ e => e
    cases f with
    | next => obtain ⟨σ1, H1, J, q⟩ := sp; exact wpAny_execs_nil ⟨σ1, H1, J.ofTry okI, q⟩
    | brk => obtain ⟨σ1, H1, J, q⟩ := sp; exact ⟨σ1, H1, J.ofTry okI, q⟩
    | cont => obtain ⟨σ1, H1, J, q⟩ := sp; exact ⟨σ1, H1, J.ofTry okI, q⟩
    | ret u => obtain ⟨v, σ1, H1, J, r, q⟩ := sp; exact ⟨v, σ1, H1, J.ofTry okI, r, q⟩
  case tk =>
    intro u s' xx
    obtain ⟨a, Bd, sI, pins', σ1, H1, cls, d, rfl, J0, nb, up, sk, na, os, ag, wq⟩ := xx
    have J : Inv X pins σ1 H1 sI := J0.ofTry okI
    have sk' : Sky Bd (X.env :: X.outer) a (Zc cls d) X.env.locals s'.heap := by rw [← st]; exact sk
    show wpAny (model X.prog X.w) X.A (noteFrame (.ref a) X.env) _ _ _
    refine Sky.land Zc.steady frm fr sk' fun h3 fl up3 => ?_
    obtain ⟨oe3, vs3, e3, z3, d3⟩ := fl.there
    have out : a ∉ frs (X.env :: X.outer) := fun hmem => by
      obtain ⟨_, o', e', nf⟩ := fl.2.2.1.mem hmem
      rw [e3] at e'; cases e'
      exact nf _ d3
    have nL : a ≠ X.env.locals := fun q => out (List.mem_filterMap.mpr ⟨X.env, List.mem_cons_self, by rw [fr, q]⟩)
    have nF : a ∉ X.fs := fun hmem => by
      obtain ⟨e, he, q⟩ := List.mem_filterMap.mp hmem
      exact out (List.mem_filterMap.mpr ⟨e, List.mem_cons_of_mem _ he, q⟩)
    have S3 := (J.landed nb fl.1 (up.trans up3) os ag : Inv X pins σ1 H1 { s' with heap := h3 }).suite e3 d3 na nL nF
    have K3 : Inv X pins σ1 H1 { s' with heap := h3 } := J.landed nb fl.1 (up.trans up3) os ag
    have tst : ∀ {x : Str} {c : Value} {np : Pos} {Q : Value → Shared → Prop} {E : Value → Shared → Prop}, Names X x c → Q c { s' with heap := h3 } → wpAny (model X.prog X.w) (X.A.mark (some (.ref a))) (eval (.Name x np) X.env) Q E { s' with heap := h3 } := fun {x c np Q E} hc q => by
      obtain ⟨g1, g2, g3 | ⟨g3, g4, g5⟩⟩ := hc
      · exact ld_glob (X := X.suite a ((a, oe3) :: (X.pn ++ pins))) S3 g1 g3 q g2
      · exact ld_blt (X := X.suite a ((a, oe3) :: (X.pn ++ pins))) S3 g1 g3 g4 q g5 g2
    suffices go : ∀ {hs : List ExceptHandler} {ls : List Clause}, MixOk X hs ls → wMix X.K Wo D ls cls d σ1 H1 → wpAny (model X.prog X.w) X.A (handleBy (.ref a) X.env hs) (SP X pins D) X.xe { s' with heap := h3 } from go hm wq
    intro hs ls mk
    induction mk with
    | nil =>
      intro w
      apply wpAny_handleBy_nil
      obtain ⟨k1, k2, k3, oe, vs, T, oT, ts', he, hz, hd, h1, hr⟩ := id fl
      unfold PySem.passOn
      refine wpAny_bind (wpAny_field he hd h1 ?_)
      rw [if_neg (show ¬ ((Value.ref T == Value.none) = true) from by simp)]
      have last : wpAny (model X.prog X.w) X.A (setFlight (.ref a) X.env.frame) (fun _ s4 => wpAny (model X.prog X.w) X.A (throw (.ref a) : Sem Flow) (SP X pins D) X.xe s4) X.xe { s' with heap := h3 } := by
        rw [fr]
        refine HandSPX.setFlight_upZ fl fun h4 hh up4 => wpAny_throw (tk _ _ ?_)
        exact ⟨a, Bd, sI, pins, σ1, H1, cls, d, rfl, J, nb, (up.trans up3).trans up4, .inr (.inr (by rw [st]; exact hh)), na, os, ag, w⟩
      first
        | exact wpAny_bind (wpAny_pure (wpAny_bind last))
        | exact wpAny_bind last
    | @plain x c ts z suite np p hl2 l2 hc hsu r ih =>
      intro w
      obtain ⟨t, ht, yes, no⟩ := w
      refine wpAny_handleBy_cons (codeAny_handlers_test ?_) (by intro q; cases q)
      have LT : PySem.W.Looks (model X.prog X.w) h3 (typeOf (.ref a)) cls := fun A Q E s k q => wpAny_typeOf_ref (k _ _ e3) (by rw [z3.1]; exact q)
      have LM := PySem.W.exm_one (M := model X.prog X.w) K3.kIn LT ht
      refine tst hc (LM.here ?_)
      cases t with
      | false => exact ih (no rfl)
      | true =>
        apply codeAny_handlers_suite
        refine HandSPX.lands_againZ fl fun h4 fl4 up4 => ?_
        obtain ⟨oe4, vs4, e4, z4, d4⟩ := fl4.there
        have S4 := (J.landed nb fl4.1 ((up.trans up3).trans up4) os ag : Inv X pins σ1 H1 { s' with heap := h4 }).suite e4 d4 na nL nF
        refine wpAny_mono ((hsu a oe4 cls d (X.pn ++ pins) z4 ⟨_, d4⟩).run [] _ _ H1 _ S4 (yes rfl a na)) (fun f s6 sp => ?_) (fun _ _ z => False.elim z)
        cases f with
        | next => obtain ⟨σ6, H6, S6, q6⟩ := sp; exact ⟨_, _, S6.unsuite okI, q6⟩
        | brk => obtain ⟨σ6, H6, S6, q6⟩ := sp; exact ⟨_, _, S6.unsuite okI, q6⟩
        | cont => obtain ⟨σ6, H6, S6, q6⟩ := sp; exact ⟨_, _, S6.unsuite okI, q6⟩
        | ret u => obtain ⟨v6, σ6, H6, S6, r6, q6⟩ := sp; exact ⟨_, _, _, S6.unsuite okI, r6, q6⟩
    | @named x n c i ts z suite np p hl2 l2 hN hi hln hc hsu r ih =>
      intro w
      obtain ⟨t, ht, yes, no⟩ := w
      refine wpAny_handleBy_cons (codeAny_handlers_test ?_) (by intro q; cases q)
      have LT : PySem.W.Looks (model X.prog X.w) h3 (typeOf (.ref a)) cls := fun A Q E s k q => wpAny_typeOf_ref (k _ _ e3) (by rw [z3.1]; exact q)
      have LM := PySem.W.exm_one (M := model X.prog X.w) K3.kIn LT ht
      refine tst hc (LM.here ?_)
      cases t with
      | false => exact ih (no rfl)
      | true =>
        apply codeAny_handlers_suite_as
        refine HandSPX.lands_againZ fl fun h4 fl4 up4 => ?_
        obtain ⟨oe4, vs4, e4, z4, d4⟩ := fl4.there
        have S4 := (J.landed nb fl4.1 ((up.trans up3).trans up4) os ag : Inv X pins σ1 H1 { s' with heap := h4 }).suite e4 d4 na nL nF
        refine store_ok (X := X.suite a ((a, oe4) :: (X.pn ++ pins))) (v := .ref a) S4 hN hi (.inl hln) rfl (fun s5 S5 => ?_) (.inr hln)
        refine wpAny_mono ((hsu a oe4 cls d (X.pn ++ pins) z4 ⟨_, d4⟩).run [] s5 _ H1 _ S5 (yes rfl a na)) (fun f s6 sp => ?_) (fun _ _ z => False.elim z)
        have behind : ∀ {σ6 : L2.St} {H6 : Hp} {Q : Shared → Prop}, Inv (X.suite a ((a, oe4) :: (X.pn ++ pins))) [] σ6 H6 s6 → (∀ s7, Inv X pins (σ6.set i none) H6 s7 → Q s7) →
            wpAny (model X.prog X.w) X.A (do bindName X.env n .none; unbindBehindTheSuite X.env n p) (fun _ s7 => Q s7) X.xe s6 := fun {σ6 H6 Q} S6 hq => gone_ok (S6.unsuite okI) hN hi hln hq
        cases f with
        | next => obtain ⟨σ6, H6, S6, q6⟩ := sp; exact behind S6 fun s7 J7 => ⟨_, _, J7, q6⟩
        | brk => obtain ⟨σ6, H6, S6, q6⟩ := sp; exact behind S6 fun s7 J7 => ⟨_, _, J7, q6⟩
        | cont => obtain ⟨σ6, H6, S6, q6⟩ := sp; exact behind S6 fun s7 J7 => ⟨_, _, J7, q6⟩
        | ret u => obtain ⟨v6, σ6, H6, S6, r6, q6⟩ := sp; exact behind S6 fun s7 J7 => ⟨_, _, _, J7, r6, q6⟩
end
section
variable {X : Cx} {b : B} {W : WX}
/-- the suite of a clause with a name -/
theorem suite_ok {as as2 full : List Nat} {i : Nat} {a : Addr} {g' : Sg} {σ σ1 : L2.St} {Fz Fz1 : Fzn} {H H1 : Hp} {D : Ends} {e : Exn} {C : Addr} {dx : Option Addr} {sx : Exn → FS} (hx : b.px = none) (hM : b.M = ⟨X.K, X.mg⟩) (ha : H1 a = none)
    (r1 : BRel b Fz1 g' σ1 H1) (go1 : Go as σ Fz H σ1 Fz1 H1) (hmg : b.M.mg e.cls = some (.ref C)) (hfl : (e.ns = [] ∧ e.ds = [] ∧ dx = none) ∨ ∃ dd vs, dx = some dd ∧ H1 dd = some (.xd (e.ns.zip vs)) ∧ e.ns.length = vs.length ∧ RepL b.M Fz1 H1 e.ds vs) (hsub : ∀ j, j ∈ as ++ i :: as2 → j ∈ full)
    (h : PoS b W full σ Fz H D (if i < g'.length then endX i g'.length (sx e (g'.set i .un)) else .no)) :
    ∃ ex b', b'.M = ⟨X.K, X.mg⟩ ∧ b'.px = some (i, a) ∧ XHeld b' ex (.ref C) dx ∧ tSt b' W0 as2 (sx ex) (unE i D) (σ1.set i (some (.ref a))) H1 := by
  by_cases hil : i < g'.length
  · rw [if_pos hil] at h
    have r2 := suite_rel (i := i) (a := a) hx r1 hil
    have r1' := r1.setRaw hx i (some (.ref a))
    refine ⟨e, _, (by exact hM : (suiteB b Fz1 (g'.set i .un) (σ1.set i (some (.ref a))) H1 i a).M = _), rfl, ⟨⟨C, rfl, hmg⟩, hfl.imp id (fun ⟨dd, ws, k1, k2, k3, k4⟩ => ⟨dd, ws, k1, ?kd, k3, RepL.mono (hide_ext r1') _ _ k4⟩), fun c ⟨j, o⟩ => ?_⟩, Fz1, _, r2, ?_⟩
    case kd =>
      exact (hide_of fun j z => by
        obtain ⟨vs, hv⟩ := NOwn.there r1'.nst z
        rw [hv] at k2; cases k2).trans k2
    · obtain ⟨s, u, _, nf, hu, w⟩ := r1'.there o
      exact ⟨nf, by
        show Mut (hide _ _ H1 c)
        rw [hide_of fun k z => (r1'.nst.free k c z).2.2 j o, hu]; exact w.mut⟩
    · have go2 : Go [i] σ1 Fz1 H1 (σ1.set i (some (V.ref a))) Fz1 H1 := .set
      have fin : ∀ {σ' : L2.St} {H' : Hp} {Fz' : Fzn} {g3 : Sg}, BRel (suiteB b Fz1 (g'.set i .un) (σ1.set i (some (.ref a))) H1 i a) Fz' g3 σ' H' → g3.length = g'.length → BRel b Fz' (g3.set i .un) (σ'.set i none) H' := fun br hl => (suite_back hx r1 br hl).setRaw hx i none
      have fgo : ∀ {σ' : L2.St} {H' : Hp} {Fz' : Fzn}, Go as2 (σ1.set i (some (.ref a))) Fz1 H1 σ' Fz' H' → Go full σ Fz H (σ'.set i none) Fz' H' := fun go3 => by
        have z := (go1.trans (go2.trans go3)).trans (Go.set (i := i) (v := none))
        exact z.sub fun j hj => hsub j (by
          rcases List.mem_append.mp hj with hj | hj
          · rcases List.mem_append.mp hj with hj | hj
            · exact List.mem_append_left _ hj
            · exact List.mem_append_right _ hj
          · exact List.mem_append_right _ (List.mem_append_left (bs := as2) (as := [i]) hj))
      cases hsx : sx e (g'.set i .un) with
      | nx g3 =>
        rw [hsx] at h
        dsimp only [endX] at h
        by_cases hl : g3.length = g'.length
        · rw [if_pos hl] at h; exact fun σ' H' Fz' br go3 => h _ H' Fz' (fin br hl) (fgo go3)
        · rw [if_neg hl] at h; exact h.elim
      | bk g3 =>
        rw [hsx] at h
        dsimp only [endX] at h
        by_cases hl : g3.length = g'.length
        · rw [if_pos hl] at h; exact fun σ' H' Fz' br go3 => h _ H' Fz' (fin br hl) (fgo go3)
        · rw [if_neg hl] at h; exact h.elim
      | ct g3 =>
        rw [hsx] at h
        dsimp only [endX] at h
        by_cases hl : g3.length = g'.length
        · rw [if_pos hl] at h; exact fun σ' H' Fz' br go3 => h _ H' Fz' (fin br hl) (fgo go3)
        · rw [if_neg hl] at h; exact h.elim
      | rt d g3 =>
        rw [hsx] at h
        dsimp only [endX] at h
        by_cases hl : g3.length = g'.length
        · rw [if_pos hl] at h; exact fun x σ' H' Fz' br rep => h x _ H' Fz' (fin br hl) rep
        · rw [if_neg hl] at h; exact h.elim
      | rf d g3 =>
        rw [hsx] at h
        dsimp only [endX] at h
        by_cases hl : g3.length = g'.length
        · rw [if_pos hl] at h
          refine fun x σ' H' Fz' br rep => h x _ H' Fz' (fin br hl) ?_
          obtain ⟨p, vs, rfl, h0, nf, hu, no, rr⟩ := rep
          refine ⟨p, vs, rfl, (hide_none h0).elim r1.new0 (fun ⟨j, z⟩ => (r1'.nst.free j p z).2.1), nf, hu, fun j o => ?_, rr⟩
          rcases o with o | o
          rotate_left
          · obtain ⟨dss, a', ws, k1, k2, k3⟩ := o
            rcases gset_get k1 with ⟨_, z⟩ | ⟨z, k1⟩
            · cases z
            · rw [List.getElem?_set_ne (Ne.symm z)] at k2
              exact no j (.inr ⟨dss, a', ws, k1, k2, k3⟩)
          obtain ⟨⟨s, es, ws⟩, qq⟩ := o
          rcases gset_get es with ⟨_, z⟩ | ⟨z, es⟩
          · rw [z] at ws; cases ws
          · rw [List.getElem?_set_ne (Ne.symm z)] at qq
            exact no j (.inl ⟨⟨s, es, ws⟩, qq⟩)
        · rw [if_neg hl] at h; exact h.elim
      | ex d g3 => rw [hsx] at h; exact h.elim
      | no => rw [hsx] at h; exact h.elim
  · rw [if_neg hil] at h; exact h.elim
/-- clauses, as data's side sees them -/
structure CL where
  hd : Str → Option Bool
  i : Option Nat
  sx : Exn → FS
def tryH : List CL → Exn → Sg → RS
  | [], e, g => .ex e g
  | q :: l, e, g => match q.hd e.cls with
    | some true => match q.i with
      | some i => if i < g.length then endX i g.length (q.sx e (g.set i .un)) else .no
      | none => noEx (q.sx e g)
    | some false => tryH l e g
    | none => .no
def tryM (l : List CL) (body : FS) : FS := fun g => match body g with
  | .ex e g' => tryH l e g'
  | r => r
inductive MixD (X : Cx) (b : B) : List ExceptHandler → List CL → List Nat → Prop where
  | nil : MixD X b [] [] []
  | named {x n : Str} {c : Value} {i : Nat} {hd : Str → Option Bool} {as2 : List Nat} {sx : Exn → FS} {z : Stmt} {suite : List Stmt} {np p : Pos} {hl : List ExceptHandler} {l : List CL} {A : List Nat} (hN : X.N.Nodup) (hi : X.N[i]? = some n) (hln : X.env.kindOf n = some .local) (hc : Names X x c)
      (hcl : ∀ nm r C, hd nm = some r → X.mg nm = some (.ref C) → PySem.W.exmOne X.K (.ref C) c = some r)
      (hsu : ∀ (a : Addr) (oe : Obj) (cls : Value) (d : Option Addr) (pn : List (Addr × Obj)) (ex : Exn) (b' : B), Zc cls d oe → (∃ vs, oe.data = .fields vs) → b'.M = ⟨X.K, X.mg⟩ → b'.px = some (i, a) → XHeld b' ex cls d → PSs (X.suite a ((a, oe) :: pn)) (z :: suite) (tSt b' W0 as2 (sx ex)))
      (r : MixD X b hl l A) : MixD X b (.ExceptHandler (some (.Name x np)) (some n) (z :: suite) p :: hl) (⟨hd, some i, sx⟩ :: l) ((i :: as2) ++ A)
  | plain {x : Str} {c : Value} {hd : Str → Option Bool} {as2 : List Nat} {s : FS} {z : Stmt} {suite : List Stmt} {np p : Pos} {hl : List ExceptHandler} {l : List CL} {A : List Nat} (hc : Names X x c)
      (hcl : ∀ nm r C, hd nm = some r → X.mg nm = some (.ref C) → PySem.W.exmOne X.K (.ref C) c = some r)
      (hsu : ∀ (a : Addr) (oe : Obj) (pn : List (Addr × Obj)), PSs (X.suite a ((a, oe) :: pn)) (z :: suite) (tSt b W0 as2 s))
      (r : MixD X b hl l A) : MixD X b (.ExceptHandler (some (.Name x np)) none (z :: suite) p :: hl) (⟨hd, none, fun _ => s⟩ :: l) (as2 ++ A)
theorem mixD_ok (hx : b.px = none) (hM : b.M = ⟨X.K, X.mg⟩) {hl : List ExceptHandler} {cl : List CL} {A : List Nat} (m : MixD X b hl cl A) : ∃ l : List Clause, MixOk X hl l ∧
    ∀ {as full : List Nat} {g' : Sg} {σ σ1 : L2.St} {Fz Fz1 : Fzn} {H H1 : Hp} {D : Ends} {e : Exn} {C : Addr} {dx : Option Addr}, BRel b Fz1 g' σ1 H1 → Go as σ Fz H σ1 Fz1 H1 → ExOk b.M Fz1 H1 e (.ref C) dx → (∀ j, j ∈ as ++ A → j ∈ full) →
      PoS b W full σ Fz H D (tryH cl e g') → wMix X.K W D l (.ref C) dx σ1 H1 := by
  induction m with
  | nil =>
    refine ⟨[], .nil, fun r1 go1 ok hs h => ?_⟩
    exact h _ _ _ _ _ r1 (go1.sub fun i hi => hs i (by simp [hi])) ok
  | @named x n c i hd as2 sx z suite np p hl l A hN hi hln hc hcl hsu r ih =>
    obtain ⟨l', mk, go⟩ := ih
    refine ⟨⟨c, some i, fun a cls d D σ H => ∃ ex b', b'.M = ⟨X.K, X.mg⟩ ∧ b'.px = some (i, a) ∧ XHeld b' ex cls d ∧ tSt b' W0 as2 (sx ex) D σ H⟩ :: l', .named hN hi hln hc (fun a oe cls d pn hz hv => ⟨fun pins s σ H D I ⟨ex, b', h1, h2, h3, h4⟩ => (hsu a oe cls d pn ex b' hz hv h1 h2 h3).run pins s σ H D I h4⟩) mk, fun {as full g' σ σ1 Fz Fz1 H H1 D e C dx} r1 go1 ok hs h => ?_⟩
    have h' : PoS b W full σ Fz H D (match hd e.cls with
      | some true => if i < g'.length then endX i g'.length (sx e (g'.set i .un)) else .no
      | some false => tryH l e g'
      | none => .no) := h
    have ok0 := ok
    obtain ⟨C', hC, hmg, hfl⟩ := ok
    cases hC
    cases hh : hd e.cls with
    | none => rw [hh] at h'; exact h'.elim
    | some q =>
      rw [hh] at h'
      refine ⟨q, hcl _ _ _ hh (by rw [hM] at hmg; exact hmg), fun hq a ha => ?_, fun hq => ?_⟩
      · subst hq
        exact suite_ok hx hM ha r1 go1 hmg hfl (fun j hj => hs j (by simp at hj ⊢; rcases hj with h | h | h <;> simp [h])) h'
      · subst hq
        exact go r1 go1 ok0 (fun j hj => hs j (by simp at hj ⊢; rcases hj with h | h <;> simp [h])) h'
  | @plain x c hd as2 s z suite np p hl l A hc hcl hsu r ih =>
    obtain ⟨l', mk, go⟩ := ih
    refine ⟨⟨c, none, fun a cls d => tSt b W0 as2 s⟩ :: l', .plain hc (fun a oe cls d pn hz hv => hsu a oe pn) mk, fun {as full g' σ σ1 Fz Fz1 H H1 D e C dx} r1 go1 ok hs h => ?_⟩
    have h' : PoS b W full σ Fz H D (match hd e.cls with
      | some true => noEx (s g')
      | some false => tryH l e g'
      | none => .no) := h
    have ok0 := ok
    obtain ⟨C', hC, hmg, hfl⟩ := ok
    cases hC
    cases hh : hd e.cls with
    | none => rw [hh] at h'; exact h'.elim
    | some q =>
      rw [hh] at h'
      refine ⟨q, hcl _ _ _ hh (by rw [hM] at hmg; exact hmg), fun hq a ha => ?_, fun hq => ?_⟩
      · subst hq
        refine ⟨Fz1, g', r1, ?_⟩
        have h2 : PoS b W full σ Fz H D (noEx (s g')) := h'
        have su : ∀ {σ' : L2.St} {Fz' : Fzn} {H' : Hp}, Go as2 σ1 Fz1 H1 σ' Fz' H' → Go full σ Fz H σ' Fz' H' := fun go2 => (go1.trans go2).sub fun j hj => hs j (by simp at hj ⊢; rcases hj with h | h <;> simp [h])
        cases hs3 : s g' with
        | nx g3 => rw [hs3] at h2; exact fun σ' H' Fz' br go => h2 σ' H' Fz' br (su go)
        | bk g3 => rw [hs3] at h2; exact fun σ' H' Fz' br go => h2 σ' H' Fz' br (su go)
        | ct g3 => rw [hs3] at h2; exact fun σ' H' Fz' br go => h2 σ' H' Fz' br (su go)
        | rt d g3 => rw [hs3] at h2; exact h2
        | rf d g3 => rw [hs3] at h2; exact h2
        | no => rw [hs3] at h2; exact h2
        | ex e3 g3 => rw [hs3] at h2; exact h2.elim
      · subst hq
        exact go r1 go1 ok0 (fun j hj => hs j (by simp at hj ⊢; rcases hj with h | h <;> simp [h])) h'
theorem pts_tryM {body : List Stmt} {h0 : ExceptHandler} {hl : List ExceptHandler} {cl : List CL} {pos : Pos} {as A : List Nat} {f : FS} (hx : b.px = none) (st : X.stack = X.env :: X.outer) (fr : X.env.frame = some X.env.locals) (tk : Takes X W) (hM : b.M = ⟨X.K, X.mg⟩)
    (hb : ∀ (W : WX) (pn : List (Addr × Obj)) (xe : Value → Shared → Prop), Takes (X.tr pn xe) W → PassesOwn (model X.prog X.w) X.A X.env xe → PSs (X.tr pn xe) body (tSt b W as f))
    (hm : MixD X b (h0 :: hl) cl A) : PS X (.Try body (h0 :: hl) [] [] pos) (tSt b W (as ++ A) (tryM cl f)) := by
  obtain ⟨l, mk, go⟩ := mixD_ok (W := W) hx hM hm
  refine ps_mono (ps_try_mix (tb := fun W => tSt b W as f) st fr tk hb mk) fun D σ H ⟨Fz, g, r, h⟩ => ⟨Fz, g, r, ?_⟩
  unfold tryM at h
  cases hfg : f g with
  | nx g' => rw [hfg] at h; exact fun σ' H' Fz' br go => h σ' H' Fz' br (go.sub fun i z => List.mem_append_left _ z)
  | bk g' => rw [hfg] at h; exact fun σ' H' Fz' br go => h σ' H' Fz' br (go.sub fun i z => List.mem_append_left _ z)
  | ct g' => rw [hfg] at h; exact fun σ' H' Fz' br go => h σ' H' Fz' br (go.sub fun i z => List.mem_append_left _ z)
  | rt d g' => rw [hfg] at h; exact h
  | rf d g' => rw [hfg] at h; exact h
  | no => rw [hfg] at h; exact h
  | ex e g' =>
    rw [hfg] at h
    simp only at h
    intro σ1 cl1 dx H1 Fz1 r1 go1 ok
    have ok0 := ok
    obtain ⟨C, rfl, _⟩ := ok
    exact go r1 go1 ok0 (fun j hj => hj) h
end
end DL

set_option Elab.async false
set_option linter.all false
set_option maxRecDepth 100000
set_option maxHeartbeats 4000000
/-! DenK: sorted with keywords. -/
namespace DL
open PySem L2 PySem.Spec PyProof.Rows
section
variable {prog : Program} {w : World} {A : Around} {E : Value → Shared → Prop} {s : Shared}
open SrtO in
theorem sorted_ordTK {kw : List (Str × Value)} {b : Bool} (hk : ∀ a, Builtin.«list.sort» ⟨[.ref a], kw⟩ = Builtin.«list.sort» ⟨[.ref a], [(Str.ofString "reverse", .bool b)]⟩) {l : Addr} {vs : List Value} {ltv : Value → Value → Bool} {Q : Value → Shared → Prop} {o : Obj} {n : Nat} (ha1 : argsOk "sorted" ⟨[.ref l], kw⟩) (ha2 : ∀ a, argsOk "list.sort" ⟨[a], kw⟩) (O : Swo ltv) (ho : s.heap.get? l = some o) (hc : o.cls = .type "tuple") (hd : o.data = .seq vs.toArray n) (hz : vs.length ≤ sizeLine)
    (hS : 2 ≤ vs.length → ∀ (h₁ : Heap) (a : Addr), h₁.get? a = some (seqObj "list" vs.toArray 0) → (∀ b o, s.heap.get? b = some o → b ≠ a ∧ h₁.get? b = some o) → SortableO prog w A.in1.in1 { s with heap := h₁ } a vs ltv)
    (h : ∀ out : List Value, Srtd ltv out → Stb ltv out (if b = true then vs.reverse else vs) → Q (.ref (s.heap.objs.size + 1)) { s with heap := sortedAll s.heap vs (if b = true then out.toArray.reverse else out.toArray) }) :
    wpAny (model prog w) A (call (.builtin "sorted") [.ref l] kw) Q E s := by
  refine call_function_entry_kw kind_sorted plain_sorted entry_sorted ha1 ?_
  unfold Builtin.«sorted»
  refine wpAny_bind (m := checkCount "sorted" 1 1 _) (wpAny_pure ?_)
  refine wpAny_bind (collect_tupT ho hc hd ?_ hz)
  refine wpAny_bind (wpAny_newList ?_ hz)
  have hsz : ((s.heap.push (seqObj "list" #[] 0)).update s.heap.objs.size (Obj.mapSeq (· ++ vs.toArray))).objs.size = s.heap.objs.size + 1 := by
    rw [Heap.size_update, size_push']
  have hoL : (((s.heap.push (seqObj "list" #[] 0)).update s.heap.objs.size (Obj.mapSeq (· ++ vs.toArray))).push (seqObj "list" vs.toArray 0)).get? (s.heap.objs.size + 1) = some (seqObj "list" vs.toArray 0) := by
    rw [← hsz]; exact Heap.get?_push_size _ rfl
  have keep : ∀ b o, s.heap.get? b = some o → b ≠ s.heap.objs.size + 1 ∧ (((s.heap.push (seqObj "list" #[] 0)).update s.heap.objs.size (Obj.mapSeq (· ++ vs.toArray))).push (seqObj "list" vs.toArray 0)).get? b = some o := fun b o q => by
    have hlt : b < s.heap.objs.size := Heap.lt_size q
    refine ⟨Nat.ne_of_lt (Nat.lt_succ_of_lt hlt), Heap.get?_push_of_some _ ?_⟩
    rw [Heap.get?_update_ne _ _ _ _ (Nat.ne_of_lt hlt)]
    exact Heap.get?_push_of_some _ q
  show wpAny _ _ _ _ _ { s with heap := ((s.heap.push (seqObj "list" #[] 0)).update s.heap.objs.size (Obj.mapSeq (· ++ vs.toArray))).push (seqObj "list" vs.toArray 0) }
  rw [hsz]
  refine wpAny_bind (wpAny_holding (wpAny_call_entry_kw slot_list_sort ⟨_, hoL, rfl⟩ entry_list_sort ?kk (ha2 _)))
  rw [hk]
  refine SrtR.list_sort_ordR O hoL hz (fun h2 => hS h2 _ _ hoL keep) fun out hs hb => ⟨_, rfl, ?_⟩
  exact wpAny_pure ⟨_, rfl, h out hs hb⟩
end
section
variable {X : Cx} {M : MM}
/-- sorted(t, reverse=b) of a tuple of ints -/
def rSortTK (K : PySem.W.Frag) (b : Bool) : List V → List V → Hp → VK → Prop := fun vs zs H Q => ∃ (a : Addr) (ns : List Int), vs = [V.ref a] ∧ zs = [.bl b] ∧ SqT K H a (ns.map V.int) ∧
  ∀ (ns' : List Int) (p : Addr), ns'.Perm ns → OrdB b ns' → H p = none → Q (.ref p) (upd H p (.lst (ns'.map V.int)))
theorem cr_sortedRevT {b : Bool} : CallRK X (.builtin "sorted") [Str.ofString "reverse"] (rSortTK X.K b) := by
  intro pins s σ H vs zs us ws Q I r rz h
  obtain ⟨a, ns, rfl, rfl, hs, q⟩ := h
  obtain rfl := Vals.ref1 r
  obtain ⟨w1, rfl, e1⟩ := vals1 rz
  obtain rfl : w1 = Value.bool b := e1
  obtain ⟨its, rv, pl, hz⟩ := I.tuple hs
  obtain ⟨o, ho, hc, n, hd⟩ := pl
  have hi := rv.ints
  refine sorted_ordTK (fun _ => rfl) (PyProof.Rows.args_sorted_rev _ _) (fun _ => PyProof.Rows.args_list_sort_rev _ _) SrtO.swo_int ho hc hd (by rw [← rv.length]; exact hz) (fun h2 h₁ a' _ _ => SrtO.ints_sortable hi h2) fun out h1 h2 => ?_
  obtain ⟨ns', k1, k2, k3⟩ := SrtR.ints_outR hi h1 h2
  obtain ⟨ep, he'⟩ := PyProof.Rows.sortedAll_at s.heap its (if b = true then out.toArray.reverse else out.toArray)
  have hlen : (ns'.map V.int).length ≤ sizeLine := by
    rw [List.length_map, k2.length_eq]
    rw [List.length_map] at hz
    exact hz
  have e0 : ((if b = true then out.toArray.reverse else out.toArray).toList).toArray = (if b = true then out.toArray.reverse else out.toArray) := by rw [Array.toArray_toList]
  exact ⟨.ref _, upd H (s.heap.objs.size + 1) (.lst (ns'.map V.int)), I.laid (t' := s.toks) (fun _ _ => PyProof.Rows.sortedAll_old) (Nat.le_succ _) ⟨hlen, _, ep, vals_of_ints k1, by rw [e0]; exact he'⟩, rfl, q _ _ k2 k3 (I.hok.fresh (Nat.le_succ _))⟩
end
end DL
namespace DL
open PySem L2 PySem.Spec PyProof.Rows
/-- the ints, descending -/
def srtDn (ns : List Int) : List Int := (srtI ns).reverse
theorem srtDn_eq {ns ns' : List Int} (p : ns'.Perm ns) (h : OrdB true ns') : ns' = srtDn ns := by
  have h' : ns'.Pairwise (· ≥ ·) := h
  have e := srtI_eq ((List.reverse_perm ns').trans p) (List.pairwise_reverse.mpr h')
  unfold srtDn
  rw [← e, List.reverse_reverse]
theorem srtDn_perm (ns : List Int) : (srtDn ns).Perm ns := (List.reverse_perm _).trans (srtI_perm ns)
theorem srtDn_ge (ns : List Int) : (srtDn ns).Pairwise (· ≥ ·) := List.pairwise_reverse.mpr (srtI_le ns)
def sortedDnD : List D → Option (List D)
  | [d] => (seqOf d).bind fun ds => (intsD ds).bind fun ns => some ((srtDn ns).map D.int)
  | _ => none
section
variable {X : Cx} {M : MM}
def rSortDn (K : PySem.W.Frag) : List V → Hp → VK → Prop := fun xs H Q => rSortedKw K true [.bl true] xs [.bl true] H Q ∨ rSortTK K true xs [.bl true] H Q
theorem callTF_sortDn : CallTF M (rSortDn M.K) sortedDnD := by
  intro Fz H ds zs xs Q dom rx eo k
  unfold sortedDnD at eo
  split at eo
  · rename_i d
    obtain ⟨es, ees, eo⟩ := Option.bind_eq_some_iff.mp eo
    obtain ⟨ns, ens, eo⟩ := Option.bind_eq_some_iff.mp eo
    injection eo with eo; subst eo
    have rx0 := trep1 rx
    clear rx
    obtain ⟨x, rfl, rx⟩ := rx0
    obtain ⟨a, vs, rfl, h, r⟩ := seq_rep rx ees
    obtain ⟨e1, e2⟩ := ints_rep r ens
    subst e1
    rcases h with h | h
    · refine .inl ⟨a, ns, rfl, rfl, h, fun ns' p hp hs hn => ?_⟩
      rw [srtDn_eq hp hs]
      exact k p _ hn (rep_ints _)
    · refine .inr ⟨a, ns, rfl, rfl, h, fun ns' p hp hs hn => ?_⟩
      rw [srtDn_eq hp hs]
      exact k p _ hn (rep_ints _)
  · cases eo
theorem callRK_or {f : Value} {ks : List Str} {r r' : List V → List V → Hp → VK → Prop} (h : CallRK X f ks r) (h' : CallRK X f ks r') : CallRK X f ks (fun vs zs H Q => r vs zs H Q ∨ r' vs zs H Q) :=
  fun pins s σ H xs zs us ws Q I r1 r2 q => q.elim (h pins s σ H xs zs us ws Q I r1 r2) (h' pins s σ H xs zs us ws Q I r1 r2)
section
variable {b : B} {W : WX} {e : Expr} {es : List Expr} {fa : FV} {p pos kpos bpos : Pos} {j : Nat}
theorem c_sortDn (hM : b.M = ⟨X.K, X.mg⟩) (hg : Gl X "sorted") (hm : X.mg "sorted" = none) (ha : PA X (e :: es) (tAv b W fa))
    (he : backTo pos (starEach (e :: es) X.env) = (false, eval e X.env) :: backTo pos (starEach es X.env) := by rfl) (hpl : (backTo pos (starEach (e :: es) X.env)).any (·.1) = false := by rfl) :
    PE X (.Call (.Name "sorted" p) (e :: es) [⟨some (Str.ofString "reverse"), .Constant (.bool true) j bpos, kpos⟩] pos) (tFr b W (bltFF sortedDnD fa)) :=
  pe_mono (pe_callBK (callRK_or (cr_sortedRev (b := true)) (cr_sortedRevT (b := true))) hg hm (by decide +kernel) ha (pk_cons pe_bl pk_nil) (by decide) (by decide) he hpl (by rfl) (by rfl) (by rfl))
    fun _ _ _ h => tF_blt (castCF hM callTF_sortDn) h
end
end
end DL
namespace DL
open PySem L2 PySem.Spec PyProof.Rows
section
variable {X : Cx} {b : B} {W : WX} {pos : Pos}
/-- {} as data that nobody changes -/
def empF : FE := fun g => .ok .emp g
@[simp] theorem s_emp {g : Sg} : empF g = .ok .emp g := rfl
theorem pd_emp : PE X (.Dict [] [] pos) (tE b W empF) := pe_mono pe_dnewK fun σ H Q ⟨Fz, g, r, h⟩ => by
  intro p hp
  have gr : GrowTo Fz H (fzAdd Fz p) (upd H p (.dK [])) := .allocF hp
  refine h.ok (r.grow gr) gr.ext ?_
  show Rep b.M (fzAdd Fz p) (upd H p (.dK [])) .emp (.ref p)
  unfold Rep
  exact ⟨p, rfl, .inr rfl, upd_same⟩
end
end DL

set_option Elab.async false
set_option linter.all false
set_option maxRecDepth 100000
set_option maxHeartbeats 4000000
/-! DenE: the law's head. -/
namespace DL
open PySem L2 PySem.Spec PyProof.Rows

/-- the law's promise: true at every script -/
def spLaw (K : PySem.W.Frag) : Sp := fun vs H Q _ => ∃ (a : Addr) (ns : List Int), vs = [.ref a] ∧ SqL K H a (ns.map V.int) ∧ ns.length ≤ 63 ∧ (∀ z ∈ ns, Builtin.Int.intBits z ≤ 1048576) ∧ ∀ H', Q (.bl true) H'
/-- what the mathematics has to show -/
def LawOk (dn : Dn) : Prop := ∀ ns : List Int, ns.length ≤ 63 → (∀ z ∈ ns, Builtin.Int.intBits z ≤ 1048576) → ∃ as, dn [.v (.lst (ns.map D.int))] = .ok (.bl true) as
theorem repL_ints {M : MM} {Fz : Fzn} {H : Hp} : ∀ ns : List Int, RepL M Fz H (ns.map D.int) (ns.map V.int)
  | [] => RepL.nil
  | n :: ns => RepL.cons rep_int (repL_ints ns)
theorem law_imp {P : Program} {w : World} {K : PySem.W.Frag} {mg : Str → Option Value} {base : Heap} {CX : CXT} {k : Nat} {f : Addr} {fd : FuncData} {ps : List Str} {dn : Dn} (F : FnOk P w K mg base CX k f fd ps (spD ⟨K, mg⟩ 1 dn)) (h : LawOk dn) : FnOk P w K mg base CX k f fd ps (spLaw K) :=
  F.imp fun vs H Q E ⟨a, ns, hv, hS, hl, hb, hQ⟩ => by
    subst hv
    obtain ⟨as, e⟩ := h ns hl hb
    refine ⟨rfl, fun x => x = a ∧ H x = some (.lst (ns.map V.int)), [.v (.lst (ns.map D.int))], fun x hx => ⟨_, hx.2⟩, ⟨rfl, fun i s e => ?_, fun i j x p q => ?_⟩, (fun i dss e => match i, e with
      | 0, e => by cases e
      | i + 1, e => by cases e), ?_⟩
    · match i, e with
      | 0, e =>
        have e' : S.v (.lst (ns.map D.int)) = s := by simpa using e
        subst e'
        refine ⟨.ref a, rfl, ?_⟩
        unfold Rep
        refine ⟨a, _, rfl, ?_, repL_ints ns⟩
        rcases hS with (hS | ⟨o, hS⟩) | hS
        · exact .inl ⟨⟨rfl, hS⟩, hS⟩
        · exact .inr (.inl ⟨o, hS⟩)
        · exact .inr (.inr hS)
      | i + 1, e => simp at e
    · obtain ⟨⟨s, e, w⟩, _⟩ := p
      match i, e with
      | 0, e =>
        have e' : S.v (.lst (ns.map D.int)) = s := by simpa using e
        subst e'
        cases w
      | i + 1, e => simp at e
    · rw [e]
      intro x H' Fz' _ rep
      rw [rep_bl' rep]
      exact hQ H'
theorem cx_false {P : Program} {w : World} {H : Hp} {s : Shared} {e : Value} {s' : Shared} (h : L2.CX P w [] H s (fun _ _ _ => False) e s') : False := by
  obtain ⟨a, B, H', cls, d, _, _, _, _, _, _, _, z⟩ := h
  exact z
theorem walk {l : PySem.W.OpenLaw} {q : Program} {loose : List Str} {XP : (Str → Option Value) → Heap → Prop} {YP : World → Heap → Prop} {d : DefRec} {K : Params → PySem.W.Frag} {k : Nat} {x : Str} (hn : l.most = some 63) (hdf : d.params.defaults = []) (hr : Room k callerA)
    (hY : ∀ (w : World) (h : Heap), YP w h → (K w.params).In h)
    (F : ∀ (w : World) (mg : Str → Option Value) (fa : Addr) (h : Heap), (K w.params).In h → h.Ns mainGlobals mg → mg d.name = some (.ref fa) →
      ∃ fd : FuncData, (∀ (s : Shared) (u : Value), BindsTo s fd ⟨[u], []⟩ [(x, u)]) ∧ ∀ base : Heap, (K w.params).In base → base.Ns mainGlobals mg → FnOk l.prog w (K w.params) mg base (L2.CX l.prog w) k fa fd [x] (spLaw (K w.params))) :
    PySem.W.WalkO q loose XP YP l.row.toRowW d [] (fun f vs => PySem.call f vs) :=
  L2.walk_ofB (n := 63) (k := k) (x := x) (CX := fun w => L2.CX l.prog w) (sp := fun w => spLaw (K w.params)) hn (by decide) hdf hr hY F (fun _ _ a ns hl hb _ hS => ⟨a, ns, rfl, hS, hl, hb, fun _ => rfl⟩) fun _ _ _ _ _ z => cx_false z
end DL
namespace DL
open PySem
theorem exm_tyT {K : PySem.W.Frag} {cls : Value} {T : String} {b : Bool} (h0 : PySem.W.subIn K (.type T) (.type "BaseException") = some true) (h1 : PySem.W.kitMeta T = true) (h : PySem.W.subIn K cls (.type T) = some b) : PySem.W.exmOne K cls (.type T) = some b := by
  unfold PySem.W.exmOne
  rw [h0, if_pos (by decide)]
  show (if PySem.W.kitMeta T = true then _ else _) = _
  rw [if_pos h1]
  exact h
theorem kit_tyT {K : PySem.W.Frag} {C : Addr} {T : String} {b : Bool} (h1 : PySem.W.kitMeta T = true) (h : PySem.W.subIn K (.ref C) (.type T) = some b) : PySem.W.kitOne K (.ref C) (.type T) = some b := by
  unfold PySem.W.kitOne
  rw [if_neg (by intro z; cases beq_iff_eq.mp z)]
  show (if PySem.W.kitMeta T = true then _ else _) = _
  rw [if_pos h1]
  exact h
theorem kit_refT {K : PySem.W.Frag} {C1 C : Addr} {b : Bool} (hd : PySem.W.hasDictIn K C = true) (ht : PySem.W.typeIn K (.ref C) = some (.type "type")) (hs : PySem.W.subIn K (.ref C) (.ref C) = some true) (h : PySem.W.subIn K (.ref C1) (.ref C) = some b) : PySem.W.kitOne K (.ref C1) (.ref C) = some b := by
  unfold PySem.W.kitOne
  by_cases c : (Value.ref C1 == Value.ref C) = true
  · rw [if_pos c]
    have e : C1 = C := Value.ref.inj (beq_iff_eq.mp c)
    subst e
    rw [h] at hs
    exact hs.symm
  · rw [if_neg c]
    unfold PySem.W.kitCls
    obtain ⟨cd, hc, _⟩ := PySem.W.any_some hd
    have e2 : ((PySem.W.clsIn K C).isSome && PySem.W.typeIn K (.ref C) == some (.type "type")) = true := by rw [hc, ht] <;> rfl
    show (if ((PySem.W.clsIn K C).isSome && PySem.W.typeIn K (.ref C) == some (.type "type")) = true then _ else _) = _
    rw [if_pos e2]
    exact h
end DL

set_option Elab.async false
set_option linter.all false
set_option maxRecDepth 100000
set_option maxHeartbeats 4000000
/-! DenS: the combinators, applied, for simp. -/
namespace DL
open PySem L2

section
variable {α β : Type} {c : Prop} [Decidable c] {g : Sg} {f f1 f2 f3 : FE} {fa : FA} {fv fv2 : FV} {ff : FF} {a1 a2 : Sg → R AV} {fb fb1 fb2 : FB} {s s1 s2 : FS} {i j : Nat} {d : D}
@[simp] theorem s_gat0 {x : S} : gat (x :: g) 0 = x := rfl
@[simp] theorem s_gatS {x : S} : gat (x :: g) (i + 1) = gat g i := rfl
@[simp] theorem s_bdI {r1 r2 : R α} {k : α → Sg → R β} : (if c then r1 else r2).bd k = if c then r1.bd k else r2.bd k := by split <;> rfl
@[simp] theorem s_sbI {r1 r2 : R α} {k : α → Sg → RS} : (if c then r1 else r2).sb k = if c then r1.sb k else r2.sb k := by split <;> rfl
@[simp] theorem s_rsI {r1 r2 : RS} {k : Sg → RS} : (if c then r1 else r2).bd k = if c then r1.bd k else r2.bd k := by split <;> rfl
@[simp] theorem s_optI {x y : Option α} : opt (if c then x else y) g = if c then opt x g else opt y g := by split <;> rfl
@[simp] theorem s_var : varF i g = match gat g i with | .v d => .ok d g | _ => .no := rfl
@[simp] theorem s_frz : frzF i g = match gat g i with | .v d => .ok d g | .ow ds => .ok (.lst ds) (g.set i (.v (.lst ds))) | _ => .no := rfl
@[simp] theorem s_nm : nmF i g = match gat g i with | .v d => .ok (.d d) g | .un => .no | .on _ => .no | _ => .ok (.o i) g := by unfold nmF; cases gat g i <;> rfl
@[simp] theorem s_dF : dF f g = (f g).bd fun d g1 => .ok (.d d) g1 := rfl
@[simp] theorem s_c : cF d g = .ok d g := rfl
@[simp] theorem s_op2 {o : D → D → Option D} : op2F o f1 f2 g = (f1 g).bd fun d g1 => (f2 g1).bd fun e g2 => opt (o d e) g2 := rfl
@[simp] theorem s_op2V {o : D → D → Option D} : op2V o a1 a2 g = (a1 g).bd fun a g1 => (a2 g1).bd fun c g2 => opt ((res g2 a).bind fun d => (res g2 c).bind fun e => o d e) g2 := rfl
@[simp] theorem s_op1 {o : D → Option D} : op1F o f g = (f g).bd fun d g1 => opt (o d) g1 := rfl
@[simp] theorem s_resd : res g (.d d) = some d := rfl
@[simp] theorem s_reso : res g (.o i) = match gat g i with | .ow ds => some (.lst ds) | _ => none := rfl
@[simp] theorem s_resId : resI g (.d d) = true := rfl
@[simp] theorem s_resIo : resI g (.o i) = (gat g i).isOw := rfl
@[simp] theorem s_ress0 : ress g [] = some [] := rfl
@[simp] theorem s_tst : tstF f g = (f g).bd fun d g1 => match d with | .bl c => .ok c g1 | _ => .no := rfl
@[simp] theorem s_and : andB fb1 fb2 g = (fb1 g).bd fun c g1 => if c = true then fb2 g1 else .ok false g1 := rfl
@[simp] theorem s_or : orB fb1 fb2 g = (fb1 g).bd fun c g1 => if c = true then .ok true g1 else fb2 g1 := rfl
@[simp] theorem s_not : notB fb g = (fb g).bd fun c g1 => .ok (!c) g1 := rfl
@[simp] theorem s_andV : andV f1 f2 g = (f1 g).bd fun d g1 => match d with | .bl c => if c = true then f2 g1 else .ok (.bl false) g1 | _ => .no := rfl
@[simp] theorem s_orV : orV f1 f2 g = (f1 g).bd fun d g1 => match d with | .bl c => if c = true then .ok (.bl true) g1 else f2 g1 | _ => .no := rfl
@[simp] theorem s_notV : notV f g = (f g).bd fun d g1 => match d with | .bl c => .ok (.bl (!c)) g1 | _ => .no := rfl
@[simp] theorem s_if : ifF fb f1 f2 g = (fb g).bd fun c g1 => if c = true then f1 g1 else f2 g1 := rfl
@[simp] theorem s_ch {o o' : D → D → Option D} : chF o o' f1 f2 f3 g = (f1 g).bd fun d g1 => (f2 g1).bd fun e g2 => (opt (o d e) g2).bd fun z g3 => match z with | .bl c => if c = true then (f3 g3).bd fun k g4 => opt (o' e k) g4 else .ok (.bl false) g3 | _ => .no := rfl
@[simp] theorem s_nilA : nilA g = .ok [] g := rfl
@[simp] theorem s_consA : consA f fa g = (f g).bd fun d g1 => (fa g1).bd fun ds g2 => .ok (d :: ds) g2 := rfl
@[simp] theorem s_nilV : nilV g = .ok [] g := rfl
@[simp] theorem s_consV : consV a1 fv g = (a1 g).bd fun a g1 => (fv g1).bd fun as g2 => if resI g2 a = true then .ok (a :: as) g2 else .no := rfl
@[simp] theorem s_tup : tupF fa g = (fa g).bd fun ds g1 => if szOk ds.length = true then .ok (.tup ds) g1 else .no := rfl
@[simp] theorem s_lst : lstF fa g = (fa g).bd fun ds g1 => if szOk ds.length = true then .ok ds g1 else .no := rfl
@[simp] theorem s_fr : frF ff g = (ff g).bd fun ds g1 => .ok (.lst ds) g1 := rfl
@[simp] theorem s_blt {o : List D → Option D} : bltF o fv g = (fv g).bd fun as g1 => opt ((ress g1 as).bind o) g1 := rfl
@[simp] theorem s_bltF {o : List D → Option (List D)} : bltFF o fv g = (fv g).bd fun as g1 => opt ((ress g1 as).bind o) g1 := rfl
@[simp] theorem s_isi {o : D → Option Bool} : isiF o a1 g = (a1 g).bd fun a g1 => opt ((res g1 a).bind fun d => (o d).bind fun c => some (.bl c)) g1 := rfl
@[simp] theorem s_skip : skipS g = .nx g := rfl
theorem s_seq : seqS s1 s2 g = (s1 g).bd s2 := rfl
@[simp] theorem s_expr : exprS f g = (f g).sb fun _ g1 => .nx g1 := rfl
@[simp] theorem s_brk : brkS g = .bk g := rfl
@[simp] theorem s_cnt : cntS g = .ct g := rfl
@[simp] theorem s_ret : retS f g = (f g).sb fun d g1 => .rt d g1 := rfl
@[simp] theorem s_retN : retN g = .rt .non g := rfl
@[simp] theorem s_retF : retF ff g = (ff g).sb fun d g1 => .rf d g1 := rfl
@[simp] theorem s_take : takeF i g = match gat g i with | .ow ds => .ok ds (g.set i .un) | _ => .no := rfl
@[simp] theorem s_ifS : ifS fb s1 s2 g = (fb g).sb fun v g1 => if v = true then s1 g1 else s2 g1 := rfl
@[simp] theorem s_asg : asgS i f g = (f g).sb fun d g1 => .nx (g1.set i (.v d)) := rfl
@[simp] theorem s_asgO : asgO i ff g = (ff g).sb fun d g1 => .nx (g1.set i (.ow d)) := rfl
@[simp] theorem s_tgN : tgN i d g = some (g.set i (.v d)) := rfl
@[simp] theorem s_tgNil : tgNil [] g = some g := rfl
@[simp] theorem s_tgCons {t : Tgt} {ts : List D → Sg → Option Sg} {ds : List D} : tgCons t ts (d :: ds) g = (t d g).bind (ts ds) := rfl
@[simp] theorem s_tgT {n : Nat} {ts : List D → Sg → Option Sg} {ds : List D} : tgT n ts (.tup ds) g = if ds.length = n then ts ds g else none := rfl
@[simp] theorem s_asgT {t : Tgt} : asgT t f g = (f g).sb fun d g1 => match t d g1 with | some g2 => .nx g2 | none => .no := rfl
@[simp] theorem s_par : parS i j fa g = (fa g).sb fun ds g1 => match ds with | [d, e] => .nx ((g1.set i (.v d)).set j (.v e)) | _ => .no := rfl
@[simp] theorem s_it : itF f g = (f g).bd fun d g1 => opt (seqD d) g1 := rfl
@[simp] theorem s_fa {o : List D → Option α} : faF o fa g = (fa g).bd fun ds g1 => opt (o ds) g1 := rfl
@[simp] theorem s_turn {t : Tgt} : turnS t s d g = match t d g with | some g1 => s g1 | none => .no := rfl
@[simp] theorem s_for {fi : FI} {t : Tgt} : forS fi t s g = (fi g).sb fun items g1 => forL (turnS t s) items g1 := rfl
@[simp] theorem s_forNil {h : D → FS} : forL h [] g = .nx g := rfl
theorem s_forCons {h : D → FS} {ds : List D} : forL h (d :: ds) g = match h d g with | .nx g' => forL h ds g' | .ct g' => forL h ds g' | .bk g' => .nx g' | .rt d g' => .rt d g' | .rf d g' => .rf d g' | .ex e g' => .ex e g' | .no => .no := rfl
@[simp] theorem s_yes : yesB g = .ok true g := rfl
@[simp] theorem s_lc {fi : FI} {t : Tgt} {vs : List Nat} : lcF fi t fb f vs g = (fi g).bd fun items g1 => if items.length ≤ sizeLine then lcL t fb f vs items [] (wipeG g1 vs) else .no := rfl
@[simp] theorem s_part : partF f g = (f g).bd fun d g1 => match d with | .int i => .ok (some i) g1 | _ => .no := rfl
@[simp] theorem s_noPart : noPart g = .ok none g := rfl
@[simp] theorem s_slc {lo hi : Sg → R (Option Int)} : slcF a1 lo hi g = (a1 g).bd fun a g1 => (lo g1).bd fun l g2 => (hi g2).bd fun u g3 => match res g3 a with | some (.lst ds) => .ok (cut ds l u) g3 | _ => .no := rfl
@[simp] theorem s_set {fi fw : FE} : setS i fi fw g = (fw g).sb fun d g1 => match gat g1 i with
  | .ow _ => (fi g1).sb fun k g2 => match k, gat g2 i with
    | .int k, .ow ds => match ixN ds.length k with
      | some j => .nx (g2.set i (.ow (ds.set j d)))
      | none => .no
    | _, _ => .no
  | _ => .no := rfl
@[simp] theorem s_ap : apF i f g = match gat g i with
  | .ow _ => (f g).bd fun d g1 => match gat g1 i with
    | .ow ds => if ds.length < sizeLine then .ok .non (g1.set i (.ow (ds ++ [d]))) else .no
    | _ => .no
  | _ => .no := rfl
@[simp] theorem s_raise {cn : Str} {fs : List Str} : raiseS cn fs fa g = (fa g).sb fun ds g1 => if ds.length = fs.length then .ex (mkE cn fs ds) g1 else .no := rfl
@[simp] theorem s_raise0 {cn : Str} : raise0S cn g = .ex ⟨cn, [], []⟩ g := rfl
@[simp] theorem s_try {h : Str → Option Bool} {sx : Exn → FS} : tryF i h s sx g = match s g with
  | .ex e g' => match h e.cls with
    | some true => if i < g'.length then endX i g'.length (sx e (g'.set i .un)) else .no
    | some false => .ex e g'
    | none => .no
  | r => r := by unfold tryF; cases s g <;> rfl
@[simp] theorem s_call {n : Nat} {dn : Dn} {dfs : List D} : callF n dn dfs fv g = (fv g).bd fun as g1 => callR n dn (as ++ dfs.map AV.d) g1 := rfl
@[simp] theorem s_callFF {n : Nat} {dn : Dn} {dfs : List D} : callFF n dn dfs fv g = (fv g).bd fun as g1 => callRF n dn (as ++ dfs.map AV.d) g1 := rfl
@[simp] theorem s_callK {n n1 m : Nat} {dn : Dn} {qs : List KQ} {dfs : List D} : callKF n n1 m dn qs dfs fv fv2 g = (fv g).bd fun as g1 => (fv2 g1).bd fun ks g2 => if as.length = n1 ∧ ks.length = m ∧ as.all (resI g2) = true then callR n dn (pickG as (dfs.map AV.d) ks qs) g2 else .no := rfl
@[simp] theorem s_toSd : toS g (.d d) = .v d := rfl
@[simp] theorem s_toSo : toS g (.o i) = gat g i := rfl
@[simp] theorem s_own0 : ownIx [] = [] := rfl
@[simp] theorem s_ownD {as : List AV} : ownIx (.d d :: as) = ownIx as := rfl
@[simp] theorem s_ownO {as : List AV} : ownIx (.o i :: as) = i :: ownIx as := rfl
@[simp] theorem s_nod0 : nodupB [] = true := rfl
@[simp] theorem s_nodS {is : List Nat} : nodupB (i :: is) = (!is.contains i && nodupB is) := rfl
@[simp] theorem s_mD {as : List AV} {x : S} {ss : Sg} : merge g (.d d :: as) (x :: ss) = merge g as ss := rfl
@[simp] theorem s_mO {as : List AV} {x : S} {ss : Sg} : merge g (.o i :: as) (x :: ss) = merge (g.set i x) as ss := rfl
@[simp] theorem s_m0 {ss : Sg} : merge g [] ss = g := by unfold merge; rfl
theorem s_mV {ss : Sg} : ∀ {as : List AV}, ownIx as = [] → merge g as ss = g := by
  intro as
  induction as generalizing ss with
  | nil => intro _; exact s_m0
  | cons a as ih =>
    cases a with
    | d d =>
      intro h
      cases ss with
      | nil => rfl
      | cons x ss => exact ih h
    | o i => intro h; cases h
/-- the callee's answer told -/
theorem callR_ok' {n : Nat} {dn : Dn} {as : List AV} {ss : Sg} (h : dn (as.map (toS g)) = .ok d ss) (hl : as.length = n) (hd : nodupB (ownIx as) = true) : callR n dn as g = .ok d (merge g as ss) := by
  unfold callR
  rw [if_pos ⟨hl, hd⟩, h]
theorem callR_ex' {n : Nat} {dn : Dn} {as : List AV} {ss : Sg} {e : Exn} (h : dn (as.map (toS g)) = .ex e ss) (hl : as.length = n) (hd : nodupB (ownIx as) = true) : callR n dn as g = .ex e (merge g as ss) := by
  unfold callR
  rw [if_pos ⟨hl, hd⟩, h]
theorem s_callR {n : Nat} {dn : Dn} {as : List AV} : callR n dn as g = if as.length = n ∧ nodupB (ownIx as) = true then match dn (as.map (toS g)) with
    | .ok d ss => .ok d (merge g as ss)
    | .okf ds ss => .ok (.lst ds) (merge g as ss)
    | .ex e ss => .ex e (merge g as ss)
    | .no => .no
  else .no := rfl
theorem s_callRF {n : Nat} {dn : Dn} {as : List AV} : callRF n dn as g = if as.length = n ∧ nodupB (ownIx as) = true then match dn (as.map (toS g)) with
    | .okf ds ss => .ok ds (merge g as ss)
    | .ex e ss => .ex e (merge g as ss)
    | _ => .no
  else .no := by unfold callRF; split <;> first | rfl | (cases dn (as.map (toS g)) <;> rfl)
@[simp] theorem s_end_rt {as : Sg} : endC as (.rt d g) = if okOut as g = true then .ok d (g.take as.length) else .no := rfl
@[simp] theorem s_end_rf {as : Sg} {ds : List D} : endC as (.rf ds g) = if okOut as g = true then .okf ds (g.take as.length) else .no := rfl
@[simp] theorem s_end_nx {as : Sg} : endC as (.nx g) = if okOut as g = true then .ok .non (g.take as.length) else .no := rfl
@[simp] theorem s_end_ex {as : Sg} {e : Exn} : endC as (.ex e g) = if okOut as g = true then .ex e (g.take as.length) else .no := rfl
@[simp] theorem s_endI {as : Sg} {r1 r2 : RS} : endC as (if c then r1 else r2) = if c then endC as r1 else endC as r2 := by split <;> rfl
@[simp] theorem s_okO0 : okOut [] g = true := rfl
@[simp] theorem s_okOS {x y : S} {as : Sg} : okOut (x :: as) (y :: g) = ((!x.isOw || y.isOw) && okOut as g) := rfl
@[simp] theorem s_isOwV : (S.v d).isOw = false := rfl
@[simp] theorem s_isOwO {ds : List D} : (S.ow ds).isOw = true := rfl
@[simp] theorem s_isOwU : S.un.isOw = false := rfl
theorem s_def {N : Nat} {body : FS} {as : Sg} : defF N body as = endC as (body (as ++ List.replicate (N - as.length) .un)) := rfl
@[simp] theorem s_whileUn {n : Nat} : whileN fb s (n + 1) g = (fb g).sb fun k g1 => if k = true then (match s g1 with
    | .nx g' => whileN fb s n g'
    | .ct g' => whileN fb s n g'
    | .bk g' => .nx g'
    | .rt d g' => .rt d g'
    | .rf d g' => .rf d g'
    | .ex e g' => .ex e g'
    | .no => .no) else .nx g1 := rfl
end
@[simp] theorem s_ress1 {g : Sg} {a : AV} {as : List AV} : ress g (a :: as) = (res g a).bind fun d => (ress g as).bind fun ds => some (d :: ds) := by first | rfl | (unfold ress; cases res g a <;> rfl)
end DL
namespace DL
open PySem L2
section
variable {i j : Int} {a b c : Bool} {xs ys : List D} {d e x y : D} {s t : Str}
@[simp] theorem d_addI : addD (.int i) (.int j) = some (.int (i + j)) := rfl
@[simp] theorem d_subI : subD (.int i) (.int j) = some (.int (i - j)) := rfl
theorem d_mulI : mulD (.int i) (.int j) = if (i * j).natAbs < LIM then some (.int (i * j)) else none := rfl
@[simp] theorem d_fdiv : fdivD (.int i) (.int j) = if j ≠ 0 ∧ j.natAbs < LID then some (.int (i.fdiv j)) else none := rfl
@[simp] theorem d_mod : modD (.int i) (.int j) = if j ≠ 0 then some (.int (i.fmod j)) else none := rfl
@[simp] theorem d_neg : negD (.int i) = some (.int (-i)) := rfl
@[simp] theorem d_lt : ltD (.int i) (.int j) = some (.bl (decide (i < j))) := rfl
@[simp] theorem d_le : leD (.int i) (.int j) = some (.bl (decide (i ≤ j))) := rfl
@[simp] theorem d_gt : gtD (.int i) (.int j) = some (.bl (decide (j < i))) := rfl
@[simp] theorem d_ge : geD (.int i) (.int j) = some (.bl (decide (j ≤ i))) := rfl
@[simp] theorem d_eq : eqD d e = if (okN 20 d && okN 20 e) = true then some (.bl (D.eqb d e)) else none := rfl
@[simp] theorem d_ne : neD d e = if (okN 20 d && okN 20 e) = true then some (.bl (!D.eqb d e)) else none := rfl
@[simp] theorem d_is : isD d .non = some (.bl d.isNon) := rfl
@[simp] theorem d_isnot : isNotD d .non = some (.bl (!d.isNon)) := rfl
@[simp] theorem n_non : D.isNon .non = true := rfl
@[simp] theorem n_int : D.isNon (.int i) = false := rfl
@[simp] theorem n_bl : D.isNon (.bl a) = false := rfl
@[simp] theorem n_str : D.isNon (.str s) = false := rfl
@[simp] theorem n_tup : D.isNon (.tup xs) = false := rfl
@[simp] theorem n_lst : D.isNon (.lst xs) = false := rfl
@[simp] theorem q_int : D.eqb (.int i) (.int j) = (i == j) := by unfold D.eqb; rfl
@[simp] theorem q_bl : D.eqb (.bl a) (.bl b) = (a == b) := by unfold D.eqb; rfl
@[simp] theorem q_str : D.eqb (.str s) (.str t) = (s == t) := by unfold D.eqb; rfl
@[simp] theorem q_non : D.eqb .non .non = true := by unfold D.eqb; rfl
@[simp] theorem q_nonS : D.eqb .non (.str t) = false := by unfold D.eqb; rfl
@[simp] theorem q_nonT : D.eqb .non (.tup xs) = false := by unfold D.eqb; rfl
@[simp] theorem q_tup : D.eqb (.tup xs) (.tup ys) = D.eqbs xs ys := by conv => lhs; unfold D.eqb
@[simp] theorem q_lst : D.eqb (.lst xs) (.lst ys) = D.eqbs xs ys := by conv => lhs; unfold D.eqb
@[simp] theorem q_nil : D.eqbs [] [] = true := by unfold D.eqbs; rfl
@[simp] theorem q_cons : D.eqbs (x :: xs) (y :: ys) = (D.eqb x y && D.eqbs xs ys) := by conv => lhs; unfold D.eqbs
@[simp] theorem k_int {n : Nat} : okN n (.int i) = true := by cases n <;> rfl
@[simp] theorem k_bl {n : Nat} : okN n (.bl a) = true := by cases n <;> rfl
@[simp] theorem k_non {n : Nat} : okN n .non = true := by cases n <;> rfl
theorem k_str {n : Nat} : okN n (.str s) = s.cps.all (· < 0x110000) := by cases n <;> rfl
@[simp] theorem k_tup {n : Nat} : okN (n + 1) (.tup xs) = xs.all (okN n) := rfl
@[simp] theorem k_lst {n : Nat} : okN (n + 1) (.lst xs) = xs.all (okN n) := rfl
@[simp] theorem i_int1 : isInt (.int i) = some true := rfl
@[simp] theorem i_int2 : isInt (.bl a) = some true := rfl
@[simp] theorem i_int3 : isInt .non = some false := rfl
@[simp] theorem i_int4 : isInt (.str s) = some false := rfl
@[simp] theorem i_int5 : isInt (.tup xs) = some false := rfl
@[simp] theorem i_int6 : isInt (.lst xs) = some false := rfl
@[simp] theorem i_bl1 : isBool (.int i) = some false := rfl
@[simp] theorem i_bl2 : isBool (.bl a) = some true := rfl
@[simp] theorem i_bl3 : isBool .non = some false := rfl
@[simp] theorem i_bl4 : isBool (.str s) = some false := rfl
@[simp] theorem i_bl5 : isBool (.tup xs) = some false := rfl
@[simp] theorem i_bl6 : isBool (.lst xs) = some false := rfl
@[simp] theorem i_tp1 : isTup (.int i) = some false := rfl
@[simp] theorem i_tp2 : isTup (.bl a) = some false := rfl
@[simp] theorem i_tp3 : isTup .non = some false := rfl
@[simp] theorem i_tp4 : isTup (.str s) = some false := rfl
@[simp] theorem i_tp5 : isTup (.tup xs) = some true := rfl
@[simp] theorem i_tp6 : isTup (.lst xs) = some false := rfl
@[simp] theorem i_lt1 : isLstTup (.int i) = some false := rfl
@[simp] theorem i_lt2 : isLstTup (.bl a) = some false := rfl
@[simp] theorem i_lt3 : isLstTup .non = some false := rfl
@[simp] theorem i_lt4 : isLstTup (.str s) = some false := rfl
@[simp] theorem i_lt5 : isLstTup (.tup xs) = some true := rfl
@[simp] theorem i_lt6 : isLstTup (.lst xs) = some true := rfl
@[simp] theorem l_lst : lenD [.lst xs] = some (.int xs.length) := rfl
@[simp] theorem l_tup : lenD [.tup xs] = some (.int xs.length) := rfl
@[simp] theorem l_abs : absD [.int i] = some (.int i.natAbs) := rfl
@[simp] theorem l_int : intF [.int i] = some (.int i) := rfl
@[simp] theorem l_intB : intF [.bl a] = some (.int (if a then 1 else 0)) := rfl
@[simp] theorem l_list : listD [.lst xs] = some xs := rfl
@[simp] theorem l_all : allD [.lst xs] = (boolsD xs).bind fun ns => some (.bl (ns.all id)) := rfl
@[simp] theorem l_bools0 : boolsD [] = some [] := rfl
@[simp] theorem l_boolsS : boolsD (.bl a :: xs) = (boolsD xs).bind fun is => some (a :: is) := rfl
@[simp] theorem l_seqL : seqD (.lst xs) = some xs := rfl
@[simp] theorem l_seqT : seqD (.tup xs) = some xs := rfl
@[simp] theorem x_0 : ixD (.tup (x :: xs)) (.int 0) = some x := by show atI (x :: xs) 0 = some x; unfold atI ixN; simp
@[simp] theorem x_1 : ixD (.tup (x :: y :: xs)) (.int 1) = some y := by show atI (x :: y :: xs) 1 = some y; unfold atI ixN; simp; rw [if_pos (by omega)]; rfl
@[simp] theorem x_L0 : ixD (.lst (x :: xs)) (.int 0) = some x := x_0 (xs := xs)
@[simp] theorem x_L1 : ixD (.lst (x :: y :: xs)) (.int 1) = some y := x_1 (xs := xs)
@[simp] theorem szOk_dec {n : Nat} : szOk n = decide (n ≤ 16777216) := rfl
theorem szOk_of {n : Nat} (h : n ≤ 16777216) : szOk n = true := szOk_iff.mpr h
/-- bits -/
def BB (k : Nat) (i : Int) : Prop := i.natAbs < 2 ^ k
theorem BB.mul {k l : Nat} (h : BB k i) (q : BB l j) : BB (k + l) (i * j) := by
  unfold BB at *
  rw [Int.natAbs_mul, Nat.pow_add]
  by_cases hj : j.natAbs = 0
  · rw [hj, Nat.mul_zero]; exact Nat.mul_pos (Nat.two_pow_pos _) (Nat.two_pow_pos _)
  · exact Nat.mul_lt_mul_of_lt_of_lt h q
theorem BB.mono {k l : Nat} (h : BB k i) (hl : k ≤ l) : BB l i := Nat.lt_of_lt_of_le h (Nat.pow_le_pow_right (by decide) hl)
theorem BB.add {k l : Nat} (h : BB k i) (q : BB l j) : BB (max k l + 1) (i + j) := by
  have h1 := h.mono (Nat.le_max_left k l)
  have h2 := q.mono (Nat.le_max_right k l)
  unfold BB at *
  rw [Nat.pow_succ]
  omega
theorem BB.sub {k l : Nat} (h : BB k i) (q : BB l j) : BB (max k l + 1) (i - j) := by
  have h1 := h.mono (Nat.le_max_left k l)
  have h2 := q.mono (Nat.le_max_right k l)
  unfold BB at *
  rw [Nat.pow_succ]
  omega
theorem BB.lim {k : Nat} (h : BB k i) (hk : k ≤ 2000000) : i.natAbs < LIM := lt_LIM (n := i.natAbs) (k := k) h hk
theorem BB.lid {k : Nat} (h : BB k i) (hk : k ≤ 8000) : i.natAbs < LID := lt_LID (n := i.natAbs) (k := k) h hk
theorem d_mul' {k : Nat} (h : BB k (i * j)) (hk : k ≤ 2000000 := by decide) : mulD (.int i) (.int j) = some (.int (i * j)) := by rw [d_mulI, if_pos (h.lim hk)]
theorem d_fdiv' {k : Nat} (h : BB k j) (h0 : j ≠ 0) (hk : k ≤ 8000 := by decide) : fdivD (.int i) (.int j) = some (.int (i.fdiv j)) := by rw [d_fdiv, if_pos ⟨h0, h.lid hk⟩]
end
end DL

set_option Elab.async false
set_option linter.all false
set_option maxRecDepth 100000
set_option maxHeartbeats 4000000
/-! DenT: posts of the denotations, loops by invariants, typed data. -/
namespace DL
open PySem L2
def R.wp {α : Type} (r : R α) (E : Exn → Sg → Prop) (Q : α → Sg → Prop) : Prop := match r with
  | .ok a g => Q a g
  | .ex e g => E e g
  | .no => False
structure SP where
  nx : Sg → Prop
  rt : D → Sg → Prop
  rf : List D → Sg → Prop
  bk : Sg → Prop
  ct : Sg → Prop
  ex : Exn → Sg → Prop
def RS.wp (r : RS) (P : SP) : Prop := match r with
  | .nx g => P.nx g
  | .rt d g => P.rt d g
  | .rf ds g => P.rf ds g
  | .bk g => P.bk g
  | .ct g => P.ct g
  | .ex e g => P.ex e g
  | .no => False
def RC.wp (r : RC) (E : Exn → Sg → Prop) (F : List D → Sg → Prop) (Q : D → Sg → Prop) : Prop := match r with
  | .ok d g => Q d g
  | .okf ds g => F ds g
  | .ex e g => E e g
  | .no => False
/-- no error -/
abbrev E0 : Exn → Sg → Prop := fun _ _ => False
abbrev F0 : List D → Sg → Prop := fun _ _ => False
abbrev Q0 : D → Sg → Prop := fun _ _ => False
section
variable {α β : Type} {E : Exn → Sg → Prop} {Q : α → Sg → Prop} {P : SP} {g : Sg} {c : Prop} [Decidable c]
@[simp] theorem wp_ok {a : α} : (R.ok a g).wp E Q = Q a g := rfl
@[simp] theorem wp_ex {e : Exn} : (R.ex e g : R α).wp E Q = E e g := rfl
@[simp] theorem wp_no : (R.no : R α).wp E Q = False := rfl
@[simp] theorem wp_bd {r : R β} {k : β → Sg → R α} : (r.bd k).wp E Q = r.wp E fun b g1 => (k b g1).wp E Q := by cases r <;> rfl
@[simp] theorem wp_if {r1 r2 : R α} : (if c then r1 else r2).wp E Q = ((c → r1.wp E Q) ∧ (¬ c → r2.wp E Q)) := by
  by_cases h : c <;> simp [h]
@[simp] theorem wp_opt {o : Option α} : (opt o g).wp E Q = ∃ a, o = some a ∧ Q a g := by
  cases o <;> simp [opt]
@[simp] theorem sw_nx : (RS.nx g).wp P = P.nx g := rfl
@[simp] theorem sw_rt {d : D} : (RS.rt d g).wp P = P.rt d g := rfl
@[simp] theorem sw_rf {d : List D} : (RS.rf d g).wp P = P.rf d g := rfl
@[simp] theorem sw_bk : (RS.bk g).wp P = P.bk g := rfl
@[simp] theorem sw_ct : (RS.ct g).wp P = P.ct g := rfl
@[simp] theorem sw_ex {e : Exn} : (RS.ex e g).wp P = P.ex e g := rfl
@[simp] theorem sw_no : RS.no.wp P = False := rfl
@[simp] theorem sw_sb {r : R α} {k : α → Sg → RS} : (r.sb k).wp P = r.wp P.ex fun a g1 => (k a g1).wp P := by cases r <;> rfl
@[simp] theorem sw_bd {r : RS} {k : Sg → RS} : (r.bd k).wp P = r.wp { P with nx := fun g1 => (k g1).wp P } := by cases r <;> rfl
@[simp] theorem sw_if {r1 r2 : RS} : (if c then r1 else r2).wp P = ((c → r1.wp P) ∧ (¬ c → r2.wp P)) := by
  by_cases h : c <;> simp [h]
theorem R.wp_mono {r : R α} {E' : Exn → Sg → Prop} {Q' : α → Sg → Prop} (h : r.wp E Q) (hQ : ∀ a g, Q a g → Q' a g) (hE : ∀ e g, E e g → E' e g) : r.wp E' Q' := by
  cases r with
  | ok a g => exact hQ _ _ h
  | ex e g => exact hE _ _ h
  | no => exact h
theorem RS.wp_mono {r : RS} {P' : SP} (h : r.wp P) (h1 : ∀ g, P.nx g → P'.nx g) (h2 : ∀ d g, P.rt d g → P'.rt d g) (h3 : ∀ d g, P.rf d g → P'.rf d g) (h4 : ∀ g, P.bk g → P'.bk g) (h5 : ∀ g, P.ct g → P'.ct g) (h6 : ∀ e g, P.ex e g → P'.ex e g) : r.wp P' := by
  cases r with
  | nx g => exact h1 _ h
  | rt d g => exact h2 _ _ h
  | rf d g => exact h3 _ _ h
  | bk g => exact h4 _ h
  | ct g => exact h5 _ h
  | ex e g => exact h6 _ _ h
  | no => exact h
theorem RC.wp_mono {r : RC} {F F' : List D → Sg → Prop} {Q Q' : D → Sg → Prop} {E' : Exn → Sg → Prop} (h : r.wp E F Q) (h1 : ∀ d g, Q d g → Q' d g) (h2 : ∀ d g, F d g → F' d g) (h3 : ∀ e g, E e g → E' e g) : r.wp E' F' Q' := by
  cases r with
  | ok d g => exact h1 _ _ h
  | okf d g => exact h2 _ _ h
  | ex e g => exact h3 _ _ h
  | no => exact h
/-- a statement, then the rest -/
theorem seq_wp {s1 s2 : FS} (h : (s1 g).wp { P with nx := fun g1 => (s2 g1).wp P }) : (seqS s1 s2 g).wp P := by rw [s_seq, sw_bd]; exact h
/-- a statement with a cut behind it -/
theorem seq_cut {s1 s2 : FS} (I : Sg → Prop) (h : (s1 g).wp { P with nx := I }) (h2 : ∀ g1, I g1 → (s2 g1).wp P) : (seqS s1 s2 g).wp P :=
  seq_wp (RS.wp_mono h h2 (fun _ _ h => h) (fun _ _ h => h) (fun _ h => h) (fun _ h => h) fun _ _ h => h)
theorem seq_eq {s1 s2 : FS} {g1 : Sg} (h : s1 g = .nx g1) (h2 : (s2 g1).wp P) : (seqS s1 s2 g).wp P := seq_wp (by rw [h]; exact h2)
end
section
variable {E : Exn → Sg → Prop} {F : List D → Sg → Prop} {Q : D → Sg → Prop} {g : Sg}
/-- a def's body -/
theorem def_wp {N : Nat} {body : FS} {as : Sg} (h : (body (as ++ List.replicate (N - as.length) .un)).wp
    ⟨fun g => okOut as g = true ∧ Q .non (g.take as.length), fun d g => okOut as g = true ∧ Q d (g.take as.length), fun ds g => okOut as g = true ∧ F ds (g.take as.length), fun _ => False, fun _ => False, fun e g => okOut as g = true ∧ E e (g.take as.length)⟩) : (defF N body as).wp E F Q := by
  rw [s_def]
  generalize body (as ++ List.replicate (N - as.length) .un) = r at h
  cases r with
  | nx g => rw [s_end_nx, if_pos h.1]; exact h.2
  | rt d g => rw [s_end_rt, if_pos h.1]; exact h.2
  | rf d g => rw [s_end_rf, if_pos h.1]; exact h.2
  | ex d g => rw [s_end_ex, if_pos h.1]; exact h.2
  | bk g => exact h.elim
  | ct g => exact h.elim
  | no => exact h.elim
theorem RC.eq_ok {r : RC} {v : D} {as : Sg} (h : r.wp E0 F0 (fun d g => d = v ∧ g = as)) : r = .ok v as := by
  cases r with
  | ok d g => obtain ⟨rfl, rfl⟩ := h; rfl
  | okf d g => exact h.elim
  | ex d g => exact h.elim
  | no => exact h.elim
theorem RC.eq_okf {r : RC} {v : List D} {as : Sg} (h : r.wp E0 (fun d g => d = v ∧ g = as) Q0) : r = .okf v as := by
  cases r with
  | okf d g => obtain ⟨rfl, rfl⟩ := h; rfl
  | ok d g => exact h.elim
  | ex d g => exact h.elim
  | no => exact h.elim
theorem RC.eq_ex {r : RC} {v : Exn} {as : Sg} (h : r.wp (fun d g => d = v ∧ g = as) F0 Q0) : r = .ex v as := by
  cases r with
  | ex d g => obtain ⟨rfl, rfl⟩ := h; rfl
  | ok d g => exact h.elim
  | okf d g => exact h.elim
  | no => exact h.elim
/-- a call, by its def's word -/
theorem call_wp {n : Nat} {dn : Dn} {as : List AV} {Q : D → Sg → Prop} (hl : as.length = n) (hd : nodupB (ownIx as) = true) (h : (dn (as.map (toS g))).wp (fun e ss => E e (merge g as ss)) (fun ds ss => Q (.lst ds) (merge g as ss)) (fun d ss => Q d (merge g as ss))) : (callR n dn as g).wp E Q := by
  rw [s_callR, if_pos ⟨hl, hd⟩]
  generalize dn (as.map (toS g)) = r at h
  cases r <;> exact h
theorem callF_wp {n : Nat} {dn : Dn} {as : List AV} {Q : List D → Sg → Prop} (hl : as.length = n) (hd : nodupB (ownIx as) = true) (h : (dn (as.map (toS g))).wp (fun e ss => E e (merge g as ss)) (fun ds ss => Q ds (merge g as ss)) (fun _ _ => False)) : (callRF n dn as g).wp E Q := by
  rw [s_callRF, if_pos ⟨hl, hd⟩]
  generalize dn (as.map (toS g)) = r at h
  cases r <;> exact h
/-- calls without own arguments, as equations -/
theorem callR_v {n : Nat} {dn : Dn} {as : List AV} {g : Sg} {d : D} {ss : Sg} (ho : ownIx as = []) (hl : as.length = n) (h : dn (as.map (toS g)) = .ok d ss) : callR n dn as g = .ok d g := by
  rw [callR_ok' h hl (by rw [ho]; rfl), s_mV ho]
theorem callR_f {n : Nat} {dn : Dn} {as : List AV} {g : Sg} {ds : List D} {ss : Sg} (ho : ownIx as = []) (hl : as.length = n) (h : dn (as.map (toS g)) = .okf ds ss) : callR n dn as g = .ok (.lst ds) g := by
  rw [s_callR, if_pos ⟨hl, by rw [ho]; rfl⟩, h]; show R.ok _ (merge g as ss) = _; rw [s_mV ho]
theorem callRF_v {n : Nat} {dn : Dn} {as : List AV} {g : Sg} {ds : List D} {ss : Sg} (ho : ownIx as = []) (hl : as.length = n) (h : dn (as.map (toS g)) = .okf ds ss) : callRF n dn as g = .ok ds g := by
  rw [s_callRF, if_pos ⟨hl, by rw [ho]; rfl⟩, h]; show R.ok _ (merge g as ss) = _; rw [s_mV ho]
theorem callR_x {n : Nat} {dn : Dn} {as : List AV} {g : Sg} {e : Exn} {ss : Sg} (ho : ownIx as = []) (hl : as.length = n) (h : dn (as.map (toS g)) = .ex e ss) : callR n dn as g = .ex e g := by
  rw [callR_ex' h hl (by rw [ho]; rfl), s_mV ho]
/-- an own list at slot i, the rest data -/
theorem call_o {n : Nat} {dn : Dn} {i : Nat} {ds : List D} {as : List AV} {Q : D → Sg → Prop} (ho : ownIx as = []) (hl : as.length + 1 = n) (hg : gat g i = .ow ds)
    (h : (dn (.ow ds :: as.map (toS g))).wp (fun e ss => E e (merge g (.o i :: as) ss)) (fun xs ss => ∃ ds' r, ss = .ow ds' :: r ∧ Q (.lst xs) (g.set i (.ow ds'))) (fun d ss => ∃ ds' r, ss = .ow ds' :: r ∧ Q d (g.set i (.ow ds')))) : (callR n dn (.o i :: as) g).wp E Q := by
  refine call_wp (by simpa using hl) (by rw [s_ownO, ho]; rfl) ?_
  rw [List.map_cons, s_toSo, hg]
  refine RC.wp_mono h ?_ ?_ fun _ _ h => h
  · rintro d g1 ⟨ds', r, rfl, hq⟩; rw [s_mO, s_mV ho]; exact hq
  · rintro d g1 ⟨ds', r, rfl, hq⟩; rw [s_mO, s_mV ho]; exact hq
theorem call_oF {n : Nat} {dn : Dn} {i : Nat} {ds : List D} {as : List AV} {Q : List D → Sg → Prop} (ho : ownIx as = []) (hl : as.length + 1 = n) (hg : gat g i = .ow ds)
    (h : (dn (.ow ds :: as.map (toS g))).wp (fun e ss => E e (merge g (.o i :: as) ss)) (fun d ss => ∃ ds' r, ss = .ow ds' :: r ∧ Q d (g.set i (.ow ds'))) (fun _ _ => False)) : (callRF n dn (.o i :: as) g).wp E Q := by
  refine callF_wp (by simpa using hl) (by rw [s_ownO, ho]; rfl) ?_
  rw [List.map_cons, s_toSo, hg]
  refine RC.wp_mono h (fun _ _ h => h) ?_ fun _ _ h => h
  rintro d g1 ⟨ds', r, rfl, hq⟩; rw [s_mO, s_mV ho]; exact hq
end
/-! ### loops -/
section
variable {P : SP} {g : Sg} {h : D → FS}
/-- the posts of a turn -/
abbrev SP.turn (P : SP) (I : Sg → Prop) : SP := ⟨I, P.rt, P.rf, P.nx, I, P.ex⟩
theorem forL_wp {β : Type} {den : β → D} (I : List β → Sg → Prop) : ∀ (bs : List β) (pre : List β) (g : Sg), (∀ p b q g, pre ++ bs = p ++ b :: q → I p g → (h (den b) g).wp (P.turn (I (p ++ [b])))) → I pre g → (∀ g, I (pre ++ bs) g → P.nx g) → (forL h (bs.map den) g).wp P
  | [], pre, g, _, h0, he => he _ (by rw [List.append_nil]; exact h0)
  | b :: bs, pre, g, st, h0, he => by
    have h1 := st pre b bs g rfl h0
    rw [List.map_cons, s_forCons]
    have e : pre ++ b :: bs = (pre ++ [b]) ++ bs := by simp
    generalize h (den b) g = r at h1
    cases r with
    | nx g1 => exact forL_wp I bs (pre ++ [b]) g1 (by rw [← e]; exact st) h1 (by rw [← e]; exact he)
    | ct g1 => exact forL_wp I bs (pre ++ [b]) g1 (by rw [← e]; exact st) h1 (by rw [← e]; exact he)
    | bk g1 => exact h1
    | rt d g1 => exact h1
    | rf d g1 => exact h1
    | ex d g1 => exact h1
    | no => exact h1.elim
/-- a loop by an invariant over what is done -/
theorem forI {β : Type} {den : β → D} (I : List β → Sg → Prop) (bs : List β) (h0 : I [] g) (st : ∀ p b q g, bs = p ++ b :: q → I p g → (h (den b) g).wp (P.turn (I (p ++ [b])))) (he : ∀ g, I bs g → P.nx g) : (forL h (bs.map den) g).wp P :=
  forL_wp I bs [] g st h0 he
/-- a loop over 0, 1, .. by an invariant -/
theorem forN (I : Nat → Sg → Prop) (n : Nat) (h0 : I 0 g) (st : ∀ k g, k < n → I k g → (h (.int (k : Nat)) g).wp (P.turn (I (k + 1)))) (he : ∀ g, I n g → P.nx g) : (forL h (rng n 0) g).wp P := by
  have e : rng n 0 = (List.range n).map fun (k : Nat) => D.int (k : Nat) := by unfold rng; congr 1; funext k; simp
  rw [e]
  refine forI (den := fun (k : Nat) => D.int (k : Nat)) (fun p g => I p.length g) (List.range n) h0 (fun p b q g he hi => ?_) (fun g hi => he g (by simpa using hi))
  have hb : b = p.length := by
    have h1 : (List.range n)[p.length]? = some b := by rw [he]; simp
    rw [List.getElem?_eq_some_iff] at h1
    obtain ⟨h2, h3⟩ := h1
    simpa using h3.symm
  have hn : p.length < n := by
    have h1 := congrArg List.length he
    simp at h1; omega
  subst hb
  have := st p.length g hn hi
  simpa using this
/-- any loop, by an invariant that does not look at the items -/
theorem forA (I : Sg → Prop) (ds : List D) (h0 : I g) (st : ∀ d g, d ∈ ds → I g → (h d g).wp (P.turn I)) (he : ∀ g, I g → P.nx g) : (forL h ds g).wp P := by
  have e : ds = ds.map id := by simp
  rw [e]
  exact forI (den := id) (fun _ g => I g) ds h0 (fun p b q g hb hi => st b g (by rw [hb]; simp) hi) he
/-- a loop that only reckons -/
theorem forL_fold {β σ : Type} {den : β → D} (enc : σ → Sg) (f : σ → β → σ) : ∀ (bs : List β) (s : σ), (∀ s b, b ∈ bs → h (den b) (enc s) = .nx (enc (f s b))) → forL h (bs.map den) (enc s) = .nx (enc (bs.foldl f s))
  | [], s, _ => rfl
  | b :: bs, s, st => by
    rw [List.map_cons, s_forCons, st s b List.mem_cons_self]
    exact forL_fold enc f bs (f s b) fun s b hb => st s b (List.mem_cons_of_mem _ hb)
/-- while -/
theorem whileN_wp {c : FB} {s : FS} (I : Nat → Sg → Prop) (st : ∀ n g, I n g → (c g).wp P.ex fun k g1 => if k = true then (s g1).wp (P.turn fun g2 => ∃ m, m < n ∧ I m g2) else P.nx g1) : ∀ (k n : Nat) (g : Sg), n < k → I n g → (whileN c s k g).wp P
  | 0, n, g, hn, _ => by omega
  | k + 1, n, g, hn, hi => by
    have h1 := st n g hi
    rw [s_whileUn]
    generalize c g = r at h1
    cases r with
    | no => exact h1.elim
    | ex e g1 => exact h1
    | ok b g1 =>
      cases b with
      | false => exact h1
      | true =>
        have h2 : (s g1).wp (P.turn fun g2 => ∃ m, m < n ∧ I m g2) := h1
        show RS.wp (match s g1 with | .nx g' => whileN c s k g' | .ct g' => whileN c s k g' | .bk g' => .nx g' | .rt d g' => .rt d g' | .rf d g' => .rf d g' | .ex e g' => .ex e g' | .no => .no) P
        generalize s g1 = r2 at h2
        cases r2 with
        | nx g2 => obtain ⟨m, hm, hi2⟩ := h2; exact whileN_wp I st k m g2 (by omega) hi2
        | ct g2 => obtain ⟨m, hm, hi2⟩ := h2; exact whileN_wp I st k m g2 (by omega) hi2
        | bk g2 => exact h2
        | rt d g2 => exact h2
        | rf d g2 => exact h2
        | ex d g2 => exact h2
        | no => exact h2.elim
theorem whileI {c : FB} {s : FS} (I : Nat → Sg → Prop) (n : Nat) (h0 : I n g) (st : ∀ n g, I n g → (c g).wp P.ex fun k g1 => if k = true then (s g1).wp (P.turn fun g2 => ∃ m, m < n ∧ I m g2) else P.nx g1) : (whileS c s g).wp P := by
  have h1 := whileN_wp I st (n + 1) n g (by omega) h0
  have : whileS c s g = whileN c s (n + 1) g := by
    refine whileS_eq rfl ?_
    intro z; rw [z] at h1; exact h1
  rw [this]; exact h1
end
/-! ### comprehensions -/
section
variable {t : Tgt} {c : FB} {e : FE} {vs : List Nat}
theorem lc_map {β : Type} (den : β → D) (p : β → Bool) (f : β → D) {g0 : Sg} : ∀ (bs : List β) (acc : List D), (∀ b, b ∈ bs → ∃ g1, t (den b) g0 = some g1 ∧ c g1 = .ok (p b) g1 ∧ (p b = true → e g1 = .ok (f b) g1) ∧ wipeG g1 vs = g0) → lcL t c e vs (bs.map den) acc g0 = .ok (acc ++ (bs.filter p).map f) g0
  | [], acc, _ => by simp [lcL]
  | b :: bs, acc, h => by
    obtain ⟨g1, h1, h2, h3, h4⟩ := h b List.mem_cons_self
    have ih := lc_map den p f (g0 := g0) bs
    rw [List.map_cons, lcL, h1]
    simp only [h2, keep?]
    cases hp : p b with
    | true =>
      simp only [h3 hp, if_true, h4]
      rw [ih _ fun b hb => h b (List.mem_cons_of_mem _ hb)]
      simp [hp]
    | false =>
      simp only [if_true, Bool.false_eq_true, if_false, h4]
      rw [ih _ fun b hb => h b (List.mem_cons_of_mem _ hb)]
      simp [hp]
/-- a comprehension without a condition -/
theorem lc_all {β : Type} (den : β → D) (f : β → D) {g0 : Sg} (bs : List β) (h : ∀ b, b ∈ bs → ∃ g1, t (den b) g0 = some g1 ∧ c g1 = .ok true g1 ∧ e g1 = .ok (f b) g1 ∧ wipeG g1 vs = g0) : lcL t c e vs (bs.map den) [] g0 = .ok (bs.map f) g0 := by
  rw [lc_map den (fun _ => true) f bs [] fun b hb => ?_]
  · rw [List.filter_eq_self.mpr fun _ _ => rfl]; simp
  · obtain ⟨g1, h1, h2, h3, h4⟩ := h b hb
    exact ⟨g1, h1, h2, fun _ => h3, h4⟩
/-- a comprehension that draws -/
theorem lc_wp {E : Exn → Sg → Prop} {Q : List D → Sg → Prop} (I : List D → Sg → Prop) : ∀ (ds acc : List D) (g : Sg), I acc g →
    (∀ d acc g, d ∈ ds → I acc g → ∃ g1, t d g = some g1 ∧ (c g1).wp (fun _ _ => False) fun k g2 => g2.length = g1.length ∧ if k = true then (e g2).wp (fun _ _ => False) fun y g3 => g3.length = g1.length ∧ I (acc ++ [y]) (wipeG g3 vs) else I acc (wipeG g2 vs)) → (∀ acc g, I acc g → Q acc g) → (lcL t c e vs ds acc g).wp E Q
  | [], acc, g, hi, _, he => he _ _ hi
  | d :: ds, acc, g, hi, st, he => by
    obtain ⟨g1, h1, h2⟩ := st d acc g List.mem_cons_self hi
    rw [lcL, h1]
    simp only []
    generalize c g1 = r at h2
    cases r with
    | no => exact h2.elim
    | ex e g => exact h2.elim
    | ok k g2 =>
      obtain ⟨hl, h3⟩ := h2
      simp only [keep?, if_pos hl]
      cases k with
      | false => exact lc_wp I ds acc _ h3 (fun d acc g hd => st d acc g (List.mem_cons_of_mem _ hd)) he
      | true =>
        have h4 : (e g2).wp (fun _ _ => False) fun y g3 => g3.length = g1.length ∧ I (acc ++ [y]) (wipeG g3 vs) := h3
        generalize e g2 = r2 at h4
        cases r2 with
        | no => exact h4.elim
        | ex e g => exact h4.elim
        | ok y g3 =>
          obtain ⟨hl2, h5⟩ := h4
          simp only [if_true, if_pos hl2]
          exact lc_wp I ds _ _ h5 (fun d acc g hd => st d acc g (List.mem_cons_of_mem _ hd)) he
end
end DL

set_option Elab.async false
set_option linter.all false
set_option maxRecDepth 100000
set_option maxHeartbeats 4000000
/-! DenU: typed data: lists of naturals and intz, ratios, codes. -/
namespace DL
open PySem L2
abbrev nats (xs : List Nat) : List D := xs.map fun n => D.int (n : Nat)
abbrev intz (xs : List Int) : List D := xs.map D.int
/-- a share or a ratio -/
abbrev T2 (a b : Int) : D := .tup [.int a, .int b]
section
variable {α β : Type} {xs ys : List α} {f : α → D} {n k : Nat} {ns : List Nat} {is js : List Int}
theorem rng0 : rng n 0 = nats (List.range n) := by unfold rng; congr 1; funext k; simp
theorem rngP {lo : Nat} : rng n lo = nats ((List.range n).map (lo + ·)) := by
  show (List.range n).map _ = ((List.range n).map _).map _
  rw [List.map_map]; congr 1
theorem d_rng1 (h : n < 2 ^ 62) : rng1D [.int (n : Nat)] = some (nats (List.range n)) := by
  rw [rng1D, if_pos]
  · simp [rng0]
  · unfold RL; simp; omega
theorem d_rng1I {i : Int} (h0 : 0 ≤ i) (h : i < 2 ^ 62) : rng1D [.int i] = some (nats (List.range i.toNat)) := by
  obtain ⟨n, rfl⟩ := Int.eq_ofNat_of_zero_le h0
  rw [d_rng1 (by omega)]; simp
theorem d_rng2 {lo hi : Nat} (h : hi < 2 ^ 62) (h2 : lo < 2 ^ 62) : rng2D [.int (lo : Nat), .int (hi : Nat)] = some (nats ((List.range (hi - lo)).map (lo + ·))) := by
  rw [rng2D, if_pos, ← rngP]
  · have : ((hi : Int) - (lo : Int)).toNat = hi - lo := by omega
    rw [this]
  · unfold RL; simp; omega
theorem nats_map {f : α → Nat} : nats (xs.map f) = xs.map fun x => D.int (f x : Nat) := by show List.map _ (List.map _ _) = _; rw [List.map_map]; rfl
theorem intz_map {f : α → Int} : intz (xs.map f) = xs.map fun x => D.int (f x) := by show List.map _ (List.map _ _) = _; rw [List.map_map]; rfl
/-- a loop over 0, 1, .. -/
theorem forR {P : SP} {g : Sg} {h : D → FS} (I : Nat → Sg → Prop) (n : Nat) (h0 : I 0 g) (st : ∀ k g, k < n → I k g → (h (.int (k : Nat)) g).wp (P.turn (I (k + 1)))) (he : ∀ g, I n g → P.nx g) : (forL h (nats (List.range n)) g).wp P := by
  rw [← rng0]; exact forN I n h0 st he
theorem rgL_nat {f : FE} {g g1 : Sg} (hf : f g = .ok (.int (n : Nat)) g1) (h : n ≤ 1000000) : rgLF f g = .ok (nats (List.range n)) g1 := by
  unfold rgLF
  rw [hf]
  show (if 0 ≤ (n : Int) ∧ (n : Int).natAbs ≤ 16777216 then R.ok (rng (n : Int).toNat 0) g1 else .no) = _
  rw [if_pos ⟨by omega, by omega⟩, Int.toNat_natCast, rng0]
/-- a comprehension that draws, counted -/
theorem lc_wpN {t : Tgt} {c : FB} {e : FE} {vs : List Nat} {E : Exn → Sg → Prop} {Q : List D → Sg → Prop} (I : Nat → List D → Sg → Prop) : ∀ (ds acc : List D) (k : Nat) (g : Sg), I k acc g →
    (∀ d k acc g, d ∈ ds → I k acc g → ∃ g1, t d g = some g1 ∧ (c g1).wp (fun _ _ => False) fun b g2 => g2.length = g1.length ∧ if b = true then (e g2).wp (fun _ _ => False) fun y g3 => g3.length = g1.length ∧ I (k + 1) (acc ++ [y]) (wipeG g3 vs) else I (k + 1) acc (wipeG g2 vs)) → (∀ acc g, I (k + ds.length) acc g → Q acc g) → (lcL t c e vs ds acc g).wp E Q
  | [], acc, k, g, hi, _, he => he _ _ hi
  | d :: ds, acc, k, g, hi, st, he => by
    obtain ⟨g1, h1, h2⟩ := st d k acc g List.mem_cons_self hi
    rw [lcL, h1]
    simp only []
    have he' : ∀ acc g, I (k + 1 + ds.length) acc g → Q acc g := fun acc g h => he acc g (by rw [List.length_cons]; rw [show k + (ds.length + 1) = k + 1 + ds.length by omega]; exact h)
    generalize c g1 = r at h2
    cases r with
    | no => exact h2.elim
    | ex e g => exact h2.elim
    | ok b g2 =>
      obtain ⟨hl, h3⟩ := h2
      simp only [keep?, if_pos hl]
      cases b with
      | false => exact lc_wpN I ds acc (k + 1) _ h3 (fun d k acc g hd => st d k acc g (List.mem_cons_of_mem _ hd)) he'
      | true =>
        have h4 : (e g2).wp (fun _ _ => False) fun y g3 => g3.length = g1.length ∧ I (k + 1) (acc ++ [y]) (wipeG g3 vs) := h3
        generalize e g2 = r2 at h4
        cases r2 with
        | no => exact h4.elim
        | ex e g => exact h4.elim
        | ok y g3 =>
          obtain ⟨hl2, h5⟩ := h4
          simp only [if_true, if_pos hl2]
          exact lc_wpN I ds _ (k + 1) _ h5 (fun d k acc g hd => st d k acc g (List.mem_cons_of_mem _ hd)) he'
/-- a comprehension over 0, 1, .. that draws naturals -/
theorem lc_draw {e : FE} {i n : Nat} {E : Exn → Sg → Prop} {Q : List D → Sg → Prop} {g : Sg} {p : Nat → Prop} (J : Sg → Prop) (h0 : J g)
    (st : ∀ d g, J g → (e (g.set i (.v d))).wp (fun _ _ => False) fun y g3 => ∃ m : Nat, y = .int (m : Nat) ∧ p m ∧ g3.length = g.length ∧ J (g3.set i .un)) (he : ∀ ns g, ns.length = n → (∀ m ∈ ns, p m) → J g → Q (nats ns) g) (hw : n ≤ 1000000) :
    (lcL (tgN i) yesB e [i] (nats (List.range n)) [] g).wp E Q := by
  refine lc_wpN (fun k acc g => ∃ ns : List Nat, acc = nats ns ∧ ns.length = k ∧ (∀ m ∈ ns, p m) ∧ J g) _ [] 0 g ⟨[], rfl, rfl, (fun _ h => nomatch h), h0⟩ ?_ ?_
  · rintro d k acc g _ ⟨ns, rfl, hl, hp, hj⟩
    refine ⟨_, rfl, rfl, ?_⟩
    rw [if_pos rfl]
    refine R.wp_mono (st d g hj) ?_ (fun _ _ h => h)
    rintro y g3 ⟨m, rfl, hm, hl3, hj3⟩
    refine ⟨by rw [hl3]; simp, ns ++ [m], by simp, by simp [hl], fun x hx => ?_, hj3⟩
    rcases List.mem_append.mp hx with z | z
    · exact hp x z
    · simp at z; subst z; exact hm
  · rintro acc g ⟨ns, rfl, hl, hp, hj⟩
    exact he ns g (by simpa using hl) hp hj
/-- a comprehension over 0, 1, .. that draws data -/
theorem lc_drawG {β : Type} (den : β → D) {e : FE} {i n : Nat} {E : Exn → Sg → Prop} {Q : List D → Sg → Prop} {g : Sg} {p : β → Prop} (J : Sg → Prop) (h0 : J g)
    (st : ∀ d g, J g → (e (g.set i (.v d))).wp (fun _ _ => False) fun y g3 => ∃ m : β, y = den m ∧ p m ∧ g3.length = g.length ∧ J (g3.set i .un)) (he : ∀ (ns : List β) g, ns.length = n → (∀ m ∈ ns, p m) → J g → Q (ns.map den) g) :
    (lcL (tgN i) yesB e [i] (nats (List.range n)) [] g).wp E Q := by
  refine lc_wpN (fun k acc g => ∃ ns : List β, acc = ns.map den ∧ ns.length = k ∧ (∀ m ∈ ns, p m) ∧ J g) _ [] 0 g ⟨[], rfl, rfl, (fun _ h => nomatch h), h0⟩ ?_ ?_
  · rintro d k acc g _ ⟨ns, rfl, hl, hp, hj⟩
    refine ⟨_, rfl, rfl, ?_⟩
    rw [if_pos rfl]
    refine R.wp_mono (st d g hj) ?_ (fun _ _ h => h)
    rintro y g3 ⟨m, rfl, hm, hl3, hj3⟩
    refine ⟨by rw [hl3]; simp, ns ++ [m], by simp, by simp [hl], fun x hx => ?_, hj3⟩
    rcases List.mem_append.mp hx with z | z
    · exact hp x z
    · simp at z; subst z; exact hm
  · rintro acc g ⟨ns, rfl, hl, hp, hj⟩
    exact he ns g (by simpa using hl) hp hj
/-! places -/
theorem ixN_nat (h : k < n) : ixN n (k : Nat) = some k := by
  unfold ixN
  rw [if_pos (by omega), if_pos (by omega)]; simp
theorem ixN_last (h : 0 < n) : ixN n (-1) = some (n - 1) := by
  unfold ixN
  rw [if_neg (by omega), if_pos (by omega)]; congr 1; omega
theorem ixL {ds : List D} (h : k < ds.length) : ixD (.lst ds) (.int (k : Nat)) = some ds[k] := by
  show atI ds (k : Int) = _
  unfold atI
  rw [ixN_nat h]; simp [h]
theorem ixT {ds : List D} (h : k < ds.length) : ixD (.tup ds) (.int (k : Nat)) = some ds[k] := ixL h
theorem ix_lst [Inhabited α] (h : k < xs.length) : ixD (.lst (xs.map f)) (.int (k : Nat)) = some (f (xs.getD k default)) := by
  rw [ixL (by rw [List.length_map]; exact h)]; simp [h]
theorem ix_tup [Inhabited α] (h : k < xs.length) : ixD (.tup (xs.map f)) (.int (k : Nat)) = some (f (xs.getD k default)) := ix_lst h
theorem ix_nL (h : k < ns.length) : ixD (.lst (nats ns)) (.int (k : Nat)) = some (.int (ns.getD k 0 : Nat)) := ix_lst h
theorem ix_nT (h : k < ns.length) : ixD (.tup (nats ns)) (.int (k : Nat)) = some (.int (ns.getD k 0 : Nat)) := ix_lst h
theorem ix_iL (h : k < is.length) : ixD (.lst (intz is)) (.int (k : Nat)) = some (.int (is.getD k 0)) := ix_lst h
theorem ix_iT (h : k < is.length) : ixD (.tup (intz is)) (.int (k : Nat)) = some (.int (is.getD k 0)) := ix_lst h
theorem ix_lastL {ds : List D} (h : ds ≠ []) : ixD (.lst ds) (.int (-1)) = some (ds.getLast h) := by
  have hl : 0 < ds.length := List.length_pos_iff.mpr h
  show atI ds (-1) = _
  unfold atI
  rw [ixN_last hl]; simp [List.getLast_eq_getElem]
theorem ix_all {ds : List D} {P : D → Prop} {v : Nat} (h : v < ds.length) (hall : ∀ d ∈ ds, P d) : ∃ d, ixD (.tup ds) (.int (v : Nat)) = some d ∧ P d := ⟨_, ixT h, hall _ (List.getElem_mem h)⟩
theorem ix_allL {ds : List D} {P : D → Prop} {v : Nat} (h : v < ds.length) (hall : ∀ d ∈ ds, P d) : ∃ d, ixD (.lst ds) (.int (v : Nat)) = some d ∧ P d := ⟨_, ixL h, hall _ (List.getElem_mem h)⟩
/-- a written table of naturals -/
theorem tabN {v : Nat} (ns : List Nat) (p : Nat → Bool) (h : v < ns.length) (hp : ns.all p = true) : ∃ x, ixD (.tup (nats ns)) (.int (v : Nat)) = some (.int (x : Nat)) ∧ p x = true :=
  ⟨_, ix_nT h, List.all_eq_true.mp hp _ (by rw [List.getD_eq_getElem?_getD, List.getElem?_eq_getElem h]; exact List.getElem_mem h)⟩
/-! sums -/
@[simp] theorem ints_ints : intsD (intz is) = some is := by
  induction is with
  | nil => rfl
  | cons i is ih => show (intD (.int i)).bind _ = _; simp [intD, intsD, ih]
theorem nats_ints : nats ns = intz (ns.map fun (n : Nat) => (n : Int)) := by simp
@[simp] theorem ints_nats : intsD (nats ns) = some (ns.map fun (n : Nat) => (n : Int)) := by rw [nats_ints, ints_ints]
theorem sum_cast : (ns.map fun (n : Nat) => (n : Int)).sum = (ns.sum : Nat) := by
  induction ns with
  | nil => rfl
  | cons n ns ih => simp [ih]
@[simp] theorem sum_nL : sumD [.lst (nats ns)] = some (.int (ns.sum : Nat)) := by
  show (lstI _).bind _ = _
  simp only [lstI, ints_nats, Option.bind_some, sum_cast]
@[simp] theorem sum_nT : sumD [.tup (nats ns)] = some (.int (ns.sum : Nat)) := by
  show (lstI _).bind _ = _
  simp only [lstI, ints_nats, Option.bind_some, sum_cast]
@[simp] theorem sum_iL : sumD [.lst (intz is)] = some (.int is.sum) := by
  show (lstI _).bind _ = _
  simp only [lstI, ints_ints, Option.bind_some]
@[simp] theorem sum_iT : sumD [.tup (intz is)] = some (.int is.sum) := by
  show (lstI _).bind _ = _
  simp only [lstI, ints_ints, Option.bind_some]
@[simp] theorem l_listT {ds : List D} : listD [.tup ds] = some ds := rfl
@[simp] theorem l_tupL {ds : List D} : tupleD [.lst ds] = some (.tup ds) := rfl
@[simp] theorem l_tupT {ds : List D} : tupleD [.tup ds] = some (.tup ds) := rfl
@[simp] theorem l_min2 {i j : Int} : min2D [.int i, .int j] = some (.int (min i j)) := rfl
@[simp] theorem l_max2 {i j : Int} : max2D [.int i, .int j] = some (.int (max i j)) := rfl
theorem min_nL (h : ns ≠ []) : ∃ m : Nat, minD [.lst (nats ns)] = some (.int (m : Nat)) ∧ m ∈ ns ∧ ∀ x ∈ ns, m ≤ x := by
  match ns, h with
  | a :: t, _ =>
    have e : minD [.lst (nats (a :: t))] = some (.int (foldMin (a : Nat) (t.map fun (n : Nat) => (n : Int)))) := by
      show ((lstI (.lst (nats (a :: t)))).bind _) = _
      rw [show lstI (.lst (nats (a :: t))) = some ((a :: t).map fun (n : Nat) => (n : Int)) from ints_nats]; rfl
    obtain ⟨z1, z2⟩ := foldMin_le (t.map fun (n : Nat) => (n : Int)) (a : Nat)
    have hm := foldMin_mem (t.map fun (n : Nat) => (n : Int)) (a : Nat)
    have hm2 : foldMin (a : Nat) (t.map fun (n : Nat) => (n : Int)) ∈ (a :: t).map fun (n : Nat) => (n : Int) := hm
    obtain ⟨m, hmm, em⟩ := List.mem_map.mp hm2
    refine ⟨m, by rw [e, em], hmm, fun x hx => ?_⟩
    rcases List.mem_cons.mp hx with rfl | hx
    · omega
    · have := z2 x (List.mem_map.mpr ⟨x, hx, rfl⟩)
      omega
theorem max_nL (h : ns ≠ []) : ∃ m : Nat, maxD [.lst (nats ns)] = some (.int (m : Nat)) ∧ m ∈ ns ∧ ∀ x ∈ ns, x ≤ m := by
  match ns, h with
  | a :: t, _ =>
    have e : maxD [.lst (nats (a :: t))] = some (.int (foldMax (a : Nat) (t.map fun (n : Nat) => (n : Int)))) := by
      show ((lstI (.lst (nats (a :: t)))).bind _) = _
      rw [show lstI (.lst (nats (a :: t))) = some ((a :: t).map fun (n : Nat) => (n : Int)) from ints_nats]; rfl
    obtain ⟨z1, z2⟩ := foldMax_le (t.map fun (n : Nat) => (n : Int)) (a : Nat)
    have hm := foldMax_mem (t.map fun (n : Nat) => (n : Int)) (a : Nat)
    have hm2 : foldMax (a : Nat) (t.map fun (n : Nat) => (n : Int)) ∈ (a :: t).map fun (n : Nat) => (n : Int) := hm
    obtain ⟨m, hmm, em⟩ := List.mem_map.mp hm2
    refine ⟨m, by rw [e, em], hmm, fun x hx => ?_⟩
    rcases List.mem_cons.mp hx with rfl | hx
    · omega
    · have := z2 x (List.mem_map.mpr ⟨x, hx, rfl⟩)
      omega
theorem zip_self {f : α → β} : ∀ xs : List α, xs.zip (xs.map f) = xs.map fun x => (x, f x)
  | [] => rfl
  | x :: xs => by rw [List.map_cons, List.zip_cons_cons, zip_self xs]; rfl
theorem sum_ratC {f : α → Int} : ∀ xs : List α, (((xs.map f).sum : Int) : Rat) = (xs.map fun x => (f x : Rat)).sum
  | [] => rfl
  | x :: xs => by rw [List.map_cons, List.sum_cons, Rat.intCast_add, sum_ratC xs]; rfl
/-! equal -/
theorem eqbs_map {den : α → D} [DecidableEq α] (h : ∀ a b, D.eqb (den a) (den b) = decide (a = b)) : ∀ xs ys : List α, D.eqbs (xs.map den) (ys.map den) = decide (xs = ys)
  | [], [] => by unfold D.eqbs; rfl
  | [], y :: ys => by unfold D.eqbs; simp
  | x :: xs, [] => by unfold D.eqbs; simp
  | x :: xs, y :: ys => by
    rw [List.map_cons, List.map_cons, q_cons, h, eqbs_map h xs ys]
    by_cases e : x = y
    · subst e; by_cases e2 : xs = ys <;> simp [e2]
    · simp [e]
@[simp] theorem eqb_nats {ms : List Nat} : D.eqbs (nats ns) (nats ms) = decide (ns = ms) := eqbs_map (fun a b => by
  rw [q_int]; by_cases e : a = b
  · subst e; simp
  · have : ¬ (a : Int) = b := by omega
    simp [e, this]) ns ms
@[simp] theorem eqb_ints : D.eqbs (intz is) (intz js) = decide (is = js) := eqbs_map (fun a b => by rw [q_int]; by_cases e : a = b <;> simp [e]) is js
@[simp] theorem eqb_nil {ds : List D} : D.eqbs ds [] = decide (ds = []) := by
  cases ds with
  | nil => unfold D.eqbs; rfl
  | cons d ds => unfold D.eqbs; simp
theorem okN_map {den : α → D} {n : Nat} (h : ∀ a, a ∈ xs → okN n (den a) = true) : (xs.map den).all (okN n) = true := by
  rw [List.all_eq_true]
  intro d hd
  obtain ⟨a, ha, rfl⟩ := List.mem_map.mp hd
  exact h a ha
@[simp] theorem okN_nats {m : Nat} : (nats ns).all (okN m) = true := okN_map fun _ _ => k_int
@[simp] theorem okN_ints {m : Nat} : (intz is).all (okN m) = true := okN_map fun _ _ => k_int
@[simp] theorem mem_nats : memD (.int (k : Nat)) (nats ns) = decide (k ∈ ns) := by
  unfold memD
  induction ns with
  | nil => simp
  | cons n ns ih =>
    rw [show nats (n :: ns) = D.int (n : Nat) :: nats ns from rfl, List.any_cons, ih, q_int]
    by_cases e : n = k
    · subst e; simp
    · have e1 : ¬ (n : Int) = k := by omega
      have e2 : ¬ k = n := by omega
      simp [e1, e2]
@[simp] theorem in_nL : inD (.int (k : Nat)) (.lst (nats ns)) = some (.bl (decide (k ∈ ns))) := by
  show (if (okN 20 _ && _) = true then _ else _) = _
  rw [if_pos (by simp), mem_nats]
@[simp] theorem in_nT : inD (.int (k : Nat)) (.tup (nats ns)) = some (.bl (decide (k ∈ ns))) := in_nL
@[simp] theorem nin_nL : notInD (.int (k : Nat)) (.lst (nats ns)) = some (.bl (!decide (k ∈ ns))) := by
  show (if (okN 20 _ && _) = true then _ else _) = _
  rw [if_pos (by simp), mem_nats]
@[simp] theorem nin_nT : notInD (.int (k : Nat)) (.tup (nats ns)) = some (.bl (!decide (k ∈ ns))) := nin_nL
/-! parts -/
theorem cut_to {ds : List D} (h : k ≤ ds.length) : cut ds none (some (k : Nat)) = ds.take k := by
  have e1 : HT.sIx ds.length 0 none = 0 := rfl
  have e2 : HT.sIx ds.length ds.length (some (k : Nat)) = k := by
    unfold HT.sIx; simp only []; rw [if_neg (by omega)]; simp; omega
  unfold cut
  rw [e1, e2]; simp
theorem cut_from {ds : List D} (h : k ≤ ds.length) : cut ds (some (k : Nat)) none = ds.drop k := by
  have e1 : HT.sIx ds.length ds.length none = ds.length := rfl
  have e2 : HT.sIx ds.length 0 (some (k : Nat)) = k := by
    unfold HT.sIx; simp only []; rw [if_neg (by omega)]; simp; omega
  unfold cut
  rw [e1, e2, List.take_of_length_le]; simp
@[simp] theorem cut_one {d : D} {ds : List D} : cut (d :: ds) none (some 1) = [d] := cut_to (ds := d :: ds) (k := 1) (by simp)
@[simp] theorem cut_one0 : cut [] none (some 1) = [] := cut_to (ds := []) (k := 0) (by simp)
theorem cut_full {ds : List D} : cut ds none none = ds := by
  unfold cut HT.sIx; simp
@[simp] theorem s_sl {fa : Sg → R AV} {lo hi : Sg → R (Option Int)} {g : Sg} : slF fa lo hi g = (fa g).bd fun a g1 => (lo g1).bd fun l g2 => (hi g2).bd fun u g3 => opt ((res g3 a).bind fun d => slD d l u) g3 := rfl
@[simp] theorem sl_L {ds : List D} {l u : Option Int} : slD (.lst ds) l u = some (.lst (cut ds l u)) := rfl
@[simp] theorem sl_T {ds : List D} {l u : Option Int} : slD (.tup ds) l u = some (.tup (cut ds l u)) := rfl
@[simp] theorem s_isOwI {c : Str} {ns : List Str} {ds : List D} : (S.oi c ns ds).isOw = true := rfl
@[simp] theorem s_isOwN {ds : List (List D)} : (S.on ds).isOw = false := rfl
@[simp] theorem d_addL {xs ys : List D} : addD (.lst xs) (.lst ys) = if szOk (xs.length + ys.length) = true then some (.lst (xs ++ ys)) else none := rfl
@[simp] theorem d_addT {xs ys : List D} : addD (.tup xs) (.tup ys) = if szOk (xs.length + ys.length) = true then some (.tup (xs ++ ys)) else none := rfl
@[simp] theorem s_op2L {o : D → D → Option (List D)} {f1 f2 : Sg → R AV} {g : Sg} : op2L o f1 f2 g = (f1 g).bd fun a g1 => (f2 g1).bd fun c g2 => opt ((res g2 a).bind fun d => (res g2 c).bind fun e => o d e) g2 := rfl
@[simp] theorem d_catL {xs ys : List D} : catD (.lst xs) (.lst ys) = if szOk (xs.length + ys.length) = true then some (xs ++ ys) else none := rfl
/-! sorted -/
def srt (ns : List Nat) : List Nat := ns.mergeSort (fun i j => decide (i ≤ j))
theorem srt_perm : (srt ns).Perm ns := List.mergeSort_perm _ _
theorem srt_le : (srt ns).Pairwise (· ≤ ·) := by
  have h := List.pairwise_mergeSort (le := fun i j : Nat => decide (i ≤ j)) (fun a b c h1 h2 => by simp only [decide_eq_true_eq] at *; omega) (fun a b => by simp only [Bool.or_eq_true, decide_eq_true_eq]; omega) ns
  exact h.imp fun h => by simpa using h
theorem srt_lt (h : ns.Nodup) : (srt ns).Pairwise (· < ·) := by
  have h1 := srt_le (ns := ns)
  have h2 : (srt ns).Nodup := srt_perm.nodup_iff.mpr h
  unfold List.Nodup at h2
  exact (h1.and h2).imp fun ⟨a, b⟩ => by omega
theorem srtI_nats : srtI (ns.map fun (n : Nat) => (n : Int)) = (srt ns).map fun (n : Nat) => (n : Int) := by
  refine (srtI_eq (srt_perm.map _) ?_).symm
  exact List.pairwise_map.mpr (srt_le.imp fun h => by omega)
@[simp] theorem sorted_nL : sortedD [.lst (nats ns)] = some (nats (srt ns)) := by
  rw [sortedD, show seqOf (.lst (nats ns)) = some (nats ns) from rfl, Option.bind_some, ints_nats, Option.bind_some, srtI_nats, List.map_map]; rfl
@[simp] theorem sorted_nT : sortedD [.tup (nats ns)] = some (nats (srt ns)) := sorted_nL
theorem le_perm_eqN : ∀ {xs ys : List Nat}, xs.Perm ys → xs.Pairwise (· ≤ ·) → ys.Pairwise (· ≤ ·) → xs = ys := by
  intro xs ys p h1 h2
  exact p.eq_of_pairwise (fun a b _ _ h1 h2 => by omega) h1 h2
theorem srt_eq {ms : List Nat} (p : ms.Perm ns) (h : ms.Pairwise (· ≤ ·)) : srt ns = ms := le_perm_eqN (srt_perm.trans p.symm) srt_le h
theorem srt_self (h : ns.Pairwise (· < ·)) : srt ns = ns := srt_eq (List.Perm.refl _) (h.imp fun h => by omega)
theorem mem_srt : k ∈ srt ns ↔ k ∈ ns := srt_perm.mem_iff
@[simp] theorem srt_length : (srt ns).length = ns.length := srt_perm.length_eq
/-! enumerate, zip -/
theorem enm_map : enm (xs.map f) = xs.zipIdx.map fun p => D.tup [.int (p.2 : Nat), f p.1] := by
  unfold enm
  rw [List.zipIdx_map, List.map_map]; rfl
@[simp] theorem enmD_L {ds : List D} : enmD [.lst ds] = some (enm ds) := rfl
@[simp] theorem enmD_T {ds : List D} : enmD [.tup ds] = some (enm ds) := rfl
theorem zip_map {ys : List β} {g : β → D} : zipD2 (xs.map f) (ys.map g) = (xs.zip ys).map fun p => D.tup [f p.1, g p.2] := by
  unfold zipD2
  rw [List.zipWith_map, List.zip, List.map_zipWith]
@[simp] theorem zipD_L {ds es : List D} : zipD [.lst ds, .lst es] = some (zipD2 ds es) := rfl
@[simp] theorem zipD_T {ds es : List D} : zipD [.tup ds, .tup es] = some (zipD2 ds es) := rfl
@[simp] theorem zipD_LT {ds es : List D} : zipD [.lst ds, .tup es] = some (zipD2 ds es) := rfl
@[simp] theorem zipD_TL {ds es : List D} : zipD [.tup ds, .lst es] = some (zipD2 ds es) := rfl
theorem zipIdx_at {p q : List (α × Nat)} {b : α × Nat} (h : xs.zipIdx = p ++ b :: q) : b.2 = p.length ∧ xs[p.length]? = some b.1 := by
  have h1 : xs.zipIdx[p.length]? = some b := by rw [h]; simp
  rw [List.getElem?_zipIdx] at h1
  obtain ⟨a, ha, rfl⟩ := Option.map_eq_some_iff.mp h1
  exact ⟨by simp, ha⟩
theorem app_at {p q : List α} {b : α} (h : xs = p ++ b :: q) : xs[p.length]? = some b := by rw [h]; simp
theorem le_at {xs : List Nat} (h : xs.Pairwise (· < ·)) : ∀ (i : Nat) (hi : i < xs.length), i ≤ xs[i]
  | 0, _ => Nat.zero_le _
  | i + 1, hi => by
    have h1 := le_at h i (by omega)
    have h2 := List.pairwise_iff_getElem.mp h i (i + 1) (by omega) hi (by omega)
    omega
theorem lot_len {xs : List Nat} {n : Nat} (h : xs.Pairwise (· < ·)) (hb : ∀ b ∈ xs, b < n) : xs.length ≤ n := by
  by_cases z : xs.length = 0
  · omega
  · have h1 := le_at h (xs.length - 1) (by omega)
    have h2 := hb _ (List.getElem_mem (show xs.length - 1 < xs.length by omega))
    omega
theorem lt_nodup {xs : List Nat} (h : xs.Pairwise (· < ·)) : xs.Nodup := h.imp fun h => by omega
theorem lt_not_take {xs : List Nat} {k b : Nat} (h : xs.Pairwise (· < ·)) (hb : xs[k]? = some b) : b ∉ xs.take k := fun hm => by
  obtain ⟨i, hi, e⟩ := List.getElem_of_mem hm
  rw [List.length_take] at hi
  rw [List.getElem_take] at e
  obtain ⟨hk, e2⟩ := List.getElem?_eq_some_iff.mp hb
  have := List.pairwise_iff_getElem.mp h i k (by omega) hk (by omega)
  omega
theorem set_map {i : Nat} {x : α} : (xs.map f).set i (f x) = (xs.set i x).map f := by rw [List.map_set]
end
section
variable {i j : Int} {m k : Nat}
theorem shr_nat : shrD (.int (m : Nat)) (.int (k : Nat)) = some (.int ((m / 2 ^ k : Nat))) := by
  rw [shrD, if_pos (by omega)]; simp
theorem and_one : andD (.int (m : Nat)) (.int 1) = some (.int ((m % 2 : Nat))) := by
  show some (D.int (Builtin.bitAnd (m : Int) 1)) = _
  rw [PyProof.Rows.bitAnd_m1]; rfl
theorem fmod_nat : Int.fmod (m : Nat) (k : Nat) = ((m % k : Nat) : Int) := by rw [Int.fmod_eq_emod_of_nonneg _ (by omega)]; rfl
theorem fdiv_nat : Int.fdiv (m : Nat) (k : Nat) = ((m / k : Nat) : Int) := by rw [Int.fdiv_eq_ediv_of_nonneg _ (by omega)]; rfl
theorem lim_nat {k : Nat} (h : m < 2 ^ k) (hk : k ≤ 2000000 := by decide) : m < LIM := lt_LIM h hk
theorem mul_nat {b : Nat} (h : m * k < 2 ^ b) (hb : b ≤ 2000000 := by decide) : mulD (.int (m : Nat)) (.int (k : Nat)) = some (.int ((m * k : Nat))) := by
  rw [d_mulI, if_pos, Int.natCast_mul]
  have : ((m : Int) * (k : Int)).natAbs = m * k := by rw [Int.natAbs_mul]; simp
  rw [this]; exact lim_nat h hb
theorem fdiv_natD {b : Nat} (h0 : k ≠ 0) (h : k < 2 ^ b) (hb : b ≤ 8000 := by decide) : fdivD (.int (m : Nat)) (.int (k : Nat)) = some (.int ((m / k : Nat))) := by
  rw [d_fdiv, if_pos ⟨by omega, by simpa using lt_LID h hb⟩, fdiv_nat]
theorem mod_natD (h0 : k ≠ 0) : modD (.int (m : Nat)) (.int (k : Nat)) = some (.int ((m % k : Nat))) := by
  rw [d_mod, if_pos (by omega), fmod_nat]
end
end DL

set_option Elab.async false
set_option linter.all false
set_option maxRecDepth 100000
set_option maxHeartbeats 4000000
/-! DenR: ratios as rationals. -/
namespace DL
open PySem L2
/-- a ratio in lowest terms -/
abbrev rt (q : Rat) : D := T2 q.num q.den
section
variable {p q : Rat} {a b : Int} {n : Nat}
theorem fd_pos (hb : 0 < b) : T2 (a.fdiv (Int.gcd a b : Int)) (b.fdiv (Int.gcd a b : Int)) = rt (Rat.divInt a b) := by
  have e1 : (Rat.divInt a b).num = a / (Int.gcd a b : Int) := by
    rw [Rat.num_divInt, Int.sign_eq_one_of_pos hb, Int.one_mul, Int.gcd_comm]
  have e2 : ((Rat.divInt a b).den : Int) = b / (Int.gcd a b : Int) := by
    rw [Rat.den_divInt, if_neg (by omega), Int.gcd_comm b a, Int.natCast_ediv]
    congr 1; omega
  unfold rt
  rw [e1, e2, Int.fdiv_eq_ediv_of_nonneg _ (by omega), Int.fdiv_eq_ediv_of_nonneg _ (by omega)]
theorem fd_neg (hb : b < 0) : T2 (a.fdiv (-(Int.gcd a b : Int))) (b.fdiv (-(Int.gcd a b : Int))) = rt (Rat.divInt a b) := by
  have e1 : a.fdiv (-(Int.gcd a b : Int)) = (-a).fdiv (Int.gcd a b : Int) := by
    have := Int.neg_fdiv_neg (-a) (Int.gcd a b : Int)
    rw [Int.neg_neg] at this
    exact this
  have e2 : b.fdiv (-(Int.gcd a b : Int)) = (-b).fdiv (Int.gcd a b : Int) := by
    have := Int.neg_fdiv_neg (-b) (Int.gcd a b : Int)
    rw [Int.neg_neg] at this
    exact this
  have e3 : Int.gcd a b = Int.gcd (-a) (-b) := by rw [Int.gcd_neg, Int.neg_gcd]
  rw [e1, e2, e3, fd_pos (by omega)]
  rw [Rat.neg_divInt_neg]
theorem gcd_ne (h0 : b ≠ 0) : (Int.gcd a b : Int) ≠ 0 := by
  have : Int.gcd a b ≠ 0 := fun z => by rw [Int.gcd_eq_zero_iff] at z; exact h0 z.2
  omega
theorem gcd_lid {k : Nat} (h0 : b ≠ 0) (hb : BB k b) (hk : k ≤ 8000) : (Int.gcd a b) < LID := by
  have h1 : Int.gcd a b ∣ b.natAbs := Nat.gcd_dvd_right _ _
  have h2 : Int.gcd a b ≤ b.natAbs := Nat.le_of_dvd (by omega) h1
  exact lt_LID (Nat.lt_of_le_of_lt h2 hb) hk
theorem num_pos : 0 < q.num ↔ 0 < q := by
  have := Rat.lt_iff 0 q
  simpa using this.symm
theorem num_le_den : q.num ≤ q.den ↔ q ≤ 1 := by
  have := Rat.le_iff q 1
  simpa using this.symm
theorem den_pos : 0 < q.den := Nat.pos_of_ne_zero q.den_nz
theorem den1 : (1 : Int) ≤ q.den := by have := q.den_nz; omega
theorem num_den_gcd : Int.gcd q.num q.den = 1 := q.reduced
theorem rt_inj (h : rt p = rt q) : p = q := by
  unfold rt T2 at h
  simp at h
  exact Rat.ext h.1 (by omega)
@[simp] theorem eqb_rt : D.eqbs [.int p.num, .int (p.den : Nat)] [.int q.num, .int (q.den : Nat)] = decide (p = q) := by
  rw [q_cons, q_cons, q_int, q_int, q_nil]
  by_cases e : p = q
  · subst e; simp
  · by_cases e1 : p.num = q.num
    · have : ¬ (p.den : Int) = q.den := fun z => e (Rat.ext e1 (by omega))
      simp [e, this]
    · simp [e, e1]
theorem eqb_rts {xs ys : List Rat} : D.eqbs (xs.map rt) (ys.map rt) = decide (xs = ys) := eqbs_map (fun p q => by rw [q_tup]; exact eqb_rt) xs ys
theorem okN_rts {xs : List Rat} {m : Nat} : (xs.map rt).all (okN (m + 1)) = true := okN_map fun _ _ => by simp
theorem ix_rL {xs : List Rat} (h : n < xs.length) : ixD (.lst (xs.map rt)) (.int (n : Nat)) = some (rt (xs.getD n 0)) := ix_lst (f := rt) h
theorem ix_rT {xs : List Rat} (h : n < xs.length) : ixD (.tup (xs.map rt)) (.int (n : Nat)) = some (rt (xs.getD n 0)) := ix_lst (f := rt) h
theorem divInt_div : Rat.divInt a b = (a : Rat) / (b : Rat) := Rat.divInt_eq_div a b
theorem divInt_share {a b : Nat} (hb : 0 < b) (hab : a ≤ b) : 0 ≤ Rat.divInt a b ∧ Rat.divInt a b ≤ 1 ∧ (Rat.divInt a b).den ≤ b := by
  have hb' : (0 : Rat) < (b : Nat) := Rat.natCast_pos.mpr hb
  have e : Rat.divInt a b = ((a : Nat) : Rat) / ((b : Nat) : Rat) := Rat.divInt_eq_div a b
  refine ⟨Rat.divInt_nonneg (by omega) (by omega), ?_, ?_⟩
  · rw [e]
    have h1 : ((a : Nat) : Rat) ≤ ((b : Nat) : Rat) := Rat.natCast_le_natCast.mpr hab
    have h2 : ((a : Nat) : Rat) / ((b : Nat) : Rat) * ((b : Nat) : Rat) = ((a : Nat) : Rat) := Rat.div_mul_cancel (by grind)
    refine Rat.le_of_mul_le_mul_right (c := ((b : Nat) : Rat)) ?_ hb'
    rw [h2, Rat.one_mul]; exact h1
  · rw [Rat.den_divInt, if_neg (by omega)]
    exact Nat.div_le_self _ _
theorem one_sub : (1 - q).num = q.den - q.num ∧ (1 - q).den = q.den := by
  have hc : Nat.gcd ((q.den : Int) - q.num).natAbs q.den = 1 := by
    have h1 : Int.gcd ((q.den : Int) - q.num) q.den = 1 := by
      rw [Int.gcd_comm, Int.gcd_sub_left_right_of_dvd _ (Int.dvd_refl _), Int.gcd_comm]
      exact num_den_gcd
    exact h1
  have e : 1 - q = ⟨(q.den : Int) - q.num, q.den, q.den_nz, hc⟩ := by
    rw [Rat.sub_def', Rat.mk_eq_mkRat]
    simp
  rw [e]; exact ⟨rfl, rfl⟩
theorem half_rt : ((1 : Rat) / 2).num = 1 ∧ ((1 : Rat) / 2).den = 2 := by
  have e : (1 : Rat) / 2 = Rat.divInt 1 2 := (Rat.divInt_eq_div 1 2).symm
  rw [e, Rat.num_divInt, Rat.den_divInt]
  exact ⟨rfl, rfl⟩
/-- bits of a ratio -/
structure Bd (k : Nat) (q : Rat) : Prop where
  num : BB k q.num
  den : q.den < 2 ^ k
theorem Bd.mono {k l : Nat} (h : Bd k q) (hl : k ≤ l) : Bd l q := ⟨h.num.mono hl, Nat.lt_of_lt_of_le h.den (Nat.pow_le_pow_right (by decide) hl)⟩
theorem bd_divInt {k : Nat} (ha : BB k a) (hb : BB k b) (h0 : b ≠ 0) : Bd k (Rat.divInt a b) := by
  refine ⟨?_, ?_⟩
  · rw [Rat.num_divInt]
    unfold BB at *
    have h1 := Int.natAbs_ediv_le_natAbs (b.sign * a) (Int.gcd b a : Int)
    have h2 : (b.sign * a).natAbs = a.natAbs := by
      rw [Int.natAbs_mul, Int.natAbs_sign_of_ne_zero h0, Nat.one_mul]
    omega
  · rw [Rat.den_divInt, if_neg h0]
    exact Nat.lt_of_le_of_lt (Nat.div_le_self _ _) hb
theorem add_divInt : p + q = Rat.divInt (p.num * q.den + q.num * p.den) ((p.den : Int) * q.den) := by
  rw [Rat.add_def', ← Int.natCast_mul]
  exact (Rat.divInt_ofNat ..).symm
theorem Bd.add {k l : Nat} (h : Bd k p) (g : Bd l q) : Bd (k + l + 1) (p + q) := by
  have b1 : BB k ((p.den : Nat) : Int) := by unfold BB; rw [Int.natAbs_natCast]; exact h.den
  have b2 : BB l ((q.den : Nat) : Int) := by unfold BB; rw [Int.natAbs_natCast]; exact g.den
  rw [add_divInt]
  refine bd_divInt ?_ ((b1.mul b2).mono (by omega)) ?_
  · exact ((h.num.mul b2).add (g.num.mul b1)).mono (by omega)
  · have h1 := p.den_nz
    have h2 := q.den_nz
    exact Int.mul_ne_zero (by omega) (by omega)
theorem Bd.neg {k : Nat} (h : Bd k q) : Bd k (-q) := ⟨by rw [Rat.neg_num]; unfold BB; rw [Int.natAbs_neg]; exact h.num, by rw [Rat.neg_den]; exact h.den⟩
/-- the whole top of a share over a bottom that its own divides -/
theorem num_mul_div {B : Nat} (h : q.den ∣ B) (h0 : B ≠ 0) : ((q.num * ((B / q.den : Nat) : Int) : Int) : Rat) = q * (B : Nat) := by
  obtain ⟨k, rfl⟩ := h
  rw [Nat.mul_div_cancel_left _ den_pos]
  have h1 : (q.num : Rat) = q * (q.den : Nat) := by
    have := Rat.num_divInt_den q
    rw [Rat.divInt_eq_div] at this
    have hd : ((q.den : Int) : Rat) ≠ 0 := by
      intro z
      have z1 : (q.den : Int) = 0 := Rat.intCast_eq_zero_iff.mp z
      have := q.den_nz; omega
    have h2 := Rat.div_mul_cancel (a := (q.num : Rat)) hd
    rw [this] at h2
    exact h2.symm
  rw [Rat.intCast_mul, h1, Rat.natCast_mul]
  have : (((k : Nat) : Int) : Rat) = (k : Rat) := rfl
  rw [this, Rat.mul_assoc]
end
end DL

set_option Elab.async false
set_option linter.all false
set_option maxRecDepth 100000
set_option maxHeartbeats 4000000
/-! DenV: odd lots, their excess, the worst one (plain). -/
namespace DL
/-- the weights of a part -/
def wsum (c : List Nat) (p : Nat → Bool) (w : Nat → Rat) : Rat := (c.map fun b => if p b = true then w b else 0).sum
section
variable {c : List Nat} {p p' : Nat → Bool} {w : Nat → Rat} {q : Nat → Rat} {b b0 : Nat} {d : Rat}
theorem wsum_nil : wsum [] p w = 0 := rfl
theorem wsum_cons : wsum (b :: c) p w = (if p b = true then w b else 0) + wsum c p w := rfl
theorem wsum_le : ∀ {c : List Nat}, (∀ b ∈ c, (if p b = true then w b else 0) ≤ (if p' b = true then w b else 0)) → wsum c p w ≤ wsum c p' w
  | [], _ => Rat.le_refl
  | b :: c, h => by
    rw [wsum_cons, wsum_cons]
    have h1 := h b List.mem_cons_self
    have h2 := wsum_le (c := c) fun b hb => h b (List.mem_cons_of_mem _ hb)
    grind
theorem wsum_drop : ∀ {c : List Nat}, (∀ b ∈ c, (if p b = true then w b else 0) ≤ (if p' b = true then w b else 0)) → b0 ∈ c → (if p b0 = true then w b0 else 0) ≤ (if p' b0 = true then w b0 else 0) - d → wsum c p w ≤ wsum c p' w - d
  | [], _, hb, _ => by cases hb
  | b :: c, h, hb, hd => by
    rw [wsum_cons, wsum_cons]
    have h1 := h b List.mem_cons_self
    have h2 := wsum_le (c := c) fun b hb => h b (List.mem_cons_of_mem _ hb)
    by_cases e : b = b0
    · subst e; grind
    · have hb' : b0 ∈ c := by
        rcases List.mem_cons.mp hb with z | z
        · exact absurd z.symm e
        · exact z
      have h3 := wsum_drop (c := c) (fun b hb => h b (List.mem_cons_of_mem _ hb)) hb' hd
      grind
theorem wsum_congr : ∀ {c : List Nat}, (∀ b ∈ c, p b = p' b) → wsum c p w = wsum c p' w
  | [], _ => rfl
  | b :: c, h => by
    rw [wsum_cons, wsum_cons, h b List.mem_cons_self, wsum_congr (c := c) fun b hb => h b (List.mem_cons_of_mem _ hb)]
theorem wsum_xor : ∀ {c : List Nat}, c.Nodup → b ∈ c → wsum c (fun x => p x ^^ decide (x = b)) w = wsum c p w + (if p b = true then - w b else w b)
  | [], _, hb => by cases hb
  | a :: c, hn, hb => by
    obtain ⟨ha, hn⟩ := List.nodup_cons.mp hn
    rw [wsum_cons, wsum_cons]
    by_cases e : a = b
    · subst e
      have h2 : wsum c (fun x => p x ^^ decide (x = a)) w = wsum c p w := wsum_congr fun x hx => by
        have : ¬ x = a := fun z => ha (z ▸ hx)
        simp [this]
      rw [h2]
      cases p a <;> simp <;> grind
    · have hb' : b ∈ c := by
        rcases List.mem_cons.mp hb with z | z
        · exact absurd z.symm e
        · exact z
      rw [wsum_xor hn hb']
      simp [e]
      grind
theorem len_xor : ∀ {c : List Nat}, c.Nodup → b ∈ c → ((c.filter fun x => p x ^^ decide (x = b)).length + (c.filter p).length) % 2 = 1
  | [], _, hb => by cases hb
  | a :: c, hn, hb => by
    obtain ⟨ha, hn⟩ := List.nodup_cons.mp hn
    by_cases e : a = b
    · subst e
      have h2 : c.filter (fun x => p x ^^ decide (x = a)) = c.filter p := List.filter_congr fun x hx => by
        have : ¬ x = a := fun z => ha (z ▸ hx)
        simp [this]
      rw [List.filter_cons, List.filter_cons, h2]
      cases p a <;> simp <;> omega
    · have hb' : b ∈ c := by
        rcases List.mem_cons.mp hb with z | z
        · exact absurd z.symm e
        · exact z
      have ih := len_xor hn hb'
      rw [List.filter_cons, List.filter_cons]
      cases hp : p a <;> simp [e] <;> omega
theorem par_diff (h : (c.filter p).length % 2 ≠ (c.filter p').length % 2) : ∃ b, b ∈ c ∧ p b ≠ p' b := by
  by_cases e : ∃ b, b ∈ c ∧ p b ≠ p' b
  · exact e
  · refine absurd ?_ h
    have : c.filter p = c.filter p' := List.filter_congr fun x hx => by
      by_cases z : p x = p' x
      · exact z
      · exact absurd ⟨x, hx, z⟩ e
    rw [this]
/-- the excess of a lot -/
def exc (c : List Nat) (p : Nat → Bool) (q : Nat → Rat) : Rat := 1 + (c.map fun b => if p b = true then q b - 1 else - q b).sum
theorem exc_wsum : exc c p q = 1 - (c.map q).sum + wsum c p fun b => 2 * q b - 1 := by
  unfold exc
  suffices h : (c.map fun b => if p b = true then q b - 1 else - q b).sum = wsum c p (fun b => 2 * q b - 1) - (c.map q).sum by rw [h]; grind
  induction c with
  | nil => simp [wsum_nil]; grind
  | cons b c ih =>
    rw [List.map_cons, List.sum_cons, ih, wsum_cons, List.map_cons, List.sum_cons]
    split <;> grind
theorem exc_congr (h : ∀ b ∈ c, p b = p' b) : exc c p q = exc c p' q := by rw [exc_wsum, exc_wsum, wsum_congr h]
theorem exc_len : exc c p q = (1 - ((c.filter p).length : Nat)) + (c.map fun b => if p b = true then q b else - q b).sum := by
  unfold exc
  suffices h : (c.map fun b => if p b = true then q b - 1 else - q b).sum = (c.map fun b => if p b = true then q b else - q b).sum - ((c.filter p).length : Nat) by rw [h]; grind
  induction c with
  | nil => simp; grind
  | cons b c ih =>
    rw [List.map_cons, List.sum_cons, ih, List.map_cons, List.sum_cons, List.filter_cons]
    split
    · rw [List.length_cons, Rat.natCast_add]
      have : ((1 : Nat) : Rat) = 1 := rfl
      rw [this]; grind
    · grind
/-! the worst lot -/
def hiP (q : Nat → Rat) (b : Nat) : Bool := decide (1 < 2 * q b)
def haP (q : Nat → Rat) (b : Nat) : Bool := decide (2 * q b = 1)
def ab (x : Rat) : Rat := if x < 0 then -x else x
def leP (c : List Nat) (q : Nat → Rat) (b : Nat) : Bool := c.all fun x => decide (ab (2 * q b - 1) ≤ ab (2 * q x - 1))
/-- the bit that is turned where the high bits are even in number -/
def turned (c : List Nat) (q : Nat → Rat) : Option Nat :=
  match c.filter (haP q) with
  | h :: _ => some h
  | [] => match (c.filter fun b => leP c q b && hiP q b).getLast? with
    | some b => some b
    | none => (c.filter (leP c q)).head?
def wpred (c : List Nat) (q : Nat → Rat) : Nat → Bool :=
  if (c.filter (hiP q)).length % 2 = 1 then hiP q else match turned c q with
    | some b => fun x => hiP q x ^^ decide (x = b)
    | none => hiP q
def worst (c : List Nat) (q : Nat → Rat) : List Nat := c.filter (wpred c q)
theorem le_ex (f : Nat → Rat) : ∀ {c : List Nat}, c ≠ [] → ∃ b, b ∈ c ∧ ∀ x ∈ c, f b ≤ f x
  | [], h => absurd rfl h
  | [a], _ => ⟨a, by simp, fun x hx => by simp at hx; subst hx; exact Rat.le_refl⟩
  | a :: b :: c, _ => by
    obtain ⟨m, hm, hl⟩ := le_ex f (c := b :: c) (by simp)
    by_cases e : f a ≤ f m
    · refine ⟨a, by simp, fun x hx => ?_⟩
      rcases List.mem_cons.mp hx with rfl | hx
      · exact Rat.le_refl
      · exact Rat.le_trans e (hl x hx)
    · refine ⟨m, List.mem_cons_of_mem _ hm, fun x hx => ?_⟩
      rcases List.mem_cons.mp hx with rfl | hx
      · grind
      · exact hl x hx
theorem ha_gap (h : haP q b = true) : ab (2 * q b - 1) = 0 := by
  unfold haP at h; unfold ab
  have := of_decide_eq_true h
  rw [if_neg] <;> grind
theorem ab_nonneg {x : Rat} : 0 ≤ ab x := by unfold ab; split <;> grind
theorem turned_some (hc : c ≠ []) : ∃ b, turned c q = some b ∧ b ∈ c ∧ ∀ x ∈ c, ab (2 * q b - 1) ≤ ab (2 * q x - 1) := by
  unfold turned
  split
  · rename_i h t e
    have hm : h ∈ c.filter (haP q) := by rw [e]; simp
    obtain ⟨h1, h2⟩ := List.mem_filter.mp hm
    refine ⟨h, rfl, h1, fun x hx => ?_⟩
    rw [ha_gap h2]; exact ab_nonneg
  · split
    · rename_i e b eb
      have hm := List.mem_of_getLast? eb
      obtain ⟨h1, h2⟩ := List.mem_filter.mp hm
      rw [Bool.and_eq_true] at h2
      refine ⟨b, rfl, h1, fun x hx => ?_⟩
      exact of_decide_eq_true (List.all_eq_true.mp h2.1 x hx)
    · obtain ⟨m, hm, hl⟩ := le_ex (fun b => ab (2 * q b - 1)) hc
      have h1 : m ∈ c.filter (leP c q) := List.mem_filter.mpr ⟨hm, List.all_eq_true.mpr fun x hx => decide_eq_true (hl x hx)⟩
      cases e : c.filter (leP c q) with
      | nil => rw [e] at h1; cases h1
      | cons b t =>
        have hb : b ∈ c.filter (leP c q) := by rw [e]; simp
        obtain ⟨h2, h3⟩ := List.mem_filter.mp hb
        exact ⟨b, rfl, h2, fun x hx => of_decide_eq_true (List.all_eq_true.mp h3 x hx)⟩
theorem worst_odd (hc : c ≠ []) (hn : c.Nodup) : (worst c q).length % 2 = 1 := by
  unfold worst wpred
  split
  · rename_i h; exact h
  · rename_i h
    obtain ⟨b, e, hb, _⟩ := turned_some (q := q) hc
    rw [e]
    have := len_xor (p := hiP q) hn hb
    simp only
    omega
theorem worst_sub : ∀ b ∈ worst c q, b ∈ c := fun b hb => (List.mem_filter.mp hb).1
theorem worst_lt (h : c.Pairwise (· < ·)) : (worst c q).Pairwise (· < ·) := h.filter _
theorem mem_worst (hb : b ∈ c) : decide (b ∈ worst c q) = wpred c q b := by
  cases e : wpred c q b with
  | true => exact decide_eq_true (List.mem_filter.mpr ⟨hb, e⟩)
  | false =>
    refine decide_eq_false fun z => ?_
    have := (List.mem_filter.mp z).2
    rw [e] at this; cases this
theorem hi_le (x : Nat) : (if p x = true then 2 * q x - 1 else 0) ≤ (if hiP q x = true then 2 * q x - 1 else 0) := by
  unfold hiP
  by_cases h : 1 < 2 * q x
  · simp [h]; split <;> grind
  · simp [h]; split <;> grind
theorem worst_max (hn : c.Nodup) (ho : (c.filter p).length % 2 = 1) : exc c p q ≤ exc c (wpred c q) q := by
  have hc : c ≠ [] := fun z => by rw [z] at ho; simp at ho
  rw [exc_wsum, exc_wsum]
  suffices h : wsum c p (fun b => 2 * q b - 1) ≤ wsum c (wpred c q) (fun b => 2 * q b - 1) by grind
  unfold wpred
  split
  · exact wsum_le fun b _ => hi_le b
  · rename_i h
    obtain ⟨b, e, hb, hl⟩ := turned_some (q := q) hc
    rw [e]
    simp only
    rw [wsum_xor hn hb]
    obtain ⟨b0, hb0, hd⟩ := par_diff (p := p) (p' := hiP q) (c := c) (by omega)
    have h1 := wsum_drop (p := p) (p' := hiP q) (w := fun b => 2 * q b - 1) (c := c) (b0 := b0) (d := ab (2 * q b0 - 1)) (fun b _ => hi_le b) hb0 (by
      cases h1 : p b0 with
      | true =>
        have h2 : hiP q b0 = false := by cases h3 : hiP q b0 <;> simp_all
        rw [h2]
        have h4 := of_decide_eq_false h2
        simp only [if_true, Bool.false_eq_true, if_false]
        unfold ab; split <;> grind
      | false =>
        have h2 : hiP q b0 = true := by cases h3 : hiP q b0 <;> simp_all
        rw [h2]
        have h4 := of_decide_eq_true h2
        simp only [if_true, Bool.false_eq_true, if_false]
        unfold ab; split <;> grind)
    have h2 := hl b0 hb0
    have h3 : (if hiP q b = true then - (2 * q b - 1) else 2 * q b - 1) = - ab (2 * q b - 1) := by
      unfold ab
      cases h4 : hiP q b with
      | true => have := of_decide_eq_true h4; simp only [if_true]; split <;> grind
      | false =>
        have := of_decide_eq_false h4
        simp only [Bool.false_eq_true, if_false]
        split
        · grind
        · grind
    rw [h3]; grind
end
end DL

set_option Elab.async false
set_option linter.all false
set_option maxRecDepth 100000
set_option maxHeartbeats 4000000
/-! DenB: lots by the bits of a number (plain). -/
namespace DL
def bitN (N k : Nat) : Nat := N / 2 ^ k % 2
theorem bitN_lt {N k : Nat} : bitN N k < 2 := Nat.mod_lt _ (by decide)
/-- a number with given bits -/
theorem bits_ex : ∀ bs : List Bool, ∃ N, N < 2 ^ bs.length ∧ ∀ k (h : k < bs.length), bitN N k = if bs[k] = true then 1 else 0
  | [] => ⟨0, by decide, fun k h => by simp at h⟩
  | b :: bs => by
    obtain ⟨N, hN, hb⟩ := bits_ex bs
    refine ⟨2 * N + if b = true then 1 else 0, ?_, fun k h => ?_⟩
    · rw [List.length_cons, Nat.pow_succ]; split <;> omega
    · cases k with
      | zero => unfold bitN; simp; split <;> omega
      | succ k =>
        have := hb k (by simpa using h)
        unfold bitN at *
        rw [List.getElem_cons_succ, ← this, Nat.pow_succ, Nat.mul_comm (2 ^ k) 2, ← Nat.div_div_eq_div_mul]
        congr 2
        split <;> omega
/-- the place of a bit -/
theorem idx_at {c : List Nat} (hn : c.Nodup) {k : Nat} (hk : k < c.length) : c.idxOf c[k] = k := by
  have h1 : c.idxOf c[k] < c.length := List.idxOf_lt_length_iff.mpr (List.getElem_mem hk)
  have h2 : c[c.idxOf c[k]] = c[k] := List.getElem_idxOf h1
  exact (List.getElem_inj hn).mp h2
theorem range_idx {α : Type} {c : List Nat} (hn : c.Nodup) (F : Nat → Nat → α) : (List.range c.length).map (fun k => F (c.getD k 0) k) = c.map fun b => F b (c.idxOf b) := by
  apply List.ext_getElem
  · simp
  · intro k h1 h2
    have hk : k < c.length := by simpa using h2
    simp [hk, idx_at hn hk]
/-- the lot of a number -/
def lotN (c : List Nat) (N : Nat) (b : Nat) : Bool := decide (bitN N (c.idxOf b) = 1)
theorem lotN_len {c : List Nat} (hn : c.Nodup) (N : Nat) : ((List.range c.length).map fun k => bitN N k).sum = (c.filter (lotN c N)).length := by
  have := range_idx hn (fun _ k => bitN N k)
  rw [this]
  suffices h : ∀ d : List Nat, (d.map fun b => bitN N (c.idxOf b)).sum = (d.filter (lotN c N)).length from h c
  intro d
  induction d with
  | nil => rfl
  | cons b d ih =>
    rw [List.map_cons, List.sum_cons, ih, List.filter_cons]
    have := bitN_lt (N := N) (k := c.idxOf b)
    by_cases h : bitN N (c.idxOf b) = 1
    · have h2 : lotN c N b = true := decide_eq_true h
      rw [if_pos h2, h, List.length_cons]; omega
    · have h2 : lotN c N b = false := decide_eq_false h
      rw [if_neg (by rw [h2]; simp)]; omega
theorem lotN_ex {c : List Nat} (hn : c.Nodup) (p : Nat → Bool) : ∃ N, N < 2 ^ c.length ∧ ∀ b ∈ c, lotN c N b = p b := by
  obtain ⟨N, hN, hb⟩ := bits_ex (c.map p)
  refine ⟨N, by simpa using hN, fun b hb' => ?_⟩
  have h1 : c.idxOf b < c.length := List.idxOf_lt_length_iff.mpr hb'
  have h2 := hb (c.idxOf b) (by simpa using h1)
  rw [List.getElem_map, List.getElem_idxOf h1] at h2
  unfold lotN
  rw [h2]
  cases p b <;> simp
/-- a check lets the row by the law's own lots -/
theorem let_iff {c : List Nat} (hc : c.Pairwise (· < ·)) (hne : c ≠ []) (q : Nat → Rat) : (∀ N, N < 2 ^ c.length → (c.filter (lotN c N)).length % 2 = 1 → exc c (lotN c N) q ≤ 0) ↔ exc c (wpred c q) q ≤ 0 := by
  have hn : c.Nodup := hc.imp fun h => by omega
  constructor
  · intro h
    obtain ⟨N, hN, hb⟩ := lotN_ex hn (wpred c q)
    have h1 : c.filter (lotN c N) = c.filter (wpred c q) := List.filter_congr hb
    have h2 := h N hN (by rw [h1]; exact worst_odd hne hn)
    rw [exc_congr hb] at h2
    exact h2
  · intro h N _ ho
    exact Rat.le_trans (worst_max hn ho) h
end DL

set_option Elab.async false
set_option linter.all false
set_option maxRecDepth 100000
set_option maxHeartbeats 4000000
/-! DenG: the least lot whose sum comes to the rest (plain). -/
namespace DL
theorem sub_sum : ∀ {l es : List Nat}, l.Sublist es → l.sum ≤ es.sum := by
  intro l es s
  induction s with
  | slnil => exact Nat.le_refl _
  | cons a s ih => rw [List.sum_cons]; omega
  | cons_cons a s ih => rw [List.sum_cons, List.sum_cons]; omega
def topSum (D : List Nat) (k : Nat) : Nat := (D.take k).sum
theorem topSum_skip {d : Nat} : ∀ {D : List Nat} (k : Nat), (∀ x ∈ D, x ≤ d) → D.Pairwise (· ≥ ·) → topSum D k ≤ topSum (d :: D) k
  | _, 0, _, _ => by simp [topSum]
  | [], k + 1, _, _ => by simp [topSum]
  | e :: D, k + 1, h, hp => by
    have h1 := List.pairwise_cons.mp hp
    have := topSum_skip (d := e) k (fun x hx => h1.1 x hx) h1.2
    have h2 := h e List.mem_cons_self
    have e3 : topSum (d :: e :: D) (k + 1) = d + topSum (e :: D) k := by simp [topSum]
    have e4 : topSum (e :: D) (k + 1) = e + topSum D k := by simp [topSum]
    omega
theorem sub_top : ∀ {l D : List Nat}, l.Sublist D → D.Pairwise (· ≥ ·) → l.sum ≤ topSum D l.length := by
  intro l D s
  induction s with
  | slnil => intro _; simp [topSum]
  | cons a s ih =>
    intro hp
    have h1 := List.pairwise_cons.mp hp
    exact Nat.le_trans (ih h1.2) (topSum_skip _ (fun x hx => h1.1 x hx) h1.2)
  | cons_cons a s ih =>
    intro hp
    have h1 := List.pairwise_cons.mp hp
    have := ih h1.2
    simp only [List.sum_cons, List.length_cons, topSum, List.take_succ_cons] at *
    omega
def picksN (n N : Nat) : List Nat := (List.range n).filter fun b => decide (bitN N b = 1)
def pickE (es : List Nat) (N : Nat) : List Nat := (picksN es.length N).map fun b => es.getD b 0
theorem map_range_getD (es : List Nat) : (List.range es.length).map (fun b => es.getD b 0) = es := by
  refine List.ext_getElem (by simp) fun i h1 h2 => ?_
  rw [List.getElem_map, List.getElem_range, List.getD_eq_getElem?_getD, List.getElem?_eq_getElem h2]; rfl
theorem pickE_sub (es : List Nat) (N : Nat) : (pickE es N).Sublist es := by
  have := (List.filter_sublist (p := fun b => decide (bitN N b = 1)) (l := List.range es.length)).map fun b => es.getD b 0
  rw [map_range_getD] at this
  exact this
theorem pick_le {es D : List Nat} (p : D.Perm es) (hp : D.Pairwise (· ≥ ·)) (N : Nat) : (pickE es N).sum ≤ topSum D (pickE es N).length := by
  obtain ⟨l, pl, sl⟩ := List.exists_perm_sublist (pickE_sub es N) p.symm
  have := sub_top sl hp
  rwa [pl.sum_nat, pl.length_eq] at this
theorem sub_pick : ∀ {l es : List Nat}, l.Sublist es → ∃ p : Nat → Bool, ((List.range es.length).filter p).map (fun b => es.getD b 0) = l := by
  intro l es s
  induction s with
  | slnil => exact ⟨fun _ => false, rfl⟩
  | @cons l es a s ih =>
    obtain ⟨p, hp⟩ := ih
    refine ⟨fun i => match i with | 0 => false | i + 1 => p i, ?_⟩
    rw [List.length_cons, List.range_succ_eq_map, List.filter_cons, List.filter_map]
    simp only [Bool.false_eq_true, if_false, List.map_map]
    rw [← hp]; rfl
  | @cons_cons l es a s ih =>
    obtain ⟨p, hp⟩ := ih
    refine ⟨fun i => match i with | 0 => true | i + 1 => p i, ?_⟩
    rw [List.length_cons, List.range_succ_eq_map, List.filter_cons, List.filter_map]
    simp only [if_true, List.map_cons, List.map_map]
    rw [← hp]; rfl
theorem pick_ex {es D : List Nat} (p : D.Perm es) {k : Nat} (hk : k ≤ es.length) : ∃ N, N < 2 ^ es.length ∧ (pickE es N).length = k ∧ (pickE es N).sum = topSum D k := by
  obtain ⟨l, pl, sl⟩ := List.exists_perm_sublist (List.take_sublist k D) p
  obtain ⟨q, hq⟩ := sub_pick sl
  obtain ⟨N, hN, hb⟩ := bits_ex ((List.range es.length).map q)
  have hl : ((List.range es.length).map q).length = es.length := by simp
  rw [hl] at hN
  have e : pickE es N = l := by
    rw [← hq, pickE, picksN]
    congr 1
    refine List.filter_congr fun b hm => ?_
    rw [List.mem_range] at hm
    have := hb b (by simpa using hm)
    rw [this]
    simp
  refine ⟨N, hN, ?_, ?_⟩
  · rw [e, pl.length_eq, List.length_take, p.length_eq]; omega
  · rw [e, pl.sum_nat]; rfl
/-- the greedy count -/
def barsG (T : Nat) : List Nat → Nat → Nat → Nat
  | [], _, m => m
  | e :: r, t, m => if T ≤ 2 * t then m else barsG T r (t + e) (m + 1)
theorem barsG_min (T : Nat) : ∀ (r : List Nat) (t m : Nat), T ≤ 2 * (t + r.sum) → ∃ j, barsG T r t m = m + j ∧ j ≤ r.length ∧ T ≤ 2 * (t + topSum r j) ∧ ∀ k, T ≤ 2 * (t + topSum r k) → j ≤ k
  | [], t, m, h => ⟨0, rfl, Nat.le_refl _, by simpa [topSum] using h, fun _ _ => Nat.zero_le _⟩
  | e :: r, t, m, h => by
    unfold barsG
    by_cases c : T ≤ 2 * t
    · rw [if_pos c]
      exact ⟨0, rfl, Nat.zero_le _, by simp only [topSum, List.take_zero, List.sum_nil]; omega, fun _ _ => Nat.zero_le _⟩
    · rw [if_neg c]
      obtain ⟨j, e1, e2, e3, e4⟩ := barsG_min T r (t + e) (m + 1) (by rw [List.sum_cons] at h; omega)
      have st : ∀ k, topSum (e :: r) (k + 1) = e + topSum r k := fun k => by simp [topSum]
      refine ⟨j + 1, by omega, by rw [List.length_cons]; omega, by rw [st]; omega, fun k hk => ?_⟩
      cases k with
      | zero => simp only [topSum, List.take_zero, List.sum_nil] at hk; omega
      | succ k => rw [st] at hk; have := e4 k (by omega); omega
/-- what the law finds is what the greedy count finds -/
theorem bars_eq {es D : List Nat} (p : D.Perm es) (hp : D.Pairwise (· ≥ ·)) {l : Nat} (h1 : l = es.length ∨ ∃ N, N < 2 ^ es.length ∧ (pickE es N).length = l ∧ es.sum ≤ 2 * (pickE es N).sum)
    (hl : l ≤ es.length) (h2 : ∀ N, N < 2 ^ es.length → es.sum ≤ 2 * (pickE es N).sum → l ≤ (pickE es N).length) : barsG es.sum D 0 0 = l := by
  obtain ⟨j, e1, e2, e3, e4⟩ := barsG_min es.sum D 0 0 (by rw [p.sum_nat]; omega)
  rw [e1, Nat.zero_add]
  rw [p.length_eq] at e2
  simp only [Nat.zero_add] at e3 e4
  obtain ⟨N, a1, a2, a3⟩ := pick_ex p e2
  have b1 := h2 N a1 (by rw [a3]; exact e3)
  have b2 : j ≤ l := by
    rcases h1 with rfl | ⟨N', c1, c2, c3⟩
    · exact e2
    · have := pick_le p hp N'
      rw [c2] at this
      exact e4 l (by omega)
  omega
end DL

set_option Elab.async false
set_option linter.all false
set_option maxRecDepth 100000
set_option maxHeartbeats 4000000
/-! DenH: simp rules for sorted(.., reverse=True) and x += e. -/
namespace DL
section
variable {ns : List Nat}
/-- naturals, descending -/
def srtD (ns : List Nat) : List Nat := (srt ns).reverse
theorem srtD_perm : (srtD ns).Perm ns := (List.reverse_perm _).trans srt_perm
theorem srtD_ge : (srtD ns).Pairwise (· ≥ ·) := List.pairwise_reverse.mpr (srt_le.imp fun h => h)
@[simp] theorem srtD_length : (srtD ns).length = ns.length := srtD_perm.length_eq
theorem srtDn_nats : srtDn (ns.map fun (n : Nat) => (n : Int)) = (srtD ns).map fun (n : Nat) => (n : Int) := by
  rw [srtDn, srtI_nats, srtD, List.map_reverse]
@[simp] theorem sortedDn_nL : sortedDnD [.lst (nats ns)] = some (nats (srtD ns)) := by
  rw [sortedDnD, show seqOf (.lst (nats ns)) = some (nats ns) from rfl, Option.bind_some, ints_nats, Option.bind_some, srtDn_nats, List.map_map]; rfl
@[simp] theorem sortedDn_nT : sortedDnD [.tup (nats ns)] = some (nats (srtD ns)) := sortedDn_nL
end
end DL
namespace DL
@[simp] theorem s_raiseFS {cn : PySem.Str} {fs : List PySem.Str} {is : List Nat} {fa : FA} {g : Sg} : raiseFS cn fs is fa g = (fa g).sb fun ds g1 => if ds.length = fs.length ∧ okF is ds = true then .ex (mkE cn fs ds) g1 else .no := rfl
end DL

set_option Elab.async false
set_option linter.all false
set_option maxRecDepth 100000
set_option maxHeartbeats 0
/-! the walk (printed by gen.py) -/
namespace K19
open PySem L2 PySem.Spec PyProof.Rows DL
def top (i : Nat) : Stmt := PySem.Challenge.pw_letbychecks_k19_whole_cone_rows_judged_a.main.body.getD i (.Pass ⟨0, 0, 0, 0⟩)
abbrev s__law_hand : Stmt := top 27
abbrev s__law_mixed : Stmt := top 28
abbrev s__law_take : Stmt := top 29
abbrev s__law_bits : Stmt := top 35
abbrev s__law_lot : Stmt := top 34
abbrev s__law_checks : Stmt := top 36
abbrev s_is_whole : Stmt := top 8
abbrev s_is_sequence : Stmt := top 9
abbrev s_lot_of : Stmt := top 16
abbrev s_Code__init__ : Stmt := inClass (top 17) 0
abbrev s__law_list : Stmt := top 33
abbrev s__law_broken : Stmt := top 37
abbrev s__law_brought_down : Stmt := top 38
abbrev s__law_cone_row : Stmt := top 39
abbrev s__law_bars : Stmt := top 42
abbrev s__law_gcd : Stmt := top 30
abbrev s__law_ratio : Stmt := top 31
abbrev s__law_small : Stmt := top 43
abbrev s__law_exact : Stmt := top 32
abbrev s_check_entries : Stmt := top 19
abbrev s_first_above : Stmt := top 20
abbrev s_check_cone : Stmt := top 22
abbrev s_common_divisor : Stmt := top 10
abbrev s_lowest_terms : Stmt := top 11
abbrev s_make_ratio : Stmt := top 12
abbrev s_small_row : Stmt := top 23
abbrev s_cone_fault : Stmt := top 21
abbrev s_bars_from : Stmt := top 25
abbrev s__law_one : Stmt := top 41
abbrev s__law_judged : Stmt := top 44
abbrev s__law_odd_whole : Stmt := top 40
abbrev s__law_spoilt : Stmt := top 45
abbrev s__law_bad_place : Stmt := top 46
abbrev s__law_refused : Stmt := top 47
abbrev s_law : Stmt := top 48
abbrev sx_BadRatio : Stmt := inClass (top 2) 0
abbrev sx_BadCode : Stmt := inClass (top 3) 0
abbrev sx_BadCone : Stmt := inClass (top 4) 0
abbrev sx_NotCone : Stmt := inClass (top 5) 0
/-! addresses -/
structure Ad where
  f__law_hand : Addr
  fd__law_hand : FuncData
  f__law_mixed : Addr
  fd__law_mixed : FuncData
  f__law_take : Addr
  fd__law_take : FuncData
  f__law_bits : Addr
  fd__law_bits : FuncData
  f__law_lot : Addr
  fd__law_lot : FuncData
  f__law_checks : Addr
  fd__law_checks : FuncData
  f_is_whole : Addr
  fd_is_whole : FuncData
  f_is_sequence : Addr
  fd_is_sequence : FuncData
  f_lot_of : Addr
  fd_lot_of : FuncData
  f_Code__init__ : Addr
  fd_Code__init__ : FuncData
  f__law_list : Addr
  fd__law_list : FuncData
  f__law_broken : Addr
  fd__law_broken : FuncData
  f__law_brought_down : Addr
  fd__law_brought_down : FuncData
  f__law_cone_row : Addr
  fd__law_cone_row : FuncData
  f__law_bars : Addr
  fd__law_bars : FuncData
  f__law_gcd : Addr
  fd__law_gcd : FuncData
  f__law_ratio : Addr
  fd__law_ratio : FuncData
  f__law_small : Addr
  fd__law_small : FuncData
  f__law_exact : Addr
  fd__law_exact : FuncData
  f_check_entries : Addr
  fd_check_entries : FuncData
  f_first_above : Addr
  fd_first_above : FuncData
  f_check_cone : Addr
  fd_check_cone : FuncData
  f_common_divisor : Addr
  fd_common_divisor : FuncData
  f_lowest_terms : Addr
  fd_lowest_terms : FuncData
  f_make_ratio : Addr
  fd_make_ratio : FuncData
  f_small_row : Addr
  fd_small_row : FuncData
  f_cone_fault : Addr
  fd_cone_fault : FuncData
  f_bars_from : Addr
  fd_bars_from : FuncData
  f__law_one : Addr
  fd__law_one : FuncData
  f__law_judged : Addr
  fd__law_judged : FuncData
  f__law_odd_whole : Addr
  fd__law_odd_whole : FuncData
  f__law_spoilt : Addr
  fd__law_spoilt : FuncData
  f__law_bad_place : Addr
  fd__law_bad_place : FuncData
  f__law_refused : Addr
  fd__law_refused : FuncData
  f_law : Addr
  fd_law : FuncData
  c_CodeError : Addr
  c_BadRatio : Addr
  fi_BadRatio : Addr
  fdi_BadRatio : FuncData
  c_BadCode : Addr
  fi_BadCode : Addr
  fdi_BadCode : FuncData
  c_BadCone : Addr
  fi_BadCone : Addr
  fdi_BadCone : FuncData
  c_NotCone : Addr
  fi_NotCone : Addr
  fdi_NotCone : FuncData
  c_Code : Addr
  a_ZERO : Value
  a_MOST_BITS : Value
  a_MOST_CHECKS : Value
  dummy : Unit := ()
abbrev k_ZERO : D := (.tup [(.int 0), (.int 1)])
abbrev k_MOST_BITS : D := (.int 10)
abbrev k_MOST_CHECKS : D := (.int 63)
/-! what the top has written -/
structure Tx (K : PySem.W.Frag) (mg : Str → Option Value) (A : Ad) : Prop where
  m__law_hand : mg "_law_hand" = some (.ref A.f__law_hand)
  k__law_hand : PySem.W.keepIn K (.ref A.f__law_hand) = true
  F__law_hand : FunD K "_law_hand" "_law_hand" (defArgs s__law_hand) (defBody s__law_hand) (defScope s__law_hand) [] [] A.f__law_hand A.fd__law_hand
  m__law_mixed : mg "_law_mixed" = some (.ref A.f__law_mixed)
  k__law_mixed : PySem.W.keepIn K (.ref A.f__law_mixed) = true
  F__law_mixed : FunD K "_law_mixed" "_law_mixed" (defArgs s__law_mixed) (defBody s__law_mixed) (defScope s__law_mixed) [] [] A.f__law_mixed A.fd__law_mixed
  m__law_take : mg "_law_take" = some (.ref A.f__law_take)
  k__law_take : PySem.W.keepIn K (.ref A.f__law_take) = true
  F__law_take : FunD K "_law_take" "_law_take" (defArgs s__law_take) (defBody s__law_take) (defScope s__law_take) [] [] A.f__law_take A.fd__law_take
  m__law_bits : mg "_law_bits" = some (.ref A.f__law_bits)
  k__law_bits : PySem.W.keepIn K (.ref A.f__law_bits) = true
  F__law_bits : FunD K "_law_bits" "_law_bits" (defArgs s__law_bits) (defBody s__law_bits) (defScope s__law_bits) [] [] A.f__law_bits A.fd__law_bits
  m__law_lot : mg "_law_lot" = some (.ref A.f__law_lot)
  k__law_lot : PySem.W.keepIn K (.ref A.f__law_lot) = true
  F__law_lot : FunD K "_law_lot" "_law_lot" (defArgs s__law_lot) (defBody s__law_lot) (defScope s__law_lot) [] [] A.f__law_lot A.fd__law_lot
  m__law_checks : mg "_law_checks" = some (.ref A.f__law_checks)
  k__law_checks : PySem.W.keepIn K (.ref A.f__law_checks) = true
  F__law_checks : FunD K "_law_checks" "_law_checks" (defArgs s__law_checks) (defBody s__law_checks) (defScope s__law_checks) [] [] A.f__law_checks A.fd__law_checks
  m_is_whole : mg "is_whole" = some (.ref A.f_is_whole)
  k_is_whole : PySem.W.keepIn K (.ref A.f_is_whole) = true
  F_is_whole : FunD K "is_whole" "is_whole" (defArgs s_is_whole) (defBody s_is_whole) (defScope s_is_whole) [.non, .non] [] A.f_is_whole A.fd_is_whole
  m_is_sequence : mg "is_sequence" = some (.ref A.f_is_sequence)
  k_is_sequence : PySem.W.keepIn K (.ref A.f_is_sequence) = true
  F_is_sequence : FunD K "is_sequence" "is_sequence" (defArgs s_is_sequence) (defBody s_is_sequence) (defScope s_is_sequence) [] [] A.f_is_sequence A.fd_is_sequence
  m_lot_of : mg "lot_of" = some (.ref A.f_lot_of)
  k_lot_of : PySem.W.keepIn K (.ref A.f_lot_of) = true
  F_lot_of : FunD K "lot_of" "lot_of" (defArgs s_lot_of) (defBody s_lot_of) (defScope s_lot_of) [] [] A.f_lot_of A.fd_lot_of
  F_Code__init__ : FunD K "__init__" "Code.__init__" (defArgs s_Code__init__) (defBody s_Code__init__) (defScope s_Code__init__) [] [] A.f_Code__init__ A.fd_Code__init__
  m__law_list : mg "_law_list" = some (.ref A.f__law_list)
  k__law_list : PySem.W.keepIn K (.ref A.f__law_list) = true
  F__law_list : FunD K "_law_list" "_law_list" (defArgs s__law_list) (defBody s__law_list) (defScope s__law_list) [] [] A.f__law_list A.fd__law_list
  m__law_broken : mg "_law_broken" = some (.ref A.f__law_broken)
  k__law_broken : PySem.W.keepIn K (.ref A.f__law_broken) = true
  F__law_broken : FunD K "_law_broken" "_law_broken" (defArgs s__law_broken) (defBody s__law_broken) (defScope s__law_broken) [] [] A.f__law_broken A.fd__law_broken
  m__law_brought_down : mg "_law_brought_down" = some (.ref A.f__law_brought_down)
  k__law_brought_down : PySem.W.keepIn K (.ref A.f__law_brought_down) = true
  F__law_brought_down : FunD K "_law_brought_down" "_law_brought_down" (defArgs s__law_brought_down) (defBody s__law_brought_down) (defScope s__law_brought_down) [] [] A.f__law_brought_down A.fd__law_brought_down
  m__law_cone_row : mg "_law_cone_row" = some (.ref A.f__law_cone_row)
  k__law_cone_row : PySem.W.keepIn K (.ref A.f__law_cone_row) = true
  F__law_cone_row : FunD K "_law_cone_row" "_law_cone_row" (defArgs s__law_cone_row) (defBody s__law_cone_row) (defScope s__law_cone_row) [] [] A.f__law_cone_row A.fd__law_cone_row
  m__law_bars : mg "_law_bars" = some (.ref A.f__law_bars)
  k__law_bars : PySem.W.keepIn K (.ref A.f__law_bars) = true
  F__law_bars : FunD K "_law_bars" "_law_bars" (defArgs s__law_bars) (defBody s__law_bars) (defScope s__law_bars) [] [] A.f__law_bars A.fd__law_bars
  m__law_gcd : mg "_law_gcd" = some (.ref A.f__law_gcd)
  k__law_gcd : PySem.W.keepIn K (.ref A.f__law_gcd) = true
  F__law_gcd : FunD K "_law_gcd" "_law_gcd" (defArgs s__law_gcd) (defBody s__law_gcd) (defScope s__law_gcd) [] [] A.f__law_gcd A.fd__law_gcd
  m__law_ratio : mg "_law_ratio" = some (.ref A.f__law_ratio)
  k__law_ratio : PySem.W.keepIn K (.ref A.f__law_ratio) = true
  F__law_ratio : FunD K "_law_ratio" "_law_ratio" (defArgs s__law_ratio) (defBody s__law_ratio) (defScope s__law_ratio) [] [] A.f__law_ratio A.fd__law_ratio
  m__law_small : mg "_law_small" = some (.ref A.f__law_small)
  k__law_small : PySem.W.keepIn K (.ref A.f__law_small) = true
  F__law_small : FunD K "_law_small" "_law_small" (defArgs s__law_small) (defBody s__law_small) (defScope s__law_small) [] [] A.f__law_small A.fd__law_small
  m__law_exact : mg "_law_exact" = some (.ref A.f__law_exact)
  k__law_exact : PySem.W.keepIn K (.ref A.f__law_exact) = true
  F__law_exact : FunD K "_law_exact" "_law_exact" (defArgs s__law_exact) (defBody s__law_exact) (defScope s__law_exact) [] [] A.f__law_exact A.fd__law_exact
  m_check_entries : mg "check_entries" = some (.ref A.f_check_entries)
  k_check_entries : PySem.W.keepIn K (.ref A.f_check_entries) = true
  F_check_entries : FunD K "check_entries" "check_entries" (defArgs s_check_entries) (defBody s_check_entries) (defScope s_check_entries) [] [] A.f_check_entries A.fd_check_entries
  m_first_above : mg "first_above" = some (.ref A.f_first_above)
  k_first_above : PySem.W.keepIn K (.ref A.f_first_above) = true
  F_first_above : FunD K "first_above" "first_above" (defArgs s_first_above) (defBody s_first_above) (defScope s_first_above) [] [] A.f_first_above A.fd_first_above
  m_check_cone : mg "check_cone" = some (.ref A.f_check_cone)
  k_check_cone : PySem.W.keepIn K (.ref A.f_check_cone) = true
  F_check_cone : FunD K "check_cone" "check_cone" (defArgs s_check_cone) (defBody s_check_cone) (defScope s_check_cone) [] [] A.f_check_cone A.fd_check_cone
  m_common_divisor : mg "common_divisor" = some (.ref A.f_common_divisor)
  k_common_divisor : PySem.W.keepIn K (.ref A.f_common_divisor) = true
  F_common_divisor : FunD K "common_divisor" "common_divisor" (defArgs s_common_divisor) (defBody s_common_divisor) (defScope s_common_divisor) [] [] A.f_common_divisor A.fd_common_divisor
  m_lowest_terms : mg "lowest_terms" = some (.ref A.f_lowest_terms)
  k_lowest_terms : PySem.W.keepIn K (.ref A.f_lowest_terms) = true
  F_lowest_terms : FunD K "lowest_terms" "lowest_terms" (defArgs s_lowest_terms) (defBody s_lowest_terms) (defScope s_lowest_terms) [] [] A.f_lowest_terms A.fd_lowest_terms
  m_make_ratio : mg "make_ratio" = some (.ref A.f_make_ratio)
  k_make_ratio : PySem.W.keepIn K (.ref A.f_make_ratio) = true
  F_make_ratio : FunD K "make_ratio" "make_ratio" (defArgs s_make_ratio) (defBody s_make_ratio) (defScope s_make_ratio) [(.int 1)] [] A.f_make_ratio A.fd_make_ratio
  m_small_row : mg "small_row" = some (.ref A.f_small_row)
  k_small_row : PySem.W.keepIn K (.ref A.f_small_row) = true
  F_small_row : FunD K "small_row" "small_row" (defArgs s_small_row) (defBody s_small_row) (defScope s_small_row) [] [] A.f_small_row A.fd_small_row
  m_cone_fault : mg "cone_fault" = some (.ref A.f_cone_fault)
  k_cone_fault : PySem.W.keepIn K (.ref A.f_cone_fault) = true
  F_cone_fault : FunD K "cone_fault" "cone_fault" (defArgs s_cone_fault) (defBody s_cone_fault) (defScope s_cone_fault) [] [] A.f_cone_fault A.fd_cone_fault
  m_bars_from : mg "bars_from" = some (.ref A.f_bars_from)
  k_bars_from : PySem.W.keepIn K (.ref A.f_bars_from) = true
  F_bars_from : FunD K "bars_from" "bars_from" (defArgs s_bars_from) (defBody s_bars_from) (defScope s_bars_from) [] [] A.f_bars_from A.fd_bars_from
  m__law_one : mg "_law_one" = some (.ref A.f__law_one)
  k__law_one : PySem.W.keepIn K (.ref A.f__law_one) = true
  F__law_one : FunD K "_law_one" "_law_one" (defArgs s__law_one) (defBody s__law_one) (defScope s__law_one) [] [] A.f__law_one A.fd__law_one
  m__law_judged : mg "_law_judged" = some (.ref A.f__law_judged)
  k__law_judged : PySem.W.keepIn K (.ref A.f__law_judged) = true
  F__law_judged : FunD K "_law_judged" "_law_judged" (defArgs s__law_judged) (defBody s__law_judged) (defScope s__law_judged) [] [] A.f__law_judged A.fd__law_judged
  m__law_odd_whole : mg "_law_odd_whole" = some (.ref A.f__law_odd_whole)
  k__law_odd_whole : PySem.W.keepIn K (.ref A.f__law_odd_whole) = true
  F__law_odd_whole : FunD K "_law_odd_whole" "_law_odd_whole" (defArgs s__law_odd_whole) (defBody s__law_odd_whole) (defScope s__law_odd_whole) [] [] A.f__law_odd_whole A.fd__law_odd_whole
  m__law_spoilt : mg "_law_spoilt" = some (.ref A.f__law_spoilt)
  k__law_spoilt : PySem.W.keepIn K (.ref A.f__law_spoilt) = true
  F__law_spoilt : FunD K "_law_spoilt" "_law_spoilt" (defArgs s__law_spoilt) (defBody s__law_spoilt) (defScope s__law_spoilt) [] [] A.f__law_spoilt A.fd__law_spoilt
  m__law_bad_place : mg "_law_bad_place" = some (.ref A.f__law_bad_place)
  k__law_bad_place : PySem.W.keepIn K (.ref A.f__law_bad_place) = true
  F__law_bad_place : FunD K "_law_bad_place" "_law_bad_place" (defArgs s__law_bad_place) (defBody s__law_bad_place) (defScope s__law_bad_place) [] [] A.f__law_bad_place A.fd__law_bad_place
  m__law_refused : mg "_law_refused" = some (.ref A.f__law_refused)
  k__law_refused : PySem.W.keepIn K (.ref A.f__law_refused) = true
  F__law_refused : FunD K "_law_refused" "_law_refused" (defArgs s__law_refused) (defBody s__law_refused) (defScope s__law_refused) [] [] A.f__law_refused A.fd__law_refused
  m_law : mg "law" = some (.ref A.f_law)
  k_law : PySem.W.keepIn K (.ref A.f_law) = true
  F_law : FunD K "law" "law" (defArgs s_law) (defBody s_law) (defScope s_law) [] [] A.f_law A.fd_law
  z_ValueError : mg "ValueError" = none
  z_abs : mg "abs" = none
  z_bool : mg "bool" = none
  z_enumerate : mg "enumerate" = none
  z_int : mg "int" = none
  z_isinstance : mg "isinstance" = none
  z_len : mg "len" = none
  z_list : mg "list" = none
  z_min : mg "min" = none
  z_range : mg "range" = none
  z_sorted : mg "sorted" = none
  z_str : mg "str" = none
  z_sum : mg "sum" = none
  z_tuple : mg "tuple" = none
  m_ZERO : mg "ZERO" = some A.a_ZERO
  r_ZERO : ∃ v, RelV v A.a_ZERO ∧ ∀ Fz H, Rep ⟨K, mg⟩ Fz H k_ZERO v
  m_MOST_BITS : mg "MOST_BITS" = some A.a_MOST_BITS
  r_MOST_BITS : ∃ v, RelV v A.a_MOST_BITS ∧ ∀ Fz H, Rep ⟨K, mg⟩ Fz H k_MOST_BITS v
  m_MOST_CHECKS : mg "MOST_CHECKS" = some A.a_MOST_CHECKS
  r_MOST_CHECKS : ∃ v, RelV v A.a_MOST_CHECKS ∧ ∀ Fz H, Rep ⟨K, mg⟩ Fz H k_MOST_CHECKS v
  m_Code : mg "Code" = some (.ref A.c_Code)
  L_Code : Cls K A.c_Code
  M_Code : Mk K A.c_Code A.f_Code__init__
  nf_Code_bits : NoAttr K A.c_Code "bits"
  nf_Code_checks : NoAttr K A.c_Code "checks"
  m_CodeError : mg "CodeError" = some (.ref A.c_CodeError)
  m_BadRatio : mg "BadRatio" = some (.ref A.c_BadRatio)
  o_BadRatio : OexC K A.c_BadRatio
  i_BadRatio : PySem.W.findIn K (.ref A.c_BadRatio) "__init__" = some (some (.ref A.fi_BadRatio))
  t_BadRatio : PySem.W.typeIn K (.ref A.fi_BadRatio) = some (.type "function")
  F_BadRatio : FunD K "__init__" "BadRatio.__init__" (defArgs sx_BadRatio) (defBody sx_BadRatio) (defScope sx_BadRatio) [] [] A.fi_BadRatio A.fdi_BadRatio
  n_BadRatio_what : PySem.W.findIn K (.ref A.c_BadRatio) "what" = some none
  m_BadCode : mg "BadCode" = some (.ref A.c_BadCode)
  o_BadCode : OexC K A.c_BadCode
  i_BadCode : PySem.W.findIn K (.ref A.c_BadCode) "__init__" = some (some (.ref A.fi_BadCode))
  t_BadCode : PySem.W.typeIn K (.ref A.fi_BadCode) = some (.type "function")
  F_BadCode : FunD K "__init__" "BadCode.__init__" (defArgs sx_BadCode) (defBody sx_BadCode) (defScope sx_BadCode) [] [] A.fi_BadCode A.fdi_BadCode
  n_BadCode_what : PySem.W.findIn K (.ref A.c_BadCode) "what" = some none
  n_BadCode_place : PySem.W.findIn K (.ref A.c_BadCode) "place" = some none
  m_BadCone : mg "BadCone" = some (.ref A.c_BadCone)
  o_BadCone : OexC K A.c_BadCone
  i_BadCone : PySem.W.findIn K (.ref A.c_BadCone) "__init__" = some (some (.ref A.fi_BadCone))
  t_BadCone : PySem.W.typeIn K (.ref A.fi_BadCone) = some (.type "function")
  F_BadCone : FunD K "__init__" "BadCone.__init__" (defArgs sx_BadCone) (defBody sx_BadCone) (defScope sx_BadCone) [] [] A.fi_BadCone A.fdi_BadCone
  n_BadCone_place : PySem.W.findIn K (.ref A.c_BadCone) "place" = some none
  m_NotCone : mg "NotCone" = some (.ref A.c_NotCone)
  o_NotCone : OexC K A.c_NotCone
  i_NotCone : PySem.W.findIn K (.ref A.c_NotCone) "__init__" = some (some (.ref A.fi_NotCone))
  t_NotCone : PySem.W.typeIn K (.ref A.fi_NotCone) = some (.type "function")
  F_NotCone : FunD K "__init__" "NotCone.__init__" (defArgs sx_NotCone) (defBody sx_NotCone) (defScope sx_NotCone) [] [] A.fi_NotCone A.fdi_NotCone
  n_NotCone_number : PySem.W.findIn K (.ref A.c_NotCone) "number" = some none
  n_NotCone_bit : PySem.W.findIn K (.ref A.c_NotCone) "bit" = some none
  rd_CodeError : ClX.CRead K A.c_CodeError (.type "type")
  vi_CodeError : PySem.W.findCls K (.ref A.c_CodeError) (.type "type") "__init__" = some (.val (.builtin "ValueError.__init__"))
  e_BadCone_BadCone : PySem.W.exmOne K (.ref A.c_BadCone) (.ref A.c_BadCone) = some true
  e_BadRatio_BadCone : PySem.W.exmOne K (.ref A.c_BadRatio) (.ref A.c_BadCone) = some false
  e_BadRatio_NotCone : PySem.W.exmOne K (.ref A.c_BadRatio) (.ref A.c_NotCone) = some false
  e_NotCone_BadCone : PySem.W.exmOne K (.ref A.c_NotCone) (.ref A.c_BadCone) = some false
  e_NotCone_NotCone : PySem.W.exmOne K (.ref A.c_NotCone) (.ref A.c_NotCone) = some true
  j_BadCone_CodeError : PySem.W.kitOne K (.ref A.c_BadCone) (.ref A.c_CodeError) = some true
  j_BadCone_ValueError : PySem.W.kitOne K (.ref A.c_BadCone) (.type "ValueError") = some true
  j_NotCone_CodeError : PySem.W.kitOne K (.ref A.c_NotCone) (.ref A.c_CodeError) = some true
  j_NotCone_ValueError : PySem.W.kitOne K (.ref A.c_NotCone) (.type "ValueError") = some true
  x_BadCone : ExcC K A.c_BadCone
  x_NotCone : ExcC K A.c_NotCone
  y_BadCone : XfC K A.c_BadCone
  y_NotCone : XfC K A.c_NotCone
  dummy : True := trivial
section
variable {P : Program} {w : World} {K : PySem.W.Frag} {mg : Str → Option Value} {base : Heap} {A : Ad}
theorem fl_Code_bits (T : Tx K mg A) : FldC ⟨K, mg⟩ "Code" "bits" := ⟨fun C h => by
  have h' : mg "Code" = some (.ref C) := h
  rw [T.m_Code] at h'; cases h'; exact ⟨T.L_Code, T.nf_Code_bits⟩⟩
theorem fl_Code_checks (T : Tx K mg A) : FldC ⟨K, mg⟩ "Code" "checks" := ⟨fun C h => by
  have h' : mg "Code" = some (.ref C) := h
  rw [T.m_Code] at h'; cases h'; exact ⟨T.L_Code, T.nf_Code_checks⟩⟩
theorem scx_BadRatio : FnScope ["self", "what"] ["self", "what"] (defScope sx_BadRatio) := ⟨rfl, rfl, rfl, by decide +kernel, rfl, by decide +kernel, by decide +kernel⟩
theorem bdx_BadRatio (T : Tx K mg A) : Binds K A.fdi_BadRatio ["self", "what"] [] := T.F_BadRatio.bindsN fun _ _ _ _ _ _ us hl => match us, hl with | [_, _], _ => rfl
theorem okx_BadRatio (T : Tx K mg A) : FnOk P w K mg base (L2.CX P w) 1 A.fi_BadRatio A.fdi_BadRatio ["self", "what"] (spMk A.c_BadRatio ["what"]) := ok_init1 T.o_BadRatio T.n_BadRatio_what T.F_BadRatio scx_BadRatio (skip_sup (m := "the top or the bottom of the ratio is wrong")) fun cdv Ar outer s H E => (pss_cons (ps_expr (pe_cinit (by rfl) T.m_CodeError T.rd_CodeError T.vi_CodeError (pa_cons (pv 0) (pa_cons pe_str pa_nil)))) (pss_one (ps_ost (pv 0) (pv 1))))
theorem scx_BadCode : FnScope ["self", "what", "place"] ["self", "what", "place"] (defScope sx_BadCode) := ⟨rfl, rfl, rfl, by decide +kernel, rfl, by decide +kernel, by decide +kernel⟩
theorem bdx_BadCode (T : Tx K mg A) : Binds K A.fdi_BadCode ["self", "what", "place"] [] := T.F_BadCode.bindsN fun _ _ _ _ _ _ us hl => match us, hl with | [_, _, _], _ => rfl
theorem okx_BadCode (T : Tx K mg A) : FnOk P w K mg base (L2.CX P w) 1 A.fi_BadCode A.fdi_BadCode ["self", "what", "place"] (spMk A.c_BadCode ["what", "place"]) := ok_init2 T.o_BadCode T.n_BadCode_what T.n_BadCode_place T.F_BadCode scx_BadCode (skip_sup (m := "the bits or the checks of the code are wrong")) fun cdv Ar outer s H E => (pss_cons (ps_expr (pe_cinit (by rfl) T.m_CodeError T.rd_CodeError T.vi_CodeError (pa_cons (pv 0) (pa_cons pe_str pa_nil)))) (pss_cons (ps_ost (pv 0) (pv 1)) (pss_one (ps_ost (pv 0) (pv 2)))))
theorem scx_BadCone : FnScope ["self", "place"] ["self", "place"] (defScope sx_BadCone) := ⟨rfl, rfl, rfl, by decide +kernel, rfl, by decide +kernel, by decide +kernel⟩
theorem bdx_BadCone (T : Tx K mg A) : Binds K A.fdi_BadCone ["self", "place"] [] := T.F_BadCone.bindsN fun _ _ _ _ _ _ us hl => match us, hl with | [_, _], _ => rfl
theorem okx_BadCone (T : Tx K mg A) : FnOk P w K mg base (L2.CX P w) 1 A.fi_BadCone A.fdi_BadCone ["self", "place"] (spMkF A.c_BadCone ["place"] [0]) := ok_initF1 T.o_BadCone T.n_BadCone_place T.F_BadCone scx_BadCone (skip_fs [.s "not a whole number from 0 at place ", .f 0] rfl (by decide)) fun cdv Ar outer s H E => (pss_cons (ps_expr (pe_cinit (by rfl) T.m_CodeError T.rd_CodeError T.vi_CodeError (pa_cons (pv 0) (pa_cons (pe_joined (PJ.cons pe_str (PJ.cons (pe_fmt (pv 1)) PJ.nil))) pa_nil)))) (pss_one (ps_ost (pv 0) (pv 1))))
theorem scx_NotCone : FnScope ["self", "number", "bit"] ["self", "number", "bit"] (defScope sx_NotCone) := ⟨rfl, rfl, rfl, by decide +kernel, rfl, by decide +kernel, by decide +kernel⟩
theorem bdx_NotCone (T : Tx K mg A) : Binds K A.fdi_NotCone ["self", "number", "bit"] [] := T.F_NotCone.bindsN fun _ _ _ _ _ _ us hl => match us, hl with | [_, _, _], _ => rfl
theorem okx_NotCone (T : Tx K mg A) : FnOk P w K mg base (L2.CX P w) 1 A.fi_NotCone A.fdi_NotCone ["self", "number", "bit"] (spMkF A.c_NotCone ["number", "bit"] [0, 1]) := ok_initF2 T.o_NotCone T.n_NotCone_number T.n_NotCone_bit T.F_NotCone scx_NotCone (skip_fs [.s "check ", .f 0, .s ": the entry of bit ", .f 1, .s " is too great"] rfl (by decide)) fun cdv Ar outer s H E => (pss_cons (ps_expr (pe_cinit (by rfl) T.m_CodeError T.rd_CodeError T.vi_CodeError (pa_cons (pv 0) (pa_cons (pe_joined (PJ.cons pe_str (PJ.cons (pe_fmt (pv 1)) (PJ.cons pe_str (PJ.cons (pe_fmt (pv 2)) (PJ.cons pe_str PJ.nil)))))) pa_nil)))) (pss_cons (ps_ost (pv 0) (pv 1)) (pss_one (ps_ost (pv 0) (pv 2)))))
theorem rk_ZERO (T : Tx K mg A) {b : B} (hM : b.M = ⟨K, mg⟩) : ∀ Fz H, Rep b.M Fz H k_ZERO (Classical.choose T.r_ZERO) := by rw [hM]; exact (Classical.choose_spec T.r_ZERO).2
theorem rk_MOST_BITS (T : Tx K mg A) {b : B} (hM : b.M = ⟨K, mg⟩) : ∀ Fz H, Rep b.M Fz H k_MOST_BITS (Classical.choose T.r_MOST_BITS) := by rw [hM]; exact (Classical.choose_spec T.r_MOST_BITS).2
theorem rk_MOST_CHECKS (T : Tx K mg A) {b : B} (hM : b.M = ⟨K, mg⟩) : ∀ Fz H, Rep b.M Fz H k_MOST_CHECKS (Classical.choose T.r_MOST_CHECKS) := by rw [hM]; exact (Classical.choose_spec T.r_MOST_CHECKS).2
theorem hd_BadCone_0 (T : Tx K mg A) : ∀ nm r C, hdT [("BadCone", true), ("BadRatio", false), ("NotCone", false)] nm = some r → mg nm = some (.ref C) → PySem.W.exmOne K (.ref C) (.ref A.c_BadCone) = some r := hdT_ok (List.forall_mem_cons.mpr ⟨fun C h => by rw [show mg "BadCone" = some (.ref A.c_BadCone) from T.m_BadCone] at h; cases h; exact T.e_BadCone_BadCone, List.forall_mem_cons.mpr ⟨fun C h => by rw [show mg "BadRatio" = some (.ref A.c_BadRatio) from T.m_BadRatio] at h; cases h; exact T.e_BadRatio_BadCone, List.forall_mem_cons.mpr ⟨fun C h => by rw [show mg "NotCone" = some (.ref A.c_NotCone) from T.m_NotCone] at h; cases h; exact T.e_NotCone_BadCone, fun _ h => nomatch h⟩⟩⟩)
theorem hd_NotCone_1 (T : Tx K mg A) : ∀ nm r C, hdT [("BadRatio", false), ("NotCone", true)] nm = some r → mg nm = some (.ref C) → PySem.W.exmOne K (.ref C) (.ref A.c_NotCone) = some r := hdT_ok (List.forall_mem_cons.mpr ⟨fun C h => by rw [show mg "BadRatio" = some (.ref A.c_BadRatio) from T.m_BadRatio] at h; cases h; exact T.e_BadRatio_NotCone, List.forall_mem_cons.mpr ⟨fun C h => by rw [show mg "NotCone" = some (.ref A.c_NotCone) from T.m_NotCone] at h; cases h; exact T.e_NotCone_NotCone, fun _ h => nomatch h⟩⟩)
theorem isx_ValueError_0 (T : Tx K mg A) : ∀ q ∈ ([("BadCone", true)] : List (Str × Bool)), ∀ C, mg q.1 = some (.ref C) → ExcC K C ∧ PySem.W.kitOne K (.ref C) (.type "ValueError") = some q.2 := List.forall_mem_cons.mpr ⟨fun C h => by rw [show mg "BadCone" = some (.ref A.c_BadCone) from T.m_BadCone] at h; cases h; exact ⟨T.x_BadCone, T.j_BadCone_ValueError⟩, fun _ h => nomatch h⟩
theorem isx_CodeError_1 (T : Tx K mg A) : ∀ q ∈ ([("BadCone", true)] : List (Str × Bool)), ∀ C, mg q.1 = some (.ref C) → ExcC K C ∧ PySem.W.kitOne K (.ref C) (.ref A.c_CodeError) = some q.2 := List.forall_mem_cons.mpr ⟨fun C h => by rw [show mg "BadCone" = some (.ref A.c_BadCone) from T.m_BadCone] at h; cases h; exact ⟨T.x_BadCone, T.j_BadCone_CodeError⟩, fun _ h => nomatch h⟩
theorem isx_ValueError_2 (T : Tx K mg A) : ∀ q ∈ ([("NotCone", true)] : List (Str × Bool)), ∀ C, mg q.1 = some (.ref C) → ExcC K C ∧ PySem.W.kitOne K (.ref C) (.type "ValueError") = some q.2 := List.forall_mem_cons.mpr ⟨fun C h => by rw [show mg "NotCone" = some (.ref A.c_NotCone) from T.m_NotCone] at h; cases h; exact ⟨T.x_NotCone, T.j_NotCone_ValueError⟩, fun _ h => nomatch h⟩
theorem isx_CodeError_3 (T : Tx K mg A) : ∀ q ∈ ([("NotCone", true)] : List (Str × Bool)), ∀ C, mg q.1 = some (.ref C) → ExcC K C ∧ PySem.W.kitOne K (.ref C) (.ref A.c_CodeError) = some q.2 := List.forall_mem_cons.mpr ⟨fun C h => by rw [show mg "NotCone" = some (.ref A.c_NotCone) from T.m_NotCone] at h; cases h; exact ⟨T.x_NotCone, T.j_NotCone_CodeError⟩, fun _ h => nomatch h⟩
theorem xf_place_0 (T : Tx K mg A) : ∀ c ∈ (["BadCone"] : List Str), ∀ C, mg c = some (.ref C) → XfC K C ∧ PySem.W.findIn K (.ref C) "place" = some none := List.forall_mem_cons.mpr ⟨fun C h => by rw [show mg "BadCone" = some (.ref A.c_BadCone) from T.m_BadCone] at h; cases h; exact ⟨T.y_BadCone, T.n_BadCone_place⟩, fun _ h => nomatch h⟩
theorem xf_bit_1 (T : Tx K mg A) : ∀ c ∈ (["NotCone"] : List Str), ∀ C, mg c = some (.ref C) → XfC K C ∧ PySem.W.findIn K (.ref C) "bit" = some none := List.forall_mem_cons.mpr ⟨fun C h => by rw [show mg "NotCone" = some (.ref A.c_NotCone) from T.m_NotCone] at h; cases h; exact ⟨T.y_NotCone, T.n_NotCone_bit⟩, fun _ h => nomatch h⟩
theorem xf_number_2 (T : Tx K mg A) : ∀ c ∈ (["NotCone"] : List Str), ∀ C, mg c = some (.ref C) → XfC K C ∧ PySem.W.findIn K (.ref C) "number" = some none := List.forall_mem_cons.mpr ⟨fun C h => by rw [show mg "NotCone" = some (.ref A.c_NotCone) from T.m_NotCone] at h; cases h; exact ⟨T.y_NotCone, T.n_NotCone_number⟩, fun _ h => nomatch h⟩
theorem bd__law_mixed_2 (T : Tx K mg A) : ∃ ds, Vals [] ds ∧ Binds K A.fd__law_mixed ["_law_number", "_law_turn"] ds := ⟨[], .nil, T.F__law_mixed.bindsN fun _ _ _ _ _ _ us hl => match us, hl with | [_, _], _ => rfl⟩
theorem bd__law_take_2 (T : Tx K mg A) : ∃ ds, Vals [] ds ∧ Binds K A.fd__law_take ["_law_hand_here", "_law_many"] ds := ⟨[], .nil, T.F__law_take.bindsN fun _ _ _ _ _ _ us hl => match us, hl with | [_, _], _ => rfl⟩
theorem bd__law_lot_3 (T : Tx K mg A) : ∃ ds, Vals [] ds ∧ Binds K A.fd__law_lot ["_law_hand_here", "_law_bits_here", "_law_size"] ds := ⟨[], .nil, T.F__law_lot.bindsN fun _ _ _ _ _ _ us hl => match us, hl with | [_, _, _], _ => rfl⟩
theorem bd_is_whole_3 (T : Tx K mg A) : ∃ ds, Vals [] ds ∧ Binds K A.fd_is_whole ["thing", "low", "high"] ds := T.F_is_whole.binds1 3 2 (by simp) rfl fun _ _ _ _ _ _ _ us its hu hi => match us, its, hu, hi with | [_, _, _], [_, _], _, _ => ⟨_, rfl, rfl⟩
theorem bd_is_sequence_1 (T : Tx K mg A) : ∃ ds, Vals [] ds ∧ Binds K A.fd_is_sequence ["thing"] ds := ⟨[], .nil, T.F_is_sequence.bindsN fun _ _ _ _ _ _ us hl => match us, hl with | [_], _ => rfl⟩
theorem bd_lot_of_2 (T : Tx K mg A) : ∃ ds, Vals [] ds ∧ Binds K A.fd_lot_of ["bits", "things"] ds := ⟨[], .nil, T.F_lot_of.bindsN fun _ _ _ _ _ _ us hl => match us, hl with | [_, _], _ => rfl⟩
theorem bd__law_broken_2 (T : Tx K mg A) : ∃ ds, Vals [] ds ∧ Binds K A.fd__law_broken ["_law_checks_here", "_law_entries"] ds := ⟨[], .nil, T.F__law_broken.bindsN fun _ _ _ _ _ _ us hl => match us, hl with | [_, _], _ => rfl⟩
theorem bd__law_brought_down_2 (T : Tx K mg A) : ∃ ds, Vals [] ds ∧ Binds K A.fd__law_brought_down ["_law_checks_here", "_law_entries"] ds := ⟨[], .nil, T.F__law_brought_down.bindsN fun _ _ _ _ _ _ us hl => match us, hl with | [_, _], _ => rfl⟩
theorem bd__law_gcd_2 (T : Tx K mg A) : ∃ ds, Vals [] ds ∧ Binds K A.fd__law_gcd ["_law_one_here", "_law_other"] ds := ⟨[], .nil, T.F__law_gcd.bindsN fun _ _ _ _ _ _ us hl => match us, hl with | [_, _], _ => rfl⟩
theorem bd__law_ratio_2 (T : Tx K mg A) : ∃ ds, Vals [] ds ∧ Binds K A.fd__law_ratio ["_law_top", "_law_bottom"] ds := ⟨[], .nil, T.F__law_ratio.bindsN fun _ _ _ _ _ _ us hl => match us, hl with | [_, _], _ => rfl⟩
theorem bd__law_exact_2 (T : Tx K mg A) : ∃ ds, Vals [] ds ∧ Binds K A.fd__law_exact ["_law_told", "_law_due"] ds := ⟨[], .nil, T.F__law_exact.bindsN fun _ _ _ _ _ _ us hl => match us, hl with | [_, _], _ => rfl⟩
theorem bd_is_whole_2 (T : Tx K mg A) : ∃ ds, Vals [.non] ds ∧ Binds K A.fd_is_whole ["thing", "low", "high"] ds := T.F_is_whole.binds1 2 1 (by simp) rfl fun _ _ _ _ _ _ _ us its hu hi => match us, its, hu, hi with | [_, _], [_, _], _, _ => ⟨_, rfl, rfl⟩
theorem bd_first_above_2 (T : Tx K mg A) : ∃ ds, Vals [] ds ∧ Binds K A.fd_first_above ["code", "entries"] ds := ⟨[], .nil, T.F_first_above.bindsN fun _ _ _ _ _ _ us hl => match us, hl with | [_, _], _ => rfl⟩
theorem bd_check_entries_2 (T : Tx K mg A) : ∃ ds, Vals [] ds ∧ Binds K A.fd_check_entries ["code", "row"] ds := ⟨[], .nil, T.F_check_entries.bindsN fun _ _ _ _ _ _ us hl => match us, hl with | [_, _], _ => rfl⟩
theorem bd_common_divisor_2 (T : Tx K mg A) : ∃ ds, Vals [] ds ∧ Binds K A.fd_common_divisor ["one", "other"] ds := ⟨[], .nil, T.F_common_divisor.bindsN fun _ _ _ _ _ _ us hl => match us, hl with | [_, _], _ => rfl⟩
theorem bd_lowest_terms_2 (T : Tx K mg A) : ∃ ds, Vals [] ds ∧ Binds K A.fd_lowest_terms ["top", "bottom"] ds := ⟨[], .nil, T.F_lowest_terms.bindsN fun _ _ _ _ _ _ us hl => match us, hl with | [_, _], _ => rfl⟩
theorem bd_is_whole_1 (T : Tx K mg A) : ∃ ds, Vals [.non, .non] ds ∧ Binds K A.fd_is_whole ["thing", "low", "high"] ds := T.F_is_whole.binds1 1 0 (by simp) rfl fun _ _ _ _ _ _ _ us its hu hi => match us, its, hu, hi with | [_], [_, _], _, _ => ⟨_, rfl, rfl⟩
theorem bd_make_ratio_2 (T : Tx K mg A) : ∃ ds, Vals [] ds ∧ Binds K A.fd_make_ratio ["top", "bottom"] ds := T.F_make_ratio.binds1 2 1 (by simp) rfl fun _ _ _ _ _ _ _ us its hu hi => match us, its, hu, hi with | [_, _], [_], _, _ => ⟨_, rfl, rfl⟩
theorem bd_check_cone_2 (T : Tx K mg A) : ∃ ds, Vals [] ds ∧ Binds K A.fd_check_cone ["code", "row"] ds := ⟨[], .nil, T.F_check_cone.bindsN fun _ _ _ _ _ _ us hl => match us, hl with | [_, _], _ => rfl⟩
theorem bd_small_row_2 (T : Tx K mg A) : ∃ ds, Vals [] ds ∧ Binds K A.fd_small_row ["code", "row"] ds := ⟨[], .nil, T.F_small_row.bindsN fun _ _ _ _ _ _ us hl => match us, hl with | [_, _], _ => rfl⟩
theorem bd_bars_from_2 (T : Tx K mg A) : ∃ ds, Vals [] ds ∧ Binds K A.fd_bars_from ["code", "row"] ds := ⟨[], .nil, T.F_bars_from.bindsN fun _ _ _ _ _ _ us hl => match us, hl with | [_, _], _ => rfl⟩
theorem bd_cone_fault_2 (T : Tx K mg A) : ∃ ds, Vals [] ds ∧ Binds K A.fd_cone_fault ["code", "row"] ds := ⟨[], .nil, T.F_cone_fault.bindsN fun _ _ _ _ _ _ us hl => match us, hl with | [_, _], _ => rfl⟩
theorem bd__law_one_3 (T : Tx K mg A) : ∃ ds, Vals [] ds ∧ Binds K A.fd__law_one ["_law_code", "_law_passed", "_law_ask"] ds := ⟨[], .nil, T.F__law_one.bindsN fun _ _ _ _ _ _ us hl => match us, hl with | [_, _, _], _ => rfl⟩
theorem bd__law_small_2 (T : Tx K mg A) : ∃ ds, Vals [] ds ∧ Binds K A.fd__law_small ["_law_checks_here", "_law_entries"] ds := ⟨[], .nil, T.F__law_small.bindsN fun _ _ _ _ _ _ us hl => match us, hl with | [_, _], _ => rfl⟩
theorem bd__law_bars_1 (T : Tx K mg A) : ∃ ds, Vals [] ds ∧ Binds K A.fd__law_bars ["_law_entries"] ds := ⟨[], .nil, T.F__law_bars.bindsN fun _ _ _ _ _ _ us hl => match us, hl with | [_], _ => rfl⟩
theorem bd__law_list_2 (T : Tx K mg A) : ∃ ds, Vals [] ds ∧ Binds K A.fd__law_list ["_law_hand_here", "_law_items"] ds := ⟨[], .nil, T.F__law_list.bindsN fun _ _ _ _ _ _ us hl => match us, hl with | [_, _], _ => rfl⟩
theorem bd__law_odd_whole_2 (T : Tx K mg A) : ∃ ds, Vals [] ds ∧ Binds K A.fd__law_odd_whole ["_law_hand_here", "_law_items"] ds := ⟨[], .nil, T.F__law_odd_whole.bindsN fun _ _ _ _ _ _ us hl => match us, hl with | [_, _], _ => rfl⟩
theorem bd__law_bad_place_2 (T : Tx K mg A) : ∃ ds, Vals [] ds ∧ Binds K A.fd__law_bad_place ["_law_bits_here", "_law_passed"] ds := ⟨[], .nil, T.F__law_bad_place.bindsN fun _ _ _ _ _ _ us hl => match us, hl with | [_, _], _ => rfl⟩
theorem bd__law_spoilt_2 (T : Tx K mg A) : ∃ ds, Vals [] ds ∧ Binds K A.fd__law_spoilt ["_law_hand_here", "_law_entries"] ds := ⟨[], .nil, T.F__law_spoilt.bindsN fun _ _ _ _ _ _ us hl => match us, hl with | [_, _], _ => rfl⟩
theorem bd__law_judged_4 (T : Tx K mg A) : ∃ ds, Vals [] ds ∧ Binds K A.fd__law_judged ["_law_hand_here", "_law_code", "_law_checks_here", "_law_entries"] ds := ⟨[], .nil, T.F__law_judged.bindsN fun _ _ _ _ _ _ us hl => match us, hl with | [_, _, _, _], _ => rfl⟩
theorem bd__law_refused_4 (T : Tx K mg A) : ∃ ds, Vals [] ds ∧ Binds K A.fd__law_refused ["_law_hand_here", "_law_code", "_law_bits_here", "_law_entries"] ds := ⟨[], .nil, T.F__law_refused.bindsN fun _ _ _ _ _ _ us hl => match us, hl with | [_, _, _, _], _ => rfl⟩
theorem bd__law_cone_row_3 (T : Tx K mg A) : ∃ ds, Vals [] ds ∧ Binds K A.fd__law_cone_row ["_law_hand_here", "_law_bits_here", "_law_checks_here"] ds := ⟨[], .nil, T.F__law_cone_row.bindsN fun _ _ _ _ _ _ us hl => match us, hl with | [_, _, _], _ => rfl⟩
theorem bd_Code__init___3 (T : Tx K mg A) : ∃ ds, Vals [] ds ∧ Binds K A.fd_Code__init__ ["self", "bits", "checks"] ds := ⟨[], .nil, T.F_Code__init__.bindsN fun _ _ _ _ _ _ us hl => match us, hl with | [_, _, _], _ => rfl⟩
theorem bd__law_checks_2 (T : Tx K mg A) : ∃ ds, Vals [] ds ∧ Binds K A.fd__law_checks ["_law_hand_here", "_law_bits_here"] ds := ⟨[], .nil, T.F__law_checks.bindsN fun _ _ _ _ _ _ us hl => match us, hl with | [_, _], _ => rfl⟩
theorem bd__law_bits_2 (T : Tx K mg A) : ∃ ds, Vals [] ds ∧ Binds K A.fd__law_bits ["_law_hand_here", "_law_most"] ds := ⟨[], .nil, T.F__law_bits.bindsN fun _ _ _ _ _ _ us hl => match us, hl with | [_, _], _ => rfl⟩
theorem bd__law_hand_1 (T : Tx K mg A) : ∃ ds, Vals [] ds ∧ Binds K A.fd__law_hand ["_law_script"] ds := ⟨[], .nil, T.F__law_hand.bindsN fun _ _ _ _ _ _ us hl => match us, hl with | [_], _ => rfl⟩
theorem sc__law_hand : FnScope ["_law_script", "_law_total", "_law_cells", "_law_cell"] ["_law_script"] (defScope s__law_hand) := ⟨rfl, rfl, rfl, by decide +kernel, rfl, by decide +kernel, by decide +kernel⟩
/-- slots: 0 _law_script 1 _law_total 2 _law_cells 3 _law_cell -/
noncomputable def d__law_hand : Dn := defF 4
 (seqS (asgS 1 (op2F addD (bltF lenD (consV (dF (varF 0)) nilV)) (cF (.int 31))))
 (seqS (asgO 2 (lstF nilA))
 (seqS (forS (itF (varF 0)) (tgN 3)
 (seqS (asgS 1 (op2F modD (bltF intF (consV (dF (op2F addD (op2F mulD (varF 1) (cF (.int 2003))) (bltF intF (consV (dF (varF 3)) nilV)))) nilV)) (cF (.int 2147483549))))
 (exprS (apF 2 (bltF absD (consV (dF (bltF intF (consV (dF (varF 3)) nilV))) nilV))))))
 (retF (lstF (consA (frzF 2) (consA (cF (.int 0)) (consA (cF (.int 0)) (consA (varF 1) nilA)))))))))
theorem ok__law_hand (T : Tx K mg A) : FnOk P w K mg base (L2.CX P w) 1 A.f__law_hand A.fd__law_hand ["_law_script"] (spD ⟨K, mg⟩ 1 d__law_hand) :=
 ok_def (N := ["_law_script", "_law_total", "_law_cells", "_law_cell"]) rfl (by decide) T.F__law_hand sc__law_hand fun cdv Ar outer s H E b hr hM hnp hpx =>
 (pts_cons (pts_asg sc__law_hand.nd (i := 1) rfl (by first | exact Or.inl rfl | exact Or.inr rfl) (q_add hM (c_len hM (by rfl) T.z_len (pva_cons (p1_d (pd_var (pv 0))) pva_nil)) pd_int) rfl (by first | exact Or.inl rfl | exact Or.inr rfl) (PxOk.of hpx _))
 (pts_cons (pts_asgO (npl hnp (by decide)) sc__law_hand.nd (i := 2) rfl (by first | exact Or.inl rfl | exact Or.inr rfl) (pf_lst pda_nil) rfl (by first | exact Or.inl rfl | exact Or.inr rfl) (PxOk.of hpx _))
 (pts_cons (pts_for (passes_of rfl) rfl (pi_d hM (pd_var (pv 0))) (pg_n (pg_name (i := 3) sc__law_hand.nd rfl (by first | exact Or.inl rfl | exact Or.inr rfl)) (PxOk.of hpx _))
 (pts_cons (pts_asg sc__law_hand.nd (i := 1) rfl (by first | exact Or.inl rfl | exact Or.inr rfl) (q_mod hM (c_int hM (by rfl) T.z_int (pva_cons (p1_d (q_add hM (q_mul hM (pd_var (pv 1)) pd_int) (c_int hM (by rfl) T.z_int (pva_cons (p1_d (pd_var (pv 3))) pva_nil)))) pva_nil)) pd_int) rfl (by first | exact Or.inl rfl | exact Or.inr rfl) (PxOk.of hpx _))
 (pts_one' (pts_expr (pd_append (pv 2) (c_abs hM (by rfl) T.z_abs (pva_cons (p1_d (c_int hM (by rfl) T.z_int (pva_cons (p1_d (pd_var (pv 3))) pva_nil))) pva_nil)))))))
 (pts_one' (pts_retF (pf_lst (pda_cons (pd_frz (pv 2) (npl hnp (by decide))) (pda_cons pd_int (pda_cons pd_int (pda_cons (pd_var (pv 1)) pda_nil))))))))))
theorem sc__law_mixed : FnScope ["_law_number", "_law_turn", "_law_once", "_law_twice"] ["_law_number", "_law_turn"] (defScope s__law_mixed) := ⟨rfl, rfl, rfl, by decide +kernel, rfl, by decide +kernel, by decide +kernel⟩
/-- slots: 0 _law_number 1 _law_turn 2 _law_once 3 _law_twice -/
noncomputable def d__law_mixed : Dn := defF 4
 (seqS (asgS 2 (op2F modD (bltF intF (consV (dF (op2F addD (op2F addD (op2F mulD (varF 0) (cF (.int 41387))) (op2F mulD (varF 1) (cF (.int 7103)))) (cF (.int 60013)))) nilV)) (cF (.int 2147483423))))
 (seqS (asgS 3 (op2F modD (bltF intF (consV (dF (op2F addD (op2F addD (op2F mulD (varF 2) (varF 2)) (op2F mulD (varF 1) (cF (.int 90001)))) (op2F fdivD (varF 2) (cF (.int 139))))) nilV)) (cF (.int 2147483563))))
 (retS (op2F fdivD (bltF intF (consV (dF (op2F modD (bltF intF (consV (dF (op2F addD (op2F mulD (varF 3) (cF (.int 61927))) (op2F fdivD (varF 2) (cF (.int 13))))) nilV)) (cF (.int 2147483477)))) nilV)) (cF (.int 64))))))
theorem ok__law_mixed (T : Tx K mg A) : FnOk P w K mg base (L2.CX P w) 1 A.f__law_mixed A.fd__law_mixed ["_law_number", "_law_turn"] (spD ⟨K, mg⟩ 2 d__law_mixed) :=
 ok_def (N := ["_law_number", "_law_turn", "_law_once", "_law_twice"]) rfl (by decide) T.F__law_mixed sc__law_mixed fun cdv Ar outer s H E b hr hM hnp hpx =>
 (pts_cons (pts_asg sc__law_mixed.nd (i := 2) rfl (by first | exact Or.inl rfl | exact Or.inr rfl) (q_mod hM (c_int hM (by rfl) T.z_int (pva_cons (p1_d (q_add hM (q_add hM (q_mul hM (pd_var (pv 0)) pd_int) (q_mul hM (pd_var (pv 1)) pd_int)) pd_int)) pva_nil)) pd_int) rfl (by first | exact Or.inl rfl | exact Or.inr rfl) (PxOk.of hpx _))
 (pts_cons (pts_asg sc__law_mixed.nd (i := 3) rfl (by first | exact Or.inl rfl | exact Or.inr rfl) (q_mod hM (c_int hM (by rfl) T.z_int (pva_cons (p1_d (q_add hM (q_add hM (q_mul hM (pd_var (pv 2)) (pd_var (pv 2))) (q_mul hM (pd_var (pv 1)) pd_int)) (q_fdiv hM (pd_var (pv 2)) pd_int))) pva_nil)) pd_int) rfl (by first | exact Or.inl rfl | exact Or.inr rfl) (PxOk.of hpx _))
 (pts_one' (pts_ret (q_fdiv hM (c_int hM (by rfl) T.z_int (pva_cons (p1_d (q_mod hM (c_int hM (by rfl) T.z_int (pva_cons (p1_d (q_add hM (q_mul hM (pd_var (pv 3)) pd_int) (q_fdiv hM (pd_var (pv 2)) pd_int))) pva_nil)) pd_int)) pva_nil)) pd_int)))))
theorem sc__law_take : FnScope ["_law_hand_here", "_law_many", "_law_cell", "_law_rest"] ["_law_hand_here", "_law_many"] (defScope s__law_take) := ⟨rfl, rfl, rfl, by decide +kernel, rfl, by decide +kernel, by decide +kernel⟩
/-- slots: 0 _law_hand_here 1 _law_many 2 _law_cell 3 _law_rest -/
noncomputable def d__law_take : Dn := defF 4
 (seqS (ifS (andB (tstF (op2F eqD (op2V ixD (nmF 0) (dF (cF (.int 2)))) (cF (.int 0)))) (tstF (op2F ltD (op2V ixD (nmF 0) (dF (cF (.int 1)))) (bltF lenD (consV (dF (op2V ixD (nmF 0) (dF (cF (.int 0))))) nilV)))))
 (seqS (asgS 2 (op2F ixD (op2V ixD (nmF 0) (dF (cF (.int 0)))) (op2V ixD (nmF 0) (dF (cF (.int 1))))))
 (seqS (setS 0 (cF (.int 1)) (op2F addD (op2V ixD (nmF 0) (dF (cF (.int 1)))) (cF (.int 1))))
 (seqS (ifS (tstF (op2F ltD (varF 2) (op2F powD (cF (.int 10)) (cF (.int 18)))))
 (retS (op2F modD (bltF intF (consV (dF (callF 2 d__law_mixed [] (consV (dF (op2F modD (bltF intF (consV (dF (varF 2)) nilV)) (cF (.int 2147483423)))) (consV (dF (op2V ixD (nmF 0) (dF (cF (.int 1))))) nilV)))) nilV)) (varF 1)))
 skipS)
 (setS 0 (cF (.int 2)) (varF 2)))))
 skipS)
 (seqS (ifS (tstF (op2F gtD (op2V ixD (nmF 0) (dF (cF (.int 2)))) (cF (.int 0))))
 (seqS (asgS 3 (op2V ixD (nmF 0) (dF (cF (.int 2)))))
 (seqS (setS 0 (cF (.int 2)) (op2F fdivD (bltF intF (consV (dF (varF 3)) nilV)) (varF 1)))
 (retS (op2F modD (bltF intF (consV (dF (varF 3)) nilV)) (varF 1)))))
 skipS)
 (seqS (setS 0 (cF (.int 3)) (op2F modD (bltF intF (consV (dF (op2F addD (op2V ixD (nmF 0) (dF (cF (.int 3)))) (cF (.int 1)))) nilV)) (cF (.int 2147483587))))
 (retS (op2F modD (bltF intF (consV (dF (callF 2 d__law_mixed [] (consV (dF (op2V ixD (nmF 0) (dF (cF (.int 3))))) (consV (dF (op2V ixD (nmF 0) (dF (cF (.int 1))))) nilV)))) nilV)) (varF 1))))))
theorem ok__law_take (T : Tx K mg A) : FnOk P w K mg base (L2.CX P w) 2 A.f__law_take A.fd__law_take ["_law_hand_here", "_law_many"] (spD ⟨K, mg⟩ 2 d__law_take) :=
 ok_def (N := ["_law_hand_here", "_law_many", "_law_cell", "_law_rest"]) rfl (by decide) T.F__law_take sc__law_take fun cdv Ar outer s H E b hr hM hnp hpx =>
 (pts_cons (pts_if (PW.pt (pwb_and (qt_eq hM hr (v_ix hM (p1_nm (pv 0)) (p1_d pd_int) (fun _ _ => rfl)) pd_int) (pwb_and1 (qt_lt hM (v_ix hM (p1_nm (pv 0)) (p1_d pd_int) (fun _ _ => rfl)) (c_len hM (by rfl) T.z_len (pva_cons (p1_d (v_ix hM (p1_nm (pv 0)) (p1_d pd_int) (fun _ _ => rfl))) pva_nil))))))
 (pts_cons (pts_asg sc__law_take.nd (i := 2) rfl (by first | exact Or.inl rfl | exact Or.inr rfl) (q_ix hM (v_ix hM (p1_nm (pv 0)) (p1_d pd_int) (fun _ _ => rfl)) (v_ix hM (p1_nm (pv 0)) (p1_d pd_int) (fun _ _ => rfl)) (fun _ _ => rfl)) rfl (by first | exact Or.inl rfl | exact Or.inr rfl) (PxOk.of hpx _))
 (pts_cons (pts_set (pv 0) pd_int (q_add hM (v_ix hM (p1_nm (pv 0)) (p1_d pd_int) (fun _ _ => rfl)) pd_int))
 (pts_cons (pts_if (qt_lt hM (pd_var (pv 2)) (q_pow hM pd_int pd_int))
 (pts_one' (pts_ret (q_mod hM (c_int hM (by rfl) T.z_int (pva_cons (p1_d (q_call hM (takes_of rfl rfl rfl rfl) (ok__law_mixed T) (hr.mono (by decide)) (by rfl) T.m__law_mixed T.k__law_mixed (bd__law_mixed_2 T) (fun _ _ _ => RepL.nil) (pva_cons (p1_d (q_mod hM (c_int hM (by rfl) T.z_int (pva_cons (p1_d (pd_var (pv 2))) pva_nil)) pd_int)) (pva_cons (p1_d (v_ix hM (p1_nm (pv 0)) (p1_d pd_int) (fun _ _ => rfl))) pva_nil)))) pva_nil)) (pd_var (pv 1)))))
 pts_nil')
 (pts_one' (pts_set (pv 0) pd_int (pd_var (pv 2)))))))
 pts_nil')
 (pts_cons (pts_if (qt_gt hM (v_ix hM (p1_nm (pv 0)) (p1_d pd_int) (fun _ _ => rfl)) pd_int)
 (pts_cons (pts_asg sc__law_take.nd (i := 3) rfl (by first | exact Or.inl rfl | exact Or.inr rfl) (v_ix hM (p1_nm (pv 0)) (p1_d pd_int) (fun _ _ => rfl)) rfl (by first | exact Or.inl rfl | exact Or.inr rfl) (PxOk.of hpx _))
 (pts_cons (pts_set (pv 0) pd_int (q_fdiv hM (c_int hM (by rfl) T.z_int (pva_cons (p1_d (pd_var (pv 3))) pva_nil)) (pd_var (pv 1))))
 (pts_one' (pts_ret (q_mod hM (c_int hM (by rfl) T.z_int (pva_cons (p1_d (pd_var (pv 3))) pva_nil)) (pd_var (pv 1)))))))
 pts_nil')
 (pts_cons (pts_set (pv 0) pd_int (q_mod hM (c_int hM (by rfl) T.z_int (pva_cons (p1_d (q_add hM (v_ix hM (p1_nm (pv 0)) (p1_d pd_int) (fun _ _ => rfl)) pd_int)) pva_nil)) pd_int))
 (pts_one' (pts_ret (q_mod hM (c_int hM (by rfl) T.z_int (pva_cons (p1_d (q_call hM (takes_of rfl rfl rfl rfl) (ok__law_mixed T) (hr.mono (by decide)) (by rfl) T.m__law_mixed T.k__law_mixed (bd__law_mixed_2 T) (fun _ _ _ => RepL.nil) (pva_cons (p1_d (v_ix hM (p1_nm (pv 0)) (p1_d pd_int) (fun _ _ => rfl))) (pva_cons (p1_d (v_ix hM (p1_nm (pv 0)) (p1_d pd_int) (fun _ _ => rfl))) pva_nil)))) pva_nil)) (pd_var (pv 1))))))))
theorem sc__law_bits : FnScope ["_law_hand_here", "_law_most"] ["_law_hand_here", "_law_most"] (defScope s__law_bits) := ⟨rfl, rfl, rfl, by decide +kernel, rfl, by decide +kernel, by decide +kernel⟩
/-- slots: 0 _law_hand_here 1 _law_most -/
noncomputable def d__law_bits : Dn := defF 2
 (seqS (ifS (andB (tstF (op2F gtD (varF 1) (cF (.int 6)))) (tstF (op2F eqD (callF 2 d__law_take [] (consV (nmF 0) (consV (dF (cF (.int 8))) nilV))) (cF (.int 0)))))
 (retS (varF 1))
 skipS)
 (retS (bltF min2D (consV (dF (varF 1)) (consV (dF (op2F ixD (tupF (consA (cF (.int 4)) (consA (cF (.int 5)) (consA (cF (.int 4)) (consA (cF (.int 3)) (consA (cF (.int 5)) (consA (cF (.int 6)) (consA (cF (.int 2)) (consA (cF (.int 1)) nilA))))))))) (callF 2 d__law_take [] (consV (nmF 0) (consV (dF (cF (.int 8))) nilV))))) nilV)))))
theorem ok__law_bits (T : Tx K mg A) : FnOk P w K mg base (L2.CX P w) 3 A.f__law_bits A.fd__law_bits ["_law_hand_here", "_law_most"] (spD ⟨K, mg⟩ 2 d__law_bits) :=
 ok_def (N := ["_law_hand_here", "_law_most"]) rfl (by decide) T.F__law_bits sc__law_bits fun cdv Ar outer s H E b hr hM hnp hpx =>
 (pts_cons (pts_if (PW.pt (pwb_and (qt_gt hM (pd_var (pv 1)) pd_int) (pwb_and1 (qt_eq hM hr (q_call hM (takes_of rfl rfl rfl rfl) (ok__law_take T) (hr.mono (by decide)) (by rfl) T.m__law_take T.k__law_take (bd__law_take_2 T) (fun _ _ _ => RepL.nil) (pva_cons (p1_nm (pv 0)) (pva_cons (p1_d pd_int) pva_nil))) pd_int))))
 (pts_one' (pts_ret (pd_var (pv 1))))
 pts_nil')
 (pts_one' (pts_ret (c_min2 hM rfl (by rfl) T.z_min (pva_cons (p1_d (pd_var (pv 1))) (pva_cons (p1_d (q_ix hM (pd_tup (pda_cons pd_int (pda_cons pd_int (pda_cons pd_int (pda_cons pd_int (pda_cons pd_int (pda_cons pd_int (pda_cons pd_int (pda_cons pd_int pda_nil))))))))) (q_call hM (takes_of rfl rfl rfl rfl) (ok__law_take T) (hr.mono (by decide)) (by rfl) T.m__law_take T.k__law_take (bd__law_take_2 T) (fun _ _ _ => RepL.nil) (pva_cons (p1_nm (pv 0)) (pva_cons (p1_d pd_int) pva_nil))) (fun _ _ => rfl))) pva_nil))))))
theorem sc__law_lot : FnScope ["_law_hand_here", "_law_bits_here", "_law_size", "_law_pool", "_law_told", "_law_k", "_law_at"] ["_law_hand_here", "_law_bits_here", "_law_size"] (defScope s__law_lot) := ⟨rfl, rfl, rfl, by decide +kernel, rfl, by decide +kernel, by decide +kernel⟩
/-- slots: 0 _law_hand_here 1 _law_bits_here 2 _law_size 3 _law_pool 4 _law_told 5 _law_k 6 _law_at -/
noncomputable def d__law_lot : Dn := defF 7
 (seqS (asgS 3 (frF (rgLF (varF 1))))
 (seqS (asgO 4 (lstF nilA))
 (seqS (forS (faF rng1D (consA (bltF min2D (consV (dF (varF 2)) (consV (dF (varF 1)) nilV))) nilA)) (tgN 5)
 (seqS (asgS 6 (callF 2 d__law_take [] (consV (nmF 0) (consV (dF (bltF lenD (consV (dF (varF 3)) nilV))) nilV))))
 (seqS (exprS (apF 4 (op2F ixD (varF 3) (varF 6))))
 (asgS 3 (op2F addD (slF (dF (varF 3)) noPart (partF (varF 6))) (slF (dF (varF 3)) (partF (op2F addD (varF 6) (cF (.int 1)))) noPart))))))
 (retF (bltFF sortedD (consV (nmF 4) nilV))))))
theorem ok__law_lot (T : Tx K mg A) : FnOk P w K mg base (L2.CX P w) 3 A.f__law_lot A.fd__law_lot ["_law_hand_here", "_law_bits_here", "_law_size"] (spD ⟨K, mg⟩ 3 d__law_lot) :=
 ok_def (N := ["_law_hand_here", "_law_bits_here", "_law_size", "_law_pool", "_law_told", "_law_k", "_law_at"]) rfl (by decide) T.F__law_lot sc__law_lot fun cdv Ar outer s H E b hr hM hnp hpx =>
 (pts_cons (pts_asg sc__law_lot.nd (i := 3) rfl (by first | exact Or.inl rfl | exact Or.inr rfl) (pd_fr (pf_listRg1 rfl (by rfl) T.z_list (by rfl) T.z_range (pd_var (pv 1)))) rfl (by first | exact Or.inl rfl | exact Or.inr rfl) (PxOk.of hpx _))
 (pts_cons (pts_asgO (npl hnp (by decide)) sc__law_lot.nd (i := 4) rfl (by first | exact Or.inl rfl | exact Or.inr rfl) (pf_lst pda_nil) rfl (by first | exact Or.inl rfl | exact Or.inr rfl) (PxOk.of hpx _))
 (pts_cons (pts_for (passes_of rfl) rfl (pi_rng1 (by rfl) T.z_range (pda_cons (c_min2 hM rfl (by rfl) T.z_min (pva_cons (p1_d (pd_var (pv 2))) (pva_cons (p1_d (pd_var (pv 1))) pva_nil))) pda_nil)) (pg_n (pg_name (i := 5) sc__law_lot.nd rfl (by first | exact Or.inl rfl | exact Or.inr rfl)) (PxOk.of hpx _))
 (pts_cons (pts_asg sc__law_lot.nd (i := 6) rfl (by first | exact Or.inl rfl | exact Or.inr rfl) (q_call hM (takes_of rfl rfl rfl rfl) (ok__law_take T) (hr.mono (by decide)) (by rfl) T.m__law_take T.k__law_take (bd__law_take_2 T) (fun _ _ _ => RepL.nil) (pva_cons (p1_nm (pv 0)) (pva_cons (p1_d (c_len hM (by rfl) T.z_len (pva_cons (p1_d (pd_var (pv 3))) pva_nil))) pva_nil))) rfl (by first | exact Or.inl rfl | exact Or.inr rfl) (PxOk.of hpx _))
 (pts_cons (pts_expr (pd_append (pv 4) (q_ix hM (pd_var (pv 3)) (pd_var (pv 6)) (fun _ _ => rfl))))
 (pts_one' (pts_asg sc__law_lot.nd (i := 3) rfl (by first | exact Or.inl rfl | exact Or.inr rfl) (q_add hM (pd_sl hM (p1_d (pd_var (pv 3))) pod_none (pod_some (pd_var (pv 6)))) (pd_sl hM (p1_d (pd_var (pv 3))) (pod_some (q_add hM (pd_var (pv 6)) pd_int)) pod_none)) rfl (by first | exact Or.inl rfl | exact Or.inr rfl) (PxOk.of hpx _))))))
 (pts_one' (pts_retF (c_sorted hM (by rfl) T.z_sorted (pva_cons (p1_nm (pv 4)) pva_nil)))))))
theorem sc__law_checks : FnScope ["_law_hand_here", "_law_bits_here", "_law_posts", "_law_seen", "_law_k", "_law_bit", "_law_low", "_law_high", "_law_lot_here", "_law_checks_here", "_law_size"] ["_law_hand_here", "_law_bits_here"] (defScope s__law_checks) := ⟨rfl, rfl, rfl, by decide +kernel, rfl, by decide +kernel, by decide +kernel⟩
/-- slots: 0 _law_hand_here 1 _law_bits_here 2 _law_posts 3 _law_seen 4 _law_k 5 _law_bit 6 _law_low 7 _law_high 8 _law_lot_here 9 _law_checks_here 10 _law_size -/
noncomputable def d__law_checks : Dn := defF 11
 (seqS (ifS (andB (tstF (op2F geD (varF 1) (cF (.int 3)))) (tstF (op2F eqD (callF 2 d__law_take [] (consV (nmF 0) (consV (dF (cF (.int 4))) nilV))) (cF (.int 0)))))
 (seqS (asgS 2 (op2F addD (cF (.int 3)) (callF 2 d__law_take [] (consV (nmF 0) (consV (dF (cF (.int 2))) nilV)))))
 (seqS (asgN 3 (lcN (faF rng1D (consA (varF 2) nilA)) (tgN 4) yesB (lstF nilA) [4]))
 (seqS (forS (faF rng1D (consA (varF 1) nilA)) (tgN 5)
 (seqS (asgS 6 (callF 2 d__law_take [] (consV (nmF 0) (consV (dF (varF 2)) nilV))))
 (seqS (asgS 7 (op2F modD (bltF intF (consV (dF (op2F addD (op2F addD (varF 6) (cF (.int 1))) (callF 2 d__law_take [] (consV (nmF 0) (consV (dF (op2F subD (varF 2) (cF (.int 1)))) nilV))))) nilV)) (varF 2)))
 (seqS (exprS (apNF 3 6 5))
 (exprS (apNF 3 7 5))))))
 (retF (lcF (itF (frzNF 3)) (tgN 8) (tstF (op2F neD (varF 8) (frF (lstF nilA)))) (varF 8) [8])))))
 skipS)
 (seqS (asgO 9 (lstF nilA))
 (seqS (ifS (andB (tstF (op2F geD (varF 1) (cF (.int 2)))) (tstF (op2F eqD (callF 2 d__law_take [] (consV (nmF 0) (consV (dF (cF (.int 10))) nilV))) (cF (.int 0)))))
 (seqS (asgO 9 (lcF (faF rng1D (consA (op2F subD (varF 1) (cF (.int 1))) nilA)) (tgN 5) yesB (frF (lstF (consA (varF 5) (consA (op2F addD (varF 5) (cF (.int 1))) nilA)))) [5]))
 (seqS (ifS (tstF (op2F gtD (callF 2 d__law_take [] (consV (nmF 0) (consV (dF (cF (.int 3))) nilV))) (cF (.int 0))))
 (retF (takeF 9))
 skipS)
 (asgO 9 (lstF (consA (op2V ixD (nmF 9) (dF (callF 2 d__law_take [] (consV (nmF 0) (consV (dF (bltF lenD (consV (nmF 9) nilV))) nilV))))) nilA)))))
 skipS)
 (seqS (forS (faF rng1D (consA (op2F ixD (tupF (consA (cF (.int 3)) (consA (cF (.int 2)) (consA (cF (.int 4)) (consA (cF (.int 3)) (consA (cF (.int 2)) (consA (cF (.int 5)) (consA (cF (.int 1)) (consA (cF (.int 0)) nilA))))))))) (callF 2 d__law_take [] (consV (nmF 0) (consV (dF (cF (.int 8))) nilV)))) nilA)) (tgN 4)
 (seqS (asgS 10 (op2F ixD (tupF (consA (cF (.int 2)) (consA (cF (.int 3)) (consA (cF (.int 2)) (consA (cF (.int 3)) (consA (cF (.int 4)) (consA (cF (.int 3)) (consA (cF (.int 2)) (consA (cF (.int 1)) nilA))))))))) (callF 2 d__law_take [] (consV (nmF 0) (consV (dF (cF (.int 8))) nilV)))))
 (seqS (ifS (tstF (op2F eqD (callF 2 d__law_take [] (consV (nmF 0) (consV (dF (cF (.int 12))) nilV))) (cF (.int 0))))
 (asgS 10 (varF 1))
 skipS)
 (exprS (apF 9 (frF (callFF 3 d__law_lot [] (consV (nmF 0) (consV (dF (varF 1)) (consV (dF (varF 10)) nilV))))))))))
 (seqS (ifS (andB (tstF (op2V neD (nmF 9) (dF (frF (lstF nilA))))) (tstF (op2F eqD (callF 2 d__law_take [] (consV (nmF 0) (consV (dF (cF (.int 8))) nilV))) (cF (.int 0)))))
 (exprS (apF 9 (frF (bltFF listD (consV (dF (op2V ixD (nmF 9) (dF (callF 2 d__law_take [] (consV (nmF 0) (consV (dF (bltF lenD (consV (nmF 9) nilV))) nilV)))))) nilV)))))
 skipS)
 (retF (takeF 9)))))))
theorem ok__law_checks (T : Tx K mg A) : FnOk P w K mg base (L2.CX P w) 4 A.f__law_checks A.fd__law_checks ["_law_hand_here", "_law_bits_here"] (spD ⟨K, mg⟩ 2 d__law_checks) :=
 ok_def (N := ["_law_hand_here", "_law_bits_here", "_law_posts", "_law_seen", "_law_k", "_law_bit", "_law_low", "_law_high", "_law_lot_here", "_law_checks_here", "_law_size"]) rfl (by decide) T.F__law_checks sc__law_checks fun cdv Ar outer s H E b hr hM hnp hpx =>
 (pts_cons (pts_if (PW.pt (pwb_and (qt_ge hM (pd_var (pv 1)) pd_int) (pwb_and1 (qt_eq hM hr (q_call hM (takes_of rfl rfl rfl rfl) (ok__law_take T) (hr.mono (by decide)) (by rfl) T.m__law_take T.k__law_take (bd__law_take_2 T) (fun _ _ _ => RepL.nil) (pva_cons (p1_nm (pv 0)) (pva_cons (p1_d pd_int) pva_nil))) pd_int))))
 (pts_cons (pts_asg sc__law_checks.nd (i := 2) rfl (by first | exact Or.inl rfl | exact Or.inr rfl) (q_add hM pd_int (q_call hM (takes_of rfl rfl rfl rfl) (ok__law_take T) (hr.mono (by decide)) (by rfl) T.m__law_take T.k__law_take (bd__law_take_2 T) (fun _ _ _ => RepL.nil) (pva_cons (p1_nm (pv 0)) (pva_cons (p1_d pd_int) pva_nil)))) rfl (by first | exact Or.inl rfl | exact Or.inr rfl) (PxOk.of hpx _))
 (pts_cons (pts_asgLcN hpx rfl sc__law_checks.nd rfl rfl (sw_true rfl rfl rfl rfl) (pi_rng1 (by rfl) T.z_range (pda_cons (pd_var (pv 2)) pda_nil)) (blkOk_by (own := [("_law_k", 4)]) (by first | (show blkC ["_law_hand_here", "_law_bits_here", "_law_posts", "_law_seen", "_law_k", "_law_bit", "_law_low", "_law_high", "_law_lot_here", "_law_checks_here", "_law_size"] (defScope s__law_checks) _ [("_law_k", 4)] = true; decide +kernel) | kernel_rfl)) rfl (by decide) (fun _ _ _ _ _ b' hM'' hpx' => have hM' := hM''.trans hM; (pg_n (pg_name (i := 4) sc__law_checks.nd rfl (by first | exact Or.inl rfl | exact Or.inr rfl)) (PxOk.of hpx' _))) (fun _ _ _ _ _ b' hM'' hpx' => have hM' := hM''.trans hM; pts_nilD) (fun _ _ _ _ _ b' hM'' hpx' => have hM' := hM''.trans hM; (pf_lst pda_nil)))
 (pts_cons (pts_for (passes_of rfl) rfl (pi_rng1 (by rfl) T.z_range (pda_cons (pd_var (pv 1)) pda_nil)) (pg_n (pg_name (i := 5) sc__law_checks.nd rfl (by first | exact Or.inl rfl | exact Or.inr rfl)) (PxOk.of hpx _))
 (pts_cons (pts_asg sc__law_checks.nd (i := 6) rfl (by first | exact Or.inl rfl | exact Or.inr rfl) (q_call hM (takes_of rfl rfl rfl rfl) (ok__law_take T) (hr.mono (by decide)) (by rfl) T.m__law_take T.k__law_take (bd__law_take_2 T) (fun _ _ _ => RepL.nil) (pva_cons (p1_nm (pv 0)) (pva_cons (p1_d (pd_var (pv 2))) pva_nil))) rfl (by first | exact Or.inl rfl | exact Or.inr rfl) (PxOk.of hpx _))
 (pts_cons (pts_asg sc__law_checks.nd (i := 7) rfl (by first | exact Or.inl rfl | exact Or.inr rfl) (q_mod hM (c_int hM (by rfl) T.z_int (pva_cons (p1_d (q_add hM (q_add hM (pd_var (pv 6)) pd_int) (q_call hM (takes_of rfl rfl rfl rfl) (ok__law_take T) (hr.mono (by decide)) (by rfl) T.m__law_take T.k__law_take (bd__law_take_2 T) (fun _ _ _ => RepL.nil) (pva_cons (p1_nm (pv 0)) (pva_cons (p1_d (q_sub hM (pd_var (pv 2)) pd_int)) pva_nil))))) pva_nil)) (pd_var (pv 2))) rfl (by first | exact Or.inl rfl | exact Or.inr rfl) (PxOk.of hpx _))
 (pts_cons (pts_expr (pd_apN (pv 3) (pv 6) (pv 5) (fun _ _ => rfl)))
 (pts_one' (pts_expr (pd_apN (pv 3) (pv 7) (pv 5) (fun _ _ => rfl))))))))
 (pts_one' (pts_retF (pf_lc hpx rfl sc__law_checks.nd (pi_d hM (pd_frzN (pv 3))) (blkOk_by (own := [("_law_lot_here", 8)]) (by first | (show blkC ["_law_hand_here", "_law_bits_here", "_law_posts", "_law_seen", "_law_k", "_law_bit", "_law_low", "_law_high", "_law_lot_here", "_law_checks_here", "_law_size"] (defScope s__law_checks) _ [("_law_lot_here", 8)] = true; decide +kernel) | kernel_rfl)) rfl (by decide) (fun _ _ _ _ _ b' hM'' hpx' => have hM' := hM''.trans hM; (pg_n (pg_name (i := 8) sc__law_checks.nd rfl (by first | exact Or.inl rfl | exact Or.inr rfl)) (PxOk.of hpx' _))) (fun _ _ _ _ _ b' hM'' hpx' => have hM' := hM''.trans hM; (pts_oneD (qt_ne hM' hr (pd_var (pv 8)) (pd_fr (pf_lst pda_nil))))) (fun _ _ _ _ _ b' hM'' hpx' => have hM' := hM''.trans hM; (pd_var (pv 8)))))))))
 pts_nil')
 (pts_cons (pts_asgO (npl hnp (by decide)) sc__law_checks.nd (i := 9) rfl (by first | exact Or.inl rfl | exact Or.inr rfl) (pf_lst pda_nil) rfl (by first | exact Or.inl rfl | exact Or.inr rfl) (PxOk.of hpx _))
 (pts_cons (pts_if (PW.pt (pwb_and (qt_ge hM (pd_var (pv 1)) pd_int) (pwb_and1 (qt_eq hM hr (q_call hM (takes_of rfl rfl rfl rfl) (ok__law_take T) (hr.mono (by decide)) (by rfl) T.m__law_take T.k__law_take (bd__law_take_2 T) (fun _ _ _ => RepL.nil) (pva_cons (p1_nm (pv 0)) (pva_cons (p1_d pd_int) pva_nil))) pd_int))))
 (pts_cons (pts_asgLc hpx (npl hnp (by decide)) rfl sc__law_checks.nd rfl rfl (sw_true rfl rfl rfl rfl) (pi_rng1 (by rfl) T.z_range (pda_cons (q_sub hM (pd_var (pv 1)) pd_int) pda_nil)) (blkOk_by (own := [("_law_bit", 5)]) (by first | (show blkC ["_law_hand_here", "_law_bits_here", "_law_posts", "_law_seen", "_law_k", "_law_bit", "_law_low", "_law_high", "_law_lot_here", "_law_checks_here", "_law_size"] (defScope s__law_checks) _ [("_law_bit", 5)] = true; decide +kernel) | kernel_rfl)) rfl (by decide) (fun _ _ _ _ _ b' hM'' hpx' => have hM' := hM''.trans hM; (pg_n (pg_name (i := 5) sc__law_checks.nd rfl (by first | exact Or.inl rfl | exact Or.inr rfl)) (PxOk.of hpx' _))) (fun _ _ _ _ _ b' hM'' hpx' => have hM' := hM''.trans hM; pts_nilD) (fun _ _ _ _ _ b' hM'' hpx' => have hM' := hM''.trans hM; (pd_fr (pf_lst (pda_cons (pd_var (pv 5)) (pda_cons (q_add hM' (pd_var (pv 5)) pd_int) pda_nil))))))
 (pts_cons (pts_if (qt_gt hM (q_call hM (takes_of rfl rfl rfl rfl) (ok__law_take T) (hr.mono (by decide)) (by rfl) T.m__law_take T.k__law_take (bd__law_take_2 T) (fun _ _ _ => RepL.nil) (pva_cons (p1_nm (pv 0)) (pva_cons (p1_d pd_int) pva_nil))) pd_int)
 (pts_one' (pts_retF (pf_take (pv 9) (npl hnp (by decide)))))
 pts_nil')
 (pts_one' (pts_asgO (npl hnp (by decide)) sc__law_checks.nd (i := 9) rfl (by first | exact Or.inl rfl | exact Or.inr rfl) (pf_lst (pda_cons (v_ix hM (p1_nm (pv 9)) (p1_d (q_call hM (takes_of rfl rfl rfl rfl) (ok__law_take T) (hr.mono (by decide)) (by rfl) T.m__law_take T.k__law_take (bd__law_take_2 T) (fun _ _ _ => RepL.nil) (pva_cons (p1_nm (pv 0)) (pva_cons (p1_d (c_len hM (by rfl) T.z_len (pva_cons (p1_nm (pv 9)) pva_nil))) pva_nil)))) (fun _ _ => rfl)) pda_nil)) rfl (by first | exact Or.inl rfl | exact Or.inr rfl) (PxOk.of hpx _)))))
 pts_nil')
 (pts_cons (pts_for (passes_of rfl) rfl (pi_rng1 (by rfl) T.z_range (pda_cons (q_ix hM (pd_tup (pda_cons pd_int (pda_cons pd_int (pda_cons pd_int (pda_cons pd_int (pda_cons pd_int (pda_cons pd_int (pda_cons pd_int (pda_cons pd_int pda_nil))))))))) (q_call hM (takes_of rfl rfl rfl rfl) (ok__law_take T) (hr.mono (by decide)) (by rfl) T.m__law_take T.k__law_take (bd__law_take_2 T) (fun _ _ _ => RepL.nil) (pva_cons (p1_nm (pv 0)) (pva_cons (p1_d pd_int) pva_nil))) (fun _ _ => rfl)) pda_nil)) (pg_n (pg_name (i := 4) sc__law_checks.nd rfl (by first | exact Or.inl rfl | exact Or.inr rfl)) (PxOk.of hpx _))
 (pts_cons (pts_asg sc__law_checks.nd (i := 10) rfl (by first | exact Or.inl rfl | exact Or.inr rfl) (q_ix hM (pd_tup (pda_cons pd_int (pda_cons pd_int (pda_cons pd_int (pda_cons pd_int (pda_cons pd_int (pda_cons pd_int (pda_cons pd_int (pda_cons pd_int pda_nil))))))))) (q_call hM (takes_of rfl rfl rfl rfl) (ok__law_take T) (hr.mono (by decide)) (by rfl) T.m__law_take T.k__law_take (bd__law_take_2 T) (fun _ _ _ => RepL.nil) (pva_cons (p1_nm (pv 0)) (pva_cons (p1_d pd_int) pva_nil))) (fun _ _ => rfl)) rfl (by first | exact Or.inl rfl | exact Or.inr rfl) (PxOk.of hpx _))
 (pts_cons (pts_if (qt_eq hM hr (q_call hM (takes_of rfl rfl rfl rfl) (ok__law_take T) (hr.mono (by decide)) (by rfl) T.m__law_take T.k__law_take (bd__law_take_2 T) (fun _ _ _ => RepL.nil) (pva_cons (p1_nm (pv 0)) (pva_cons (p1_d pd_int) pva_nil))) pd_int)
 (pts_one' (pts_asg sc__law_checks.nd (i := 10) rfl (by first | exact Or.inl rfl | exact Or.inr rfl) (pd_var (pv 1)) rfl (by first | exact Or.inl rfl | exact Or.inr rfl) (PxOk.of hpx _)))
 pts_nil')
 (pts_one' (pts_expr (pd_append (pv 9) (pd_fr (f_call hM (takes_of rfl rfl rfl rfl) (ok__law_lot T) (hr.mono (by decide)) (by rfl) T.m__law_lot T.k__law_lot (bd__law_lot_3 T) (fun _ _ _ => RepL.nil) (pva_cons (p1_nm (pv 0)) (pva_cons (p1_d (pd_var (pv 1))) (pva_cons (p1_d (pd_var (pv 10))) pva_nil)))))))))))
 (pts_cons (pts_if (PW.pt (pwb_and (vt_ne hM hr (p1_nm (pv 9)) (p1_d (pd_fr (pf_lst pda_nil)))) (pwb_and1 (qt_eq hM hr (q_call hM (takes_of rfl rfl rfl rfl) (ok__law_take T) (hr.mono (by decide)) (by rfl) T.m__law_take T.k__law_take (bd__law_take_2 T) (fun _ _ _ => RepL.nil) (pva_cons (p1_nm (pv 0)) (pva_cons (p1_d pd_int) pva_nil))) pd_int))))
 (pts_one' (pts_expr (pd_append (pv 9) (pd_fr (c_list hM (by rfl) T.z_list (pva_cons (p1_d (v_ix hM (p1_nm (pv 9)) (p1_d (q_call hM (takes_of rfl rfl rfl rfl) (ok__law_take T) (hr.mono (by decide)) (by rfl) T.m__law_take T.k__law_take (bd__law_take_2 T) (fun _ _ _ => RepL.nil) (pva_cons (p1_nm (pv 0)) (pva_cons (p1_d (c_len hM (by rfl) T.z_len (pva_cons (p1_nm (pv 9)) pva_nil))) pva_nil)))) (fun _ _ => rfl))) pva_nil))))))
 pts_nil')
 (pts_one' (pts_retF (pf_take (pv 9) (npl hnp (by decide))))))))))
theorem sc_is_whole : FnScope ["thing", "low", "high"] ["thing", "low", "high"] (defScope s_is_whole) := ⟨rfl, rfl, rfl, by decide +kernel, rfl, by decide +kernel, by decide +kernel⟩
/-- slots: 0 thing 1 low 2 high -/
noncomputable def d_is_whole : Dn := defF 3
 (seqS (ifS (orB (notB (tstF (isiF isInt (dF (varF 0))))) (tstF (isiF isBool (dF (varF 0)))))
 (retS (cF (.bl false)))
 skipS)
 (seqS (ifS (andB (tstF (op2F isNotD (varF 1) (cF .non))) (tstF (op2F ltD (varF 0) (varF 1))))
 (retS (cF (.bl false)))
 skipS)
 (retS (orV (op2F isD (varF 2) (cF .non)) (op2F leD (varF 0) (varF 2))))))
theorem ok_is_whole (T : Tx K mg A) : FnOk P w K mg base (L2.CX P w) 1 A.f_is_whole A.fd_is_whole ["thing", "low", "high"] (spD ⟨K, mg⟩ 3 d_is_whole) :=
 ok_def (N := ["thing", "low", "high"]) rfl (by decide) T.F_is_whole sc_is_whole fun cdv Ar outer s H E b hr hM hnp hpx =>
 (pts_cons (pts_if (PW.pt (pwb_or (ptb_not (pt_of (pd_isi hM kit_int (by rfl) T.z_isinstance (p1_d (pd_var (pv 0))) (tyN (by rfl) T.z_int (by decide +kernel))))) (pwb_or1 (pt_of (pd_isi hM kit_bool (by rfl) T.z_isinstance (p1_d (pd_var (pv 0))) (tyN (by rfl) T.z_bool (by decide +kernel)))))))
 (pts_one' (pts_ret pd_bl))
 pts_nil')
 (pts_cons (pts_if (PW.pt (pwb_and (qt_isnot hM (pd_var (pv 1)) pd_non) (pwb_and1 (qt_lt hM (pd_var (pv 0)) (pd_var (pv 1))))))
 (pts_one' (pts_ret pd_bl))
 pts_nil')
 (pts_one' (pts_ret (pd_or (q_is hM (pd_var (pv 2)) pd_non) (pd_one (q_le hM (pd_var (pv 0)) (pd_var (pv 2)))))))))
theorem sc_is_sequence : FnScope ["thing"] ["thing"] (defScope s_is_sequence) := ⟨rfl, rfl, rfl, by decide +kernel, rfl, by decide +kernel, by decide +kernel⟩
/-- slots: 0 thing -/
noncomputable def d_is_sequence : Dn := defF 1
 (retS (isiF isLstTup (dF (varF 0))))
theorem ok_is_sequence (T : Tx K mg A) : FnOk P w K mg base (L2.CX P w) 1 A.f_is_sequence A.fd_is_sequence ["thing"] (spD ⟨K, mg⟩ 1 d_is_sequence) :=
 ok_def (N := ["thing"]) rfl (by decide) T.F_is_sequence sc_is_sequence fun cdv Ar outer s H E b hr hM hnp hpx =>
 (pts_one' (pts_ret (pd_isiLT hM (by rfl) T.z_isinstance (p1_d (pd_var (pv 0))) (tyN (by rfl) T.z_list (by decide +kernel)) (tyN (by rfl) T.z_tuple (by decide +kernel)))))
theorem sc_lot_of : FnScope ["bits", "things", "place", "thing"] ["bits", "things"] (defScope s_lot_of) := ⟨rfl, rfl, rfl, by decide +kernel, rfl, by decide +kernel, by decide +kernel⟩
/-- slots: 0 bits 1 things 2 place 3 thing -/
noncomputable def d_lot_of : Dn := defF 4
 (seqS (ifS (notB (tstF (callF 1 d_is_sequence [] (consV (dF (varF 1)) nilV))))
 (retS (cF .non))
 skipS)
 (seqS (forS (faF enmD (consA (varF 1) nilA)) (tgT 2 (tgCons (tgN 2) (tgCons (tgN 3) tgNil)))
 (ifS (orB (notB (tstF (callF 3 d_is_whole [] (consV (dF (varF 3)) (consV (dF (cF (.int 0))) (consV (dF (op2F subD (varF 0) (cF (.int 1)))) nilV)))))) (tstF (op2F inD (varF 3) (slF (dF (varF 1)) noPart (partF (varF 2))))))
 (retS (cF .non))
 skipS))
 (retS (bltF tupleD (consV (dF (frF (bltFF sortedD (consV (dF (varF 1)) nilV)))) nilV)))))
theorem ok_lot_of (T : Tx K mg A) : FnOk P w K mg base (L2.CX P w) 2 A.f_lot_of A.fd_lot_of ["bits", "things"] (spD ⟨K, mg⟩ 2 d_lot_of) :=
 ok_def (N := ["bits", "things", "place", "thing"]) rfl (by decide) T.F_lot_of sc_lot_of fun cdv Ar outer s H E b hr hM hnp hpx =>
 (pts_cons (pts_if (ptb_not (pt_of (q_call hM (takes_of rfl rfl rfl rfl) (ok_is_sequence T) (hr.mono (by decide)) (by rfl) T.m_is_sequence T.k_is_sequence (bd_is_sequence_1 T) (fun _ _ _ => RepL.nil) (pva_cons (p1_d (pd_var (pv 1))) pva_nil))))
 (pts_one' (pts_ret pd_non))
 pts_nil')
 (pts_cons (pts_for (passes_of rfl) rfl (pi_enmD hM (by rfl) T.z_enumerate (pda_cons (pd_var (pv 1)) pda_nil)) (pg_tupD hM rfl (pgs_consD (pg_n (pg_name (i := 2) sc_lot_of.nd rfl (by first | exact Or.inl rfl | exact Or.inr rfl)) (PxOk.of hpx _)) (pgs_consD (pg_n (pg_name (i := 3) sc_lot_of.nd rfl (by first | exact Or.inl rfl | exact Or.inr rfl)) (PxOk.of hpx _)) pgs_nilD)))
 (pts_one' (pts_if (PW.pt (pwb_or (ptb_not (pt_of (q_call hM (takes_of rfl rfl rfl rfl) (ok_is_whole T) (hr.mono (by decide)) (by rfl) T.m_is_whole T.k_is_whole (bd_is_whole_3 T) (fun _ _ _ => RepL.nil) (pva_cons (p1_d (pd_var (pv 3))) (pva_cons (p1_d pd_int) (pva_cons (p1_d (q_sub hM (pd_var (pv 0)) pd_int)) pva_nil)))))) (pwb_or1 (qt_in hM hr (pd_var (pv 3)) (pd_sl hM (p1_d (pd_var (pv 1))) pod_none (pod_some (pd_var (pv 2))))))))
 (pts_one' (pts_ret pd_non))
 pts_nil')))
 (pts_one' (pts_ret (c_tuple hM (by rfl) T.z_tuple (pva_cons (p1_d (pd_fr (c_sorted hM (by rfl) T.z_sorted (pva_cons (p1_d (pd_var (pv 1))) pva_nil)))) pva_nil))))))
theorem sc_Code__init__ : FnScope ["self", "bits", "checks", "rows", "number", "things", "row"] ["self", "bits", "checks"] (defScope s_Code__init__) := ⟨rfl, rfl, rfl, by decide +kernel, rfl, by decide +kernel, by decide +kernel⟩
/-- slots: 0 self 1 bits 2 checks 3 rows 4 number 5 things 6 row -/
noncomputable def d_Code__init__ : Dn := defF 7
 (seqS (ifS (notB (tstF (callF 3 d_is_whole [] (consV (dF (varF 1)) (consV (dF (cF (.int 1))) (consV (dF (cF k_MOST_BITS)) nilV))))))
 (raiseS "BadCode" ["what", "place"] (consA (cF (.str "bits")) (consA (op1F negD (cF (.int 1))) nilA)))
 skipS)
 (seqS (ifS (orB (notB (tstF (callF 1 d_is_sequence [] (consV (dF (varF 2)) nilV)))) (tstF (op2F gtD (bltF lenD (consV (dF (varF 2)) nilV)) (cF k_MOST_CHECKS))))
 (raiseS "BadCode" ["what", "place"] (consA (cF (.str "many")) (consA (op1F negD (cF (.int 1))) nilA)))
 skipS)
 (seqS (asgO 3 (lstF nilA))
 (seqS (forS (faF enmD (consA (varF 2) nilA)) (tgT 2 (tgCons (tgN 4) (tgCons (tgN 5) tgNil)))
 (seqS (asgS 6 (callF 2 d_lot_of [] (consV (dF (varF 1)) (consV (dF (varF 5)) nilV))))
 (seqS (ifS (orB (tstF (op2F isD (varF 6) (cF .non))) (tstF (op2F eqD (bltF lenD (consV (dF (varF 6)) nilV)) (cF (.int 0)))))
 (raiseS "BadCode" ["what", "place"] (consA (cF (.str "check")) (consA (varF 4) nilA)))
 skipS)
 (exprS (apF 3 (varF 6))))))
 (seqS (sfS "Code" 0 "bits" (varF 1))
 (sfS "Code" 0 "checks" (bltF tupleD (consV (nmF 3) nilV))))))))
theorem ok_Code__init__ (T : Tx K mg A) : FnOk P w K mg base (L2.CX P w) 3 A.f_Code__init__ A.fd_Code__init__ ["self", "bits", "checks"] (spD ⟨K, mg⟩ 3 d_Code__init__) :=
 ok_def (N := ["self", "bits", "checks", "rows", "number", "things", "row"]) rfl (by decide) T.F_Code__init__ sc_Code__init__ fun cdv Ar outer s H E b hr hM hnp hpx =>
 (pts_cons (pts_if (ptb_not (pt_of (q_call hM (takes_of rfl rfl rfl rfl) (ok_is_whole T) (hr.mono (by decide)) (by rfl) T.m_is_whole T.k_is_whole (bd_is_whole_3 T) (fun _ _ _ => RepL.nil) (pva_cons (p1_d (pd_var (pv 1))) (pva_cons (p1_d pd_int) (pva_cons (p1_d (pd_glob (by rfl) T.m_MOST_BITS (Classical.choose_spec T.r_MOST_BITS).1 (rk_MOST_BITS T hM))) pva_nil))))))
 (pts_one' (pts_raise hM rfl (takes_of rfl rfl rfl rfl) T.o_BadCode T.i_BadCode T.t_BadCode (okx_BadCode T) (hr.mono (by decide)) (bdx_BadCode T) (by rfl) T.m_BadCode (by simp) (by decide) (pda_cons pd_str (pda_cons (q_neg pd_int) pda_nil))))
 pts_nil')
 (pts_cons (pts_if (PW.pt (pwb_or (ptb_not (pt_of (q_call hM (takes_of rfl rfl rfl rfl) (ok_is_sequence T) (hr.mono (by decide)) (by rfl) T.m_is_sequence T.k_is_sequence (bd_is_sequence_1 T) (fun _ _ _ => RepL.nil) (pva_cons (p1_d (pd_var (pv 2))) pva_nil)))) (pwb_or1 (qt_gt hM (c_len hM (by rfl) T.z_len (pva_cons (p1_d (pd_var (pv 2))) pva_nil)) (pd_glob (by rfl) T.m_MOST_CHECKS (Classical.choose_spec T.r_MOST_CHECKS).1 (rk_MOST_CHECKS T hM))))))
 (pts_one' (pts_raise hM rfl (takes_of rfl rfl rfl rfl) T.o_BadCode T.i_BadCode T.t_BadCode (okx_BadCode T) (hr.mono (by decide)) (bdx_BadCode T) (by rfl) T.m_BadCode (by simp) (by decide) (pda_cons pd_str (pda_cons (q_neg pd_int) pda_nil))))
 pts_nil')
 (pts_cons (pts_asgO (npl hnp (by decide)) sc_Code__init__.nd (i := 3) rfl (by first | exact Or.inl rfl | exact Or.inr rfl) (pf_lst pda_nil) rfl (by first | exact Or.inl rfl | exact Or.inr rfl) (PxOk.of hpx _))
 (pts_cons (pts_for (passes_of rfl) rfl (pi_enmD hM (by rfl) T.z_enumerate (pda_cons (pd_var (pv 2)) pda_nil)) (pg_tupD hM rfl (pgs_consD (pg_n (pg_name (i := 4) sc_Code__init__.nd rfl (by first | exact Or.inl rfl | exact Or.inr rfl)) (PxOk.of hpx _)) (pgs_consD (pg_n (pg_name (i := 5) sc_Code__init__.nd rfl (by first | exact Or.inl rfl | exact Or.inr rfl)) (PxOk.of hpx _)) pgs_nilD)))
 (pts_cons (pts_asg sc_Code__init__.nd (i := 6) rfl (by first | exact Or.inl rfl | exact Or.inr rfl) (q_call hM (takes_of rfl rfl rfl rfl) (ok_lot_of T) (hr.mono (by decide)) (by rfl) T.m_lot_of T.k_lot_of (bd_lot_of_2 T) (fun _ _ _ => RepL.nil) (pva_cons (p1_d (pd_var (pv 1))) (pva_cons (p1_d (pd_var (pv 5))) pva_nil))) rfl (by first | exact Or.inl rfl | exact Or.inr rfl) (PxOk.of hpx _))
 (pts_cons (pts_if (PW.pt (pwb_or (qt_is hM (pd_var (pv 6)) pd_non) (pwb_or1 (qt_eq hM hr (c_len hM (by rfl) T.z_len (pva_cons (p1_d (pd_var (pv 6))) pva_nil)) pd_int))))
 (pts_one' (pts_raise hM rfl (takes_of rfl rfl rfl rfl) T.o_BadCode T.i_BadCode T.t_BadCode (okx_BadCode T) (hr.mono (by decide)) (bdx_BadCode T) (by rfl) T.m_BadCode (by simp) (by decide) (pda_cons pd_str (pda_cons (pd_var (pv 4)) pda_nil))))
 pts_nil')
 (pts_one' (pts_expr (pd_append (pv 3) (pd_var (pv 6))))))))
 (pts_cons (pts_sf hM (fl_Code_bits T) (pv 0) (pd_var (pv 1)))
 (pts_one' (pts_sf hM (fl_Code_checks T) (pv 0) (c_tuple hM (by rfl) T.z_tuple (pva_cons (p1_nm (pv 3)) pva_nil)))))))))
theorem sc__law_list : FnScope ["_law_hand_here", "_law_items"] ["_law_hand_here", "_law_items"] (defScope s__law_list) := ⟨rfl, rfl, rfl, by decide +kernel, rfl, by decide +kernel, by decide +kernel⟩
/-- slots: 0 _law_hand_here 1 _law_items -/
noncomputable def d__law_list : Dn := defF 2
 (retS (ifF (tstF (op2F eqD (callF 2 d__law_take [] (consV (nmF 0) (consV (dF (cF (.int 2))) nilV))) (cF (.int 0)))) (frF (bltFF listD (consV (dF (varF 1)) nilV))) (bltF tupleD (consV (dF (varF 1)) nilV))))
theorem ok__law_list (T : Tx K mg A) : FnOk P w K mg base (L2.CX P w) 3 A.f__law_list A.fd__law_list ["_law_hand_here", "_law_items"] (spD ⟨K, mg⟩ 2 d__law_list) :=
 ok_def (N := ["_law_hand_here", "_law_items"]) rfl (by decide) T.F__law_list sc__law_list fun cdv Ar outer s H E b hr hM hnp hpx =>
 (pts_one' (pts_ret (pd_if (qt_eq hM hr (q_call hM (takes_of rfl rfl rfl rfl) (ok__law_take T) (hr.mono (by decide)) (by rfl) T.m__law_take T.k__law_take (bd__law_take_2 T) (fun _ _ _ => RepL.nil) (pva_cons (p1_nm (pv 0)) (pva_cons (p1_d pd_int) pva_nil))) pd_int) (pd_fr (c_list hM (by rfl) T.z_list (pva_cons (p1_d (pd_var (pv 1))) pva_nil))) (c_tuple hM (by rfl) T.z_tuple (pva_cons (p1_d (pd_var (pv 1))) pva_nil)))))
theorem sc__law_broken : FnScope ["_law_checks_here", "_law_entries", "_law_number", "_law_bit", "_law_others", "_law_other"] ["_law_checks_here", "_law_entries"] (defScope s__law_broken) := ⟨rfl, rfl, rfl, by decide +kernel, rfl, by decide +kernel, by decide +kernel⟩
/-- slots: 0 _law_checks_here 1 _law_entries 2 _law_number 3 _law_bit 4 _law_others 5 _law_other -/
noncomputable def d__law_broken : Dn := defF 6
 (seqS (forS (faF rng1D (consA (bltF lenD (consV (dF (varF 0)) nilV)) nilA)) (tgN 2)
 (forS (itF (op2F ixD (varF 0) (varF 2))) (tgN 3)
 (seqS (asgS 4 (cF (.int 0)))
 (seqS (forS (itF (op2F ixD (varF 0) (varF 2))) (tgN 5)
 (ifS (tstF (op2F neD (varF 5) (varF 3)))
 (asgS 4 (op2F addD (varF 4) (op2V ixD (nmF 1) (dF (varF 5)))))
 skipS))
 (ifS (tstF (op2F gtD (op2V ixD (nmF 1) (dF (varF 3))) (varF 4)))
 (retS (tupF (consA (varF 2) (consA (varF 3) nilA))))
 skipS)))))
 (retS (cF .non)))
theorem ok__law_broken (T : Tx K mg A) : FnOk P w K mg base (L2.CX P w) 1 A.f__law_broken A.fd__law_broken ["_law_checks_here", "_law_entries"] (spD ⟨K, mg⟩ 2 d__law_broken) :=
 ok_def (N := ["_law_checks_here", "_law_entries", "_law_number", "_law_bit", "_law_others", "_law_other"]) rfl (by decide) T.F__law_broken sc__law_broken fun cdv Ar outer s H E b hr hM hnp hpx =>
 (pts_cons (pts_for (passes_of rfl) rfl (pi_rng1 (by rfl) T.z_range (pda_cons (c_len hM (by rfl) T.z_len (pva_cons (p1_d (pd_var (pv 0))) pva_nil)) pda_nil)) (pg_n (pg_name (i := 2) sc__law_broken.nd rfl (by first | exact Or.inl rfl | exact Or.inr rfl)) (PxOk.of hpx _))
 (pts_one' (pts_for (passes_of rfl) rfl (pi_d hM (q_ix hM (pd_var (pv 0)) (pd_var (pv 2)) (fun _ _ => rfl))) (pg_n (pg_name (i := 3) sc__law_broken.nd rfl (by first | exact Or.inl rfl | exact Or.inr rfl)) (PxOk.of hpx _))
 (pts_cons (pts_asg sc__law_broken.nd (i := 4) rfl (by first | exact Or.inl rfl | exact Or.inr rfl) pd_int rfl (by first | exact Or.inl rfl | exact Or.inr rfl) (PxOk.of hpx _))
 (pts_cons (pts_for (passes_of rfl) rfl (pi_d hM (q_ix hM (pd_var (pv 0)) (pd_var (pv 2)) (fun _ _ => rfl))) (pg_n (pg_name (i := 5) sc__law_broken.nd rfl (by first | exact Or.inl rfl | exact Or.inr rfl)) (PxOk.of hpx _))
 (pts_one' (pts_if (qt_ne hM hr (pd_var (pv 5)) (pd_var (pv 3)))
 (pts_one' (pts_asg sc__law_broken.nd (i := 4) rfl (by first | exact Or.inl rfl | exact Or.inr rfl) (q_add hM (pd_var (pv 4)) (v_ix hM (p1_nm (pv 1)) (p1_d (pd_var (pv 5))) (fun _ _ => rfl))) rfl (by first | exact Or.inl rfl | exact Or.inr rfl) (PxOk.of hpx _)))
 pts_nil')))
 (pts_one' (pts_if (qt_gt hM (v_ix hM (p1_nm (pv 1)) (p1_d (pd_var (pv 3))) (fun _ _ => rfl)) (pd_var (pv 4)))
 (pts_one' (pts_ret (pd_tup (pda_cons (pd_var (pv 2)) (pda_cons (pd_var (pv 3)) pda_nil)))))
 pts_nil')))))))
 (pts_one' (pts_ret pd_non)))
theorem sc__law_brought_down : FnScope ["_law_checks_here", "_law_entries", "_law_told", "_law_step", "_law_found", "_law_others", "_law_other"] ["_law_checks_here", "_law_entries"] (defScope s__law_brought_down) := ⟨rfl, rfl, rfl, by decide +kernel, rfl, by decide +kernel, by decide +kernel⟩
/-- slots: 0 _law_checks_here 1 _law_entries 2 _law_told 3 _law_step 4 _law_found 5 _law_others 6 _law_other -/
noncomputable def d__law_brought_down : Dn := defF 7
 (seqS (asgO 2 (bltFF listD (consV (dF (varF 1)) nilV)))
 (seqS (forS (faF rng1D (consA (cF (.int 400)) nilA)) (tgN 3)
 (seqS (asgS 4 (callF 2 d__law_broken [] (consV (dF (varF 0)) (consV (nmF 2) nilV))))
 (seqS (ifS (tstF (op2F isD (varF 4) (cF .non)))
 (retF (takeF 2))
 skipS)
 (seqS (asgS 5 (cF (.int 0)))
 (seqS (forS (itF (op2F ixD (varF 0) (op2F ixD (varF 4) (cF (.int 0))))) (tgN 6)
 (ifS (tstF (op2F neD (varF 6) (op2F ixD (varF 4) (cF (.int 1)))))
 (asgS 5 (op2F addD (varF 5) (op2V ixD (nmF 2) (dF (varF 6)))))
 skipS))
 (setS 2 (op2F ixD (varF 4) (cF (.int 1))) (varF 5)))))))
 (retF (op2L repD (dF (frF (lstF (consA (cF (.int 0)) nilA)))) (dF (bltF lenD (consV (nmF 2) nilV)))))))
theorem ok__law_brought_down (T : Tx K mg A) : FnOk P w K mg base (L2.CX P w) 2 A.f__law_brought_down A.fd__law_brought_down ["_law_checks_here", "_law_entries"] (spD ⟨K, mg⟩ 2 d__law_brought_down) :=
 ok_def (N := ["_law_checks_here", "_law_entries", "_law_told", "_law_step", "_law_found", "_law_others", "_law_other"]) rfl (by decide) T.F__law_brought_down sc__law_brought_down fun cdv Ar outer s H E b hr hM hnp hpx =>
 (pts_cons (pts_asgO (npl hnp (by decide)) sc__law_brought_down.nd (i := 2) rfl (by first | exact Or.inl rfl | exact Or.inr rfl) (c_list hM (by rfl) T.z_list (pva_cons (p1_d (pd_var (pv 1))) pva_nil)) rfl (by first | exact Or.inl rfl | exact Or.inr rfl) (PxOk.of hpx _))
 (pts_cons (pts_for (passes_of rfl) rfl (pi_rng1 (by rfl) T.z_range (pda_cons pd_int pda_nil)) (pg_n (pg_name (i := 3) sc__law_brought_down.nd rfl (by first | exact Or.inl rfl | exact Or.inr rfl)) (PxOk.of hpx _))
 (pts_cons (pts_asg sc__law_brought_down.nd (i := 4) rfl (by first | exact Or.inl rfl | exact Or.inr rfl) (q_call hM (takes_of rfl rfl rfl rfl) (ok__law_broken T) (hr.mono (by decide)) (by rfl) T.m__law_broken T.k__law_broken (bd__law_broken_2 T) (fun _ _ _ => RepL.nil) (pva_cons (p1_d (pd_var (pv 0))) (pva_cons (p1_nm (pv 2)) pva_nil))) rfl (by first | exact Or.inl rfl | exact Or.inr rfl) (PxOk.of hpx _))
 (pts_cons (pts_if (qt_is hM (pd_var (pv 4)) pd_non)
 (pts_one' (pts_retF (pf_take (pv 2) (npl hnp (by decide)))))
 pts_nil')
 (pts_cons (pts_asg sc__law_brought_down.nd (i := 5) rfl (by first | exact Or.inl rfl | exact Or.inr rfl) pd_int rfl (by first | exact Or.inl rfl | exact Or.inr rfl) (PxOk.of hpx _))
 (pts_cons (pts_for (passes_of rfl) rfl (pi_d hM (q_ix hM (pd_var (pv 0)) (q_ix hM (pd_var (pv 4)) pd_int (fun _ _ => rfl)) (fun _ _ => rfl))) (pg_n (pg_name (i := 6) sc__law_brought_down.nd rfl (by first | exact Or.inl rfl | exact Or.inr rfl)) (PxOk.of hpx _))
 (pts_one' (pts_if (qt_ne hM hr (pd_var (pv 6)) (q_ix hM (pd_var (pv 4)) pd_int (fun _ _ => rfl)))
 (pts_one' (pts_asg sc__law_brought_down.nd (i := 5) rfl (by first | exact Or.inl rfl | exact Or.inr rfl) (q_add hM (pd_var (pv 5)) (v_ix hM (p1_nm (pv 2)) (p1_d (pd_var (pv 6))) (fun _ _ => rfl))) rfl (by first | exact Or.inl rfl | exact Or.inr rfl) (PxOk.of hpx _)))
 pts_nil')))
 (pts_one' (pts_set (pv 2) (q_ix hM (pd_var (pv 4)) pd_int (fun _ _ => rfl)) (pd_var (pv 5)))))))))
 (pts_one' (pts_retF (pf_rep hM (p1_d (pd_fr (pf_lst (pda_cons pd_int pda_nil)))) (p1_d (c_len hM (by rfl) T.z_len (pva_cons (p1_nm (pv 2)) pva_nil))))))))
theorem sc__law_cone_row : FnScope ["_law_hand_here", "_law_bits_here", "_law_checks_here", "_law_great", "_law_bit"] ["_law_hand_here", "_law_bits_here", "_law_checks_here"] (defScope s__law_cone_row) := ⟨rfl, rfl, rfl, by decide +kernel, rfl, by decide +kernel, by decide +kernel⟩
/-- slots: 0 _law_hand_here 1 _law_bits_here 2 _law_checks_here 3 _law_great 4 _law_bit -/
noncomputable def d__law_cone_row : Dn := defF 5
 (seqS (asgS 3 (op2F ixD (tupF (consA (cF (.int 2)) (consA (cF (.int 3)) (consA (cF (.int 5)) (consA (cF (.int 9)) nilA))))) (callF 2 d__law_take [] (consV (nmF 0) (consV (dF (cF (.int 4))) nilV)))))
 (retF (callFF 2 d__law_brought_down [] (consV (dF (varF 2)) (consV (dF (frF (lcF (faF rng1D (consA (varF 1) nilA)) (tgN 4) yesB (callF 2 d__law_take [] (consV (nmF 0) (consV (dF (op2F addD (varF 3) (cF (.int 1)))) nilV))) [4]))) nilV)))))
theorem ok__law_cone_row (T : Tx K mg A) : FnOk P w K mg base (L2.CX P w) 3 A.f__law_cone_row A.fd__law_cone_row ["_law_hand_here", "_law_bits_here", "_law_checks_here"] (spD ⟨K, mg⟩ 3 d__law_cone_row) :=
 ok_def (N := ["_law_hand_here", "_law_bits_here", "_law_checks_here", "_law_great", "_law_bit"]) rfl (by decide) T.F__law_cone_row sc__law_cone_row fun cdv Ar outer s H E b hr hM hnp hpx =>
 (pts_cons (pts_asg sc__law_cone_row.nd (i := 3) rfl (by first | exact Or.inl rfl | exact Or.inr rfl) (q_ix hM (pd_tup (pda_cons pd_int (pda_cons pd_int (pda_cons pd_int (pda_cons pd_int pda_nil))))) (q_call hM (takes_of rfl rfl rfl rfl) (ok__law_take T) (hr.mono (by decide)) (by rfl) T.m__law_take T.k__law_take (bd__law_take_2 T) (fun _ _ _ => RepL.nil) (pva_cons (p1_nm (pv 0)) (pva_cons (p1_d pd_int) pva_nil))) (fun _ _ => rfl)) rfl (by first | exact Or.inl rfl | exact Or.inr rfl) (PxOk.of hpx _))
 (pts_one' (pts_retF (f_call hM (takes_of rfl rfl rfl rfl) (ok__law_brought_down T) (hr.mono (by decide)) (by rfl) T.m__law_brought_down T.k__law_brought_down (bd__law_brought_down_2 T) (fun _ _ _ => RepL.nil) (pva_cons (p1_d (pd_var (pv 2))) (pva_cons (p1_d (pd_fr (pf_lc hpx rfl sc__law_cone_row.nd (pi_rng1 (by rfl) T.z_range (pda_cons (pd_var (pv 1)) pda_nil)) (blkOk_by (own := [("_law_bit", 4)]) (by first | (show blkC ["_law_hand_here", "_law_bits_here", "_law_checks_here", "_law_great", "_law_bit"] (defScope s__law_cone_row) _ [("_law_bit", 4)] = true; decide +kernel) | kernel_rfl)) rfl (by decide) (fun _ _ _ _ _ b' hM'' hpx' => have hM' := hM''.trans hM; (pg_n (pg_name (i := 4) sc__law_cone_row.nd rfl (by first | exact Or.inl rfl | exact Or.inr rfl)) (PxOk.of hpx' _))) (fun _ _ _ _ _ b' hM'' hpx' => have hM' := hM''.trans hM; pts_nilD) (fun _ _ _ _ _ b' hM'' hpx' => have hM' := hM''.trans hM; (q_call hM' takes0 (ok__law_take T) (hr.mono (by decide)) (by rfl) T.m__law_take T.k__law_take (bd__law_take_2 T) (fun _ _ _ => RepL.nil) (pva_cons (p1_nm (pv 0)) (pva_cons (p1_d (q_add hM' (pd_var (pv 3)) pd_int)) pva_nil))))))) pva_nil))))))
theorem sc__law_bars : FnScope ["_law_entries", "_law_bits_here", "_law_total", "_law_least", "_law_number", "_law_picks", "_law_bit"] ["_law_entries"] (defScope s__law_bars) := ⟨rfl, rfl, rfl, by decide +kernel, rfl, by decide +kernel, by decide +kernel⟩
/-- slots: 0 _law_entries 1 _law_bits_here 2 _law_total 3 _law_least 4 _law_number 5 _law_picks 6 _law_bit -/
noncomputable def d__law_bars : Dn := defF 7
 (seqS (asgS 1 (bltF lenD (consV (dF (varF 0)) nilV)))
 (seqS (asgS 2 (bltF sumD (consV (dF (varF 0)) nilV)))
 (seqS (asgS 3 (varF 1))
 (seqS (forS (faF rng1D (consA (op2F powD (cF (.int 2)) (cF (.int 10))) nilA)) (tgN 4)
 (seqS (ifS (tstF (op2F gtD (op2F shrD (varF 4) (varF 1)) (cF (.int 0))))
 brkS
 skipS)
 (seqS (asgO 5 (lcF (faF rng1D (consA (varF 1) nilA)) (tgN 6) (tstF (op2F eqD (op2F andD (bltF intF (consV (dF (op2F shrD (varF 4) (varF 6))) nilV)) (cF (.int 1))) (cF (.int 1)))) (varF 6) [6]))
 (ifS (andB (tstF (op2F ltD (bltF lenD (consV (nmF 5) nilV)) (varF 3))) (tstF (op2F geD (op2F mulD (cF (.int 2)) (bltF sumD (consV (dF (frF (lcF (itF (frzF 5)) (tgN 6) yesB (op2F ixD (varF 0) (varF 6)) [6]))) nilV))) (varF 2))))
 (asgS 3 (bltF lenD (consV (nmF 5) nilV)))
 skipS))))
 (retS (varF 3))))))
theorem ok__law_bars (T : Tx K mg A) : FnOk P w K mg base (L2.CX P w) 1 A.f__law_bars A.fd__law_bars ["_law_entries"] (spD ⟨K, mg⟩ 1 d__law_bars) :=
 ok_def (N := ["_law_entries", "_law_bits_here", "_law_total", "_law_least", "_law_number", "_law_picks", "_law_bit"]) rfl (by decide) T.F__law_bars sc__law_bars fun cdv Ar outer s H E b hr hM hnp hpx =>
 (pts_cons (pts_asg sc__law_bars.nd (i := 1) rfl (by first | exact Or.inl rfl | exact Or.inr rfl) (c_len hM (by rfl) T.z_len (pva_cons (p1_d (pd_var (pv 0))) pva_nil)) rfl (by first | exact Or.inl rfl | exact Or.inr rfl) (PxOk.of hpx _))
 (pts_cons (pts_asg sc__law_bars.nd (i := 2) rfl (by first | exact Or.inl rfl | exact Or.inr rfl) (c_sum hM rfl (by rfl) T.z_sum (pva_cons (p1_d (pd_var (pv 0))) pva_nil)) rfl (by first | exact Or.inl rfl | exact Or.inr rfl) (PxOk.of hpx _))
 (pts_cons (pts_asg sc__law_bars.nd (i := 3) rfl (by first | exact Or.inl rfl | exact Or.inr rfl) (pd_var (pv 1)) rfl (by first | exact Or.inl rfl | exact Or.inr rfl) (PxOk.of hpx _))
 (pts_cons (pts_for (passes_of rfl) rfl (pi_rng1 (by rfl) T.z_range (pda_cons (q_pow hM pd_int pd_int) pda_nil)) (pg_n (pg_name (i := 4) sc__law_bars.nd rfl (by first | exact Or.inl rfl | exact Or.inr rfl)) (PxOk.of hpx _))
 (pts_cons (pts_if (qt_gt hM (q_shr hM (pd_var (pv 4)) (pd_var (pv 1))) pd_int)
 (pts_one' pts_break)
 pts_nil')
 (pts_cons (pts_asgLc hpx (npl hnp (by decide)) rfl sc__law_bars.nd rfl rfl (sw_true rfl rfl rfl rfl) (pi_rng1 (by rfl) T.z_range (pda_cons (pd_var (pv 1)) pda_nil)) (blkOk_by (own := [("_law_bit", 6)]) (by first | (show blkC ["_law_entries", "_law_bits_here", "_law_total", "_law_least", "_law_number", "_law_picks", "_law_bit"] (defScope s__law_bars) _ [("_law_bit", 6)] = true; decide +kernel) | kernel_rfl)) rfl (by decide) (fun _ _ _ _ _ b' hM'' hpx' => have hM' := hM''.trans hM; (pg_n (pg_name (i := 6) sc__law_bars.nd rfl (by first | exact Or.inl rfl | exact Or.inr rfl)) (PxOk.of hpx' _))) (fun _ _ _ _ _ b' hM'' hpx' => have hM' := hM''.trans hM; (pts_oneD (qt_eq hM' hr (q_band hM' (c_int hM' (by rfl) T.z_int (pva_cons (p1_d (q_shr hM' (pd_var (pv 4)) (pd_var (pv 6)))) pva_nil)) pd_int) pd_int))) (fun _ _ _ _ _ b' hM'' hpx' => have hM' := hM''.trans hM; (pd_var (pv 6))))
 (pts_one' (pts_if (PW.pt (pwb_and (qt_lt hM (c_len hM (by rfl) T.z_len (pva_cons (p1_nm (pv 5)) pva_nil)) (pd_var (pv 3))) (pwb_and1 (qt_ge hM (q_mul hM pd_int (c_sum hM rfl (by rfl) T.z_sum (pva_cons (p1_d (pd_fr (pf_lc hpx rfl sc__law_bars.nd (pi_d hM (pd_frz (pv 5) (npl hnp (by decide)))) (blkOk_by (own := [("_law_bit", 6)]) (by first | (show blkC ["_law_entries", "_law_bits_here", "_law_total", "_law_least", "_law_number", "_law_picks", "_law_bit"] (defScope s__law_bars) _ [("_law_bit", 6)] = true; decide +kernel) | kernel_rfl)) rfl (by decide) (fun _ _ _ _ _ b' hM'' hpx' => have hM' := hM''.trans hM; (pg_n (pg_name (i := 6) sc__law_bars.nd rfl (by first | exact Or.inl rfl | exact Or.inr rfl)) (PxOk.of hpx' _))) (fun _ _ _ _ _ b' hM'' hpx' => have hM' := hM''.trans hM; pts_nilD) (fun _ _ _ _ _ b' hM'' hpx' => have hM' := hM''.trans hM; (q_ix hM' (pd_var (pv 0)) (pd_var (pv 6)) (fun _ _ => rfl)))))) pva_nil))) (pd_var (pv 2))))))
 (pts_one' (pts_asg sc__law_bars.nd (i := 3) rfl (by first | exact Or.inl rfl | exact Or.inr rfl) (c_len hM (by rfl) T.z_len (pva_cons (p1_nm (pv 5)) pva_nil)) rfl (by first | exact Or.inl rfl | exact Or.inr rfl) (PxOk.of hpx _)))
 pts_nil')))))
 (pts_one' (pts_ret (pd_var (pv 3))))))))
theorem sc__law_gcd : FnScope ["_law_one_here", "_law_other", "_law_a", "_law_b", "_law_k", "_law_rest"] ["_law_one_here", "_law_other"] (defScope s__law_gcd) := ⟨rfl, rfl, rfl, by decide +kernel, rfl, by decide +kernel, by decide +kernel⟩
/-- slots: 0 _law_one_here 1 _law_other 2 _law_a 3 _law_b 4 _law_k 5 _law_rest -/
noncomputable def d__law_gcd : Dn := defF 6
 (seqS (asgS 2 (bltF absD (consV (dF (varF 0)) nilV)))
 (seqS (asgS 3 (bltF absD (consV (dF (varF 1)) nilV)))
 (seqS (forS (faF rng1D (consA (cF (.int 60000)) nilA)) (tgN 4)
 (seqS (ifS (tstF (op2F eqD (varF 3) (cF (.int 0))))
 (retS (varF 2))
 skipS)
 (seqS (asgS 5 (op2F modD (bltF intF (consV (dF (varF 2)) nilV)) (varF 3)))
 (seqS (asgS 2 (varF 3))
 (asgS 3 (varF 5))))))
 (retS (cF (.int 1))))))
theorem ok__law_gcd (T : Tx K mg A) : FnOk P w K mg base (L2.CX P w) 1 A.f__law_gcd A.fd__law_gcd ["_law_one_here", "_law_other"] (spD ⟨K, mg⟩ 2 d__law_gcd) :=
 ok_def (N := ["_law_one_here", "_law_other", "_law_a", "_law_b", "_law_k", "_law_rest"]) rfl (by decide) T.F__law_gcd sc__law_gcd fun cdv Ar outer s H E b hr hM hnp hpx =>
 (pts_cons (pts_asg sc__law_gcd.nd (i := 2) rfl (by first | exact Or.inl rfl | exact Or.inr rfl) (c_abs hM (by rfl) T.z_abs (pva_cons (p1_d (pd_var (pv 0))) pva_nil)) rfl (by first | exact Or.inl rfl | exact Or.inr rfl) (PxOk.of hpx _))
 (pts_cons (pts_asg sc__law_gcd.nd (i := 3) rfl (by first | exact Or.inl rfl | exact Or.inr rfl) (c_abs hM (by rfl) T.z_abs (pva_cons (p1_d (pd_var (pv 1))) pva_nil)) rfl (by first | exact Or.inl rfl | exact Or.inr rfl) (PxOk.of hpx _))
 (pts_cons (pts_for (passes_of rfl) rfl (pi_rng1 (by rfl) T.z_range (pda_cons pd_int pda_nil)) (pg_n (pg_name (i := 4) sc__law_gcd.nd rfl (by first | exact Or.inl rfl | exact Or.inr rfl)) (PxOk.of hpx _))
 (pts_cons (pts_if (qt_eq hM hr (pd_var (pv 3)) pd_int)
 (pts_one' (pts_ret (pd_var (pv 2))))
 pts_nil')
 (pts_cons (pts_asg sc__law_gcd.nd (i := 5) rfl (by first | exact Or.inl rfl | exact Or.inr rfl) (q_mod hM (c_int hM (by rfl) T.z_int (pva_cons (p1_d (pd_var (pv 2))) pva_nil)) (pd_var (pv 3))) rfl (by first | exact Or.inl rfl | exact Or.inr rfl) (PxOk.of hpx _))
 (pts_cons (pts_asg sc__law_gcd.nd (i := 2) rfl (by first | exact Or.inl rfl | exact Or.inr rfl) (pd_var (pv 3)) rfl (by first | exact Or.inl rfl | exact Or.inr rfl) (PxOk.of hpx _))
 (pts_one' (pts_asg sc__law_gcd.nd (i := 3) rfl (by first | exact Or.inl rfl | exact Or.inr rfl) (pd_var (pv 5)) rfl (by first | exact Or.inl rfl | exact Or.inr rfl) (PxOk.of hpx _)))))))
 (pts_one' (pts_ret pd_int)))))
theorem sc__law_ratio : FnScope ["_law_top", "_law_bottom", "_law_common"] ["_law_top", "_law_bottom"] (defScope s__law_ratio) := ⟨rfl, rfl, rfl, by decide +kernel, rfl, by decide +kernel, by decide +kernel⟩
/-- slots: 0 _law_top 1 _law_bottom 2 _law_common -/
noncomputable def d__law_ratio : Dn := defF 3
 (seqS (asgS 2 (callF 2 d__law_gcd [] (consV (dF (varF 0)) (consV (dF (varF 1)) nilV))))
 (seqS (ifS (tstF (op2F ltD (varF 1) (cF (.int 0))))
 (asgS 2 (op1F negD (varF 2)))
 skipS)
 (retS (tupF (consA (op2F fdivD (varF 0) (varF 2)) (consA (op2F fdivD (varF 1) (varF 2)) nilA))))))
theorem ok__law_ratio (T : Tx K mg A) : FnOk P w K mg base (L2.CX P w) 2 A.f__law_ratio A.fd__law_ratio ["_law_top", "_law_bottom"] (spD ⟨K, mg⟩ 2 d__law_ratio) :=
 ok_def (N := ["_law_top", "_law_bottom", "_law_common"]) rfl (by decide) T.F__law_ratio sc__law_ratio fun cdv Ar outer s H E b hr hM hnp hpx =>
 (pts_cons (pts_asg sc__law_ratio.nd (i := 2) rfl (by first | exact Or.inl rfl | exact Or.inr rfl) (q_call hM (takes_of rfl rfl rfl rfl) (ok__law_gcd T) (hr.mono (by decide)) (by rfl) T.m__law_gcd T.k__law_gcd (bd__law_gcd_2 T) (fun _ _ _ => RepL.nil) (pva_cons (p1_d (pd_var (pv 0))) (pva_cons (p1_d (pd_var (pv 1))) pva_nil))) rfl (by first | exact Or.inl rfl | exact Or.inr rfl) (PxOk.of hpx _))
 (pts_cons (pts_if (qt_lt hM (pd_var (pv 1)) pd_int)
 (pts_one' (pts_asg sc__law_ratio.nd (i := 2) rfl (by first | exact Or.inl rfl | exact Or.inr rfl) (q_neg (pd_var (pv 2))) rfl (by first | exact Or.inl rfl | exact Or.inr rfl) (PxOk.of hpx _)))
 pts_nil')
 (pts_one' (pts_ret (pd_tup (pda_cons (q_fdiv hM (pd_var (pv 0)) (pd_var (pv 2))) (pda_cons (q_fdiv hM (pd_var (pv 1)) (pd_var (pv 2))) pda_nil)))))))
theorem sc__law_small : FnScope ["_law_checks_here", "_law_entries", "_law_found", "_law_total", "_law_entry"] ["_law_checks_here", "_law_entries"] (defScope s__law_small) := ⟨rfl, rfl, rfl, by decide +kernel, rfl, by decide +kernel, by decide +kernel⟩
/-- slots: 0 _law_checks_here 1 _law_entries 2 _law_found 3 _law_total 4 _law_entry -/
noncomputable def d__law_small : Dn := defF 5
 (seqS (asgS 2 (callF 2 d__law_broken [] (consV (dF (varF 0)) (consV (dF (varF 1)) nilV))))
 (seqS (ifS (tstF (op2F isNotD (varF 2) (cF .non)))
 (retS (tupF (consA (cF (.str "above")) (consA (op2F ixD (varF 2) (cF (.int 0))) (consA (op2F ixD (varF 2) (cF (.int 1))) (consA (cF (.bl true)) nilA))))))
 skipS)
 (seqS (asgS 3 (bltF sumD (consV (dF (varF 1)) nilV)))
 (seqS (ifS (tstF (op2F eqD (varF 3) (cF (.int 0))))
 (retS (bltF tupleD (consV (dF (frF (lcF (itF (varF 1)) (tgN 4) yesB (tupF (consA (cF (.int 0)) (consA (cF (.int 1)) nilA))) [4]))) nilV)))
 skipS)
 (retS (bltF tupleD (consV (dF (frF (lcF (itF (varF 1)) (tgN 4) yesB (callF 2 d__law_ratio [] (consV (dF (varF 4)) (consV (dF (op2F mulD (cF (.int 2)) (varF 3))) nilV))) [4]))) nilV)))))))
theorem ok__law_small (T : Tx K mg A) : FnOk P w K mg base (L2.CX P w) 3 A.f__law_small A.fd__law_small ["_law_checks_here", "_law_entries"] (spD ⟨K, mg⟩ 2 d__law_small) :=
 ok_def (N := ["_law_checks_here", "_law_entries", "_law_found", "_law_total", "_law_entry"]) rfl (by decide) T.F__law_small sc__law_small fun cdv Ar outer s H E b hr hM hnp hpx =>
 (pts_cons (pts_asg sc__law_small.nd (i := 2) rfl (by first | exact Or.inl rfl | exact Or.inr rfl) (q_call hM (takes_of rfl rfl rfl rfl) (ok__law_broken T) (hr.mono (by decide)) (by rfl) T.m__law_broken T.k__law_broken (bd__law_broken_2 T) (fun _ _ _ => RepL.nil) (pva_cons (p1_d (pd_var (pv 0))) (pva_cons (p1_d (pd_var (pv 1))) pva_nil))) rfl (by first | exact Or.inl rfl | exact Or.inr rfl) (PxOk.of hpx _))
 (pts_cons (pts_if (qt_isnot hM (pd_var (pv 2)) pd_non)
 (pts_one' (pts_ret (pd_tup (pda_cons pd_str (pda_cons (q_ix hM (pd_var (pv 2)) pd_int (fun _ _ => rfl)) (pda_cons (q_ix hM (pd_var (pv 2)) pd_int (fun _ _ => rfl)) (pda_cons pd_bl pda_nil)))))))
 pts_nil')
 (pts_cons (pts_asg sc__law_small.nd (i := 3) rfl (by first | exact Or.inl rfl | exact Or.inr rfl) (c_sum hM rfl (by rfl) T.z_sum (pva_cons (p1_d (pd_var (pv 1))) pva_nil)) rfl (by first | exact Or.inl rfl | exact Or.inr rfl) (PxOk.of hpx _))
 (pts_cons (pts_if (qt_eq hM hr (pd_var (pv 3)) pd_int)
 (pts_one' (pts_ret (c_tuple hM (by rfl) T.z_tuple (pva_cons (p1_d (pd_fr (pf_lc hpx rfl sc__law_small.nd (pi_d hM (pd_var (pv 1))) (blkOk_by (own := [("_law_entry", 4)]) (by first | (show blkC ["_law_checks_here", "_law_entries", "_law_found", "_law_total", "_law_entry"] (defScope s__law_small) _ [("_law_entry", 4)] = true; decide +kernel) | kernel_rfl)) rfl (by decide) (fun _ _ _ _ _ b' hM'' hpx' => have hM' := hM''.trans hM; (pg_n (pg_name (i := 4) sc__law_small.nd rfl (by first | exact Or.inl rfl | exact Or.inr rfl)) (PxOk.of hpx' _))) (fun _ _ _ _ _ b' hM'' hpx' => have hM' := hM''.trans hM; pts_nilD) (fun _ _ _ _ _ b' hM'' hpx' => have hM' := hM''.trans hM; (pd_tup (pda_cons pd_int (pda_cons pd_int pda_nil))))))) pva_nil))))
 pts_nil')
 (pts_one' (pts_ret (c_tuple hM (by rfl) T.z_tuple (pva_cons (p1_d (pd_fr (pf_lc hpx rfl sc__law_small.nd (pi_d hM (pd_var (pv 1))) (blkOk_by (own := [("_law_entry", 4)]) (by first | (show blkC ["_law_checks_here", "_law_entries", "_law_found", "_law_total", "_law_entry"] (defScope s__law_small) _ [("_law_entry", 4)] = true; decide +kernel) | kernel_rfl)) rfl (by decide) (fun _ _ _ _ _ b' hM'' hpx' => have hM' := hM''.trans hM; (pg_n (pg_name (i := 4) sc__law_small.nd rfl (by first | exact Or.inl rfl | exact Or.inr rfl)) (PxOk.of hpx' _))) (fun _ _ _ _ _ b' hM'' hpx' => have hM' := hM''.trans hM; pts_nilD) (fun _ _ _ _ _ b' hM'' hpx' => have hM' := hM''.trans hM; (q_call hM' takes0 (ok__law_ratio T) (hr.mono (by decide)) (by rfl) T.m__law_ratio T.k__law_ratio (bd__law_ratio_2 T) (fun _ _ _ => RepL.nil) (pva_cons (p1_d (pd_var (pv 4))) (pva_cons (p1_d (q_mul hM' pd_int (pd_var (pv 3)))) pva_nil))))))) pva_nil))))))))
theorem sc__law_exact : FnScope ["_law_told", "_law_due", "_law_k"] ["_law_told", "_law_due"] (defScope s__law_exact) := ⟨rfl, rfl, rfl, by decide +kernel, rfl, by decide +kernel, by decide +kernel⟩
/-- slots: 0 _law_told 1 _law_due 2 _law_k; by depth -/
noncomputable def r__law_exact : Nat → Dn
 | 0 => defF 3 noS
 | n + 1 => defF 3
   (seqS (ifS (tstF (isiF isTup (dF (varF 1))))
    (seqS (ifS (orB (notB (tstF (isiF isTup (dF (varF 0))))) (tstF (op2F neD (bltF lenD (consV (dF (varF 0)) nilV)) (bltF lenD (consV (dF (varF 1)) nilV)))))
    (retS (cF (.bl false)))
    skipS)
    (retS (op2F eqD (frF (lcF (faF rng1D (consA (bltF lenD (consV (dF (varF 1)) nilV)) nilA)) (tgN 2) (notB (tstF (callF 2 (r__law_exact n) [] (consV (dF (op2F ixD (varF 0) (varF 2))) (consV (dF (op2F ixD (varF 1) (varF 2))) nilV))))) (varF 2) [2])) (frF (lstF nilA)))))
    skipS)
    (seqS (ifS (tstF (op2F isD (varF 1) (cF .non)))
    (retS (op2F isD (varF 0) (cF .non)))
    skipS)
    (seqS (ifS (tstF (isiF isBool (dF (varF 1))))
    (retS (ifF (tstF (varF 1)) (op2F isBD (varF 0) (cF (.bl true))) (op2F isBD (varF 0) (cF (.bl false)))))
    skipS)
    (seqS (ifS (tstF (isiF isStr (dF (varF 1))))
    (retS (andV (isiF isStr (dF (varF 0))) (op2F eqD (varF 0) (varF 1))))
    skipS)
    (retS (andV (isiF isInt (dF (varF 0))) (andV (notV (isiF isBool (dF (varF 0)))) (op2F eqD (varF 0) (varF 1)))))))))
theorem okr__law_exact (T : Tx K mg A) : ∀ n : Nat, FnOk P w K mg base (L2.CX P w) (1 + n) A.f__law_exact A.fd__law_exact ["_law_told", "_law_due"] (spD ⟨K, mg⟩ 2 (r__law_exact n))
 | 0 => ok_def (N := ["_law_told", "_law_due", "_law_k"]) rfl (by decide) T.F__law_exact sc__law_exact fun cdv Ar outer s H E b hr hM hnp hpx => (⟨fun _ _ _ _ _ _ ⟨_, _, _, h⟩ => h.elim⟩ : PSs _ _ (tSt b _ [] noS))
 | n + 1 => ok_def (N := ["_law_told", "_law_due", "_law_k"]) rfl (by decide) T.F__law_exact sc__law_exact fun cdv Ar outer s H E b hr hM hnp hpx =>
 (pts_cons (pts_if (pt_of (pd_isi hM kit_tuple (by rfl) T.z_isinstance (p1_d (pd_var (pv 1))) (tyN (by rfl) T.z_tuple (by decide +kernel))))
 (pts_cons (pts_if (PW.pt (pwb_or (ptb_not (pt_of (pd_isi hM kit_tuple (by rfl) T.z_isinstance (p1_d (pd_var (pv 0))) (tyN (by rfl) T.z_tuple (by decide +kernel))))) (pwb_or1 (qt_ne hM hr (c_len hM (by rfl) T.z_len (pva_cons (p1_d (pd_var (pv 0))) pva_nil)) (c_len hM (by rfl) T.z_len (pva_cons (p1_d (pd_var (pv 1))) pva_nil))))))
 (pts_one' (pts_ret pd_bl))
 pts_nil')
 (pts_one' (pts_ret (q_eq hM hr (pd_fr (pf_lc hpx rfl sc__law_exact.nd (pi_rng1 (by rfl) T.z_range (pda_cons (c_len hM (by rfl) T.z_len (pva_cons (p1_d (pd_var (pv 1))) pva_nil)) pda_nil)) (blkOk_by (own := [("_law_k", 2)]) (by first | (show blkC ["_law_told", "_law_due", "_law_k"] (defScope s__law_exact) _ [("_law_k", 2)] = true; decide +kernel) | kernel_rfl)) rfl (by decide) (fun _ _ _ _ _ b' hM'' hpx' => have hM' := hM''.trans hM; (pg_n (pg_name (i := 2) sc__law_exact.nd rfl (by first | exact Or.inl rfl | exact Or.inr rfl)) (PxOk.of hpx' _))) (fun _ _ _ _ _ b' hM'' hpx' => have hM' := hM''.trans hM; (pts_oneD (ptb_not (pt_of (q_call hM' takes0 (okr__law_exact T n) hr (by rfl) T.m__law_exact T.k__law_exact (bd__law_exact_2 T) (fun _ _ _ => RepL.nil) (pva_cons (p1_d (q_ix hM' (pd_var (pv 0)) (pd_var (pv 2)) (fun _ _ => rfl))) (pva_cons (p1_d (q_ix hM' (pd_var (pv 1)) (pd_var (pv 2)) (fun _ _ => rfl))) pva_nil))))))) (fun _ _ _ _ _ b' hM'' hpx' => have hM' := hM''.trans hM; (pd_var (pv 2))))) (pd_fr (pf_lst pda_nil))))))
 pts_nil')
 (pts_cons (pts_if (qt_is hM (pd_var (pv 1)) pd_non)
 (pts_one' (pts_ret (q_is hM (pd_var (pv 0)) pd_non)))
 pts_nil')
 (pts_cons (pts_if (pt_of (pd_isi hM kit_bool (by rfl) T.z_isinstance (p1_d (pd_var (pv 1))) (tyN (by rfl) T.z_bool (by decide +kernel))))
 (pts_one' (pts_ret (pd_if (pt_of (pd_var (pv 1))) (q_isb hM (pd_var (pv 0)) pd_bl) (q_isb hM (pd_var (pv 0)) pd_bl))))
 pts_nil')
 (pts_cons (pts_if (pt_of (pd_isi hM kit_str (by rfl) T.z_isinstance (p1_d (pd_var (pv 1))) (tyN (by rfl) T.z_str (by decide +kernel))))
 (pts_one' (pts_ret (pd_and (pd_isi hM kit_str (by rfl) T.z_isinstance (p1_d (pd_var (pv 0))) (tyN (by rfl) T.z_str (by decide +kernel))) (pd_one (q_eq hM hr (pd_var (pv 0)) (pd_var (pv 1)))))))
 pts_nil')
 (pts_one' (pts_ret (pd_and (pd_isi hM kit_int (by rfl) T.z_isinstance (p1_d (pd_var (pv 0))) (tyN (by rfl) T.z_int (by decide +kernel))) (pd_and (pd_not (pd_isi hM kit_bool (by rfl) T.z_isinstance (p1_d (pd_var (pv 0))) (tyN (by rfl) T.z_bool (by decide +kernel)))) (pd_one (q_eq hM hr (pd_var (pv 0)) (pd_var (pv 1))))))))))))
noncomputable def d__law_exact : Dn := r__law_exact 5
theorem ok__law_exact (T : Tx K mg A) : FnOk P w K mg base (L2.CX P w) 6 A.f__law_exact A.fd__law_exact ["_law_told", "_law_due"] (spD ⟨K, mg⟩ 2 d__law_exact) := okr__law_exact T 5
theorem sc_check_entries : FnScope ["code", "row", "bit", "entry"] ["code", "row"] (defScope s_check_entries) := ⟨rfl, rfl, rfl, by decide +kernel, rfl, by decide +kernel, by decide +kernel⟩
/-- slots: 0 code 1 row 2 bit 3 entry -/
noncomputable def d_check_entries : Dn := defF 4
 (seqS (ifS (orB (notB (tstF (callF 1 d_is_sequence [] (consV (dF (varF 1)) nilV)))) (tstF (op2F neD (bltF lenD (consV (dF (varF 1)) nilV)) (op1F (fldD "Code" ["bits", "checks"] 0) (varF 0)))))
 (raiseFS "BadCone" ["place"] [0] (consA (op1F negD (cF (.int 1))) nilA))
 skipS)
 (seqS (forS (faF enmD (consA (varF 1) nilA)) (tgT 2 (tgCons (tgN 2) (tgCons (tgN 3) tgNil)))
 (ifS (notB (tstF (callF 3 d_is_whole [.non] (consV (dF (varF 3)) (consV (dF (cF (.int 0))) nilV)))))
 (raiseFS "BadCone" ["place"] [0] (consA (varF 2) nilA))
 skipS))
 (retS (bltF tupleD (consV (dF (varF 1)) nilV)))))
theorem ok_check_entries (T : Tx K mg A) : FnOk P w K mg base (L2.CX P w) 3 A.f_check_entries A.fd_check_entries ["code", "row"] (spD ⟨K, mg⟩ 2 d_check_entries) :=
 ok_def (N := ["code", "row", "bit", "entry"]) rfl (by decide) T.F_check_entries sc_check_entries fun cdv Ar outer s H E b hr hM hnp hpx =>
 (pts_cons (pts_if (PW.pt (pwb_or (ptb_not (pt_of (q_call hM (takes_of rfl rfl rfl rfl) (ok_is_sequence T) (hr.mono (by decide)) (by rfl) T.m_is_sequence T.k_is_sequence (bd_is_sequence_1 T) (fun _ _ _ => RepL.nil) (pva_cons (p1_d (pd_var (pv 1))) pva_nil)))) (pwb_or1 (qt_ne hM hr (c_len hM (by rfl) T.z_len (pva_cons (p1_d (pd_var (pv 1))) pva_nil)) (pd_fld (ns0 := ["bits", "checks"]) (i := 0) hM (fl_Code_bits T) (by rfl) (pd_var (pv 0)))))))
 (pts_one' (pts_raiseF hM rfl (takes_of rfl rfl rfl rfl) T.o_BadCone T.i_BadCone T.t_BadCone (okx_BadCone T) (hr.mono (by decide)) (bdx_BadCone T) (by rfl) T.m_BadCone (by simp) (by decide) (pda_cons (q_neg pd_int) pda_nil)))
 pts_nil')
 (pts_cons (pts_for (passes_of rfl) rfl (pi_enmD hM (by rfl) T.z_enumerate (pda_cons (pd_var (pv 1)) pda_nil)) (pg_tupD hM rfl (pgs_consD (pg_n (pg_name (i := 2) sc_check_entries.nd rfl (by first | exact Or.inl rfl | exact Or.inr rfl)) (PxOk.of hpx _)) (pgs_consD (pg_n (pg_name (i := 3) sc_check_entries.nd rfl (by first | exact Or.inl rfl | exact Or.inr rfl)) (PxOk.of hpx _)) pgs_nilD)))
 (pts_one' (pts_if (ptb_not (pt_of (q_call hM (takes_of rfl rfl rfl rfl) (ok_is_whole T) (hr.mono (by decide)) (by rfl) T.m_is_whole T.k_is_whole (bd_is_whole_2 T) (fun _ _ _ => (RepL.cons rep_non RepL.nil)) (pva_cons (p1_d (pd_var (pv 3))) (pva_cons (p1_d pd_int) pva_nil)))))
 (pts_one' (pts_raiseF hM rfl (takes_of rfl rfl rfl rfl) T.o_BadCone T.i_BadCone T.t_BadCone (okx_BadCone T) (hr.mono (by decide)) (bdx_BadCone T) (by rfl) T.m_BadCone (by simp) (by decide) (pda_cons (pd_var (pv 2)) pda_nil)))
 pts_nil')))
 (pts_one' (pts_ret (c_tuple hM (by rfl) T.z_tuple (pva_cons (p1_d (pd_var (pv 1))) pva_nil))))))
theorem sc_first_above : FnScope ["code", "entries", "number", "bits", "total", "bit"] ["code", "entries"] (defScope s_first_above) := ⟨rfl, rfl, rfl, by decide +kernel, rfl, by decide +kernel, by decide +kernel⟩
/-- slots: 0 code 1 entries 2 number 3 bits 4 total 5 bit -/
noncomputable def d_first_above : Dn := defF 6
 (seqS (forS (faF enmD (consA (op1F (fldD "Code" ["bits", "checks"] 1) (varF 0)) nilA)) (tgT 2 (tgCons (tgN 2) (tgCons (tgN 3) tgNil)))
 (seqS (asgS 4 (bltF sumD (consV (dF (frF (lcF (itF (varF 3)) (tgN 5) yesB (op2F ixD (varF 1) (varF 5)) [5]))) nilV)))
 (forS (itF (varF 3)) (tgN 5)
 (ifS (tstF (op2F gtD (op2F mulD (cF (.int 2)) (op2F ixD (varF 1) (varF 5))) (varF 4)))
 (retS (tupF (consA (varF 2) (consA (varF 5) nilA))))
 skipS))))
 (retS (cF .non)))
theorem ok_first_above (T : Tx K mg A) : FnOk P w K mg base (L2.CX P w) 1 A.f_first_above A.fd_first_above ["code", "entries"] (spD ⟨K, mg⟩ 2 d_first_above) :=
 ok_def (N := ["code", "entries", "number", "bits", "total", "bit"]) rfl (by decide) T.F_first_above sc_first_above fun cdv Ar outer s H E b hr hM hnp hpx =>
 (pts_cons (pts_for (passes_of rfl) rfl (pi_enmD hM (by rfl) T.z_enumerate (pda_cons (pd_fld (ns0 := ["bits", "checks"]) (i := 1) hM (fl_Code_checks T) (by rfl) (pd_var (pv 0))) pda_nil)) (pg_tupD hM rfl (pgs_consD (pg_n (pg_name (i := 2) sc_first_above.nd rfl (by first | exact Or.inl rfl | exact Or.inr rfl)) (PxOk.of hpx _)) (pgs_consD (pg_n (pg_name (i := 3) sc_first_above.nd rfl (by first | exact Or.inl rfl | exact Or.inr rfl)) (PxOk.of hpx _)) pgs_nilD)))
 (pts_cons (pts_asg sc_first_above.nd (i := 4) rfl (by first | exact Or.inl rfl | exact Or.inr rfl) (c_sum hM rfl (by rfl) T.z_sum (pva_cons (p1_d (pd_fr (pf_lc hpx rfl sc_first_above.nd (pi_d hM (pd_var (pv 3))) (blkOk_by (own := [("bit", 5)]) (by first | (show blkC ["code", "entries", "number", "bits", "total", "bit"] (defScope s_first_above) _ [("bit", 5)] = true; decide +kernel) | kernel_rfl)) rfl (by decide) (fun _ _ _ _ _ b' hM'' hpx' => have hM' := hM''.trans hM; (pg_n (pg_name (i := 5) sc_first_above.nd rfl (by first | exact Or.inl rfl | exact Or.inr rfl)) (PxOk.of hpx' _))) (fun _ _ _ _ _ b' hM'' hpx' => have hM' := hM''.trans hM; pts_nilD) (fun _ _ _ _ _ b' hM'' hpx' => have hM' := hM''.trans hM; (q_ix hM' (pd_var (pv 1)) (pd_var (pv 5)) (fun _ _ => rfl)))))) pva_nil)) rfl (by first | exact Or.inl rfl | exact Or.inr rfl) (PxOk.of hpx _))
 (pts_one' (pts_for (passes_of rfl) rfl (pi_d hM (pd_var (pv 3))) (pg_n (pg_name (i := 5) sc_first_above.nd rfl (by first | exact Or.inl rfl | exact Or.inr rfl)) (PxOk.of hpx _))
 (pts_one' (pts_if (qt_gt hM (q_mul hM pd_int (q_ix hM (pd_var (pv 1)) (pd_var (pv 5)) (fun _ _ => rfl))) (pd_var (pv 4)))
 (pts_one' (pts_ret (pd_tup (pda_cons (pd_var (pv 2)) (pda_cons (pd_var (pv 5)) pda_nil)))))
 pts_nil'))))))
 (pts_one' (pts_ret pd_non)))
theorem sc_check_cone : FnScope ["code", "row", "entries", "fault"] ["code", "row"] (defScope s_check_cone) := ⟨rfl, rfl, rfl, by decide +kernel, rfl, by decide +kernel, by decide +kernel⟩
/-- slots: 0 code 1 row 2 entries 3 fault -/
noncomputable def d_check_cone : Dn := defF 4
 (seqS (asgS 2 (callF 2 d_check_entries [] (consV (dF (varF 0)) (consV (dF (varF 1)) nilV))))
 (seqS (asgS 3 (callF 2 d_first_above [] (consV (dF (varF 0)) (consV (dF (varF 2)) nilV))))
 (seqS (ifS (tstF (op2F isNotD (varF 3) (cF .non)))
 (raiseFS "NotCone" ["number", "bit"] [0, 1] (consA (op2F ixD (varF 3) (cF (.int 0))) (consA (op2F ixD (varF 3) (cF (.int 1))) nilA)))
 skipS)
 (retS (varF 2)))))
theorem ok_check_cone (T : Tx K mg A) : FnOk P w K mg base (L2.CX P w) 4 A.f_check_cone A.fd_check_cone ["code", "row"] (spD ⟨K, mg⟩ 2 d_check_cone) :=
 ok_def (N := ["code", "row", "entries", "fault"]) rfl (by decide) T.F_check_cone sc_check_cone fun cdv Ar outer s H E b hr hM hnp hpx =>
 (pts_cons (pts_asg sc_check_cone.nd (i := 2) rfl (by first | exact Or.inl rfl | exact Or.inr rfl) (q_call hM (takes_of rfl rfl rfl rfl) (ok_check_entries T) (hr.mono (by decide)) (by rfl) T.m_check_entries T.k_check_entries (bd_check_entries_2 T) (fun _ _ _ => RepL.nil) (pva_cons (p1_d (pd_var (pv 0))) (pva_cons (p1_d (pd_var (pv 1))) pva_nil))) rfl (by first | exact Or.inl rfl | exact Or.inr rfl) (PxOk.of hpx _))
 (pts_cons (pts_asg sc_check_cone.nd (i := 3) rfl (by first | exact Or.inl rfl | exact Or.inr rfl) (q_call hM (takes_of rfl rfl rfl rfl) (ok_first_above T) (hr.mono (by decide)) (by rfl) T.m_first_above T.k_first_above (bd_first_above_2 T) (fun _ _ _ => RepL.nil) (pva_cons (p1_d (pd_var (pv 0))) (pva_cons (p1_d (pd_var (pv 2))) pva_nil))) rfl (by first | exact Or.inl rfl | exact Or.inr rfl) (PxOk.of hpx _))
 (pts_cons (pts_if (qt_isnot hM (pd_var (pv 3)) pd_non)
 (pts_one' (pts_raiseF hM rfl (takes_of rfl rfl rfl rfl) T.o_NotCone T.i_NotCone T.t_NotCone (okx_NotCone T) (hr.mono (by decide)) (bdx_NotCone T) (by rfl) T.m_NotCone (by simp) (by decide) (pda_cons (q_ix hM (pd_var (pv 3)) pd_int (fun _ _ => rfl)) (pda_cons (q_ix hM (pd_var (pv 3)) pd_int (fun _ _ => rfl)) pda_nil))))
 pts_nil')
 (pts_one' (pts_ret (pd_var (pv 2)))))))
theorem sc_common_divisor : FnScope ["one", "other", "first", "second"] ["one", "other"] (defScope s_common_divisor) := ⟨rfl, rfl, rfl, by decide +kernel, rfl, by decide +kernel, by decide +kernel⟩
/-- slots: 0 one 1 other 2 first 3 second -/
noncomputable def d_common_divisor : Dn := defF 4
 (seqS (asgS 2 (bltF absD (consV (dF (varF 0)) nilV)))
 (seqS (asgS 3 (bltF absD (consV (dF (varF 1)) nilV)))
 (seqS (whileS (tstF (op2F gtD (varF 3) (cF (.int 0))))
 (parS 2 3 (consA (varF 3) (consA (op2F modD (varF 2) (varF 3)) nilA))))
 (retS (varF 2)))))
theorem ok_common_divisor (T : Tx K mg A) : FnOk P w K mg base (L2.CX P w) 1 A.f_common_divisor A.fd_common_divisor ["one", "other"] (spD ⟨K, mg⟩ 2 d_common_divisor) :=
 ok_def (N := ["one", "other", "first", "second"]) rfl (by decide) T.F_common_divisor sc_common_divisor fun cdv Ar outer s H E b hr hM hnp hpx =>
 (pts_cons (pts_asg sc_common_divisor.nd (i := 2) rfl (by first | exact Or.inl rfl | exact Or.inr rfl) (c_abs hM (by rfl) T.z_abs (pva_cons (p1_d (pd_var (pv 0))) pva_nil)) rfl (by first | exact Or.inl rfl | exact Or.inr rfl) (PxOk.of hpx _))
 (pts_cons (pts_asg sc_common_divisor.nd (i := 3) rfl (by first | exact Or.inl rfl | exact Or.inr rfl) (c_abs hM (by rfl) T.z_abs (pva_cons (p1_d (pd_var (pv 1))) pva_nil)) rfl (by first | exact Or.inl rfl | exact Or.inr rfl) (PxOk.of hpx _))
 (pts_cons (pts_while (passes_of rfl) (qt_gt hM (pd_var (pv 3)) pd_int)
 (pts_one' (pts_par rfl sc_common_divisor.nd (i := 2) (j := 3) rfl rfl (by decide) rfl rfl (pda_cons (pd_var (pv 3)) (pda_cons (q_mod hM (pd_var (pv 2)) (pd_var (pv 3))) pda_nil)) rfl rfl (PxOk.of hpx _) (PxOk.of hpx _))))
 (pts_one' (pts_ret (pd_var (pv 2)))))))
theorem sc_lowest_terms : FnScope ["top", "bottom", "common"] ["top", "bottom"] (defScope s_lowest_terms) := ⟨rfl, rfl, rfl, by decide +kernel, rfl, by decide +kernel, by decide +kernel⟩
/-- slots: 0 top 1 bottom 2 common -/
noncomputable def d_lowest_terms : Dn := defF 3
 (seqS (asgS 2 (callF 2 d_common_divisor [] (consV (dF (varF 0)) (consV (dF (varF 1)) nilV))))
 (seqS (ifS (tstF (op2F ltD (varF 1) (cF (.int 0))))
 (asgS 2 (op1F negD (varF 2)))
 skipS)
 (retS (tupF (consA (op2F fdivD (varF 0) (varF 2)) (consA (op2F fdivD (varF 1) (varF 2)) nilA))))))
theorem ok_lowest_terms (T : Tx K mg A) : FnOk P w K mg base (L2.CX P w) 2 A.f_lowest_terms A.fd_lowest_terms ["top", "bottom"] (spD ⟨K, mg⟩ 2 d_lowest_terms) :=
 ok_def (N := ["top", "bottom", "common"]) rfl (by decide) T.F_lowest_terms sc_lowest_terms fun cdv Ar outer s H E b hr hM hnp hpx =>
 (pts_cons (pts_asg sc_lowest_terms.nd (i := 2) rfl (by first | exact Or.inl rfl | exact Or.inr rfl) (q_call hM (takes_of rfl rfl rfl rfl) (ok_common_divisor T) (hr.mono (by decide)) (by rfl) T.m_common_divisor T.k_common_divisor (bd_common_divisor_2 T) (fun _ _ _ => RepL.nil) (pva_cons (p1_d (pd_var (pv 0))) (pva_cons (p1_d (pd_var (pv 1))) pva_nil))) rfl (by first | exact Or.inl rfl | exact Or.inr rfl) (PxOk.of hpx _))
 (pts_cons (pts_if (qt_lt hM (pd_var (pv 1)) pd_int)
 (pts_one' (pts_asg sc_lowest_terms.nd (i := 2) rfl (by first | exact Or.inl rfl | exact Or.inr rfl) (q_neg (pd_var (pv 2))) rfl (by first | exact Or.inl rfl | exact Or.inr rfl) (PxOk.of hpx _)))
 pts_nil')
 (pts_one' (pts_ret (pd_tup (pda_cons (q_fdiv hM (pd_var (pv 0)) (pd_var (pv 2))) (pda_cons (q_fdiv hM (pd_var (pv 1)) (pd_var (pv 2))) pda_nil)))))))
theorem sc_make_ratio : FnScope ["top", "bottom"] ["top", "bottom"] (defScope s_make_ratio) := ⟨rfl, rfl, rfl, by decide +kernel, rfl, by decide +kernel, by decide +kernel⟩
/-- slots: 0 top 1 bottom -/
noncomputable def d_make_ratio : Dn := defF 2
 (seqS (ifS (notB (tstF (callF 3 d_is_whole [.non, .non] (consV (dF (varF 0)) nilV))))
 (raiseS "BadRatio" ["what"] (consA (cF (.str "top")) nilA))
 skipS)
 (seqS (ifS (orB (notB (tstF (callF 3 d_is_whole [.non, .non] (consV (dF (varF 1)) nilV)))) (tstF (op2F eqD (varF 1) (cF (.int 0)))))
 (raiseS "BadRatio" ["what"] (consA (cF (.str "bottom")) nilA))
 skipS)
 (retS (callF 2 d_lowest_terms [] (consV (dF (varF 0)) (consV (dF (varF 1)) nilV))))))
theorem ok_make_ratio (T : Tx K mg A) : FnOk P w K mg base (L2.CX P w) 3 A.f_make_ratio A.fd_make_ratio ["top", "bottom"] (spD ⟨K, mg⟩ 2 d_make_ratio) :=
 ok_def (N := ["top", "bottom"]) rfl (by decide) T.F_make_ratio sc_make_ratio fun cdv Ar outer s H E b hr hM hnp hpx =>
 (pts_cons (pts_if (ptb_not (pt_of (q_call hM (takes_of rfl rfl rfl rfl) (ok_is_whole T) (hr.mono (by decide)) (by rfl) T.m_is_whole T.k_is_whole (bd_is_whole_1 T) (fun _ _ _ => (RepL.cons rep_non (RepL.cons rep_non RepL.nil))) (pva_cons (p1_d (pd_var (pv 0))) pva_nil))))
 (pts_one' (pts_raise hM rfl (takes_of rfl rfl rfl rfl) T.o_BadRatio T.i_BadRatio T.t_BadRatio (okx_BadRatio T) (hr.mono (by decide)) (bdx_BadRatio T) (by rfl) T.m_BadRatio (by simp) (by decide) (pda_cons pd_str pda_nil)))
 pts_nil')
 (pts_cons (pts_if (PW.pt (pwb_or (ptb_not (pt_of (q_call hM (takes_of rfl rfl rfl rfl) (ok_is_whole T) (hr.mono (by decide)) (by rfl) T.m_is_whole T.k_is_whole (bd_is_whole_1 T) (fun _ _ _ => (RepL.cons rep_non (RepL.cons rep_non RepL.nil))) (pva_cons (p1_d (pd_var (pv 1))) pva_nil)))) (pwb_or1 (qt_eq hM hr (pd_var (pv 1)) pd_int))))
 (pts_one' (pts_raise hM rfl (takes_of rfl rfl rfl rfl) T.o_BadRatio T.i_BadRatio T.t_BadRatio (okx_BadRatio T) (hr.mono (by decide)) (bdx_BadRatio T) (by rfl) T.m_BadRatio (by simp) (by decide) (pda_cons pd_str pda_nil)))
 pts_nil')
 (pts_one' (pts_ret (q_call hM (takes_of rfl rfl rfl rfl) (ok_lowest_terms T) (hr.mono (by decide)) (by rfl) T.m_lowest_terms T.k_lowest_terms (bd_lowest_terms_2 T) (fun _ _ _ => RepL.nil) (pva_cons (p1_d (pd_var (pv 0))) (pva_cons (p1_d (pd_var (pv 1))) pva_nil)))))))
theorem sc_small_row : FnScope ["code", "row", "entries", "total", "_", "entry"] ["code", "row"] (defScope s_small_row) := ⟨rfl, rfl, rfl, by decide +kernel, rfl, by decide +kernel, by decide +kernel⟩
/-- slots: 0 code 1 row 2 entries 3 total 4 _ 5 entry -/
noncomputable def d_small_row : Dn := defF 6
 (seqS (asgS 2 (callF 2 d_check_cone [] (consV (dF (varF 0)) (consV (dF (varF 1)) nilV))))
 (seqS (asgS 3 (bltF sumD (consV (dF (varF 2)) nilV)))
 (seqS (ifS (tstF (op2F eqD (varF 3) (cF (.int 0))))
 (retS (bltF tupleD (consV (dF (frF (lcF (itF (varF 2)) (tgN 4) yesB (cF k_ZERO) [4]))) nilV)))
 skipS)
 (retS (bltF tupleD (consV (dF (frF (lcF (itF (varF 2)) (tgN 5) yesB (callF 2 d_make_ratio [] (consV (dF (varF 5)) (consV (dF (op2F mulD (cF (.int 2)) (varF 3))) nilV))) [5]))) nilV))))))
theorem ok_small_row (T : Tx K mg A) : FnOk P w K mg base (L2.CX P w) 5 A.f_small_row A.fd_small_row ["code", "row"] (spD ⟨K, mg⟩ 2 d_small_row) :=
 ok_def (N := ["code", "row", "entries", "total", "_", "entry"]) rfl (by decide) T.F_small_row sc_small_row fun cdv Ar outer s H E b hr hM hnp hpx =>
 (pts_cons (pts_asg sc_small_row.nd (i := 2) rfl (by first | exact Or.inl rfl | exact Or.inr rfl) (q_call hM (takes_of rfl rfl rfl rfl) (ok_check_cone T) (hr.mono (by decide)) (by rfl) T.m_check_cone T.k_check_cone (bd_check_cone_2 T) (fun _ _ _ => RepL.nil) (pva_cons (p1_d (pd_var (pv 0))) (pva_cons (p1_d (pd_var (pv 1))) pva_nil))) rfl (by first | exact Or.inl rfl | exact Or.inr rfl) (PxOk.of hpx _))
 (pts_cons (pts_asg sc_small_row.nd (i := 3) rfl (by first | exact Or.inl rfl | exact Or.inr rfl) (c_sum hM rfl (by rfl) T.z_sum (pva_cons (p1_d (pd_var (pv 2))) pva_nil)) rfl (by first | exact Or.inl rfl | exact Or.inr rfl) (PxOk.of hpx _))
 (pts_cons (pts_if (qt_eq hM hr (pd_var (pv 3)) pd_int)
 (pts_one' (pts_ret (c_tuple hM (by rfl) T.z_tuple (pva_cons (p1_d (pd_fr (pf_lc hpx rfl sc_small_row.nd (pi_d hM (pd_var (pv 2))) (blkOk_by (own := [("_", 4)]) (by first | (show blkC ["code", "row", "entries", "total", "_", "entry"] (defScope s_small_row) _ [("_", 4)] = true; decide +kernel) | kernel_rfl)) rfl (by decide) (fun _ _ _ _ _ b' hM'' hpx' => have hM' := hM''.trans hM; (pg_n (pg_name (i := 4) sc_small_row.nd rfl (by first | exact Or.inl rfl | exact Or.inr rfl)) (PxOk.of hpx' _))) (fun _ _ _ _ _ b' hM'' hpx' => have hM' := hM''.trans hM; pts_nilD) (fun _ _ _ _ _ b' hM'' hpx' => have hM' := hM''.trans hM; (pd_glob (by rfl) T.m_ZERO (Classical.choose_spec T.r_ZERO).1 (rk_ZERO T hM')))))) pva_nil))))
 pts_nil')
 (pts_one' (pts_ret (c_tuple hM (by rfl) T.z_tuple (pva_cons (p1_d (pd_fr (pf_lc hpx rfl sc_small_row.nd (pi_d hM (pd_var (pv 2))) (blkOk_by (own := [("entry", 5)]) (by first | (show blkC ["code", "row", "entries", "total", "_", "entry"] (defScope s_small_row) _ [("entry", 5)] = true; decide +kernel) | kernel_rfl)) rfl (by decide) (fun _ _ _ _ _ b' hM'' hpx' => have hM' := hM''.trans hM; (pg_n (pg_name (i := 5) sc_small_row.nd rfl (by first | exact Or.inl rfl | exact Or.inr rfl)) (PxOk.of hpx' _))) (fun _ _ _ _ _ b' hM'' hpx' => have hM' := hM''.trans hM; pts_nilD) (fun _ _ _ _ _ b' hM'' hpx' => have hM' := hM''.trans hM; (q_call hM' takes0 (ok_make_ratio T) (hr.mono (by decide)) (by rfl) T.m_make_ratio T.k_make_ratio (bd_make_ratio_2 T) (fun _ _ _ => RepL.nil) (pva_cons (p1_d (pd_var (pv 5))) (pva_cons (p1_d (q_mul hM' pd_int (pd_var (pv 3)))) pva_nil))))))) pva_nil)))))))
theorem sc_cone_fault : FnScope ["code", "row"] ["code", "row"] (defScope s_cone_fault) := ⟨rfl, rfl, rfl, by decide +kernel, rfl, by decide +kernel, by decide +kernel⟩
/-- slots: 0 code 1 row -/
noncomputable def d_cone_fault : Dn := defF 2
 (retS (callF 2 d_first_above [] (consV (dF (varF 0)) (consV (dF (callF 2 d_check_entries [] (consV (dF (varF 0)) (consV (dF (varF 1)) nilV)))) nilV))))
theorem ok_cone_fault (T : Tx K mg A) : FnOk P w K mg base (L2.CX P w) 4 A.f_cone_fault A.fd_cone_fault ["code", "row"] (spD ⟨K, mg⟩ 2 d_cone_fault) :=
 ok_def (N := ["code", "row"]) rfl (by decide) T.F_cone_fault sc_cone_fault fun cdv Ar outer s H E b hr hM hnp hpx =>
 (pts_one' (pts_ret (q_call hM (takes_of rfl rfl rfl rfl) (ok_first_above T) (hr.mono (by decide)) (by rfl) T.m_first_above T.k_first_above (bd_first_above_2 T) (fun _ _ _ => RepL.nil) (pva_cons (p1_d (pd_var (pv 0))) (pva_cons (p1_d (q_call hM (takes_of rfl rfl rfl rfl) (ok_check_entries T) (hr.mono (by decide)) (by rfl) T.m_check_entries T.k_check_entries (bd_check_entries_2 T) (fun _ _ _ => RepL.nil) (pva_cons (p1_d (pd_var (pv 0))) (pva_cons (p1_d (pd_var (pv 1))) pva_nil)))) pva_nil)))))
theorem sc_bars_from : FnScope ["code", "row", "entries", "total", "many", "taken", "entry"] ["code", "row"] (defScope s_bars_from) := ⟨rfl, rfl, rfl, by decide +kernel, rfl, by decide +kernel, by decide +kernel⟩
/-- slots: 0 code 1 row 2 entries 3 total 4 many 5 taken 6 entry -/
noncomputable def d_bars_from : Dn := defF 7
 (seqS (asgS 2 (callF 2 d_check_entries [] (consV (dF (varF 0)) (consV (dF (varF 1)) nilV))))
 (seqS (asgS 3 (bltF sumD (consV (dF (varF 2)) nilV)))
 (seqS (asgS 4 (cF (.int 0)))
 (seqS (asgS 5 (cF (.int 0)))
 (seqS (forS (itF (frF (bltFF sortedDnD (consV (dF (varF 2)) nilV)))) (tgN 6)
 (seqS (ifS (tstF (op2F geD (op2F mulD (cF (.int 2)) (varF 5)) (varF 3)))
 brkS
 skipS)
 (seqS (augNS (fun i j => i + j) 5 (varF 6))
 (augNS (fun i j => i + j) 4 (cF (.int 1))))))
 (retS (varF 4)))))))
theorem ok_bars_from (T : Tx K mg A) : FnOk P w K mg base (L2.CX P w) 4 A.f_bars_from A.fd_bars_from ["code", "row"] (spD ⟨K, mg⟩ 2 d_bars_from) :=
 ok_def (N := ["code", "row", "entries", "total", "many", "taken", "entry"]) rfl (by decide) T.F_bars_from sc_bars_from fun cdv Ar outer s H E b hr hM hnp hpx =>
 (pts_cons (pts_asg sc_bars_from.nd (i := 2) rfl (by first | exact Or.inl rfl | exact Or.inr rfl) (q_call hM (takes_of rfl rfl rfl rfl) (ok_check_entries T) (hr.mono (by decide)) (by rfl) T.m_check_entries T.k_check_entries (bd_check_entries_2 T) (fun _ _ _ => RepL.nil) (pva_cons (p1_d (pd_var (pv 0))) (pva_cons (p1_d (pd_var (pv 1))) pva_nil))) rfl (by first | exact Or.inl rfl | exact Or.inr rfl) (PxOk.of hpx _))
 (pts_cons (pts_asg sc_bars_from.nd (i := 3) rfl (by first | exact Or.inl rfl | exact Or.inr rfl) (c_sum hM rfl (by rfl) T.z_sum (pva_cons (p1_d (pd_var (pv 2))) pva_nil)) rfl (by first | exact Or.inl rfl | exact Or.inr rfl) (PxOk.of hpx _))
 (pts_cons (pts_asg sc_bars_from.nd (i := 4) rfl (by first | exact Or.inl rfl | exact Or.inr rfl) pd_int rfl (by first | exact Or.inl rfl | exact Or.inr rfl) (PxOk.of hpx _))
 (pts_cons (pts_asg sc_bars_from.nd (i := 5) rfl (by first | exact Or.inl rfl | exact Or.inr rfl) pd_int rfl (by first | exact Or.inl rfl | exact Or.inr rfl) (PxOk.of hpx _))
 (pts_cons (pts_for (passes_of rfl) rfl (pi_d hM (pd_fr (c_sortDn hM (by rfl) T.z_sorted (pva_cons (p1_d (pd_var (pv 2))) pva_nil)))) (pg_n (pg_name (i := 6) sc_bars_from.nd rfl (by first | exact Or.inl rfl | exact Or.inr rfl)) (PxOk.of hpx _))
 (pts_cons (pts_if (qt_ge hM (q_mul hM pd_int (pd_var (pv 5))) (pd_var (pv 3)))
 (pts_one' pts_break)
 pts_nil')
 (pts_cons (pts_augN ip_add sc_bars_from.nd (i := 5) rfl (by first | exact Or.inl rfl | exact Or.inr rfl) (pd_var (pv 6)) (by first | exact Or.inl rfl | exact Or.inr rfl) (PxOk.of hpx _))
 (pts_one' (pts_augN ip_add sc_bars_from.nd (i := 4) rfl (by first | exact Or.inl rfl | exact Or.inr rfl) pd_int (by first | exact Or.inl rfl | exact Or.inr rfl) (PxOk.of hpx _))))))
 (pts_one' (pts_ret (pd_var (pv 4)))))))))
theorem sc__law_one : FnScope ["_law_code", "_law_passed", "_law_ask", "e"] ["_law_code", "_law_passed", "_law_ask"] (defScope s__law_one) := ⟨rfl, rfl, rfl, by decide +kernel, rfl, by decide +kernel, by decide +kernel⟩
/-- slots: 0 _law_code 1 _law_passed 2 _law_ask 3 e -/
noncomputable def d__law_one : Dn := defF 4
 (tryM [⟨(hdT [("BadCone", true), ("BadRatio", false), ("NotCone", false)]), some 3, fun ex => (retS (tupF (consA (cF (.str "bad")) (consA (xfF ["BadCone"] "place" ex) (consA (andV (isxF [("BadCone", true)] ex) (isxF [("BadCone", true)] ex)) nilA)))))⟩, ⟨(hdT [("BadRatio", false), ("NotCone", true)]), some 3, fun ex => (retS (tupF (consA (cF (.str "above")) (consA (xfF ["NotCone"] "number" ex) (consA (xfF ["NotCone"] "bit" ex) (consA (andV (isxF [("NotCone", true)] ex) (isxF [("NotCone", true)] ex)) nilA))))))⟩] (seqS (ifS (tstF (op2F eqD (varF 2) (cF (.int 0))))
 (retS (callF 2 d_check_entries [] (consV (dF (varF 0)) (consV (dF (varF 1)) nilV))))
 skipS)
 (seqS (ifS (tstF (op2F eqD (varF 2) (cF (.int 1))))
 (retS (callF 2 d_cone_fault [] (consV (dF (varF 0)) (consV (dF (varF 1)) nilV))))
 skipS)
 (seqS (ifS (tstF (op2F eqD (varF 2) (cF (.int 2))))
 (retS (callF 2 d_bars_from [] (consV (dF (varF 0)) (consV (dF (varF 1)) nilV))))
 skipS)
 (retS (callF 2 d_small_row [] (consV (dF (varF 0)) (consV (dF (varF 1)) nilV))))))))
theorem ok__law_one (T : Tx K mg A) : FnOk P w K mg base (L2.CX P w) 6 A.f__law_one A.fd__law_one ["_law_code", "_law_passed", "_law_ask"] (spD ⟨K, mg⟩ 3 d__law_one) :=
 ok_def (N := ["_law_code", "_law_passed", "_law_ask", "e"]) rfl (by decide) T.F__law_one sc__law_one fun cdv Ar outer s H E b hr hM hnp hpx =>
 (pts_one' (pts_tryM hpx rfl rfl (takes_of rfl rfl rfl rfl) hM (fun _ _ _ tk' hp' => (pts_cons (pts_if (qt_eq hM hr (pd_var (pv 2)) pd_int)
 (pts_one' (pts_ret (q_call hM tk' (ok_check_entries T) (hr.mono (by decide)) (by rfl) T.m_check_entries T.k_check_entries (bd_check_entries_2 T) (fun _ _ _ => RepL.nil) (pva_cons (p1_d (pd_var (pv 0))) (pva_cons (p1_d (pd_var (pv 1))) pva_nil)))))
 pts_nil')
 (pts_cons (pts_if (qt_eq hM hr (pd_var (pv 2)) pd_int)
 (pts_one' (pts_ret (q_call hM tk' (ok_cone_fault T) (hr.mono (by decide)) (by rfl) T.m_cone_fault T.k_cone_fault (bd_cone_fault_2 T) (fun _ _ _ => RepL.nil) (pva_cons (p1_d (pd_var (pv 0))) (pva_cons (p1_d (pd_var (pv 1))) pva_nil)))))
 pts_nil')
 (pts_cons (pts_if (qt_eq hM hr (pd_var (pv 2)) pd_int)
 (pts_one' (pts_ret (q_call hM tk' (ok_bars_from T) (hr.mono (by decide)) (by rfl) T.m_bars_from T.k_bars_from (bd_bars_from_2 T) (fun _ _ _ => RepL.nil) (pva_cons (p1_d (pd_var (pv 0))) (pva_cons (p1_d (pd_var (pv 1))) pva_nil)))))
 pts_nil')
 (pts_one' (pts_ret (q_call hM tk' (ok_small_row T) (hr.mono (by decide)) (by rfl) T.m_small_row T.k_small_row (bd_small_row_2 T) (fun _ _ _ => RepL.nil) (pva_cons (p1_d (pd_var (pv 0))) (pva_cons (p1_d (pd_var (pv 1))) pva_nil)))))))))
 (MixD.named sc__law_one.nd (i := 3) rfl rfl ⟨by rfl, by decide, .inl T.m_BadCone⟩ (hd_BadCone_0 T) (fun _ _ _ _ _ ex b' hz hv hM' hpx' hh => (pts_one' (pts_ret (pd_tup (pda_cons pd_str (pda_cons (pd_xf hM' hpx' hh hz hv (xf_place_0 T) (pv 3)) (pda_cons (pd_and (pd_isx (c := .ref A.c_CodeError) (cv := .ref A.c_CodeError) hM' hpx' hh hz hv (isx_CodeError_1 T) (fun _ h => h) (by rfl) T.z_isinstance (pv 3) (pe_glob (by rfl) T.m_CodeError rfl)) (pd_one (pd_isx (c := .ty "ValueError") (cv := .type "ValueError") hM' hpx' hh hz hv (isx_ValueError_0 T) (fun _ h => h) (by rfl) T.z_isinstance (pv 3) (tyN (by rfl) T.z_ValueError (by decide +kernel))))) pda_nil)))))))
 (MixD.named sc__law_one.nd (i := 3) rfl rfl ⟨by rfl, by decide, .inl T.m_NotCone⟩ (hd_NotCone_1 T) (fun _ _ _ _ _ ex b' hz hv hM' hpx' hh => (pts_one' (pts_ret (pd_tup (pda_cons pd_str (pda_cons (pd_xf hM' hpx' hh hz hv (xf_number_2 T) (pv 3)) (pda_cons (pd_xf hM' hpx' hh hz hv (xf_bit_1 T) (pv 3)) (pda_cons (pd_and (pd_isx (c := .ref A.c_CodeError) (cv := .ref A.c_CodeError) hM' hpx' hh hz hv (isx_CodeError_3 T) (fun _ h => h) (by rfl) T.z_isinstance (pv 3) (pe_glob (by rfl) T.m_CodeError rfl)) (pd_one (pd_isx (c := .ty "ValueError") (cv := .type "ValueError") hM' hpx' hh hz hv (isx_ValueError_2 T) (fun _ h => h) (by rfl) T.z_isinstance (pv 3) (tyN (by rfl) T.z_ValueError (by decide +kernel))))) pda_nil))))))))
 MixD.nil))))
theorem sc__law_judged : FnScope ["_law_hand_here", "_law_code", "_law_checks_here", "_law_entries", "_law_passed", "_law_dues", "_law_ask"] ["_law_hand_here", "_law_code", "_law_checks_here", "_law_entries"] (defScope s__law_judged) := ⟨rfl, rfl, rfl, by decide +kernel, rfl, by decide +kernel, by decide +kernel⟩
/-- slots: 0 _law_hand_here 1 _law_code 2 _law_checks_here 3 _law_entries 4 _law_passed 5 _law_dues 6 _law_ask -/
noncomputable def d__law_judged : Dn := defF 7
 (seqS (asgS 4 (callF 2 d__law_list [] (consV (nmF 0) (consV (dF (varF 3)) nilV))))
 (seqS (asgS 5 (frF (lstF (consA (bltF tupleD (consV (dF (varF 3)) nilV)) (consA (callF 2 d__law_broken [] (consV (dF (varF 2)) (consV (dF (varF 3)) nilV))) (consA (callF 1 d__law_bars [] (consV (dF (varF 3)) nilV)) (consA (callF 2 d__law_small [] (consV (dF (varF 2)) (consV (dF (varF 3)) nilV))) nilA)))))))
 (seqS (forS (faF rng1D (consA (cF (.int 4)) nilA)) (tgN 6)
 (ifS (orB (notB (tstF (callF 2 d__law_exact [] (consV (dF (callF 3 d__law_one [] (consV (dF (varF 1)) (consV (dF (varF 4)) (consV (dF (varF 6)) nilV))))) (consV (dF (op2F ixD (varF 5) (varF 6))) nilV))))) (tstF (op2F neD (frF (bltFF listD (consV (dF (varF 4)) nilV))) (frF (bltFF listD (consV (dF (varF 3)) nilV))))))
 (retS (cF (.bl false)))
 skipS))
 (retS (cF (.bl true))))))
theorem ok__law_judged (T : Tx K mg A) : FnOk P w K mg base (L2.CX P w) 7 A.f__law_judged A.fd__law_judged ["_law_hand_here", "_law_code", "_law_checks_here", "_law_entries"] (spD ⟨K, mg⟩ 4 d__law_judged) :=
 ok_def (N := ["_law_hand_here", "_law_code", "_law_checks_here", "_law_entries", "_law_passed", "_law_dues", "_law_ask"]) rfl (by decide) T.F__law_judged sc__law_judged fun cdv Ar outer s H E b hr hM hnp hpx =>
 (pts_cons (pts_asg sc__law_judged.nd (i := 4) rfl (by first | exact Or.inl rfl | exact Or.inr rfl) (q_call hM (takes_of rfl rfl rfl rfl) (ok__law_list T) (hr.mono (by decide)) (by rfl) T.m__law_list T.k__law_list (bd__law_list_2 T) (fun _ _ _ => RepL.nil) (pva_cons (p1_nm (pv 0)) (pva_cons (p1_d (pd_var (pv 3))) pva_nil))) rfl (by first | exact Or.inl rfl | exact Or.inr rfl) (PxOk.of hpx _))
 (pts_cons (pts_asg sc__law_judged.nd (i := 5) rfl (by first | exact Or.inl rfl | exact Or.inr rfl) (pd_fr (pf_lst (pda_cons (c_tuple hM (by rfl) T.z_tuple (pva_cons (p1_d (pd_var (pv 3))) pva_nil)) (pda_cons (q_call hM (takes_of rfl rfl rfl rfl) (ok__law_broken T) (hr.mono (by decide)) (by rfl) T.m__law_broken T.k__law_broken (bd__law_broken_2 T) (fun _ _ _ => RepL.nil) (pva_cons (p1_d (pd_var (pv 2))) (pva_cons (p1_d (pd_var (pv 3))) pva_nil))) (pda_cons (q_call hM (takes_of rfl rfl rfl rfl) (ok__law_bars T) (hr.mono (by decide)) (by rfl) T.m__law_bars T.k__law_bars (bd__law_bars_1 T) (fun _ _ _ => RepL.nil) (pva_cons (p1_d (pd_var (pv 3))) pva_nil)) (pda_cons (q_call hM (takes_of rfl rfl rfl rfl) (ok__law_small T) (hr.mono (by decide)) (by rfl) T.m__law_small T.k__law_small (bd__law_small_2 T) (fun _ _ _ => RepL.nil) (pva_cons (p1_d (pd_var (pv 2))) (pva_cons (p1_d (pd_var (pv 3))) pva_nil))) pda_nil)))))) rfl (by first | exact Or.inl rfl | exact Or.inr rfl) (PxOk.of hpx _))
 (pts_cons (pts_for (passes_of rfl) rfl (pi_rng1 (by rfl) T.z_range (pda_cons pd_int pda_nil)) (pg_n (pg_name (i := 6) sc__law_judged.nd rfl (by first | exact Or.inl rfl | exact Or.inr rfl)) (PxOk.of hpx _))
 (pts_one' (pts_if (PW.pt (pwb_or (ptb_not (pt_of (q_call hM (takes_of rfl rfl rfl rfl) (ok__law_exact T) (hr.mono (by decide)) (by rfl) T.m__law_exact T.k__law_exact (bd__law_exact_2 T) (fun _ _ _ => RepL.nil) (pva_cons (p1_d (q_call hM (takes_of rfl rfl rfl rfl) (ok__law_one T) (hr.mono (by decide)) (by rfl) T.m__law_one T.k__law_one (bd__law_one_3 T) (fun _ _ _ => RepL.nil) (pva_cons (p1_d (pd_var (pv 1))) (pva_cons (p1_d (pd_var (pv 4))) (pva_cons (p1_d (pd_var (pv 6))) pva_nil))))) (pva_cons (p1_d (q_ix hM (pd_var (pv 5)) (pd_var (pv 6)) (fun _ _ => rfl))) pva_nil))))) (pwb_or1 (qt_ne hM hr (pd_fr (c_list hM (by rfl) T.z_list (pva_cons (p1_d (pd_var (pv 4))) pva_nil))) (pd_fr (c_list hM (by rfl) T.z_list (pva_cons (p1_d (pd_var (pv 3))) pva_nil)))))))
 (pts_one' (pts_ret pd_bl))
 pts_nil')))
 (pts_one' (pts_ret pd_bl)))))
theorem sc__law_odd_whole : FnScope ["_law_hand_here", "_law_items"] ["_law_hand_here", "_law_items"] (defScope s__law_odd_whole) := ⟨rfl, rfl, rfl, by decide +kernel, rfl, by decide +kernel, by decide +kernel⟩
/-- slots: 0 _law_hand_here 1 _law_items -/
noncomputable def d__law_odd_whole : Dn := defF 2
 (retS (op2F ixD (tupF (consA (cF .non) (consA (cF (.str "01")) (consA (frF (op2L catD (dF (frF (bltFF listD (consV (dF (varF 1)) nilV)))) (dF (frF (lstF (consA (op2F ixD (varF 1) (cF (.int 0))) nilA)))))) (consA (slF (dF (frF (bltFF listD (consV (dF (varF 1)) nilV)))) (partF (cF (.int 1))) noPart) (consA (cF (.int 3)) (consA empF nilA))))))) (callF 2 d__law_take [] (consV (nmF 0) (consV (dF (cF (.int 6))) nilV)))))
theorem ok__law_odd_whole (T : Tx K mg A) : FnOk P w K mg base (L2.CX P w) 3 A.f__law_odd_whole A.fd__law_odd_whole ["_law_hand_here", "_law_items"] (spD ⟨K, mg⟩ 2 d__law_odd_whole) :=
 ok_def (N := ["_law_hand_here", "_law_items"]) rfl (by decide) T.F__law_odd_whole sc__law_odd_whole fun cdv Ar outer s H E b hr hM hnp hpx =>
 (pts_one' (pts_ret (q_ix hM (pd_tup (pda_cons pd_non (pda_cons pd_str (pda_cons (pd_fr (pf_cat hM (p1_d (pd_fr (c_list hM (by rfl) T.z_list (pva_cons (p1_d (pd_var (pv 1))) pva_nil)))) (p1_d (pd_fr (pf_lst (pda_cons (q_ix hM (pd_var (pv 1)) pd_int (fun _ _ => rfl)) pda_nil)))))) (pda_cons (pd_sl hM (p1_d (pd_fr (c_list hM (by rfl) T.z_list (pva_cons (p1_d (pd_var (pv 1))) pva_nil)))) (pod_some pd_int) pod_none) (pda_cons pd_int (pda_cons pd_emp pda_nil))))))) (q_call hM (takes_of rfl rfl rfl rfl) (ok__law_take T) (hr.mono (by decide)) (by rfl) T.m__law_take T.k__law_take (bd__law_take_2 T) (fun _ _ _ => RepL.nil) (pva_cons (p1_nm (pv 0)) (pva_cons (p1_d pd_int) pva_nil))) (fun _ _ => rfl))))
theorem sc__law_spoilt : FnScope ["_law_hand_here", "_law_entries", "_law_told", "_law_turn", "_law_at"] ["_law_hand_here", "_law_entries"] (defScope s__law_spoilt) := ⟨rfl, rfl, rfl, by decide +kernel, rfl, by decide +kernel, by decide +kernel⟩
/-- slots: 0 _law_hand_here 1 _law_entries 2 _law_told 3 _law_turn 4 _law_at -/
noncomputable def d__law_spoilt : Dn := defF 5
 (seqS (ifS (tstF (op2F eqD (callF 2 d__law_take [] (consV (nmF 0) (consV (dF (cF (.int 4))) nilV))) (cF (.int 0))))
 (retS (callF 2 d__law_odd_whole [] (consV (nmF 0) (consV (dF (varF 1)) nilV))))
 skipS)
 (seqS (asgO 2 (bltFF listD (consV (dF (varF 1)) nilV)))
 (seqS (forS (faF rng1D (consA (op2F addD (cF (.int 1)) (callF 2 d__law_take [] (consV (nmF 0) (consV (dF (cF (.int 2))) nilV)))) nilA)) (tgN 3)
 (seqS (asgS 4 (callF 2 d__law_take [] (consV (nmF 0) (consV (dF (bltF lenD (consV (nmF 2) nilV))) nilV))))
 (setS 2 (varF 4) (op2F ixD (tupF (consA (cF (.bl true)) (consA (cF (.bl false)) (consA (op1F negD (cF (.int 1))) (consA (cF .non) (consA (cF (.str "1")) (consA (tupF (consA (cF (.int 1)) (consA (cF (.int 1)) nilA))) (consA (frF (lstF (consA (cF (.int 0)) nilA))) (consA (op1F negD (op2F powD (cF (.int 10)) (cF (.int 20)))) nilA))))))))) (callF 2 d__law_take [] (consV (nmF 0) (consV (dF (cF (.int 8))) nilV)))))))
 (retS (frzF 2)))))
theorem ok__law_spoilt (T : Tx K mg A) : FnOk P w K mg base (L2.CX P w) 4 A.f__law_spoilt A.fd__law_spoilt ["_law_hand_here", "_law_entries"] (spD ⟨K, mg⟩ 2 d__law_spoilt) :=
 ok_def (N := ["_law_hand_here", "_law_entries", "_law_told", "_law_turn", "_law_at"]) rfl (by decide) T.F__law_spoilt sc__law_spoilt fun cdv Ar outer s H E b hr hM hnp hpx =>
 (pts_cons (pts_if (qt_eq hM hr (q_call hM (takes_of rfl rfl rfl rfl) (ok__law_take T) (hr.mono (by decide)) (by rfl) T.m__law_take T.k__law_take (bd__law_take_2 T) (fun _ _ _ => RepL.nil) (pva_cons (p1_nm (pv 0)) (pva_cons (p1_d pd_int) pva_nil))) pd_int)
 (pts_one' (pts_ret (q_call hM (takes_of rfl rfl rfl rfl) (ok__law_odd_whole T) (hr.mono (by decide)) (by rfl) T.m__law_odd_whole T.k__law_odd_whole (bd__law_odd_whole_2 T) (fun _ _ _ => RepL.nil) (pva_cons (p1_nm (pv 0)) (pva_cons (p1_d (pd_var (pv 1))) pva_nil)))))
 pts_nil')
 (pts_cons (pts_asgO (npl hnp (by decide)) sc__law_spoilt.nd (i := 2) rfl (by first | exact Or.inl rfl | exact Or.inr rfl) (c_list hM (by rfl) T.z_list (pva_cons (p1_d (pd_var (pv 1))) pva_nil)) rfl (by first | exact Or.inl rfl | exact Or.inr rfl) (PxOk.of hpx _))
 (pts_cons (pts_for (passes_of rfl) rfl (pi_rng1 (by rfl) T.z_range (pda_cons (q_add hM pd_int (q_call hM (takes_of rfl rfl rfl rfl) (ok__law_take T) (hr.mono (by decide)) (by rfl) T.m__law_take T.k__law_take (bd__law_take_2 T) (fun _ _ _ => RepL.nil) (pva_cons (p1_nm (pv 0)) (pva_cons (p1_d pd_int) pva_nil)))) pda_nil)) (pg_n (pg_name (i := 3) sc__law_spoilt.nd rfl (by first | exact Or.inl rfl | exact Or.inr rfl)) (PxOk.of hpx _))
 (pts_cons (pts_asg sc__law_spoilt.nd (i := 4) rfl (by first | exact Or.inl rfl | exact Or.inr rfl) (q_call hM (takes_of rfl rfl rfl rfl) (ok__law_take T) (hr.mono (by decide)) (by rfl) T.m__law_take T.k__law_take (bd__law_take_2 T) (fun _ _ _ => RepL.nil) (pva_cons (p1_nm (pv 0)) (pva_cons (p1_d (c_len hM (by rfl) T.z_len (pva_cons (p1_nm (pv 2)) pva_nil))) pva_nil))) rfl (by first | exact Or.inl rfl | exact Or.inr rfl) (PxOk.of hpx _))
 (pts_one' (pts_set (pv 2) (pd_var (pv 4)) (q_ix hM (pd_tup (pda_cons pd_bl (pda_cons pd_bl (pda_cons (q_neg pd_int) (pda_cons pd_non (pda_cons pd_str (pda_cons (pd_tup (pda_cons pd_int (pda_cons pd_int pda_nil))) (pda_cons (pd_fr (pf_lst (pda_cons pd_int pda_nil))) (pda_cons (q_neg (q_pow hM pd_int pd_int)) pda_nil))))))))) (q_call hM (takes_of rfl rfl rfl rfl) (ok__law_take T) (hr.mono (by decide)) (by rfl) T.m__law_take T.k__law_take (bd__law_take_2 T) (fun _ _ _ => RepL.nil) (pva_cons (p1_nm (pv 0)) (pva_cons (p1_d pd_int) pva_nil))) (fun _ _ => rfl))))))
 (pts_one' (pts_ret (pd_frz (pv 2) (npl hnp (by decide))))))))
theorem sc__law_bad_place : FnScope ["_law_bits_here", "_law_passed", "_law_k"] ["_law_bits_here", "_law_passed"] (defScope s__law_bad_place) := ⟨rfl, rfl, rfl, by decide +kernel, rfl, by decide +kernel, by decide +kernel⟩
/-- slots: 0 _law_bits_here 1 _law_passed 2 _law_k -/
noncomputable def d__law_bad_place : Dn := defF 3
 (seqS (ifS (orB (notB (tstF (isiF isLstTup (dF (varF 1))))) (tstF (op2F neD (bltF lenD (consV (dF (varF 1)) nilV)) (varF 0))))
 (retS (op1F negD (cF (.int 1))))
 skipS)
 (seqS (forS (faF rng1D (consA (varF 0) nilA)) (tgN 2)
 (ifS (orB (notB (tstF (isiF isInt (dF (op2F ixD (varF 1) (varF 2)))))) (orB (tstF (isiF isBool (dF (op2F ixD (varF 1) (varF 2))))) (tstF (op2F ltD (op2F ixD (varF 1) (varF 2)) (cF (.int 0))))))
 (retS (varF 2))
 skipS))
 (retS (cF .non))))
theorem ok__law_bad_place (T : Tx K mg A) : FnOk P w K mg base (L2.CX P w) 1 A.f__law_bad_place A.fd__law_bad_place ["_law_bits_here", "_law_passed"] (spD ⟨K, mg⟩ 2 d__law_bad_place) :=
 ok_def (N := ["_law_bits_here", "_law_passed", "_law_k"]) rfl (by decide) T.F__law_bad_place sc__law_bad_place fun cdv Ar outer s H E b hr hM hnp hpx =>
 (pts_cons (pts_if (PW.pt (pwb_or (ptb_not (pt_of (pd_isiLT hM (by rfl) T.z_isinstance (p1_d (pd_var (pv 1))) (tyN (by rfl) T.z_list (by decide +kernel)) (tyN (by rfl) T.z_tuple (by decide +kernel))))) (pwb_or1 (qt_ne hM hr (c_len hM (by rfl) T.z_len (pva_cons (p1_d (pd_var (pv 1))) pva_nil)) (pd_var (pv 0))))))
 (pts_one' (pts_ret (q_neg pd_int)))
 pts_nil')
 (pts_cons (pts_for (passes_of rfl) rfl (pi_rng1 (by rfl) T.z_range (pda_cons (pd_var (pv 0)) pda_nil)) (pg_n (pg_name (i := 2) sc__law_bad_place.nd rfl (by first | exact Or.inl rfl | exact Or.inr rfl)) (PxOk.of hpx _))
 (pts_one' (pts_if (PW.pt (pwb_or (ptb_not (pt_of (pd_isi hM kit_int (by rfl) T.z_isinstance (p1_d (q_ix hM (pd_var (pv 1)) (pd_var (pv 2)) (fun _ _ => rfl))) (tyN (by rfl) T.z_int (by decide +kernel))))) (pwb_or (pt_of (pd_isi hM kit_bool (by rfl) T.z_isinstance (p1_d (q_ix hM (pd_var (pv 1)) (pd_var (pv 2)) (fun _ _ => rfl))) (tyN (by rfl) T.z_bool (by decide +kernel)))) (pwb_or1 (qt_lt hM (q_ix hM (pd_var (pv 1)) (pd_var (pv 2)) (fun _ _ => rfl)) pd_int)))))
 (pts_one' (pts_ret (pd_var (pv 2))))
 pts_nil')))
 (pts_one' (pts_ret pd_non))))
theorem sc__law_refused : FnScope ["_law_hand_here", "_law_code", "_law_bits_here", "_law_entries", "_law_passed", "_law_place", "_law_ask"] ["_law_hand_here", "_law_code", "_law_bits_here", "_law_entries"] (defScope s__law_refused) := ⟨rfl, rfl, rfl, by decide +kernel, rfl, by decide +kernel, by decide +kernel⟩
/-- slots: 0 _law_hand_here 1 _law_code 2 _law_bits_here 3 _law_entries 4 _law_passed 5 _law_place 6 _law_ask -/
noncomputable def d__law_refused : Dn := defF 7
 (seqS (asgS 4 (callF 2 d__law_spoilt [] (consV (nmF 0) (consV (dF (varF 3)) nilV))))
 (seqS (asgS 5 (callF 2 d__law_bad_place [] (consV (dF (varF 2)) (consV (dF (varF 4)) nilV))))
 (seqS (forS (faF rng1D (consA (cF (.int 4)) nilA)) (tgN 6)
 (ifS (tstF (op2F neD (callF 3 d__law_one [] (consV (dF (varF 1)) (consV (dF (varF 4)) (consV (dF (varF 6)) nilV)))) (tupF (consA (cF (.str "bad")) (consA (varF 5) (consA (cF (.bl true)) nilA))))))
 (retS (cF (.bl false)))
 skipS))
 (retS (cF (.bl true))))))
theorem ok__law_refused (T : Tx K mg A) : FnOk P w K mg base (L2.CX P w) 7 A.f__law_refused A.fd__law_refused ["_law_hand_here", "_law_code", "_law_bits_here", "_law_entries"] (spD ⟨K, mg⟩ 4 d__law_refused) :=
 ok_def (N := ["_law_hand_here", "_law_code", "_law_bits_here", "_law_entries", "_law_passed", "_law_place", "_law_ask"]) rfl (by decide) T.F__law_refused sc__law_refused fun cdv Ar outer s H E b hr hM hnp hpx =>
 (pts_cons (pts_asg sc__law_refused.nd (i := 4) rfl (by first | exact Or.inl rfl | exact Or.inr rfl) (q_call hM (takes_of rfl rfl rfl rfl) (ok__law_spoilt T) (hr.mono (by decide)) (by rfl) T.m__law_spoilt T.k__law_spoilt (bd__law_spoilt_2 T) (fun _ _ _ => RepL.nil) (pva_cons (p1_nm (pv 0)) (pva_cons (p1_d (pd_var (pv 3))) pva_nil))) rfl (by first | exact Or.inl rfl | exact Or.inr rfl) (PxOk.of hpx _))
 (pts_cons (pts_asg sc__law_refused.nd (i := 5) rfl (by first | exact Or.inl rfl | exact Or.inr rfl) (q_call hM (takes_of rfl rfl rfl rfl) (ok__law_bad_place T) (hr.mono (by decide)) (by rfl) T.m__law_bad_place T.k__law_bad_place (bd__law_bad_place_2 T) (fun _ _ _ => RepL.nil) (pva_cons (p1_d (pd_var (pv 2))) (pva_cons (p1_d (pd_var (pv 4))) pva_nil))) rfl (by first | exact Or.inl rfl | exact Or.inr rfl) (PxOk.of hpx _))
 (pts_cons (pts_for (passes_of rfl) rfl (pi_rng1 (by rfl) T.z_range (pda_cons pd_int pda_nil)) (pg_n (pg_name (i := 6) sc__law_refused.nd rfl (by first | exact Or.inl rfl | exact Or.inr rfl)) (PxOk.of hpx _))
 (pts_one' (pts_if (qt_ne hM hr (q_call hM (takes_of rfl rfl rfl rfl) (ok__law_one T) (hr.mono (by decide)) (by rfl) T.m__law_one T.k__law_one (bd__law_one_3 T) (fun _ _ _ => RepL.nil) (pva_cons (p1_d (pd_var (pv 1))) (pva_cons (p1_d (pd_var (pv 4))) (pva_cons (p1_d (pd_var (pv 6))) pva_nil)))) (pd_tup (pda_cons pd_str (pda_cons (pd_var (pv 5)) (pda_cons pd_bl pda_nil)))))
 (pts_one' (pts_ret pd_bl))
 pts_nil')))
 (pts_one' (pts_ret pd_bl)))))
theorem sc_law : FnScope ["_law_script", "_law_hand_here", "_law_turn", "_law_bits_here", "_law_checks_here", "_law_code", "_law_entries", "_law_bit", "_law_times", "_law_entry"] ["_law_script"] (defScope s_law) := ⟨rfl, rfl, rfl, by decide +kernel, rfl, by decide +kernel, by decide +kernel⟩
/-- slots: 0 _law_script 1 _law_hand_here 2 _law_turn 3 _law_bits_here 4 _law_checks_here 5 _law_code 6 _law_entries 7 _law_bit 8 _law_times 9 _law_entry -/
noncomputable def d_law : Dn := defF 10
 (seqS (asgO 1 (callFF 1 d__law_hand [] (consV (dF (varF 0)) nilV)))
 (seqS (forS (faF rng1D (consA (cF (.int 3)) nilA)) (tgN 2)
 (seqS (asgS 3 (callF 2 d__law_bits [] (consV (nmF 1) (consV (dF (cF (.int 8))) nilV))))
 (seqS (asgS 4 (frF (callFF 2 d__law_checks [] (consV (nmF 1) (consV (dF (varF 3)) nilV)))))
 (seqS (asgS 5 (mkF "Code" 3 d_Code__init__ [] (consV (dF (varF 3)) (consV (dF (callF 2 d__law_list [] (consV (nmF 1) (consV (dF (varF 4)) nilV)))) nilV))))
 (seqS (asgO 6 (lcF (faF rng1D (consA (varF 3) nilA)) (tgN 7) yesB (callF 2 d__law_take [] (consV (nmF 1) (consV (dF (cF (.int 6))) nilV))) [7]))
 (seqS (ifS (tstF (op2F gtD (callF 2 d__law_take [] (consV (nmF 1) (consV (dF (cF (.int 3))) nilV))) (cF (.int 0))))
 (asgO 6 (callFF 3 d__law_cone_row [] (consV (nmF 1) (consV (dF (varF 3)) (consV (dF (varF 4)) nilV)))))
 skipS)
 (seqS (ifS (tstF (op2F eqD (callF 2 d__law_take [] (consV (nmF 1) (consV (dF (cF (.int 3))) nilV))) (cF (.int 0))))
 (augIS (fun i j => i + j) 6 (callF 2 d__law_take [] (consV (nmF 1) (consV (dF (varF 3)) nilV))) (cF (.int 1)))
 skipS)
 (seqS (asgS 8 (op2F ixD (tupF (consA (cF (.int 1)) (consA (cF (.int 1)) (consA (cF (.int 1)) (consA (cF (.int 7)) (consA (op2F powD (cF (.int 10)) (cF (.int 20))) nilA)))))) (callF 2 d__law_take [] (consV (nmF 1) (consV (dF (cF (.int 5))) nilV)))))
 (seqS (asgO 6 (lcF (itF (frzF 6)) (tgN 9) yesB (op2F mulD (varF 8) (varF 9)) [9]))
 (seqS (ifS (orB (notB (tstF (callF 4 d__law_judged [] (consV (nmF 1) (consV (dF (varF 5)) (consV (dF (varF 4)) (consV (dF (frzF 6)) nilV))))))) (notB (tstF (callF 4 d__law_refused [] (consV (nmF 1) (consV (dF (varF 5)) (consV (dF (varF 3)) (consV (dF (frzF 6)) nilV))))))))
 (retS (cF (.bl false)))
 skipS)
 (ifS (notB (tstF (callF 4 d__law_judged [] (consV (nmF 1) (consV (dF (varF 5)) (consV (dF (varF 4)) (consV (dF (frzF 6)) nilV)))))))
 (retS (cF (.bl false)))
 skipS)))))))))))
 (retS (cF (.bl true)))))
theorem ok_law (T : Tx K mg A) : FnOk P w K mg base (L2.CX P w) 8 A.f_law A.fd_law ["_law_script"] (spD ⟨K, mg⟩ 1 d_law) :=
 ok_def (N := ["_law_script", "_law_hand_here", "_law_turn", "_law_bits_here", "_law_checks_here", "_law_code", "_law_entries", "_law_bit", "_law_times", "_law_entry"]) rfl (by decide) T.F_law sc_law fun cdv Ar outer s H E b hr hM hnp hpx =>
 (pts_cons (pts_asgO (npl hnp (by decide)) sc_law.nd (i := 1) rfl (by first | exact Or.inl rfl | exact Or.inr rfl) (f_call hM (takes_of rfl rfl rfl rfl) (ok__law_hand T) (hr.mono (by decide)) (by rfl) T.m__law_hand T.k__law_hand (bd__law_hand_1 T) (fun _ _ _ => RepL.nil) (pva_cons (p1_d (pd_var (pv 0))) pva_nil)) rfl (by first | exact Or.inl rfl | exact Or.inr rfl) (PxOk.of hpx _))
 (pts_cons (pts_for (passes_of rfl) rfl (pi_rng1 (by rfl) T.z_range (pda_cons pd_int pda_nil)) (pg_n (pg_name (i := 2) sc_law.nd rfl (by first | exact Or.inl rfl | exact Or.inr rfl)) (PxOk.of hpx _))
 (pts_cons (pts_asg sc_law.nd (i := 3) rfl (by first | exact Or.inl rfl | exact Or.inr rfl) (q_call hM (takes_of rfl rfl rfl rfl) (ok__law_bits T) (hr.mono (by decide)) (by rfl) T.m__law_bits T.k__law_bits (bd__law_bits_2 T) (fun _ _ _ => RepL.nil) (pva_cons (p1_nm (pv 1)) (pva_cons (p1_d pd_int) pva_nil))) rfl (by first | exact Or.inl rfl | exact Or.inr rfl) (PxOk.of hpx _))
 (pts_cons (pts_asg sc_law.nd (i := 4) rfl (by first | exact Or.inl rfl | exact Or.inr rfl) (pd_fr (f_call hM (takes_of rfl rfl rfl rfl) (ok__law_checks T) (hr.mono (by decide)) (by rfl) T.m__law_checks T.k__law_checks (bd__law_checks_2 T) (fun _ _ _ => RepL.nil) (pva_cons (p1_nm (pv 1)) (pva_cons (p1_d (pd_var (pv 3))) pva_nil)))) rfl (by first | exact Or.inl rfl | exact Or.inr rfl) (PxOk.of hpx _))
 (pts_cons (pts_asg sc_law.nd (i := 5) rfl (by first | exact Or.inl rfl | exact Or.inr rfl) (pd_make hM (takes_of rfl rfl rfl rfl) T.M_Code (ok_Code__init__ T) (hr.mono (by decide)) (by rfl) T.m_Code (bd_Code__init___3 T) (fun _ _ _ => RepL.nil) (pva_cons (p1_d (pd_var (pv 3))) (pva_cons (p1_d (q_call hM (takes_of rfl rfl rfl rfl) (ok__law_list T) (hr.mono (by decide)) (by rfl) T.m__law_list T.k__law_list (bd__law_list_2 T) (fun _ _ _ => RepL.nil) (pva_cons (p1_nm (pv 1)) (pva_cons (p1_d (pd_var (pv 4))) pva_nil)))) pva_nil))) rfl (by first | exact Or.inl rfl | exact Or.inr rfl) (PxOk.of hpx _))
 (pts_cons (pts_asgLc hpx (npl hnp (by decide)) rfl sc_law.nd rfl rfl (sw_true rfl rfl rfl rfl) (pi_rng1 (by rfl) T.z_range (pda_cons (pd_var (pv 3)) pda_nil)) (blkOk_by (own := [("_law_bit", 7)]) (by first | (show blkC ["_law_script", "_law_hand_here", "_law_turn", "_law_bits_here", "_law_checks_here", "_law_code", "_law_entries", "_law_bit", "_law_times", "_law_entry"] (defScope s_law) _ [("_law_bit", 7)] = true; decide +kernel) | kernel_rfl)) rfl (by decide) (fun _ _ _ _ _ b' hM'' hpx' => have hM' := hM''.trans hM; (pg_n (pg_name (i := 7) sc_law.nd rfl (by first | exact Or.inl rfl | exact Or.inr rfl)) (PxOk.of hpx' _))) (fun _ _ _ _ _ b' hM'' hpx' => have hM' := hM''.trans hM; pts_nilD) (fun _ _ _ _ _ b' hM'' hpx' => have hM' := hM''.trans hM; (q_call hM' takes0 (ok__law_take T) (hr.mono (by decide)) (by rfl) T.m__law_take T.k__law_take (bd__law_take_2 T) (fun _ _ _ => RepL.nil) (pva_cons (p1_nm (pv 1)) (pva_cons (p1_d pd_int) pva_nil)))))
 (pts_cons (pts_if (qt_gt hM (q_call hM (takes_of rfl rfl rfl rfl) (ok__law_take T) (hr.mono (by decide)) (by rfl) T.m__law_take T.k__law_take (bd__law_take_2 T) (fun _ _ _ => RepL.nil) (pva_cons (p1_nm (pv 1)) (pva_cons (p1_d pd_int) pva_nil))) pd_int)
 (pts_one' (pts_asgO (npl hnp (by decide)) sc_law.nd (i := 6) rfl (by first | exact Or.inl rfl | exact Or.inr rfl) (f_call hM (takes_of rfl rfl rfl rfl) (ok__law_cone_row T) (hr.mono (by decide)) (by rfl) T.m__law_cone_row T.k__law_cone_row (bd__law_cone_row_3 T) (fun _ _ _ => RepL.nil) (pva_cons (p1_nm (pv 1)) (pva_cons (p1_d (pd_var (pv 3))) (pva_cons (p1_d (pd_var (pv 4))) pva_nil)))) rfl (by first | exact Or.inl rfl | exact Or.inr rfl) (PxOk.of hpx _)))
 pts_nil')
 (pts_cons (pts_if (qt_eq hM hr (q_call hM (takes_of rfl rfl rfl rfl) (ok__law_take T) (hr.mono (by decide)) (by rfl) T.m__law_take T.k__law_take (bd__law_take_2 T) (fun _ _ _ => RepL.nil) (pva_cons (p1_nm (pv 1)) (pva_cons (p1_d pd_int) pva_nil))) pd_int)
 (pts_one' (pts_augI ip_add (pv 6) (q_call hM (takes_of rfl rfl rfl rfl) (ok__law_take T) (hr.mono (by decide)) (by rfl) T.m__law_take T.k__law_take (bd__law_take_2 T) (fun _ _ _ => RepL.nil) (pva_cons (p1_nm (pv 1)) (pva_cons (p1_d (pd_var (pv 3))) pva_nil))) pd_int))
 pts_nil')
 (pts_cons (pts_asg sc_law.nd (i := 8) rfl (by first | exact Or.inl rfl | exact Or.inr rfl) (q_ix hM (pd_tup (pda_cons pd_int (pda_cons pd_int (pda_cons pd_int (pda_cons pd_int (pda_cons (q_pow hM pd_int pd_int) pda_nil)))))) (q_call hM (takes_of rfl rfl rfl rfl) (ok__law_take T) (hr.mono (by decide)) (by rfl) T.m__law_take T.k__law_take (bd__law_take_2 T) (fun _ _ _ => RepL.nil) (pva_cons (p1_nm (pv 1)) (pva_cons (p1_d pd_int) pva_nil))) (fun _ _ => rfl)) rfl (by first | exact Or.inl rfl | exact Or.inr rfl) (PxOk.of hpx _))
 (pts_cons (pts_asgLc hpx (npl hnp (by decide)) rfl sc_law.nd rfl rfl (sw_true rfl rfl rfl rfl) (pi_d hM (pd_frz (pv 6) (npl hnp (by decide)))) (blkOk_by (own := [("_law_entry", 9)]) (by first | (show blkC ["_law_script", "_law_hand_here", "_law_turn", "_law_bits_here", "_law_checks_here", "_law_code", "_law_entries", "_law_bit", "_law_times", "_law_entry"] (defScope s_law) _ [("_law_entry", 9)] = true; decide +kernel) | kernel_rfl)) rfl (by decide) (fun _ _ _ _ _ b' hM'' hpx' => have hM' := hM''.trans hM; (pg_n (pg_name (i := 9) sc_law.nd rfl (by first | exact Or.inl rfl | exact Or.inr rfl)) (PxOk.of hpx' _))) (fun _ _ _ _ _ b' hM'' hpx' => have hM' := hM''.trans hM; pts_nilD) (fun _ _ _ _ _ b' hM'' hpx' => have hM' := hM''.trans hM; (q_mul hM' (pd_var (pv 8)) (pd_var (pv 9)))))
 (pts_cons (pts_if (PW.pt (pwb_or (ptb_not (pt_of (q_call hM (takes_of rfl rfl rfl rfl) (ok__law_judged T) (hr.mono (by decide)) (by rfl) T.m__law_judged T.k__law_judged (bd__law_judged_4 T) (fun _ _ _ => RepL.nil) (pva_cons (p1_nm (pv 1)) (pva_cons (p1_d (pd_var (pv 5))) (pva_cons (p1_d (pd_var (pv 4))) (pva_cons (p1_d (pd_frz (pv 6) (npl hnp (by decide)))) pva_nil))))))) (pwb_or1 (ptb_not (pt_of (q_call hM (takes_of rfl rfl rfl rfl) (ok__law_refused T) (hr.mono (by decide)) (by rfl) T.m__law_refused T.k__law_refused (bd__law_refused_4 T) (fun _ _ _ => RepL.nil) (pva_cons (p1_nm (pv 1)) (pva_cons (p1_d (pd_var (pv 5))) (pva_cons (p1_d (pd_var (pv 3))) (pva_cons (p1_d (pd_frz (pv 6) (npl hnp (by decide)))) pva_nil))))))))))
 (pts_one' (pts_ret pd_bl))
 pts_nil')
 (pts_one' (pts_if (ptb_not (pt_of (q_call hM (takes_of rfl rfl rfl rfl) (ok__law_judged T) (hr.mono (by decide)) (by rfl) T.m__law_judged T.k__law_judged (bd__law_judged_4 T) (fun _ _ _ => RepL.nil) (pva_cons (p1_nm (pv 1)) (pva_cons (p1_d (pd_var (pv 5))) (pva_cons (p1_d (pd_var (pv 4))) (pva_cons (p1_d (pd_frz (pv 6) (npl hnp (by decide)))) pva_nil)))))))
 (pts_one' (pts_ret pd_bl))
 pts_nil'))))))))))))
 (pts_one' (pts_ret pd_bl))))
end
end K19

set_option Elab.async false
set_option linter.all false
set_option maxRecDepth 100000
set_option maxHeartbeats 2000000
set_option exponentiation.threshold 2000000
/-! the law's hand (take, mixed, hand) -/
namespace K19
open PySem L2 DL
theorem fmod_range {x k : Int} (hk : 0 < k) : 0 ≤ x.fmod k ∧ x.fmod k < k := ⟨Int.fmod_nonneg_of_pos x hk, Int.fmod_lt_of_pos x hk⟩
theorem bb_range {x : Int} {k : Nat} (h0 : 0 ≤ x) (h1 : x < 2 ^ k) : BB k x := by
  unfold BB
  have : ((x.natAbs : Nat) : Int) = x := Int.natAbs_of_nonneg h0
  have h2 : ((2 ^ k : Nat) : Int) = 2 ^ k := by simp
  omega
theorem mixed_ok {n t : Int} (hn : BB 31 n) (ht : BB 20 t) (g : Sg) : ∃ v, 0 ≤ v ∧ ∀ g, callR 2 d__law_mixed [.d (.int n), .d (.int t)] g = .ok (.int v) g := by
  obtain ⟨o, ho⟩ : ∃ o, o = (n * 41387 + t * 7103 + 60013).fmod 2147483423 := ⟨_, rfl⟩
  have ro := fmod_range (x := n * 41387 + t * 7103 + 60013) (k := 2147483423) (by decide)
  rw [← ho] at ro
  have bo : BB 31 o := bb_range ro.1 (by have := ro.2; omega)
  obtain ⟨w, hw⟩ : ∃ w, w = (o * o + t * 90001 + o.fdiv 139).fmod 2147483563 := ⟨_, rfl⟩
  have rw' := fmod_range (x := o * o + t * 90001 + o.fdiv 139) (k := 2147483563) (by decide)
  rw [← hw] at rw'
  have bw : BB 31 w := bb_range rw'.1 (by have := rw'.2; omega)
  obtain ⟨z, hz⟩ : ∃ z, z = (w * 61927 + o.fdiv 13).fmod 2147483477 := ⟨_, rfl⟩
  have rz := fmod_range (x := w * 61927 + o.fdiv 13) (k := 2147483477) (by decide)
  rw [← hz] at rz
  have e1 := d_mul' (hn.mul (show BB 17 41387 by unfold BB; decide))
  have e2 := d_mul' (ht.mul (show BB 16 7103 by unfold BB; decide))
  have e3 := d_mul' (bo.mul bo)
  have e4 := d_mul' (ht.mul (show BB 17 90001 by unfold BB; decide))
  have e5 := d_mul' (bw.mul (show BB 16 61927 by unfold BB; decide))
  have m1 : modD (.int (n * 41387 + t * 7103 + 60013)) (.int 2147483423) = some (.int o) := by rw [ho]; rfl
  have m2 : modD (.int (o * o + t * 90001 + o.fdiv 139)) (.int 2147483563) = some (.int w) := by rw [hw]; rfl
  have m3 : modD (.int (w * 61927 + o.fdiv 13)) (.int 2147483477) = some (.int z) := by rw [hz]; rfl
  have f1 : fdivD (.int o) (.int 139) = some (.int (o.fdiv 139)) := d_fdiv' (show BB 8 139 by unfold BB; decide) (by decide)
  have f2 : fdivD (.int o) (.int 13) = some (.int (o.fdiv 13)) := d_fdiv' (show BB 10 13 by unfold BB; decide) (by decide)
  have f3 : fdivD (.int z) (.int 64) = some (.int (z.fdiv 64)) := d_fdiv' (show BB 7 64 by unfold BB; decide) (by decide)
  refine ⟨z.fdiv 64, ?_, fun g => callR_v rfl rfl (ss := [.v (.int n), .v (.int t)]) ?_⟩
  · rw [Int.fdiv_eq_ediv_of_nonneg _ (by decide)]; omega
  · simp [d__law_mixed, s_def, s_seq, -d_mod, -d_fdiv, e1, e2, e3, e4, e5, m1, m2, m3, f1, f2, f3]
def Hand (cs : List Int) (p r s : Int) : List D := [.lst (cs.map D.int), .int p, .int r, .int s]
structure HandOk (cs : List Int) (p r s : Int) : Prop where
  c0 : ∀ c ∈ cs, 0 ≤ c
  cb : ∀ c ∈ cs, BB 1048576 c
  len : cs.length ≤ 63
  p0 : 0 ≤ p
  pl : p ≤ cs.length
  r0 : 0 ≤ r
  rb : BB 1048576 r
  s0 : 0 ≤ s
  sb : s < 2147483587
/-- a hand -/
def IsHand (h : List D) : Prop := ∃ cs p r s, h = Hand cs p r s ∧ HandOk cs p r s
theorem pow18 : powD (.int 10) (.int 18) = some (.int 1000000000000000000) := rfl
theorem fdiv_bb {k : Nat} {x m : Int} (hx : BB k x) (h0 : 0 ≤ x) (hm : 0 < m) : 0 ≤ x.fdiv m ∧ BB k (x.fdiv m) := by
  rw [Int.fdiv_eq_ediv_of_nonneg _ (by omega)]
  refine ⟨Int.ediv_nonneg h0 (by omega), ?_⟩
  unfold BB at *
  have := Int.natAbs_ediv_le_natAbs x m
  omega
theorem cell_at {cs : List Int} {p : Int} (h0 : 0 ≤ p) (h1 : p < cs.length) : ∃ c, c ∈ cs ∧ ixD (.lst (cs.map D.int)) (.int p) = some (.int c) := by
  obtain ⟨k, rfl⟩ := Int.eq_ofNat_of_zero_le h0
  have hk : k < cs.length := by omega
  refine ⟨cs[k], List.getElem_mem hk, ?_⟩
  show atI (cs.map D.int) (k : Int) = _
  unfold atI ixN
  rw [if_pos (by omega), if_pos (by rw [List.length_map]; omega)]
  simp [hk]
theorem take_dn {cs : List Int} {p r s m : Int} (hm : 0 < m) (mb : BB 8000 m) (H : HandOk cs p r s) : ∃ v p' r' s', d__law_take [.ow (Hand cs p r s), .v (.int m)] = .ok (.int v) [.ow (Hand cs p' r' s'), .v (.int m)] ∧ 0 ≤ v ∧ v < m ∧ HandOk cs p' r' s' := by
  have m0 : m ≠ 0 := by omega
  have md : ∀ x, modD (.int x) (.int m) = some (.int (x.fmod m)) := fun x => by rw [d_mod, if_pos m0]
  have fd : ∀ x, fdivD (.int x) (.int m) = some (.int (x.fdiv m)) := fun x => d_fdiv' mb m0
  have i0 : ∀ a b c d : D, ixD (.lst [a, b, c, d]) (.int 0) = some a := fun _ _ _ _ => rfl
  have i1 : ∀ a b c d : D, ixD (.lst [a, b, c, d]) (.int 1) = some b := fun _ _ _ _ => rfl
  have i2 : ∀ a b c d : D, ixD (.lst [a, b, c, d]) (.int 2) = some c := fun _ _ _ _ => rfl
  have i3 : ∀ a b c d : D, ixD (.lst [a, b, c, d]) (.int 3) = some d := fun _ _ _ _ => rfl
  have n1 : ixN 4 1 = some 1 := rfl
  have n2 : ixN 4 2 = some 2 := rfl
  have n3 : ixN 4 3 = some 3 := rfl
  by_cases c1 : r = 0 ∧ p < cs.length
  · obtain ⟨rfl, hp⟩ := c1
    obtain ⟨c, hc, ec⟩ := cell_at H.p0 hp
    have pb : BB 20 (p + 1) := bb_range (by have := H.p0; omega) (by have := H.len; have : p + 1 ≤ 64 := (by omega); omega)
    by_cases c2 : c < 1000000000000000000
    · obtain ⟨x, hx⟩ : ∃ x, x = c.fmod 2147483423 := ⟨_, rfl⟩
      have rx := fmod_range (x := c) (k := 2147483423) (by decide)
      rw [← hx] at rx
      have mx : modD (.int c) (.int 2147483423) = some (.int x) := by rw [hx]; rfl
      obtain ⟨v, hv, ev⟩ := mixed_ok (n := x) (t := p + 1) (bb_range rx.1 (by have := rx.2; omega)) pb []
      refine ⟨v.fmod m, p + 1, 0, s, ?_, (fmod_range hm).1, (fmod_range hm).2, ⟨H.c0, H.cb, H.len, by have := H.p0; omega, by omega, H.r0, H.rb, H.s0, H.sb⟩⟩
      simp [d__law_take, s_def, s_seq, Hand, i0, i1, i2, i3, n1, n2, n3, hp, ec, pow18, c2, ev, mx, md, -d_mod, -d_fdiv]
    · have hr := fdiv_bb (H.cb c hc) (H.c0 c hc) hm
      have c3 : 0 < c := by omega
      refine ⟨c.fmod m, p + 1, c.fdiv m, s, ?_, (fmod_range hm).1, (fmod_range hm).2, ⟨H.c0, H.cb, H.len, by have := H.p0; omega, by omega, hr.1, hr.2, H.s0, H.sb⟩⟩
      simp [d__law_take, s_def, s_seq, Hand, i0, i1, i2, i3, n1, n2, n3, hp, ec, pow18, c2, c3, fd, md, -d_mod, -d_fdiv]
  · by_cases c2 : 0 < r
    · have hr := fdiv_bb H.rb H.r0 hm
      have c3 : r ≠ 0 := by omega
      refine ⟨r.fmod m, p, r.fdiv m, s, ?_, (fmod_range hm).1, (fmod_range hm).2, ⟨H.c0, H.cb, H.len, H.p0, H.pl, hr.1, hr.2, H.s0, H.sb⟩⟩
      simp [d__law_take, s_def, s_seq, Hand, i0, i1, i2, i3, n1, n2, n3, c2, c3, fd, md, -d_mod, -d_fdiv]
    · have c3 : r = 0 := by have := H.r0; omega
      subst c3
      have c4 : ¬ p < cs.length := fun z => c1 ⟨rfl, z⟩
      obtain ⟨x, hx⟩ : ∃ x, x = (s + 1).fmod 2147483587 := ⟨_, rfl⟩
      have rx := fmod_range (x := s + 1) (k := 2147483587) (by decide)
      rw [← hx] at rx
      have mx : modD (.int (s + 1)) (.int 2147483587) = some (.int x) := by rw [hx]; rfl
      obtain ⟨v, hv, ev⟩ := mixed_ok (n := x) (t := p) (bb_range (k := 31) rx.1 (by have := rx.2; omega)) (bb_range H.p0 (by have := H.pl; have := H.len; omega)) []
      refine ⟨v.fmod m, p, 0, x, ?_, (fmod_range hm).1, (fmod_range hm).2, ⟨H.c0, H.cb, H.len, H.p0, H.pl, H.r0, H.rb, rx.1, rx.2⟩⟩
      simp [d__law_take, s_def, s_seq, Hand, i0, i1, i2, i3, n1, n2, n3, c4, ev, mx, md, -d_mod, -d_fdiv]
/-- a draw -/
theorem take_wp {g : Sg} {i m : Nat} {h : List D} {E : Exn → Sg → Prop} {Q : D → Sg → Prop} (hg : gat g i = .ow h) (H : IsHand h) (h0 : 0 < m) (hb : m < 2 ^ 8000) (k : ∀ (v : Nat) h', v < m → IsHand h' → Q (.int (v : Nat)) (g.set i (.ow h'))) : (callR 2 d__law_take [.o i, .d (.int (m : Nat))] g).wp E Q := by
  obtain ⟨cs, p, r, s, rfl, H⟩ := H
  have mb : BB 8000 (m : Nat) := by unfold BB; simpa using hb
  obtain ⟨v, p', r', s', e, v0, v1, H'⟩ := take_dn (m := m) (by omega) mb H
  refine call_o rfl rfl hg ?_
  show RC.wp (d__law_take [.ow (Hand cs p r s), .v (.int (m : Nat))]) _ _ _
  rw [e]
  obtain ⟨n, rfl⟩ := Int.eq_ofNat_of_zero_le v0
  exact ⟨_, _, rfl, k n _ (by omega) ⟨_, _, _, _, rfl, H'⟩⟩
/-- a draw among a number that is written -/
theorem take_lit {g : Sg} {i : Nat} {m : Int} {h : List D} {E : Exn → Sg → Prop} {Q : D → Sg → Prop} (hg : gat g i = .ow h) (H : IsHand h) (h0 : (decide (0 < m) && decide (m < 1000000)) = true) (k : ∀ (v : Nat) h', (v : Int) < m → IsHand h' → Q (.int (v : Nat)) (g.set i (.ow h'))) : (callR 2 d__law_take [.o i, .d (.int m)] g).wp E Q := by
  simp only [Bool.and_eq_true, decide_eq_true_eq] at h0
  obtain ⟨n, rfl⟩ := Int.eq_ofNat_of_zero_le (show 0 ≤ m by omega)
  refine take_wp hg H (by omega) (Nat.lt_of_lt_of_le (show n < 2 ^ 20 by omega) (Nat.pow_le_pow_right (by decide) (by decide))) fun v h' hv H' => k v h' (by omega) H'
/-- a def's word that draws out of the hand in its first slot -/
def HS (dn : Dn) (args : Sg) (P : D → Prop) : Prop := ∀ h, IsHand h → (dn (.ow h :: args)).wp E0 (fun ds ss => ∃ h' r, ss = .ow h' :: r ∧ IsHand h' ∧ P (.lst ds)) (fun d ss => ∃ h' r, ss = .ow h' :: r ∧ IsHand h' ∧ P d)
def HF (dn : Dn) (args : Sg) (P : List D → Prop) : Prop := ∀ h, IsHand h → (dn (.ow h :: args)).wp E0 (fun ds ss => ∃ h' r, ss = .ow h' :: r ∧ IsHand h' ∧ P ds) Q0
section
variable {g : Sg} {i n : Nat} {h : List D} {dn : Dn} {args : Sg} {as : List AV} {E : Exn → Sg → Prop}
theorem HS.call {P : D → Prop} {Q : D → Sg → Prop} (S : HS dn args P) (hg : gat g i = .ow h) (H : IsHand h) (hl : as.length + 1 = n) (ho : ownIx as = []) (ha : as.map (toS g) = args) (k : ∀ d h', P d → IsHand h' → Q d (g.set i (.ow h'))) : (callR n dn (.o i :: as) g).wp E Q := by
  refine call_o ho hl hg ?_
  rw [ha]
  refine RC.wp_mono (S h H) ?_ ?_ (fun _ _ h => h.elim)
  · rintro d g1 ⟨h', r, rfl, H', p⟩; exact ⟨h', r, rfl, k d h' p H'⟩
  · rintro d g1 ⟨h', r, rfl, H', p⟩; exact ⟨h', r, rfl, k _ h' p H'⟩
theorem HF.call {P : List D → Prop} {Q : D → Sg → Prop} (S : HF dn args P) (hg : gat g i = .ow h) (H : IsHand h) (hl : as.length + 1 = n) (ho : ownIx as = []) (ha : as.map (toS g) = args) (k : ∀ d h', P d → IsHand h' → Q (.lst d) (g.set i (.ow h'))) : (callR n dn (.o i :: as) g).wp E Q := by
  refine call_o ho hl hg ?_
  rw [ha]
  refine RC.wp_mono (S h H) (fun _ _ h => h.elim) ?_ (fun _ _ h => h.elim)
  · rintro d g1 ⟨h', r, rfl, H', p⟩; exact ⟨h', r, rfl, k _ h' p H'⟩
theorem HF.callF {P : List D → Prop} {Q : List D → Sg → Prop} (S : HF dn args P) (hg : gat g i = .ow h) (H : IsHand h) (hl : as.length + 1 = n) (ho : ownIx as = []) (ha : as.map (toS g) = args) (k : ∀ d h', P d → IsHand h' → Q d (g.set i (.ow h'))) : (callRF n dn (.o i :: as) g).wp E Q := by
  refine call_oF ho hl hg ?_
  rw [ha]
  refine RC.wp_mono (S h H) (fun _ _ h => h.elim) ?_ (fun _ _ h => h.elim)
  · rintro d g1 ⟨h', r, rfl, H', p⟩; exact ⟨h', r, rfl, k _ h' p H'⟩
end
theorem bits_bb {z : Int} {k : Nat} (h : Builtin.Int.intBits z ≤ k) : BB k z := by
  unfold BB
  unfold Builtin.Int.intBits at h
  by_cases hz : z.natAbs = 0
  · rw [hz]; exact Nat.two_pow_pos _
  · have h2 : z.natAbs.log2 + 1 ≤ k := by
      split at h
      · rename_i q
        have : z = 0 := by simpa using q
        subst this
        exact absurd rfl hz
      · exact h
    exact Nat.lt_of_lt_of_le (Nat.lt_log2_self) (Nat.pow_le_pow_right (by decide) h2)
theorem hand_ok {ns : List Int} (hl : ns.length ≤ 63) (hb : ∀ z ∈ ns, BB 1048576 z) (g : Sg) : ∃ h, callRF 1 d__law_hand [.d (.lst (intz ns))] g = .ok h g ∧ IsHand h := by
  suffices z : ∃ s : Int, (0 ≤ s ∧ s < 2147483587) ∧ d__law_hand [.v (.lst (intz ns))] = .okf (Hand (ns.map fun n => (n.natAbs : Int)) 0 0 s) [.v (.lst (intz ns))] by
    obtain ⟨s, hs, e⟩ := z
    refine ⟨_, callRF_v rfl rfl (ss := [.v (.lst (intz ns))]) e, _, _, _, _, rfl, ?_, ?_, by simpa using hl, Int.le_refl 0, by simp, Int.le_refl 0, (show BB 1 0 by unfold BB; decide).mono (by decide), hs.1, hs.2⟩
    · intro c hc
      obtain ⟨n, _, rfl⟩ := List.mem_map.mp hc
      omega
    · intro c hc
      obtain ⟨n, hn, rfl⟩ := List.mem_map.mp hc
      have := hb n hn
      unfold BB at *
      simpa using this
  suffices z : (d__law_hand [.v (.lst (intz ns))]).wp E0 (fun d g => (∃ s : Int, (0 ≤ s ∧ s < 2147483587) ∧ d = Hand (ns.map fun n => (n.natAbs : Int)) 0 0 s) ∧ g = [.v (.lst (intz ns))]) Q0 by
    generalize d__law_hand [.v (.lst (intz ns))] = r at z
    cases r with
    | okf d g => obtain ⟨⟨s, hs, rfl⟩, rfl⟩ := z; exact ⟨s, hs, rfl⟩
    | ok d g => exact z.elim
    | ex d g => exact z.elim
    | no => exact z.elim
  unfold d__law_hand
  refine def_wp ?_
  refine seq_wp ?_
  simp
  refine seq_wp ?_
  simp
  refine seq_wp ?_
  simp
  refine forI (den := D.int) (fun p g => ∃ (t : Int) (x : S), (0 ≤ t ∧ t < 2147483587) ∧ g = [.v (.lst (intz ns)), .v (.int t), .ow (p.map fun n => D.int (n.natAbs : Int)), x]) ns ⟨_, _, ⟨by omega, by omega⟩, rfl⟩ ?_ ?_
  · rintro p b q g hq ⟨t, x, ht, rfl⟩
    have bt : BB 31 t := bb_range ht.1 (by omega)
    have e1 := d_mul' (bt.mul (show BB 11 2003 by unfold BB; decide))
    have hlen : p.length < sizeLine := by rw [hq] at hl; simp at hl; rw [sizeLine_eq]; omega
    simp [e1, hlen, s_seq]
    have := fmod_range (x := t * 2003 + b) (k := 2147483549) (by decide)
    exact ⟨this.1, by omega⟩
  · rintro g ⟨t, x, ht, rfl⟩
    simp [Hand]
    exact ht
end K19

set_option Elab.async false
set_option linter.all false
set_option maxRecDepth 100000
set_option maxHeartbeats 2000000
/-! is_whole, is_sequence -/
namespace K19
open PySem L2 DL
section
variable {g : Sg} {n a b : Int} {l h d : D}
@[simp] theorem w_nn : callR 3 d_is_whole [.d (.int n), .d .non, .d .non] g = .ok (.bl true) g := by
  refine callR_v rfl rfl (ss := [.v (.int n), .v .non, .v .non]) ?_
  simp [d_is_whole, s_def, s_seq]
@[simp] theorem w_an : callR 3 d_is_whole [.d (.int n), .d (.int a), .d .non] g = .ok (.bl (decide (a ≤ n))) g := by
  refine callR_v rfl rfl (ss := [.v (.int n), .v (.int a), .v .non]) ?_
  by_cases c : n < a
  · simp [d_is_whole, s_def, s_seq, c]
  · simp [d_is_whole, s_def, s_seq, c]; omega
@[simp] theorem w_nb : callR 3 d_is_whole [.d (.int n), .d .non, .d (.int b)] g = .ok (.bl (decide (n ≤ b))) g := by
  refine callR_v rfl rfl (ss := [.v (.int n), .v .non, .v (.int b)]) ?_
  simp [d_is_whole, s_def, s_seq]
@[simp] theorem w_ab : callR 3 d_is_whole [.d (.int n), .d (.int a), .d (.int b)] g = .ok (.bl (decide (a ≤ n) && decide (n ≤ b))) g := by
  refine callR_v rfl rfl (ss := [.v (.int n), .v (.int a), .v (.int b)]) ?_
  by_cases c : n < a
  · have : ¬ a ≤ n := by omega
    simp [d_is_whole, s_def, s_seq, c, this]
  · have : a ≤ n := by omega
    simp [d_is_whole, s_def, s_seq, c, this]
@[simp] theorem w_bl {c : Bool} : callR 3 d_is_whole [.d (.bl c), .d l, .d h] g = .ok (.bl false) g := by
  refine callR_v rfl rfl (ss := [.v (.bl c), .v l, .v h]) ?_
  simp [d_is_whole, s_def, s_seq]
@[simp] theorem w_str {c : Str} : callR 3 d_is_whole [.d (.str c), .d l, .d h] g = .ok (.bl false) g := by
  refine callR_v rfl rfl (ss := [.v (.str c), .v l, .v h]) ?_
  simp [d_is_whole, s_def, s_seq]
@[simp] theorem w_non : callR 3 d_is_whole [.d .non, .d l, .d h] g = .ok (.bl false) g := by
  refine callR_v rfl rfl (ss := [.v .non, .v l, .v h]) ?_
  simp [d_is_whole, s_def, s_seq]
@[simp] theorem w_tup {c : List D} : callR 3 d_is_whole [.d (.tup c), .d l, .d h] g = .ok (.bl false) g := by
  refine callR_v rfl rfl (ss := [.v (.tup c), .v l, .v h]) ?_
  simp [d_is_whole, s_def, s_seq]
@[simp] theorem w_lst {c : List D} : callR 3 d_is_whole [.d (.lst c), .d l, .d h] g = .ok (.bl false) g := by
  refine callR_v rfl rfl (ss := [.v (.lst c), .v l, .v h]) ?_
  simp [d_is_whole, s_def, s_seq]
theorem seq_ok {c : Bool} (hc : isLstTup d = some c) : callR 1 d_is_sequence [.d d] g = .ok (.bl c) g := by
  refine callR_v rfl rfl (ss := [.v d]) ?_
  simp [d_is_sequence, s_def, hc]
@[simp] theorem seq_lst {c : List D} : callR 1 d_is_sequence [.d (.lst c)] g = .ok (.bl true) g := seq_ok rfl
@[simp] theorem seq_tup {c : List D} : callR 1 d_is_sequence [.d (.tup c)] g = .ok (.bl true) g := seq_ok rfl
@[simp] theorem seq_int : callR 1 d_is_sequence [.d (.int n)] g = .ok (.bl false) g := seq_ok rfl
@[simp] theorem seq_bl {c : Bool} : callR 1 d_is_sequence [.d (.bl c)] g = .ok (.bl false) g := seq_ok rfl
@[simp] theorem seq_non : callR 1 d_is_sequence [.d .non] g = .ok (.bl false) g := seq_ok rfl
@[simp] theorem seq_str {c : Str} : callR 1 d_is_sequence [.d (.str c)] g = .ok (.bl false) g := seq_ok rfl
end
end K19

set_option Elab.async false
set_option linter.all false
set_option maxRecDepth 100000
set_option maxHeartbeats 2000000
/-! common_divisor, lowest_terms -/
namespace K19
open PySem L2 DL
theorem gcd_loop (A B : S) : ∀ (n y x : Nat), y < n → whileN (tstF (op2F gtD (varF 3) (cF (.int 0)))) (parS 2 3 (consA (varF 3) (consA (op2F modD (varF 2) (varF 3)) nilA))) n [A, B, .v (.int x), .v (.int y)] = .nx [A, B, .v (.int (Nat.gcd x y)), .v (.int 0)]
  | 0, y, x, h => by omega
  | n + 1, y, x, h => by
    by_cases c : y = 0
    · subst c
      simp
    · have c2 : ¬ (y : Int) = 0 := by omega
      have ih := gcd_loop A B n (x % y) y (by have := Nat.mod_lt x (Nat.pos_of_ne_zero c); omega)
      rw [Nat.gcd_comm y, ← Nat.gcd_rec, Nat.gcd_comm] at ih
      have c3 : 0 < y := by omega
      simp [c, c3, fmod_nat]
      exact ih
@[simp] theorem cd_ok {a b : Int} {g : Sg} : callR 2 d_common_divisor [.d (.int a), .d (.int b)] g = .ok (.int (Int.gcd a b)) g := by
  refine callR_v rfl rfl (ss := [.v (.int a), .v (.int b)]) ?_
  have e := gcd_loop (.v (.int a)) (.v (.int b)) (b.natAbs + 1) b.natAbs a.natAbs (by omega)
  have e2 := whileS_eq e (by intro h; cases h)
  simp [d_common_divisor, s_def, s_seq, e2, Int.gcd]
theorem low_ok {a b : Int} {g : Sg} {k : Nat} (h0 : b ≠ 0) (hb : BB k b) (hk : k ≤ 8000 := by decide) : callR 2 d_lowest_terms [.d (.int a), .d (.int b)] g = .ok (rt (Rat.divInt a b)) g := by
  have q1 := gcd_ne (a := a) h0
  have q3 := gcd_lid (a := a) h0 hb hk
  refine callR_v rfl rfl (ss := [.v (.int a), .v (.int b)]) ?_
  by_cases c : b < 0
  · simp [d_lowest_terms, s_def, s_seq, c, h0, q3]
    simpa using fd_neg (a := a) c
  · simp [d_lowest_terms, s_def, s_seq, c, h0, q3]
    simpa using fd_pos (a := a) (b := b) (by omega)
end K19

set_option Elab.async false
set_option linter.all false
set_option maxRecDepth 100000
set_option maxHeartbeats 2000000
/-! lot_of, Code -/
namespace K19
open PySem L2 DL
/-- the code as data -/
def codeD (n : Nat) (cs : List (List Nat)) : D := .obj "Code" ["bits", "checks"] [.int (n : Nat), .tup (cs.map fun c => .tup (nats c))]
@[simp] theorem fld_bits {n : Nat} {cs : List (List Nat)} : fldD "Code" ["bits", "checks"] 0 (codeD n cs) = some (.int (n : Nat)) := rfl
@[simp] theorem fld_checks {n : Nat} {cs : List (List Nat)} : fldD "Code" ["bits", "checks"] 1 (codeD n cs) = some (.tup (cs.map fun c => .tup (nats c))) := rfl
/-- a lot: ascending bits -/
structure LotOk (n : Nat) (c : List Nat) : Prop where
  lt : c.Pairwise (· < ·)
  bd : ∀ b ∈ c, b < n
structure CodeOk (n : Nat) (cs : List (List Nat)) : Prop where
  n1 : 1 ≤ n
  n2 : n ≤ 10
  len : cs.length ≤ 63
  lot : ∀ c ∈ cs, LotOk n c ∧ c ≠ []
/-- a sequence of naturals, as a list or a tuple -/
def SeqN (e : D) (c : List Nat) : Prop := e = .lst (nats c) ∨ e = .tup (nats c)
theorem lotof_ok {n : Nat} {c : List Nat} {e : D} (h0 : 1 ≤ n) (h : LotOk n c) (he : SeqN e c) (g : Sg) : callR 2 d_lot_of [.d (.int (n : Nat)), .d e] g = .ok (.tup (nats c)) g := by
  refine callR_v rfl rfl (ss := [.v (.int (n : Nat)), .v e]) (RC.eq_ok ?_)
  show (d_lot_of [.v (.int (n : Nat)), .v e]).wp _ _ _
  have hs : ∀ g, callR 1 d_is_sequence [.d e] g = .ok (.bl true) g := fun g => by rcases he with rfl | rfl <;> simp
  have hm : enmD [e] = some (c.zipIdx.map fun p => D.tup [.int (p.2 : Nat), .int (p.1 : Nat)]) := by
    rcases he with rfl | rfl
    · rw [enmD_L, enm_map]
    · rw [enmD_T, enm_map]
  have hk : ∀ (k b : Nat), k ≤ c.length → ∃ d, slD e none (some (k : Nat)) = some d ∧ inD (.int (b : Nat)) d = some (.bl (decide (b ∈ c.take k))) := fun k b hk => by
    rcases he with rfl | rfl
    · exact ⟨_, by rw [sl_L, cut_to (by simpa using hk), ← List.map_take], in_nL⟩
    · exact ⟨_, by rw [sl_T, cut_to (by simpa using hk), ← List.map_take], in_nT⟩
  have hso : sortedD [e] = some (nats c) := by
    rcases he with rfl | rfl
    · rw [sorted_nL, srt_self h.lt]
    · rw [sorted_nT, srt_self h.lt]
  unfold d_lot_of
  refine def_wp ?_
  refine seq_wp ?_
  simp [hs]
  refine seq_wp ?_
  simp [hm]
  refine forI (fun _ g => ∃ x y, g = [.v (.int (n : Nat)), .v e, x, y]) c.zipIdx ⟨_, _, rfl⟩ ?_ ?_
  · rintro p b q g hb ⟨x, y, rfl⟩
    obtain ⟨h1, h2⟩ := zipIdx_at hb
    have h3 := h.bd b.1 (List.mem_of_getElem? h2)
    have h4 := lt_not_take h.lt h2
    have h5 : p.length < c.length := (List.getElem?_eq_some_iff.mp h2).1
    have h6 : (b.1 : Int) ≤ (n : Int) - 1 := by omega
    obtain ⟨d, e1, e2⟩ := hk p.length b.1 (by omega)
    simp [h1, h6, e1, e2, h4]
  · rintro g ⟨x, y, rfl⟩
    simp [hso]
theorem code_ok {n : Nat} {cs : List (List Nat)} {e : D} {es : List D} (h : CodeOk n cs) (he : e = .lst es ∨ e = .tup es) (hes : es.length = cs.length) (hse : ∀ (k : Nat) (d : D) (c : List Nat), es[k]? = some d → cs[k]? = some c → SeqN d c) (g : Sg) : mkR "Code" 3 d_Code__init__ [.d (.int (n : Nat)), .d e] g = .ok (codeD n cs) g := by
  have key : d_Code__init__ [.oi "Code" [] [], .v (.int (n : Nat)), .v e] = .ok .non [.oi "Code" ["bits", "checks"] [.int (n : Nat), .tup (cs.map fun c => .tup (nats c))], .v (.int (n : Nat)), .v e] := by
    refine RC.eq_ok ?_
    have hn := h.n1
    have hn2 := h.n2
    have hlen := h.len
    have hs : ∀ g, callR 1 d_is_sequence [.d e] g = .ok (.bl true) g := fun g => by rcases he with rfl | rfl <;> simp
    have hl : lenD [e] = some (.int (cs.length : Nat)) := by rcases he with rfl | rfl <;> simp [hes]
    have hm : enmD [e] = some (es.zipIdx.map fun p => D.tup [.int (p.2 : Nat), p.1]) := by rcases he with rfl | rfl <;> rfl
    unfold d_Code__init__
    refine def_wp ?_
    refine seq_wp ?_
    have a0 : (1 : Int) ≤ n := by omega
    have a1 : (n : Int) ≤ 10 := by omega
    have a2 : ¬ (63 : Int) < cs.length := by omega
    simp [k_MOST_BITS, a0, a1]
    refine seq_wp ?_
    simp [hs, hl, k_MOST_CHECKS, a2]
    refine seq_wp ?_
    simp
    refine seq_wp ?_
    simp [hm]
    refine forI (fun p g => ∃ x y z, g = [.oi "Code" [] [], .v (.int (n : Nat)), .v e, .ow ((cs.take p.length).map fun c => .tup (nats c)), x, y, z]) es.zipIdx ⟨_, _, _, rfl⟩ ?_ ?_
    · rintro p b q g hb ⟨x, y, z, rfl⟩
      obtain ⟨h1, h2⟩ := zipIdx_at hb
      have h5 : p.length < es.length := (List.getElem?_eq_some_iff.mp h2).1
      obtain ⟨c, hc⟩ : ∃ c, cs[p.length]? = some c := ⟨cs[p.length], by simp⟩
      have hq := hse _ _ _ h2 hc
      obtain ⟨hlot, hne⟩ := h.lot c (List.mem_of_getElem? hc)
      have e1 : ∀ g, callR 2 d_lot_of [.d (.int (n : Nat)), .d b.1] g = .ok (.tup (nats c)) g := lotof_ok h.n1 hlot hq
      have h6 : ¬ c.length = 0 := fun z => hne (List.length_eq_zero_iff.mp z)
      have h7 : (cs.take (p.length + 1)) = cs.take p.length ++ [c] := by
        rw [List.take_add_one, hc]; rfl
      have h8 : min p.length cs.length < sizeLine := by rw [sizeLine_eq]; omega
      simp [s_seq, e1, h6, h7, h8]
    · rintro g ⟨x, y, z, rfl⟩
      have h7 : cs.take es.length = cs := by rw [hes]; simp
      have hbc : ¬ Str.ofString "bits" = Str.ofString "checks" := by decide
      simp [s_seq, sfS, putO, h7, hbc]
  unfold mkR
  rw [if_pos ⟨rfl, rfl⟩]
  have key' : d_Code__init__ (.oi "Code" [] [] :: List.map (toS g) [.d (.int (n : Nat)), .d e]) = _ := key
  rw [key']
  show R.ok _ (merge g _ [.v (.int (n : Nat)), .v e]) = _
  rw [s_mV rfl]
  rfl
end K19

set_option Elab.async false
set_option linter.all false
set_option maxRecDepth 100000
set_option maxHeartbeats 4000000
/-! the law's own divisor (60000 turns) and ratios -/
namespace K19
open PySem L2 DL
def gcdS : FS := seqS (ifS (tstF (op2F eqD (varF 3) (cF (.int 0)))) (retS (varF 2)) skipS) (seqS (asgS 5 (op2F modD (bltF intF (consV (dF (varF 2)) nilV)) (varF 3))) (seqS (asgS 2 (varF 3)) (asgS 3 (varF 5))))
theorem gstep_end {A B s4 s5 : S} {x : Nat} (d : D) (ls : List D) : forL (turnS (tgN 4) gcdS) (d :: ls) [A, B, .v (.int (x : Nat)), .v (.int (0 : Nat)), s4, s5] = .rt (.int (x : Nat)) [A, B, .v (.int (x : Nat)), .v (.int (0 : Nat)), .v d, s5] := by
  rw [s_forCons]
  simp [gcdS, s_seq, RS.bd]
theorem gstep {A B s4 s5 : S} {x y : Nat} (hy : y ≠ 0) (d : D) (ls : List D) : forL (turnS (tgN 4) gcdS) (d :: ls) [A, B, .v (.int (x : Nat)), .v (.int (y : Nat)), s4, s5] = forL (turnS (tgN 4) gcdS) ls [A, B, .v (.int (y : Nat)), .v (.int ((x % y : Nat))), .v d, .v (.int ((x % y : Nat)))] := by
  rw [s_forCons]
  have : ¬ (y : Int) = 0 := by omega
  simp [gcdS, s_seq, hy, fmod_nat, RS.bd]
theorem gloop {A B : S} : ∀ (k : Nat) (ls : List D) (x y : Nat) (s4 s5 : S), y < 2 ^ k → 2 * k < ls.length → ∃ s2 s3 s4' s5', forL (turnS (tgN 4) gcdS) ls [A, B, .v (.int (x : Nat)), .v (.int (y : Nat)), s4, s5] = .rt (.int (Nat.gcd x y : Nat)) [A, B, s2, s3, s4', s5']
  | 0, d :: ls, x, y, s4, s5, hy, hl => by
    have : y = 0 := by simpa using hy
    subst this
    rw [Nat.gcd_zero_right]
    exact ⟨_, _, _, _, gstep_end d ls⟩
  | 0, [], x, y, s4, s5, hy, hl => by simp at hl
  | k + 1, ls, x, y, s4, s5, hy, hl => by
    match ls, hl with
    | d1 :: d2 :: ls, hl =>
      by_cases c : y = 0
      · subst c
        rw [Nat.gcd_zero_right]
        exact ⟨_, _, _, _, gstep_end d1 _⟩
      · rw [gstep c]
        have e1 : Nat.gcd x y = Nat.gcd y (x % y) := by rw [Nat.gcd_comm, Nat.gcd_rec, Nat.gcd_comm]
        by_cases c2 : x % y = 0
        · rw [e1, c2, Nat.gcd_zero_right]
          exact ⟨_, _, _, _, gstep_end d2 _⟩
        · rw [gstep c2]
          have e2 : Nat.gcd y (x % y) = Nat.gcd (x % y) (y % (x % y)) := by rw [Nat.gcd_comm, Nat.gcd_rec, Nat.gcd_comm]
          rw [e1, e2]
          refine gloop k ls _ _ _ _ ?_ (by simp at hl; omega)
          have h1 : x % y < y := Nat.mod_lt _ (Nat.pos_of_ne_zero c)
          have h2 : y % (x % y) < x % y := Nat.mod_lt _ (Nat.pos_of_ne_zero c2)
          have h3 : y % (x % y) + (x % y) ≤ y := by
            have := Nat.div_add_mod y (x % y)
            have h4 : 1 ≤ y / (x % y) := (Nat.one_le_div_iff (Nat.pos_of_ne_zero c2)).mpr (Nat.le_of_lt h1)
            have h5 : x % y ≤ (x % y) * (y / (x % y)) := Nat.le_mul_of_pos_right _ h4
            omega
          rw [Nat.pow_succ] at hy
          omega
theorem lgcd_ok {a b : Int} {k : Nat} (hb : BB k b) (hk : k ≤ 29000 := by decide) (g : Sg) : callR 2 d__law_gcd [.d (.int a), .d (.int b)] g = .ok (.int (Int.gcd a b)) g := by
  obtain ⟨s2, s3, s4, s5, e⟩ := gloop (A := .v (.int a)) (B := .v (.int b)) k (nats (List.range 60000)) a.natAbs b.natAbs .un .un hb (by simp; omega)
  unfold gcdS at e
  have er : rng1D [.int 60000] = some (nats (List.range 60000)) := d_rng1 (n := 60000) (by decide)
  generalize nats (List.range 60000) = LL at *
  refine callR_v rfl rfl (ss := [.v (.int a), .v (.int b)]) ?_
  show d__law_gcd [.v (.int a), .v (.int b)] = _
  simp [d__law_gcd, s_def, s_seq, er]
  rw [e]
  simp [RS.bd, Int.gcd]
theorem lratio_ok {a b : Int} {k : Nat} (h0 : b ≠ 0) (hb : BB k b) (hk : k ≤ 8000 := by decide) (g : Sg) : callR 2 d__law_ratio [.d (.int a), .d (.int b)] g = .ok (rt (Rat.divInt a b)) g := by
  have q1 := gcd_ne (a := a) h0
  have q3 := gcd_lid (a := a) h0 hb hk
  have e := fun g => lgcd_ok (a := a) hb (by omega) g
  refine callR_v rfl rfl (ss := [.v (.int a), .v (.int b)]) ?_
  by_cases c : b < 0
  · simp [d__law_ratio, s_def, s_seq, c, h0, q3, e]
    simpa using fd_neg (a := a) c
  · simp [d__law_ratio, s_def, s_seq, c, h0, q3, e]
    simpa using fd_pos (a := a) (b := b) (by omega)
end K19

set_option Elab.async false
set_option linter.all false
set_option maxRecDepth 100000
set_option maxHeartbeats 4000000
set_option exponentiation.threshold 20000
/-! the law's draws: list, lot, bits -/
namespace K19
open PySem L2 DL
theorem big8000 {m : Nat} (h : m ≤ 1000000) : m < 2 ^ 8000 := Nat.lt_of_le_of_lt (show m ≤ 2 ^ 20 by omega) (Nat.pow_lt_pow_right (by decide) (by decide))
theorem list_hs {e : D} {ds : List D} (h1 : listD [e] = some ds) (h2 : tupleD [e] = some (.tup ds)) : HS d__law_list [.v e] (fun d => d = .lst ds ∨ d = .tup ds) := by
  intro h H
  unfold d__law_list
  refine def_wp ?_
  simp
  refine take_lit rfl H rfl ?_
  intro v h' hv H'
  by_cases c : v = 0
  · simp [c, h1, H']
  · simp [c, h2, H']
theorem lot_hf {n size : Nat} (hn : n ≤ 1000) (hs : size ≤ 1000) : HF d__law_lot [.v (.int (n : Nat)), .v (.int (size : Nat))] (fun ds => ∃ c, ds = nats c ∧ LotOk n c ∧ c.length = min size n) := by
  intro h H
  unfold d__law_lot
  refine def_wp ?_
  refine seq_wp ?_
  have e0 : rgLF (varF 1) [.ow h, .v (.int (n : Nat)), .v (.int (size : Nat)), .un, .un, .un, .un] = .ok (nats (List.range n)) [.ow h, .v (.int (n : Nat)), .v (.int (size : Nat)), .un, .un, .un, .un] := rgL_nat rfl (by omega)
  simp [e0]
  refine seq_wp ?_
  simp
  refine seq_wp ?_
  have er : rng1D [.int (min (size : Int) (n : Int))] = some (nats (List.range (min size n))) := by
    have e1 : min (size : Int) (n : Int) = ((min size n : Nat) : Int) := by omega
    rw [e1]; exact d_rng1 (by omega)
  simp only [s_for, s_fa, s_consA, s_nilA, s_blt, s_consV, s_nilV, s_dF, s_var, s_gat0, s_gatS, R.bd, resI, if_true, s_ress1, s_ress0, s_resd, Option.bind_some, l_min2, opt_some, er, R.sb]
  refine forR (fun k g => ∃ h pool told x y, g = [.ow h, .v (.int (n : Nat)), .v (.int (size : Nat)), .v (.lst (nats pool)), .ow (nats told), x, y] ∧ IsHand h ∧ (pool ++ told).Nodup ∧ (∀ b ∈ pool ++ told, b < n) ∧ pool.length + told.length = n ∧ told.length = k) (min size n) ?_ ?_ ?_
  · exact ⟨h, List.range n, [], .un, .un, rfl, H, by simpa using List.nodup_range, by simp, by simp, rfl⟩
  · rintro k g hk ⟨h, pool, told, x, y, rfl, H, hnd, hbd, hlen, htl⟩
    simp
    refine seq_wp ?_
    simp
    refine take_wp (m := pool.length) rfl H (by omega) (big8000 (by omega)) ?_
    intro v h' hv H'
    have e2 := ix_nL (ns := pool) hv
    have e3 : cut (nats pool) none (some (v : Int)) = (nats pool).take v := cut_to (by rw [List.length_map]; omega)
    have e4 : cut (nats pool) (some ((v : Int) + 1)) none = (nats pool).drop (v + 1) := cut_from (k := v + 1) (by rw [List.length_map]; omega)
    have e5 : told.length < sizeLine := by rw [sizeLine_eq]; omega
    refine seq_wp ?_
    simp [e2, e5]
    simp [e3, e4]
    refine ⟨_, ⟨by omega, rfl⟩, h', pool.take v ++ pool.drop (v + 1), told ++ [pool.getD v 0], ⟨rfl, by simp, by simp⟩, H', ?_, ?_, by simp; omega, by simp; omega⟩
    · have hp : ((pool.take v ++ pool.drop (v + 1)) ++ (told ++ [pool.getD v 0])).Perm (pool ++ told) := by
        have h1 : pool = pool.take v ++ pool.getD v 0 :: pool.drop (v + 1) := by
          rw [List.getD_eq_getElem?_getD, List.getElem?_eq_getElem hv]
          simp
        have h2 : ((pool.take v ++ pool.drop (v + 1)) ++ (told ++ [pool.getD v 0])).Perm ((pool.take v ++ pool.getD v 0 :: pool.drop (v + 1)) ++ told) := by
          generalize pool.take v = A
          generalize pool.drop (v + 1) = B
          generalize pool.getD v 0 = z
          rw [List.append_assoc, List.append_assoc, List.cons_append]
          refine List.Perm.append_left _ ?_
          rw [← List.append_assoc]
          exact List.perm_append_singleton z (B ++ told)
        rw [← h1] at h2; exact h2
      exact hp.nodup_iff.mpr hnd
    · intro b hb
      have hg : pool.getD v 0 ∈ pool := by rw [List.getD_eq_getElem?_getD, List.getElem?_eq_getElem hv]; exact List.getElem_mem hv
      refine hbd b (List.mem_append.mpr ?_)
      rcases hb with hb | hb
      · rcases List.mem_append.mp hb with z | z
        · exact .inl (List.mem_of_mem_take z)
        · exact .inl (List.mem_of_mem_drop z)
      · rcases List.mem_append.mp hb with z | z
        · exact .inr z
        · simp only [List.mem_singleton] at z
          exact .inl (z ▸ hg)
  · rintro g ⟨h, pool, told, x, y, rfl, H, hnd, hbd, hlen, htl⟩
    simp
    refine ⟨H, srt told, rfl, ⟨srt_lt (hnd.sublist (List.sublist_append_right ..)), fun b hb => hbd b (List.mem_append.mpr (.inr (mem_srt.mp hb)))⟩, by rw [srt_length, htl]⟩
theorem bits_hs {m : Nat} (h6 : 6 < m) : HS d__law_bits [.v (.int (m : Nat))] (fun d => ∃ n : Nat, d = .int (n : Nat) ∧ 1 ≤ n ∧ n ≤ m) := by
  intro h H
  have c6 : (6 : Int) < m := by omega
  unfold d__law_bits
  refine def_wp ?_
  refine seq_wp ?_
  simp [c6]
  refine take_lit rfl H rfl ?_
  intro v h' hv H'
  by_cases c : v = 0
  · simp [c, H']
    exact ⟨m, rfl, by omega, by omega⟩
  · simp [c]
    refine take_lit rfl H' rfl ?_
    intro v2 h2 hv2 H2
    obtain ⟨x, ed, hx⟩ := tabN (v := v2) [4, 5, 4, 3, 5, 6, 2, 1] (fun x => decide (1 ≤ x) && decide (x ≤ 6)) (by simp; omega) (by decide)
    simp at hx ed
    obtain ⟨hx1, hx2⟩ := hx
    have e : min (m : Int) (x : Int) = x := by omega
    simp [ed, e, H2]
    exact ⟨x, rfl, hx1, by omega⟩
end K19

set_option Elab.async false
set_option linter.all false
set_option maxRecDepth 100000
set_option maxHeartbeats 4000000
set_option exponentiation.threshold 20000
/-! the law's checks -/
namespace K19
open PySem L2 DL
abbrev lists (cs : List (List Nat)) : List D := cs.map fun c => D.lst (nats c)
def CsOk (n : Nat) (cs : List (List Nat)) : Prop := ∀ c ∈ cs, LotOk n c ∧ c ≠ []
theorem LotOk.mono {n m : Nat} {c : List Nat} (h : LotOk n c) (hm : n ≤ m) : LotOk m c := ⟨h.lt, fun b hb => Nat.lt_of_lt_of_le (h.bd b hb) hm⟩
theorem LotOk.snoc {n : Nat} {c : List Nat} (h : LotOk n c) : LotOk (n + 1) (c ++ [n]) := ⟨by
  rw [List.pairwise_append]
  exact ⟨h.lt, by simp, fun a ha b hb => by simp at hb; subst hb; exact h.bd a ha⟩, fun b hb => by
  rcases List.mem_append.mp hb with z | z
  · have := h.bd b z; omega
  · simp at z; omega⟩
theorem mem_set {α : Type} {xs : List α} {j : Nat} {x y : α} (h : y ∈ xs.set j x) : y ∈ xs ∨ y = x := List.mem_or_eq_of_mem_set h
theorem snoc_all {n j : Nat} {ls : List (List Nat)} {ms : List Nat} (h : ∀ c ∈ ls, LotOk n c) (hj : ls[j]? = some ms) : ∀ c ∈ ls.set j (ms ++ [n]), LotOk (n + 1) c := fun c hc => by
  rcases mem_set hc with z | rfl
  · exact (h c z).mono (by omega)
  · exact (h ms (List.mem_of_getElem? hj)).snoc
/-- two lots of unlike places get one more bit -/
theorem snoc_two {n i j : Nat} {ls : List (List Nat)} {ms ks : List Nat} (hne : i ≠ j) (h : ∀ c ∈ ls, LotOk n c) (hi : ls[i]? = some ms) (hj : ls[j]? = some ks) : ∀ c ∈ (ls.set i (ms ++ [n])).set j (ks ++ [n]), LotOk (n + 1) c := fun c hc => by
  rcases mem_set hc with z | rfl
  · exact snoc_all h hi c z
  · exact (h ks (List.mem_of_getElem? hj)).snoc
@[simp] theorem s_apN {i j k : Nat} {g : Sg} : apNF i j k g = match gat g i, gat g j, gat g k with
  | .on dss, .v (.int k), .v d => match ixN dss.length k with
    | some j => match dss[j]? with
      | some ds => if ds.length < sizeLine then .ok .non (g.set i (.on (dss.set j (ds ++ [d])))) else .no
      | none => .no
    | none => .no
  | _, _, _ => .no := rfl
@[simp] theorem s_asgN {i : Nat} {f : Sg → R (List (List D))} {g : Sg} : asgN i f g = (f g).sb fun dss g1 => if i < g1.length then .nx (g1.set i (.on dss)) else .no := rfl
@[simp] theorem s_lcN {fi : FI} {t : Tgt} {c : FB} {e : FF} {vs : List Nat} {g : Sg} : lcN fi t c e vs g = (fi g).bd fun items g1 => if items.length ≤ sizeLine then lcNL t c e vs items [] (wipeG g1 vs) else .no := rfl
@[simp] theorem s_frzN {i : Nat} {g : Sg} : frzNF i g = match gat g i with
  | .v d => .ok d g
  | .ow ds => .no
  | .on dss => .ok (.lst (dss.map D.lst)) (g.set i (.v (.lst (dss.map D.lst))))
  | _ => .no := rfl
theorem lcN_nil {i : Nat} {g : Sg} (hg : ∀ d, (g.set i (.v d)).set i .un = g) : ∀ (ds : List D) (acc : List (List D)), lcNL (tgN i) yesB (lstF nilA) [i] ds acc g = .ok (acc ++ List.replicate ds.length []) g
  | [], acc => by simp [lcNL]
  | d :: ds, acc => by
    have ih := lcN_nil hg ds (acc ++ [[]])
    simp [lcNL, keepN?, wipeG, hg]
    rw [ih]
    simp [List.replicate_succ]
theorem okN_lists {cs : List (List Nat)} {m : Nat} : (lists cs).all (okN (m + 1)) = true := okN_map fun _ _ => by rw [k_lst]; exact okN_nats
theorem CsOk.snoc {n : Nat} {cs : List (List Nat)} {c : List Nat} (h : CsOk n cs) (hc : LotOk n c) (hne : c ≠ []) : CsOk n (cs ++ [c]) := fun d hd => by
  rcases List.mem_append.mp hd with z | z
  · exact h d z
  · simp at z; subst z; exact ⟨hc, hne⟩
theorem lists_snoc {cs : List (List Nat)} {c : List Nat} : lists cs ++ [D.lst (nats c)] = lists (cs ++ [c]) := by simp
theorem ix_lists {cs : List (List Nat)} {v : Nat} (h : v < cs.length) : ∃ c, cs[v]? = some c ∧ ixD (.lst (lists cs)) (.int (v : Nat)) = some (.lst (nats c)) := by
  refine ⟨cs[v], by simp [h], ?_⟩
  rw [ixL (by rw [List.length_map]; exact h)]; simp
/-- the state while checks are put together -/
def CJ (n m : Nat) (g : Sg) : Prop := ∃ (h : List D) (cs : List (List Nat)) (s4 s5 s10 : S), g = [.ow h, .v (.int (n : Nat)), .un, .un, s4, s5, .un, .un, .un, .ow (lists cs), s10] ∧ IsHand h ∧ CsOk n cs ∧ cs.length ≤ m
theorem checks_hf {n : Nat} (hn1 : 1 ≤ n) (h10 : n ≤ 10) : HF d__law_checks [.v (.int (n : Nat))] (fun ds => ∃ cs, ds = lists cs ∧ cs.length ≤ 10 ∧ CsOk n cs) := by
  intro h H
  unfold d__law_checks
  refine def_wp ?_
  refine seq_cut (fun g => ∃ h', g = [.ow h', .v (.int (n : Nat)), .un, .un, .un, .un, .un, .un, .un, .un, .un] ∧ IsHand h') ?_ ?_
  · by_cases c3 : (3 : Int) ≤ n
    · simp [c3]
      refine take_lit rfl H rfl ?_
      intro v h' hv H'
      by_cases c : v = 0
      · simp [c]
        refine seq_wp ?_
        simp
        refine take_lit rfl H' rfl ?_
        intro v2 h2 hv2 H2
        simp
        have er : rng1D [.int (3 + (v2 : Int))] = some (nats (List.range (3 + v2))) := by
          rw [show (3 + (v2 : Int)) = ((3 + v2 : Nat) : Int) by omega]; exact d_rng1 (by omega)
        have hl : 3 + v2 ≤ sizeLine := by rw [sizeLine_eq]; omega
        have el := lcN_nil (i := 4) (g := [.ow h2, .v (.int (n : Nat)), .v (.int (3 + (v2 : Int))), .un, .un, .un, .un, .un, .un, .un, .un]) (fun d => rfl) (nats (List.range (3 + v2))) []
        refine seq_wp ?_
        simp only [s_asgN, s_lcN, s_fa, s_consA, s_nilA, s_var, s_gat0, s_gatS, List.set, R.bd, er, opt_some, List.length_map, List.length_range, hl, if_true, wipeG, el, R.sb]
        simp
        have er2 : rng1D [.int (n : Int)] = some (nats (List.range n)) := d_rng1 (by omega)
        refine seq_wp ?_
        simp only [s_for, s_fa, s_consA, s_nilA, s_var, s_gat0, s_gatS, R.bd, er2, opt_some, R.sb]
        refine forR (fun k g => ∃ (h : List D) (ls : List (List Nat)) (x6 x7 x5 : S), g = [.ow h, .v (.int (n : Nat)), .v (.int (3 + (v2 : Int))), .on (ls.map nats), .un, x5, x6, x7, .un, .un, .un] ∧ IsHand h ∧ ls.length = 3 + v2 ∧ ∀ c ∈ ls, LotOk k c) n ?_ ?_ ?_
        · exact ⟨h2, List.replicate (3 + v2) [], .un, .un, .un, by simp, H2, by simp, fun c hc => by rw [List.mem_replicate] at hc; rw [hc.2]; exact ⟨by simp, by simp⟩⟩
        · rintro k g hk ⟨h, ls, x6, x7, x5, rfl, H, hlen, hls⟩
          simp
          refine seq_wp ?_
          simp
          refine take_wp (m := 3 + v2) rfl H (by omega) (big8000 (by omega)) ?_
          intro low h3 hlow H3
          simp
          refine seq_wp ?_
          simp
          have ep : (3 + (v2 : Int) - 1) = ((2 + v2 : Nat) : Int) := by omega
          rw [ep]
          refine take_wp (m := 2 + v2) rfl H3 (by omega) (big8000 (by omega)) ?_
          intro up h4 hup H4
          obtain ⟨high, em, hh1, hh2⟩ : ∃ high : Nat, Int.fmod ((low : Int) + 1 + (up : Int)) (3 + (v2 : Int)) = (high : Nat) ∧ high < 3 + v2 ∧ low ≠ high := by
            refine ⟨(low + 1 + up) % (3 + v2), ?_, Nat.mod_lt _ (by omega), ?_⟩
            · rw [show (low : Int) + 1 + (up : Int) = ((low + 1 + up : Nat) : Int) by omega, show (3 + (v2 : Int)) = ((3 + v2 : Nat) : Int) by omega]; exact fmod_nat
            · by_cases y : low + 1 + up < 3 + v2
              · rw [Nat.mod_eq_of_lt y]; omega
              · rw [Nat.mod_eq_sub_mod (by omega), Nat.mod_eq_of_lt (by omega)]; omega
          have hp0 : ¬ (3 + (v2 : Int)) = 0 := by omega
          simp [em, hp0]
          have hlow2 : low < (ls.map nats).length := by rw [List.length_map]; omega
          have hhigh2 : high < (ls.map nats).length := by rw [List.length_map]; omega
          obtain ⟨ms, hms⟩ : ∃ ms, ls[low]? = some ms := ⟨ls[low], by simp [hlow2]⟩
          obtain ⟨ks, hks⟩ : ∃ ks, ls[high]? = some ks := ⟨ls[high], by simp [hhigh2]⟩
          have i1 : ixN ls.length (low : Int) = some low := ixN_nat (by omega)
          have i2 : ixN ls.length (high : Int) = some high := ixN_nat (by omega)
          have l1 : ms.length < sizeLine := by
            have := hls ms (List.mem_of_getElem? hms); have := lot_len this.lt this.bd; rw [sizeLine_eq]; omega
          have l2 : ks.length < sizeLine := by
            have := hls ks (List.mem_of_getElem? hks); have := lot_len this.lt this.bd; rw [sizeLine_eq]; omega
          have hks2 : (ls.map nats)[high]? = some (nats ks) := by rw [List.getElem?_map, hks]; rfl
          have hms2 : (ls.map nats)[low]? = some (nats ms) := by rw [List.getElem?_map, hms]; rfl
          have hms3 : ((ls.map nats).set low (nats ms ++ [.int (k : Nat)]))[high]? = some (nats ks) := by rw [List.getElem?_set_ne hh2]; exact hks2
          refine seq_wp ?_
          simp only [s_expr, s_apN, s_gat0, s_gatS, List.length_map, i1, hms2, l1, if_true, R.sb, sw_nx, List.set, List.length_set, i2, hms3, l2]
          refine ⟨h4, (ls.set low (ms ++ [k])).set high (ks ++ [k]), ⟨_, _, _, by simp [List.map_set]; exact ⟨rfl, rfl, rfl⟩⟩, H4, by simp [hlen], snoc_two hh2 hls hms hks⟩
        · rintro g ⟨h, ls, x6, x7, x5, rfl, H, hlen, hls⟩
          have efz : ls.map (D.lst ∘ nats) = lists ls := rfl
          have hl2 : ls.length ≤ sizeLine := by rw [sizeLine_eq]; omega
          have e9 : lcL (tgN 8) (tstF (op2F neD (varF 8) (frF (lstF nilA)))) (varF 8) [8] (lists ls) [] [.ow h, .v (.int (n : Nat)), .v (.int (3 + (v2 : Int))), .v (.lst (lists ls)), .un, x5, x6, x7, .un, .un, .un]
              = .ok (lists (ls.filter fun c => !decide (c = []))) [.ow h, .v (.int (n : Nat)), .v (.int (3 + (v2 : Int))), .v (.lst (lists ls)), .un, x5, x6, x7, .un, .un, .un] := by
            have := lc_map (t := tgN 8) (c := tstF (op2F neD (varF 8) (frF (lstF nilA)))) (e := varF 8) (vs := [8]) (fun c : List Nat => D.lst (nats c)) (fun c => !decide (c = [])) (fun c : List Nat => D.lst (nats c)) (g0 := [.ow h, .v (.int (n : Nat)), .v (.int (3 + (v2 : Int))), .v (.lst (lists ls)), .un, x5, x6, x7, .un, .un, .un]) ls [] (fun c hc => ⟨[.ow h, .v (.int (n : Nat)), .v (.int (3 + (v2 : Int))), .v (.lst (lists ls)), .un, x5, x6, x7, .v (.lst (nats c)), .un, .un], by simp, by simp, fun _ => by simp, by simp [wipeG]⟩)
            simpa using this
          generalize hLL : lists ls = LL at *
          have hLl : LL.length ≤ sizeLine := by rw [← hLL]; simpa using hl2
          simp [efz, hLl, wipeG, e9, hLL]
          refine ⟨H, ls.filter fun c => !decide (c = []), rfl, ?_, fun c hc => ?_⟩
          · have := List.length_filter_le (fun c => !decide (c = [])) ls; omega
          · obtain ⟨q1, q2⟩ := List.mem_filter.mp hc
            exact ⟨hls c q1, by simpa using q2⟩
      · simp [c, H']
    · simp [c3, H]
  · rintro g ⟨h', rfl, H'⟩
    refine seq_wp ?_
    simp
    refine seq_cut (CJ n 1) ?_ ?_
    · by_cases c2 : (2 : Int) ≤ n
      · simp [c2]
        refine take_lit rfl H' rfl ?_
        intro v h2 hv H2
        by_cases c : v = 0
        · simp [c]
          have e1 : (n : Int) - 1 = ((n - 1 : Nat) : Int) := by omega
          have er : rng1D [.int ((n : Int) - 1)] = some (nats (List.range (n - 1))) := by rw [e1]; exact d_rng1 (by omega)
          have el := lc_all (t := tgN 5) (c := yesB) (e := frF (lstF (consA (varF 5) (consA (op2F addD (varF 5) (cF (.int 1))) nilA)))) (vs := [5]) (fun b : Nat => D.int (b : Nat)) (fun b : Nat => D.lst (nats [b, b + 1])) (g0 := [.ow h2, .v (.int (n : Nat)), .un, .un, .un, .un, .un, .un, .un, .ow [], .un]) (List.range (n - 1)) fun b hb => ⟨[.ow h2, .v (.int (n : Nat)), .un, .un, .un, .v (.int (b : Nat)), .un, .un, .un, .ow [], .un], by simp, rfl, by simp, by simp [wipeG]⟩
          have el2 : (List.range (n - 1)).map (fun b : Nat => D.lst (nats [b, b + 1])) = lists ((List.range (n - 1)).map fun b => [b, b + 1]) := by rw [lists, List.map_map]; rfl
          rw [el2] at el
          have hok : CsOk n ((List.range (n - 1)).map fun b => [b, b + 1]) := fun c hc => by
            obtain ⟨b, hb, rfl⟩ := List.mem_map.mp hc
            rw [List.mem_range] at hb
            exact ⟨⟨by simp, by simp; omega⟩, by simp⟩
          have hlen : ((List.range (n - 1)).map fun b => [b, b + 1]).length = n - 1 := by simp
          generalize ((List.range (n - 1)).map fun b => [b, b + 1]) = cs at *
          have hl : n - 1 ≤ sizeLine := by rw [sizeLine_eq]; omega
          refine seq_wp ?_
          simp only [s_asgO, s_lc, s_fa, s_consA, s_nilA, s_op2, s_var, s_c, s_gat0, s_gatS, List.set, R.bd, d_subI, opt_some, er, List.length_map, List.length_range, hl, if_true, wipeG, el, R.sb, sw_nx]
          refine seq_wp ?_
          simp
          refine take_lit rfl H2 rfl ?_
          intro v3 h3 hv3 H3
          by_cases c3 : 0 < v3
          · simp [c3]
            exact ⟨H3, cs, rfl, by omega, hok⟩
          · simp [c3]
            have e6 : (lists cs).length = cs.length := by simp
            refine take_wp (m := cs.length) rfl H3 (by omega) (big8000 (by omega)) ?_
            intro v4 h4 hv4 H4
            obtain ⟨c, hc, e7⟩ := ix_lists hv4
            have := hok c (List.mem_of_getElem? hc)
            simp [e7]
            exact ⟨h4, [c], _, _, _, rfl, H4, fun d hd => by simp at hd; subst hd; exact this, by simp⟩
        · simp [c]
          exact ⟨h2, [], _, _, _, rfl, H2, (fun _ h => nomatch h), by simp⟩
      · simp [c2]
        exact ⟨h', [], _, _, _, rfl, H', (fun _ h => nomatch h), by simp⟩
    · rintro g ⟨h1, cs, s4, s5, s10, rfl, H1, hcs, hlen⟩
      refine seq_cut (CJ n 6) ?_ ?_
      · simp
        refine take_lit rfl H1 rfl ?_
        intro v h2 hv H2
        obtain ⟨r, er, hr⟩ := tabN (v := v) [3, 2, 4, 3, 2, 5, 1, 0] (fun x => decide (x ≤ 5)) (by simp; omega) (by decide)
        simp at hr er
        have er2 : rng1D [.int (r : Int)] = some (nats (List.range r)) := d_rng1 (by omega)
        simp [er, er2]
        refine forR (fun k g => CJ n (1 + k) g) r ⟨h2, cs, _, _, _, rfl, H2, hcs, hlen⟩ ?_ ?_
        · rintro k g hk ⟨h1, cs, s4, s5, s10, rfl, H1, hcs, hlen⟩
          simp
          refine seq_wp ?_
          simp
          refine take_lit rfl H1 rfl ?_
          intro v h2 hv H2
          obtain ⟨z, ez, hz⟩ := tabN (v := v) [2, 3, 2, 3, 4, 3, 2, 1] (fun x => decide (1 ≤ x) && decide (x ≤ 4)) (by simp; omega) (by decide)
          simp at hz ez
          simp [ez]
          refine seq_cut (fun g => ∃ (h : List D) (z : Nat), g = [.ow h, .v (.int (n : Nat)), .un, .un, .v (.int (k : Nat)), s5, .un, .un, .un, .ow (lists cs), .v (.int (z : Nat))] ∧ IsHand h ∧ 1 ≤ z ∧ z ≤ 10) ?_ ?_
          · simp
            refine take_lit rfl H2 rfl ?_
            intro v3 h3 hv3 H3
            by_cases c : v3 = 0
            · simp [c]
              exact ⟨h3, n, ⟨rfl, rfl⟩, H3, hn1, h10⟩
            · simp [c]
              exact ⟨h3, z, ⟨rfl, rfl⟩, H3, by omega, by omega⟩
          · rintro g ⟨h, z, rfl, H, hz1, hz2⟩
            have hl : cs.length < sizeLine := by rw [sizeLine_eq]; omega
            simp
            refine HF.callF (lot_hf (n := n) (size := z) (by omega) (by omega)) rfl H rfl rfl rfl ?_
            rintro ds h4 ⟨c, rfl, hc, hcl⟩ H4
            have hne : c ≠ [] := fun q => by rw [q] at hcl; simp at hcl; omega
            simp [hl]
            exact ⟨h4, cs ++ [c], .v (.int (k : Nat)), s5, .v (.int (z : Nat)), by rw [← lists_snoc], H4, hcs.snoc hc hne, by simp; omega⟩
        · rintro g ⟨h1, cs, s4, s5, s10, rfl, H1, hcs, hlen⟩
          exact ⟨h1, cs, _, _, _, rfl, H1, hcs, by omega⟩
      · rintro g ⟨h1, cs, s4, s5, s10, rfl, H1, hcs, hlen⟩
        refine seq_cut (CJ n 7) ?_ ?_
        · have e1 : okN 20 (.lst (lists cs)) = true := okN_lists
          by_cases ce : cs = []
          · subst ce
            simp
            exact ⟨h1, [], _, _, _, rfl, H1, hcs, by simp⟩
          · have e2 : D.eqb (.lst (lists cs)) (.lst []) = false := by simp [ce]
            have e3 : (lists cs).length = cs.length := by simp
            have hpos : 0 < cs.length := List.length_pos_iff.mpr ce
            have hl : cs.length < sizeLine := by rw [sizeLine_eq]; omega
            generalize hL : lists cs = L at *
            have hLne : ¬ L = [] := by rw [← hL]; simpa using ce
            have e5 : L.all (okN 19) = true := e1
            simp only [s_ifS, s_and, s_tst, s_op2V, s_nm, s_gat0, s_gatS, s_dF, s_fr, s_lst, s_nilA, wp_bd, wp_ok, sw_sb, List.length_nil, szOk_dec, Nat.zero_le, decide_true, if_true, s_reso, s_resd, Option.bind_some, d_ne, k_lst, e5, List.all_nil, Bool.and_self, q_lst, eqb_nil, hLne, decide_false, Bool.not_false, opt_some]
            simp
            refine take_lit rfl H1 rfl ?_
            intro v h2 hv H2
            by_cases c : v = 0
            · simp [c, e3]
              refine take_wp (m := cs.length) rfl H2 hpos (big8000 (by omega)) ?_
              intro v4 h4 hv4 H4
              obtain ⟨c, hc, e7⟩ := ix_lists hv4
              rw [hL] at e7
              have := hcs c (List.mem_of_getElem? hc)
              simp [e7, e3, hl]
              exact ⟨h4, cs ++ [c], s4, s5, s10, by rw [← lists_snoc, hL], H4, hcs.snoc this.1 this.2, by simp; omega⟩
            · simp [c]
              exact ⟨h2, cs, s4, s5, s10, by rw [hL], H2, hcs, by omega⟩
        · rintro g ⟨h1, cs, s4, s5, s10, rfl, H1, hcs, hlen⟩
          simp
          exact ⟨H1, cs, rfl, by omega, hcs⟩
end K19

set_option Elab.async false
set_option linter.all false
set_option maxRecDepth 100000
set_option maxHeartbeats 4000000
set_option exponentiation.threshold 20000
/-! cone rows -/
namespace K19
open PySem L2 DL
structure EntOk (n : Nat) (es : List Nat) : Prop where
  len : es.length = n
  bd : ∀ e ∈ es, e < 2 ^ 1000
abbrev en (es : List Nat) : Nat → Nat := fun b => es.getD b 0
def csum (es : List Nat) (c : List Nat) : Nat := (c.map (en es)).sum
def abv (es c : List Nat) : Option Nat := c.find? fun b => decide (csum es c < 2 * en es b)
def above (es : List Nat) : List (List Nat) → Nat → Option (Nat × Nat)
  | [], _ => none
  | c :: cs, k => match abv es c with
    | some b => some (k, b)
    | none => above es cs (k + 1)
def fmtA : Option (Nat × Nat) → D
  | none => .non
  | some (k, b) => .tup [.int (k : Nat), .int (b : Nat)]
section
variable {n : Nat} {es : List Nat} {cs : List (List Nat)} {c : List Nat}
theorem EntOk.at (h : EntOk n es) {b : Nat} (hb : b < n) : en es b < 2 ^ 1000 := by
  refine h.bd _ ?_
  have : b < es.length := by rw [h.len]; exact hb
  rw [en, List.getD_eq_getElem?_getD, List.getElem?_eq_getElem this]; exact List.getElem_mem this
theorem check_entries_ok (h : EntOk n es) {e : D} (he : SeqN e es) (g : Sg) : callR 2 d_check_entries [.d (codeD n cs), .d e] g = .ok (.tup (nats es)) g := by
  refine callR_v rfl rfl (ss := [.v (codeD n cs), .v e]) (RC.eq_ok ?_)
  show (d_check_entries [.v (codeD n cs), .v e]).wp _ _ _
  have hs : ∀ g, callR 1 d_is_sequence [.d e] g = .ok (.bl true) g := fun g => by rcases he with rfl | rfl <;> simp
  have hl : lenD [e] = some (.int (n : Nat)) := by rcases he with rfl | rfl <;> simp [h.len]
  have hm : enmD [e] = some (es.zipIdx.map fun p => D.tup [.int (p.2 : Nat), .int (p.1 : Nat)]) := by
    rcases he with rfl | rfl
    · rw [enmD_L, enm_map]
    · rw [enmD_T, enm_map]
  have ht : tupleD [e] = some (.tup (nats es)) := by rcases he with rfl | rfl <;> rfl
  unfold d_check_entries
  refine def_wp ?_
  refine seq_wp ?_
  simp [hs, hl]
  refine seq_wp ?_
  simp [hm]
  refine forI (fun p g => (∃ x y, g = [.v (codeD n cs), .v e, x, y])) es.zipIdx ⟨_, _, rfl⟩ ?_ ?_
  · rintro p b q g hb ⟨x, y, rfl⟩
    simp [s_seq]
  · rintro g ⟨x, y, rfl⟩
    simp [ht]
theorem pick_nat (h : EntOk n es) (hc : LotOk n c) {i j : Nat} {g0 : Sg} (he : ∀ d, res (g0.set j (.v d)) (.d (.tup (nats es))) = some (.tup (nats es))) (h1 : ∀ d, gat (g0.set j (.v d)) i = .v (.tup (nats es))) (h2 : ∀ d, gat (g0.set j (.v d)) j = .v d) (h3 : g0.set j .un = g0) : lcL (tgN j) yesB (op2F ixD (varF i) (varF j)) [j] (nats c) [] g0 = .ok (nats (c.map (en es))) g0 := by
  rw [nats_map]
  refine lc_all (fun n => D.int (n : Nat)) _ c fun b hb => ⟨g0.set j (.v (.int (b : Nat))), rfl, rfl, ?_, ?_⟩
  · have : b < es.length := by rw [h.len]; exact hc.bd b hb
    rw [s_op2, s_var, h1]
    simp only [R.bd, s_var, h2, ix_nT this, opt_some]
  · show (g0.set j _).set j .un = g0
    rw [List.set_set, h3]
theorem find_split {p q : List Nat} {b : Nat} {f : Nat → Bool} (hp : ∀ x ∈ p, f x = false) : (p ++ b :: q).find? f = if f b = true then some b else q.find? f := by
  rw [List.find?_append, List.find?_eq_none.mpr fun x hx => by simp [hp x hx]]
  rw [List.find?_cons]
  cases f b <;> rfl
theorem first_above_ok (hC : CodeOk n cs) (h : EntOk n es) (g : Sg) : callR 2 d_first_above [.d (codeD n cs), .d (.tup (nats es))] g = .ok (fmtA (above es cs 0)) g := by
  refine callR_v rfl rfl (ss := [.v (codeD n cs), .v (.tup (nats es))]) (RC.eq_ok ?_)
  show (d_first_above [.v (codeD n cs), .v (.tup (nats es))]).wp _ _ _
  unfold d_first_above
  refine def_wp ?_
  refine seq_wp ?_
  simp [enm_map]
  refine forI (fun p g => (∃ x y z w, g = [.v (codeD n cs), .v (.tup (nats es)), x, y, z, w]) ∧ above es cs 0 = above es (cs.drop p.length) p.length) cs.zipIdx ⟨⟨_, _, _, _, rfl⟩, by simp⟩ ?_ ?_
  · rintro p b q g hb ⟨⟨x, y, z, w, rfl⟩, hf⟩
    obtain ⟨h1, h2⟩ := zipIdx_at hb
    obtain ⟨hk, h3⟩ := List.getElem?_eq_some_iff.mp h2
    obtain ⟨hlot, hne⟩ := hC.lot b.1 (List.mem_of_getElem? h2)
    have hd : cs.drop p.length = b.1 :: cs.drop (p.length + 1) := by rw [List.drop_eq_getElem_cons hk, h3]
    rw [hd, above] at hf
    have hl : b.1.length ≤ sizeLine := by rw [sizeLine_eq]; have := lot_len hlot.lt hlot.bd; have := hC.n2; omega
    simp
    refine seq_wp ?_
    have ep := pick_nat h hlot (i := 1) (j := 5) (g0 := [.v (codeD n cs), .v (.tup (nats es)), .v (.int (b.2 : Nat)), .v (.tup (nats b.1)), z, .un]) (fun _ => rfl) (fun _ => rfl) (fun _ => rfl) rfl
    have es' : sumD [.lst (nats (b.1.map (en es)))] = some (.int (csum es b.1 : Nat)) := sum_nL
    generalize nats (b.1.map (en es)) = L at *
    simp [hl, wipeG, ep, es']
    refine forI (den := fun n : Nat => D.int (n : Nat)) (fun p2 g => (∃ w, g = [.v (codeD n cs), .v (.tup (nats es)), .v (.int (b.2 : Nat)), .v (.tup (nats b.1)), .v (.int (csum es b.1 : Nat)), w]) ∧ ∀ x ∈ p2, decide (csum es b.1 < 2 * en es x) = false) b.1 ⟨⟨_, rfl⟩, (fun _ h => nomatch h)⟩ ?_ ?_
    · rintro p2 x q2 g hx ⟨⟨w, rfl⟩, hp2⟩
      have hxm : x ∈ b.1 := by rw [hx]; simp
      have hxl : x < es.length := by rw [h.len]; exact hlot.bd x hxm
      have e1 := ix_nT (ns := es) hxl
      have e2 : mulD (.int 2) (.int (en es x : Nat)) = some (.int ((2 * en es x : Nat))) := mul_nat (m := 2) (b := 1002) (by have := h.at (hlot.bd x hxm); rw [show 1002 = 2 + 1000 from rfl, Nat.pow_add]; omega)
      have hfd : abv es b.1 = if decide (csum es b.1 < 2 * en es x) = true then some x else q2.find? fun b' => decide (csum es b.1 < 2 * en es b') := by
        unfold abv; conv => lhs; arg 2; rw [hx]
        exact find_split hp2
      have e3 : decide (((csum es b.1 : Nat) : Int) < ((2 * en es x : Nat) : Int)) = decide (csum es b.1 < 2 * en es x) := by
        by_cases z : csum es b.1 < 2 * en es x
        · rw [decide_eq_true z, decide_eq_true (by omega)]
        · rw [decide_eq_false z, decide_eq_false (by omega)]
      have e1' : ixD (.tup (nats es)) (.int (x : Nat)) = some (.int (en es x : Nat)) := e1
      generalize hex : en es x = ex at *
      by_cases c : csum es b.1 < 2 * ex
      · rw [decide_eq_true c] at hfd e3
        rw [if_pos rfl] at hfd
        rw [hfd] at hf
        simp only [turnS, s_tgN, List.set, s_ifS, s_tst, s_op2, s_c, s_var, s_gat0, s_gatS, wp_bd, wp_ok, sw_sb, e1', opt_some, e2, d_gt, e3, if_true, s_ret, s_tup, s_consA, s_nilA, List.length_cons, List.length_nil, szOk_dec, sw_rt]
        simp [h1, hf, fmtA]
      · rw [decide_eq_false c] at hfd e3
        simp only [turnS, s_tgN, List.set, s_ifS, s_tst, s_op2, s_c, s_var, s_gat0, s_gatS, wp_bd, wp_ok, sw_sb, e1', opt_some, e2, d_gt, e3, Bool.false_eq_true, if_false, s_skip, sw_nx]
        refine ⟨⟨_, rfl⟩, fun y hy => ?_⟩
        rcases List.mem_append.mp hy with z | z
        · exact hp2 y z
        · simp only [List.mem_singleton] at z
          rw [z, hex]; exact decide_eq_false c
    · rintro g ⟨⟨w, rfl⟩, hp2⟩
      have : abv es b.1 = none := List.find?_eq_none.mpr fun x hx => by rw [hp2 x hx]; simp
      rw [this] at hf
      simp at hf
      exact ⟨⟨_, _, _, _, rfl⟩, by simpa using hf⟩
  · rintro g ⟨⟨x, y, z, w, rfl⟩, hf⟩
    simp [above] at hf
    simp [hf, fmtA]
theorem cone_fault_ok (hC : CodeOk n cs) (h : EntOk n es) {e : D} (he : SeqN e es) (g : Sg) : callR 2 d_cone_fault [.d (codeD n cs), .d e] g = .ok (fmtA (above es cs 0)) g := by
  refine callR_v rfl rfl (ss := [.v (codeD n cs), .v e]) (RC.eq_ok ?_)
  show (d_cone_fault [.v (codeD n cs), .v e]).wp _ _ _
  unfold d_cone_fault
  refine def_wp ?_
  simp [check_entries_ok h he, first_above_ok hC h]
theorem check_cone_ok (hC : CodeOk n cs) (h : EntOk n es) {e : D} (he : SeqN e es) (ha : above es cs 0 = none) (g : Sg) : callR 2 d_check_cone [.d (codeD n cs), .d e] g = .ok (.tup (nats es)) g := by
  refine callR_v rfl rfl (ss := [.v (codeD n cs), .v e]) (RC.eq_ok ?_)
  show (d_check_cone [.v (codeD n cs), .v e]).wp _ _ _
  unfold d_check_cone
  refine def_wp ?_
  refine seq_wp ?_
  simp [check_entries_ok h he]
  refine seq_wp ?_
  simp [first_above_ok hC h, ha, fmtA]
  refine seq_wp ?_
  simp
theorem above_none : ∀ (cs : List (List Nat)) (k : Nat), above es cs k = none ↔ ∀ c ∈ cs, ∀ b ∈ c, 2 * en es b ≤ csum es c
  | [], k => by simp [above]
  | c :: cs, k => by
    rw [above]
    cases e : abv es c with
    | some b =>
      refine ⟨fun z => (by cases z), fun z => ?_⟩
      have h1 := List.find?_some e
      have h2 := List.mem_of_find?_eq_some e
      have h3 := z c List.mem_cons_self b h2
      have h4 := of_decide_eq_true h1
      exact absurd h4 (by omega)
    | none =>
      show above es cs (k + 1) = none ↔ _
      rw [above_none cs]
      have h1 := List.find?_eq_none.mp e
      simp only [List.mem_cons, forall_eq_or_imp]
      refine ⟨fun z => ⟨fun b hb => ?_, z⟩, fun z => z.2⟩
      have := h1 b hb
      simp only [decide_eq_true_eq] at this
      omega
end
end K19

set_option Elab.async false
set_option linter.all false
set_option maxRecDepth 100000
set_option maxHeartbeats 4000000
set_option exponentiation.threshold 20000
/-! make_ratio, small_row -/
namespace K19
open PySem L2 DL
theorem make_ok {a b : Int} {k : Nat} (h0 : b ≠ 0) (hb : BB k b) (hk : k ≤ 8000 := by decide) (g : Sg) : callR 2 d_make_ratio [.d (.int a), .d (.int b)] g = .ok (rt (Rat.divInt a b)) g := by
  refine callR_v rfl rfl (ss := [.v (.int a), .v (.int b)]) (RC.eq_ok ?_)
  show (d_make_ratio [.v (.int a), .v (.int b)]).wp _ _ _
  unfold d_make_ratio
  refine def_wp ?_
  refine seq_wp ?_
  simp
  refine seq_wp ?_
  simp [h0, low_ok h0 hb hk]
def smallR (es : List Nat) : List Rat := es.map fun (e : Nat) => Rat.divInt e (2 * es.sum : Nat)
section
variable {n : Nat} {es : List Nat} {cs : List (List Nat)}
theorem sum_lt {K : Nat} : ∀ {es : List Nat}, (∀ e ∈ es, e < K) → es.sum ≤ es.length * K
  | [], _ => by simp
  | e :: es, h => by
    have h1 := h e List.mem_cons_self
    have h2 := sum_lt (es := es) fun x hx => h x (List.mem_cons_of_mem _ hx)
    rw [List.sum_cons, List.length_cons, Nat.add_mul]; omega
theorem small_ok (hC : CodeOk n cs) (h : EntOk n es) {e : D} (he : SeqN e es) (ha : above es cs 0 = none) (g : Sg) : callR 2 d_small_row [.d (codeD n cs), .d e] g = .ok (.tup ((smallR es).map rt)) g := by
  refine callR_v rfl rfl (ss := [.v (codeD n cs), .v e]) (RC.eq_ok ?_)
  show (d_small_row [.v (codeD n cs), .v e]).wp _ _ _
  have hs : es.sum < 2 ^ 1004 := by
    have h1 := sum_lt h.bd
    have h2 := hC.n2
    have h3 := h.len
    rw [show 1004 = 4 + 1000 from rfl, Nat.pow_add]
    have : es.length * 2 ^ 1000 ≤ 10 * 2 ^ 1000 := Nat.mul_le_mul_right _ (by omega)
    omega
  have hl : es.length ≤ sizeLine := by rw [sizeLine_eq, h.len]; have := hC.n2; omega
  unfold d_small_row
  refine def_wp ?_
  refine seq_wp ?_
  simp [check_cone_ok hC h he ha]
  refine seq_wp ?_
  simp
  by_cases c : es.sum = 0
  · have e1 : (smallR es).map rt = es.map fun _ => k_ZERO := by
      unfold smallR
      rw [List.map_map]
      refine List.map_congr_left fun x hx => ?_
      simp [c, k_ZERO]
    have key : lcL (tgN 4) yesB (cF k_ZERO) [4] (nats es) [] [.v (codeD n cs), .v e, .v (.tup (nats es)), .v (.int 0), .un, .un] = .ok (es.map fun _ => k_ZERO) [.v (codeD n cs), .v e, .v (.tup (nats es)), .v (.int 0), .un, .un] := lc_all (t := tgN 4) (c := yesB) (e := cF k_ZERO) (vs := [4]) (fun n : Nat => D.int (n : Nat)) (fun _ => k_ZERO) (g0 := [.v (codeD n cs), .v e, .v (.tup (nats es)), .v (.int 0), .un, .un]) es fun b hb => ⟨[.v (codeD n cs), .v e, .v (.tup (nats es)), .v (.int 0), .v (.int (b : Nat)), .un], by simp, rfl, rfl, by simp [wipeG]⟩
    rw [← e1] at key
    generalize (smallR es).map rt = R at *
    generalize hN : nats es = N at *
    have hNl : N.length ≤ sizeLine := by rw [← hN]; simpa using hl
    refine seq_wp ?_
    simp [c, hNl, wipeG, key]
  · have c1 : ¬ ((es.sum : Nat) : Int) = 0 := by omega
    have hm : mulD (.int 2) (.int (es.sum : Nat)) = some (.int ((2 * es.sum : Nat))) := mul_nat (m := 2) (b := 1006) (by rw [show 1006 = 2 + 1004 from rfl, Nat.pow_add]; omega)
    have hbb : BB 1006 ((2 * es.sum : Nat) : Int) := by unfold BB; rw [Int.natAbs_natCast, show 1006 = 2 + 1004 from rfl, Nat.pow_add]; omega
    have key : lcL (tgN 5) yesB (callF 2 d_make_ratio [] (consV (dF (varF 5)) (consV (dF (op2F mulD (cF (.int 2)) (varF 3))) nilV))) [5] (nats es) [] [.v (codeD n cs), .v e, .v (.tup (nats es)), .v (.int (es.sum : Nat)), .un, .un] = .ok (es.map fun x : Nat => rt (Rat.divInt x (2 * es.sum : Nat))) [.v (codeD n cs), .v e, .v (.tup (nats es)), .v (.int (es.sum : Nat)), .un, .un] := lc_all (t := tgN 5) (c := yesB) (e := callF 2 d_make_ratio [] (consV (dF (varF 5)) (consV (dF (op2F mulD (cF (.int 2)) (varF 3))) nilV))) (vs := [5]) (fun n : Nat => D.int (n : Nat)) (fun x : Nat => rt (Rat.divInt x (2 * es.sum : Nat))) (g0 := [.v (codeD n cs), .v e, .v (.tup (nats es)), .v (.int (es.sum : Nat)), .un, .un]) es fun b hb => ⟨[.v (codeD n cs), .v e, .v (.tup (nats es)), .v (.int (es.sum : Nat)), .un, .v (.int (b : Nat))], by simp, rfl, by
      have e2 := fun g => make_ok (a := (b : Nat)) (b := ((2 * es.sum : Nat) : Int)) (by omega) hbb (by decide) g
      simp only [s_call, s_consV, s_nilV, s_dF, s_var, s_op2, s_c, s_gat0, s_gatS, R.bd_ok, hm, opt_some, resI, if_true, List.map_nil, List.append_nil, e2], by simp [wipeG]⟩
    have e1 : (smallR es).map rt = es.map fun x : Nat => rt (Rat.divInt x (2 * es.sum : Nat)) := by unfold smallR; rw [List.map_map]; rfl
    rw [← e1] at key
    generalize (smallR es).map rt = R at *
    generalize hN : nats es = N at *
    have hNl : N.length ≤ sizeLine := by rw [← hN]; simpa using hl
    generalize es.sum = T at *
    refine seq_wp ?_
    simp [c]
    simp [hNl, wipeG, key]
end
end K19

set_option Elab.async false
set_option linter.all false
set_option maxRecDepth 100000
set_option maxHeartbeats 4000000
set_option exponentiation.threshold 20000
/-! the law's own cone rows -/
namespace K19
open PySem L2 DL
section
variable {n : Nat} {es : List Nat} {cs : List (List Nat)} {c : List Nat}
/-- the others' sum -/
def oth (es c : List Nat) (b : Nat) : Nat := (c.map fun x => if x = b then 0 else en es x).sum
theorem oth_sum : ∀ {c : List Nat} {b : Nat}, c.Nodup → b ∈ c → oth es c b + en es b = csum es c
  | [], _, _, h => by cases h
  | a :: c, b, hn, hb => by
    obtain ⟨ha, hn⟩ := List.nodup_cons.mp hn
    have e0 : oth es (a :: c) b = (if a = b then 0 else en es a) + oth es c b := by unfold oth; rw [List.map_cons, List.sum_cons]
    have e1 : csum es (a :: c) = en es a + csum es c := by unfold csum; rw [List.map_cons, List.sum_cons]
    rw [e0, e1]
    by_cases e : a = b
    · subst e
      have h2 : oth es c a = csum es c := by
        unfold oth csum
        congr 1
        refine List.map_congr_left fun x hx => ?_
        have : ¬ x = a := fun z => ha (z ▸ hx)
        simp [this]
      rw [h2, if_pos rfl]; omega
    · have hb' : b ∈ c := by
        rcases List.mem_cons.mp hb with z | z
        · exact absurd z.symm e
        · exact z
      have := oth_sum hn hb'
      rw [if_neg e]; omega
/-- entries as data or as an own list -/
def EntS (x : S) (es : List Nat) : Prop := x = .v (.lst (nats es)) ∨ x = .ow (nats es)
theorem broken_dn (h : EntOk n es) (hC : CsOk n cs) (hcl : cs.length ≤ 1000) {x : S} (hx : EntS x es) : d__law_broken [.v (.lst (lists cs)), x] = .ok (fmtA (above es cs 0)) [.v (.lst (lists cs)), x] := by
  refine RC.eq_ok ?_
  obtain ⟨a1, nm1, rs1⟩ : ∃ a1, (∀ A s2 s3 s4 s5, nmF 1 [A, x, s2, s3, s4, s5] = .ok a1 [A, x, s2, s3, s4, s5]) ∧ ∀ A s2 s3 s4 s5, res [A, x, s2, s3, s4, s5] a1 = some (.lst (nats es)) := by
    rcases hx with rfl | rfl
    · exact ⟨.d (.lst (nats es)), fun _ _ _ _ _ => rfl, fun _ _ _ _ _ => rfl⟩
    · exact ⟨.o 1, fun _ _ _ _ _ => rfl, fun _ _ _ _ _ => rfl⟩
  have hxo : (!x.isOw || x.isOw) = true := by cases x.isOw <;> rfl
  unfold d__law_broken
  refine def_wp ?_
  refine seq_wp ?_
  have er : rng1D [.int (cs.length : Nat)] = some (nats (List.range cs.length)) := d_rng1 (by omega)
  simp [er, -s_nm]
  refine forR (fun k g => (∃ y z w v, g = [.v (.lst (lists cs)), x, y, z, w, v]) ∧ above es cs 0 = above es (cs.drop k) k) cs.length ⟨⟨_, _, _, _, rfl⟩, by simp⟩ ?_ ?_
  · rintro k g hk ⟨⟨y, z, w, v, rfl⟩, hf⟩
    obtain ⟨c, hc, eix⟩ := ix_lists (cs := cs) hk
    obtain ⟨hlot, hne⟩ := hC c (List.mem_of_getElem? hc)
    have h3 : cs[k] = c := by
      have := (List.getElem?_eq_some_iff.mp hc).2; exact this
    have hd : cs.drop k = c :: cs.drop (k + 1) := by rw [List.drop_eq_getElem_cons hk, h3]
    rw [hd, above] at hf
    simp [eix, -s_nm]
    refine forI (den := fun n : Nat => D.int (n : Nat)) (fun p2 g => (∃ z w v, g = [.v (.lst (lists cs)), x, .v (.int (k : Nat)), z, w, v]) ∧ ∀ y ∈ p2, decide (csum es c < 2 * en es y) = false) c ⟨⟨_, _, _, rfl⟩, (fun _ h => nomatch h)⟩ ?_ ?_
    · rintro p2 b q2 g hx2 ⟨⟨z, w, v, rfl⟩, hp2⟩
      have hxm : b ∈ c := by rw [hx2]; simp
      have hxl : b < es.length := by rw [h.len]; exact hlot.bd b hxm
      have e1 : ixD (.lst (nats es)) (.int (b : Nat)) = some (.int (en es b : Nat)) := ix_nL hxl
      have hfd : abv es c = if decide (csum es c < 2 * en es b) = true then some b else q2.find? fun b' => decide (csum es c < 2 * en es b') := by
        unfold abv; conv => lhs; arg 2; rw [hx2]
        exact find_split hp2
      have hos := oth_sum (es := es) (lt_nodup hlot.lt) hxm
      simp [-s_nm]
      refine seq_wp ?_
      simp [-s_nm]
      refine seq_cut (fun g => ∃ v, g = [.v (.lst (lists cs)), x, .v (.int (k : Nat)), .v (.int (b : Nat)), .v (.int (oth es c b : Nat)), v]) ?_ ?_
      · simp [eix, -s_nm]
        refine forI (den := fun n : Nat => D.int (n : Nat)) (fun p3 g => ∃ v, g = [.v (.lst (lists cs)), x, .v (.int (k : Nat)), .v (.int (b : Nat)), .v (.int (oth es p3 b : Nat)), v]) c ⟨_, rfl⟩ ?_ ?_
        · rintro p3 y q3 g hx3 ⟨v, rfl⟩
          have hym : y ∈ c := by rw [hx3]; simp
          have hyl : y < es.length := by rw [h.len]; exact hlot.bd y hym
          have e2 : ixD (.lst (nats es)) (.int (y : Nat)) = some (.int (en es y : Nat)) := ix_nL hyl
          have eo : oth es (p3 ++ [y]) b = oth es p3 b + if y = b then 0 else en es y := by unfold oth; simp
          by_cases c1 : y = b
          · have c2 : ¬ ¬ (y : Int) = b := by omega
            rw [if_pos c1] at eo
            rw [← c1, Nat.add_zero] at eo
            simp [c1, -s_nm]
            rw [← c1, eo]
          · have c2 : ¬ (y : Int) = b := by omega
            rw [if_neg c1] at eo
            have hb : ((y : Int) == (b : Int)) = false := by simp [c2]
            simp only [turnS, s_tgN, List.set, s_ifS, s_tst, s_op2, s_op2V, s_var, s_dF, s_gat0, s_gatS, wp_bd, wp_ok, sw_sb, d_ne, k_int, Bool.and_self, if_true, opt_some, q_int, hb, Bool.not_false, s_asg, nm1, rs1, s_resd, Option.bind_some, e2, d_addI, sw_nx]
            exact ⟨_, by rw [eo, Int.natCast_add]⟩
        · rintro g ⟨v, rfl⟩
          exact ⟨_, rfl⟩
      · rintro g ⟨v, rfl⟩
        have e3 : decide (((oth es c b : Nat) : Int) < ((en es b : Nat) : Int)) = decide (csum es c < 2 * en es b) := by
          by_cases z : csum es c < 2 * en es b
          · rw [decide_eq_true z, decide_eq_true (by omega)]
          · rw [decide_eq_false z, decide_eq_false (by omega)]
        by_cases c0 : csum es c < 2 * en es b
        · rw [decide_eq_true c0] at hfd e3
          rw [if_pos rfl] at hfd
          rw [hfd] at hf
          simp only [s_ifS, s_tst, s_op2V, s_op2, s_var, s_dF, s_gat0, s_gatS, wp_bd, wp_ok, sw_sb, nm1, rs1, s_resd, Option.bind_some, e1, opt_some, d_gt, e3, if_true, s_ret, s_tup, s_consA, s_nilA, List.length_cons, List.length_nil, szOk_dec, sw_rt]
          simp [hf, fmtA, hxo]
        · rw [decide_eq_false c0] at hfd e3
          simp only [s_ifS, s_tst, s_op2V, s_op2, s_var, s_dF, s_gat0, s_gatS, wp_bd, wp_ok, sw_sb, nm1, rs1, s_resd, Option.bind_some, e1, opt_some, d_gt, e3, Bool.false_eq_true, if_false, s_skip, sw_nx]
          refine ⟨⟨_, _, _, rfl⟩, fun y hy => ?_⟩
          rcases hy with z | z
          · simpa using hp2 y z
          · rw [z]; simpa using c0
    · rintro g ⟨⟨z, w, v, rfl⟩, hp2⟩
      have : abv es c = none := List.find?_eq_none.mpr fun x hx => by rw [hp2 x hx]; simp
      rw [this] at hf
      exact ⟨⟨_, _, _, _, rfl⟩, hf⟩
  · rintro g ⟨⟨y, z, w, v, rfl⟩, hf⟩
    simp [above] at hf
    simp [hf, fmtA, hxo]
theorem broken_ok (h : EntOk n es) (hC : CsOk n cs) (hcl : cs.length ≤ 1000) (g : Sg) : callR 2 d__law_broken [.d (.lst (lists cs)), .d (.lst (nats es))] g = .ok (fmtA (above es cs 0)) g :=
  callR_v rfl rfl (broken_dn h hC hcl (.inl rfl))
theorem above_some : ∀ (cs : List (List Nat)) (k0 k b : Nat), above es cs k0 = some (k, b) → ∃ c, k0 ≤ k ∧ cs[k - k0]? = some c ∧ b ∈ c ∧ csum es c < 2 * en es b
  | [], k0, k, b, h => by simp [above] at h
  | c :: cs, k0, k, b, h => by
    rw [above] at h
    cases e : abv es c with
    | some b' =>
      rw [e] at h
      injection h with h
      injection h with h1 h2
      subst h1; subst h2
      have h9 := List.find?_some e
      exact ⟨c, Nat.le_refl _, by simp, List.mem_of_find?_eq_some e, of_decide_eq_true h9⟩
    | none =>
      rw [e] at h
      obtain ⟨c', h1, h2, h3⟩ := above_some cs (k0 + 1) k b h
      refine ⟨c', by omega, ?_, h3⟩
      rw [show k - k0 = (k - (k0 + 1)) + 1 by omega, List.getElem?_cons_succ]; exact h2
theorem broken_own (h : EntOk n es) (hC : CsOk n cs) (hcl : cs.length ≤ 1000) {g : Sg} {i : Nat} (hg : gat g i = .ow (nats es)) : callR 2 d__law_broken [.d (.lst (lists cs)), .o i] g = .ok (fmtA (above es cs 0)) (g.set i (.ow (nats es))) := by
  refine (callR_ok' (n := 2) (dn := d__law_broken) (as := [.d (.lst (lists cs)), .o i]) (g := g) (d := fmtA (above es cs 0)) (ss := [.v (.lst (lists cs)), .ow (nats es)]) ?_ rfl rfl).trans ?_
  · show d__law_broken [.v (.lst (lists cs)), gat g i] = _
    rw [hg]; exact broken_dn h hC hcl (.inr rfl)
  · simp
theorem EntOk.of {M : Nat} (hl : es.length = n) (hM : M < 2 ^ 1000) (h : ∀ e ∈ es, e ≤ M) : EntOk n es := ⟨hl, fun e he => Nat.lt_of_le_of_lt (h e he) hM⟩
theorem brought_ok {M : Nat} (hM : M < 2 ^ 1000) (hC : CsOk n cs) (hcl : cs.length ≤ 1000) (hl : es.length = n) (hn : n ≤ 1000) (hb : ∀ e ∈ es, e ≤ M) : (d__law_brought_down [.v (.lst (lists cs)), .v (.lst (nats es))]).wp E0 (fun ds ss => (∃ es', ds = nats es' ∧ es'.length = n ∧ ∀ e ∈ es', e ≤ M) ∧ ss = [.v (.lst (lists cs)), .v (.lst (nats es))]) Q0 := by
  unfold d__law_brought_down
  refine def_wp ?_
  refine seq_wp ?_
  simp
  refine seq_wp ?_
  have er : rng1D [.int 400] = some (nats (List.range 400)) := d_rng1 (n := 400) (by decide)
  generalize nats (List.range 400) = LL at er
  simp [er]
  refine forA (fun g => ∃ (told : List Nat) (s3 s4 s5 s6 : S), g = [.v (.lst (lists cs)), .v (.lst (nats es)), .ow (nats told), s3, s4, s5, s6] ∧ told.length = n ∧ ∀ e ∈ told, e ≤ M) LL ⟨es, _, _, _, _, rfl, hl, hb⟩ ?_ ?_
  · rintro d g _ ⟨told, s3, s4, s5, s6, rfl, htl, htb⟩
    have hE := EntOk.of htl hM htb
    have eb := fun s3 => broken_own (g := [.v (.lst (lists cs)), .v (.lst (nats es)), .ow (nats told), s3, s4, s5, s6]) (i := 2) hE hC hcl rfl
    simp
    refine seq_wp ?_
    simp [eb]
    cases ea : above told cs 0 with
    | none =>
      refine seq_wp ?_
      simp [fmtA]
      exact ⟨told, rfl, htl, htb⟩
    | some p =>
      obtain ⟨k, b⟩ := p
      obtain ⟨c, _, hck, hbc, hlt⟩ := above_some _ _ _ _ ea
      simp at hck
      have hk : k < cs.length := (List.getElem?_eq_some_iff.mp hck).1
      obtain ⟨c', hc', eix⟩ := ix_lists (cs := cs) hk
      rw [hck] at hc'; injection hc' with hc'; subst hc'
      obtain ⟨hlot, hne⟩ := hC c (List.mem_of_getElem? hck)
      have hos := oth_sum (es := told) (lt_nodup hlot.lt) hbc
      have hbn : b < told.length := by rw [htl]; exact hlot.bd b hbc
      refine seq_wp ?_
      simp [fmtA]
      refine seq_wp ?_
      simp
      refine seq_cut (fun g => ∃ v, g = [.v (.lst (lists cs)), .v (.lst (nats es)), .ow (nats told), .v d, .v (.tup [.int (k : Nat), .int (b : Nat)]), .v (.int (oth told c b : Nat)), v]) ?_ ?_
      · simp [eix]
        refine forI (den := fun n : Nat => D.int (n : Nat)) (fun p3 g => ∃ v, g = [.v (.lst (lists cs)), .v (.lst (nats es)), .ow (nats told), .v d, .v (.tup [.int (k : Nat), .int (b : Nat)]), .v (.int (oth told p3 b : Nat)), v]) c ⟨_, rfl⟩ ?_ ?_
        · rintro p3 y q3 g hx3 ⟨v, rfl⟩
          have hym : y ∈ c := by rw [hx3]; simp
          have hyl : y < told.length := by rw [htl]; exact hlot.bd y hym
          have e2 : ixD (.lst (nats told)) (.int (y : Nat)) = some (.int (en told y : Nat)) := ix_nL hyl
          have eo : oth told (p3 ++ [y]) b = oth told p3 b + if y = b then 0 else en told y := by unfold oth; simp
          by_cases c1 : y = b
          · rw [if_pos c1] at eo
            rw [← c1, Nat.add_zero] at eo
            simp [c1]
            rw [← c1, eo]
          · have c2 : ¬ (y : Int) = b := by omega
            rw [if_neg c1] at eo
            have hb : ((y : Int) == (b : Int)) = false := by simp [c2]
            simp only [turnS, s_tgN, List.set, s_ifS, s_tst, s_op2, s_op2V, s_var, s_c, s_dF, s_nm, s_gat0, s_gatS, wp_bd, wp_ok, sw_sb, x_1, d_ne, k_int, Bool.and_self, if_true, opt_some, q_int, hb, Bool.not_false, s_asg, s_reso, s_resd, Option.bind_some, e2, d_addI, sw_nx]
            exact ⟨_, by rw [eo, Int.natCast_add]⟩
        · rintro g ⟨v, rfl⟩
          exact ⟨_, rfl⟩
      · rintro g ⟨v, rfl⟩
        have i1 : ixN told.length (b : Int) = some b := ixN_nat hbn
        have e9 : oth told c b ≤ M := by
          have : en told b ≤ M := htb _ (by rw [en, List.getD_eq_getElem?_getD, List.getElem?_eq_getElem hbn]; exact List.getElem_mem hbn)
          omega
        simp [i1]
        refine ⟨told.set b (oth told c b), ?_, by simp [htl], fun e he => ?_⟩
        · exact (List.map_set ..).symm
        · rcases mem_set he with z | rfl
          · exact htb e z
          · exact e9
  · rintro g ⟨told, s3, s4, s5, s6, rfl, htl, htb⟩
    have hz : told.length ≤ 16777216 := by omega
    have hz2 : told.length < 9223372036854775808 := by omega
    simp [repD, hz, hz2]
    exact ⟨List.replicate told.length 0, by simp, by simp [htl], fun e he => by rw [List.mem_replicate] at he; omega⟩
theorem cone_row_hf (hn : n ≤ 1000) (hC : CsOk n cs) (hcl : cs.length ≤ 1000) : HF d__law_cone_row [.v (.int (n : Nat)), .v (.lst (lists cs))] (fun ds => ∃ es, ds = nats es ∧ es.length = n ∧ ∀ e ∈ es, e ≤ 9) := by
  intro h H
  unfold d__law_cone_row
  refine def_wp ?_
  refine seq_wp ?_
  simp
  refine take_lit rfl H rfl ?_
  intro v h2 hv H2
  obtain ⟨z, ez, hz⟩ := tabN (v := v) [2, 3, 5, 9] (fun x => decide (1 ≤ x) && decide (x ≤ 9)) (by simp; omega) (by decide)
  simp at hz ez
  have er : rng1D [.int (n : Nat)] = some (nats (List.range n)) := d_rng1 (by omega)
  have hl : n ≤ sizeLine := by rw [sizeLine_eq]; omega
  simp [ez, er, hl, wipeG]
  refine lc_draw (n := n) (p := fun e => e ≤ 9) (fun g => ∃ h, g = [.ow h, .v (.int (n : Nat)), .v (.lst (lists cs)), .v (.int (z : Nat)), .un] ∧ IsHand h) ⟨h2, rfl, H2⟩ ?_ ?_ (by omega)
  · rintro d g ⟨h, rfl, H⟩
    simp
    rw [show ((z : Int) + 1) = ((z + 1 : Nat) : Int) by omega]
    refine take_wp (m := z + 1) rfl H (by omega) (big8000 (by omega)) ?_
    intro v h3 hv H3
    simp
    exact ⟨v, rfl, by omega, H3⟩
  · rintro es g hes hb ⟨h, rfl, H⟩
    refine callF_wp rfl rfl ?_
    refine RC.wp_mono (brought_ok (M := 9) (Nat.lt_of_lt_of_le (show 9 < 2 ^ 4 by decide) (Nat.pow_le_pow_right (by decide) (by decide))) hC hcl hes hn hb) (fun _ _ h => h.elim) ?_ (fun _ _ h => h.elim)
    rintro ds ss ⟨⟨es', rfl, hl', hb'⟩, rfl⟩
    simp
    exact ⟨H, es', rfl, hl', hb'⟩
end
end K19

set_option Elab.async false
set_option linter.all false
set_option maxRecDepth 100000
set_option maxHeartbeats 4000000
/-! the law's exact: a thing is exactly itself -/
namespace K19
open PySem L2 DL
def plD : Nat → D → Bool
  | _, .non => true
  | _, .bl _ => true
  | _, .int _ => true
  | _, .str s => s.cps.all (· < 0x110000)
  | n + 1, .tup ds => ds.all (plD n) && decide (ds.length ≤ 1000)
  | _, _ => false
@[simp] theorem st_str {s : Str} : isStr (.str s) = some true := rfl
@[simp] theorem st_int {i : Int} : isStr (.int i) = some false := rfl
@[simp] theorem st_bl {i : Bool} : isStr (.bl i) = some false := rfl
theorem ex_bl {n : Nat} {a b : Bool} : r__law_exact (n + 1) [.v (.bl a), .v (.bl b)] = .ok (.bl (a == b)) [.v (.bl a), .v (.bl b)] := by
  cases a <;> cases b <;> simp [r__law_exact, s_def, s_seq, isBD, RS.bd]
theorem ex_int {n : Nat} {a b : Int} : r__law_exact (n + 1) [.v (.int a), .v (.int b)] = .ok (.bl (decide (a = b))) [.v (.int a), .v (.int b)] := by
  simp [r__law_exact, s_def, s_seq, RS.bd]
  rfl
theorem ex_self : ∀ (n : Nat) (d : D), plD n d = true → r__law_exact (n + 1) [.v d, .v d] = .ok (.bl true) [.v d, .v d]
  | n, .non, _ => by simp [r__law_exact, s_def, s_seq, RS.bd]
  | n, .bl a, _ => by rw [ex_bl]; simp
  | n, .int a, _ => by rw [ex_int]; simp
  | n, .str s, h => by
    have h' : s.cps.all (· < 0x110000) = true := by cases n <;> exact h
    have h2 : okN 20 (.str s) = true := h'
    simp [r__law_exact, s_def, s_seq, RS.bd, h2]
  | n + 1, .tup ds, h => by
    have h' : (ds.all (plD n) && decide (ds.length ≤ 1000)) = true := h
    rw [Bool.and_eq_true, List.all_eq_true, decide_eq_true_eq] at h'
    obtain ⟨hall, hlen⟩ := h'
    have er : rng1D [.int (ds.length : Nat)] = some (nats (List.range ds.length)) := d_rng1 (by omega)
    have hl : ds.length ≤ sizeLine := by rw [sizeLine_eq]; omega
    have key : lcL (tgN 2) (notB (tstF (callF 2 (r__law_exact (n + 1)) [] (consV (dF (op2F ixD (varF 0) (varF 2))) (consV (dF (op2F ixD (varF 1) (varF 2))) nilV))))) (varF 2) [2] (nats (List.range ds.length)) [] [.v (.tup ds), .v (.tup ds), .un] = .ok [] [.v (.tup ds), .v (.tup ds), .un] := by
      have := lc_map (t := tgN 2) (c := notB (tstF (callF 2 (r__law_exact (n + 1)) [] (consV (dF (op2F ixD (varF 0) (varF 2))) (consV (dF (op2F ixD (varF 1) (varF 2))) nilV))))) (e := varF 2) (vs := [2]) (fun n : Nat => D.int (n : Nat)) (fun _ => false) (fun n : Nat => D.int (n : Nat)) (g0 := [.v (.tup ds), .v (.tup ds), .un]) (List.range ds.length) [] (fun k hk => by
        rw [List.mem_range] at hk
        have e1 := ixT hk
        have e2 := ex_self n ds[k] (hall _ (List.getElem_mem hk))
        have e3 : ∀ g, callR 2 (r__law_exact (n + 1)) [.d ds[k], .d ds[k]] g = .ok (.bl true) g := fun g => callR_v rfl rfl e2
        refine ⟨[.v (.tup ds), .v (.tup ds), .v (.int (k : Nat))], by simp, ?_, fun z => (by cases z), by simp [wipeG]⟩
        generalize ds[k] = x at *
        simp [e1, e3])
      rw [this]
      simp
    rw [r__law_exact, s_def]
    simp [s_seq, er, hl, wipeG, key, RS.bd]
  | 0, .tup _, h => by cases h
  | n, .lst _, h => by cases n <;> cases h
  | n, .obj _ _ _, h => by cases n <;> cases h
  | n, .emp, h => by cases n <;> cases h
theorem exact_self {d : D} (h : plD 4 d = true) (g : Sg) : callR 2 d__law_exact [.d d, .d d] g = .ok (.bl true) g := callR_v rfl rfl (ex_self 4 d h)
theorem exact_bl {a b : Bool} (g : Sg) : callR 2 d__law_exact [.d (.bl a), .d (.bl b)] g = .ok (.bl (a == b)) g := callR_v rfl rfl (ex_bl (n := 4))
theorem exact_int {a b : Int} (g : Sg) : callR 2 d__law_exact [.d (.int a), .d (.int b)] g = .ok (.bl (decide (a = b))) g := callR_v rfl rfl (ex_int (n := 4))
end K19

set_option Elab.async false
set_option linter.all false
set_option maxRecDepth 100000
set_option maxHeartbeats 4000000
set_option exponentiation.threshold 20000
/-! bars_from, and the law's own least lot -/
namespace K19
open PySem L2 DL
section
variable {n : Nat} {es : List Nat} {cs : List (List Nat)}
def barsN (es : List Nat) : Nat := barsG es.sum (srtD es) 0 0
theorem EntOk.sum (h : EntOk n es) (hn : n ≤ 10) : es.sum < 2 ^ 1004 := by
  have h1 : es.sum ≤ es.length * 2 ^ 1000 := by
    have : ∀ l : List Nat, (∀ e ∈ l, e < 2 ^ 1000) → l.sum ≤ l.length * 2 ^ 1000 := by
      intro l
      induction l with
      | nil => intro _; simp
      | cons e l ih =>
        intro hl
        have h1 := hl e List.mem_cons_self
        have h2 := ih fun x hx => hl x (List.mem_cons_of_mem _ hx)
        rw [List.sum_cons, List.length_cons, Nat.add_mul]; omega
    exact this es h.bd
  have h3 := h.len
  rw [show 1004 = 4 + 1000 from rfl, Nat.pow_add]
  have : es.length * 2 ^ 1000 ≤ 10 * 2 ^ 1000 := Nat.mul_le_mul_right _ (by omega)
  omega
theorem two_mul (h : EntOk n es) (hn : n ≤ 10) {t : Nat} (ht : t ≤ es.sum) : mulD (.int 2) (.int (t : Nat)) = some (.int ((2 * t : Nat))) := by
  have := h.sum hn
  exact mul_nat (m := 2) (b := 1006) (by rw [show 1006 = 2 + 1004 from rfl, Nat.pow_add]; omega)
theorem bars_from_ok (hC : CodeOk n cs) (h : EntOk n es) {e : D} (he : SeqN e es) (g : Sg) : callR 2 d_bars_from [.d (codeD n cs), .d e] g = .ok (.int (barsN es : Nat)) g := by
  refine callR_v rfl rfl (ss := [.v (codeD n cs), .v e]) (RC.eq_ok ?_)
  show (d_bars_from [.v (codeD n cs), .v e]).wp _ _ _
  unfold d_bars_from
  refine def_wp ?_
  refine seq_wp ?_
  simp [check_entries_ok h he]
  refine seq_wp ?_
  simp
  refine seq_wp ?_
  simp
  refine seq_wp ?_
  simp
  have hp : (srtD es).sum = es.sum := srtD_perm.sum_nat
  refine seq_wp ?_
  simp
  refine forI (den := fun n : Nat => D.int (n : Nat)) (fun p g => ∃ (m t : Nat) (x : S) (q : List Nat), g = [.v (codeD n cs), .v e, .v (.tup (nats es)), .v (.int (es.sum : Nat)), .v (.int (m : Nat)), .v (.int (t : Nat)), x] ∧ srtD es = p ++ q ∧ t = p.sum ∧ barsN es = barsG es.sum q t m) (srtD es) ⟨0, 0, _, srtD es, rfl, rfl, rfl, rfl⟩ ?_ ?_
  · intro p b q g hb hI
    obtain ⟨m, t, x, q', hg, A⟩ := hI
    have hq := A.1
    have ht := A.2.1
    have hm := A.2.2
    clear A
    subst hg
    have eq : q' = b :: q := by
      have := hq.symm.trans hb
      exact List.append_cancel_left this
    subst eq
    have hle : t ≤ es.sum := by
      rw [ht, ← hp, hb, List.sum_append]; omega
    have em := two_mul h hC.n2 hle
    have e1 : (p ++ [b]).sum = t + b := by rw [List.sum_append, ht]; simp
    unfold barsG at hm
    simp
    refine seq_wp ?_
    simp [em]
    constructor
    · intro c
      have c' : es.sum ≤ 2 * t := by omega
      rw [if_pos c'] at hm
      omega
    · intro c
      have c' : ¬ es.sum ≤ 2 * t := by omega
      rw [if_neg c'] at hm
      refine seq_wp ?_
      simp [augNS]
      exact ⟨m + 1, t + b, ⟨by omega, by omega⟩, q, hb, by rw [ht], hm⟩
  · rintro g ⟨m, t, x, q, rfl, hq, ht, hm⟩
    have eq : q = [] := List.append_cancel_left (hq.symm.trans (List.append_nil _).symm)
    subst eq
    unfold barsG at hm
    simp [hm]
theorem picks_len {n N : Nat} (he : es.length = n) : (picksN n N).length = (pickE es N).length := by rw [pickE, List.length_map, he]
theorem lbars_ok (h : EntOk n es) (hn : n ≤ 10) (g : Sg) : callR 1 d__law_bars [.d (.lst (nats es))] g = .ok (.int (barsN es : Nat)) g := by
  refine callR_v rfl rfl (ss := [.v (.lst (nats es))]) (RC.eq_ok ?_)
  show (d__law_bars [.v (.lst (nats es))]).wp _ _ _
  have hlen := h.len
  have hnl : n ≤ sizeLine := by rw [sizeLine_eq]; omega
  have h2n : 2 ^ n ≤ 1024 := by
    have : 2 ^ n ≤ 2 ^ 10 := Nat.pow_le_pow_right (by decide) hn
    exact this
  have ep : powD (.int 2) (.int 10) = some (.int 1024) := rfl
  have er : rng1D [.int 1024] = some (nats (List.range 1024)) := d_rng1 (n := 1024) (by decide)
  have ern : rng1D [.int (n : Nat)] = some (nats (List.range n)) := d_rng1 (by omega)
  unfold d__law_bars
  refine def_wp ?_
  refine seq_wp ?_
  simp [hlen]
  refine seq_wp ?_
  simp
  refine seq_wp ?_
  simp
  refine seq_wp ?_
  simp [ep, er]
  have fin : ∀ l : Nat, l ≤ n → (l = n ∨ ∃ N, N < 2 ^ n ∧ (pickE es N).length = l ∧ es.sum ≤ 2 * (pickE es N).sum) → (∀ N, N < 2 ^ n → es.sum ≤ 2 * (pickE es N).sum → l ≤ (pickE es N).length) → barsN es = l := fun l h1 h2 h3 => by
    have := bars_eq (es := es) (D := srtD es) srtD_perm srtD_ge (l := l)
    rw [hlen] at this
    exact this h2 h1 h3
  refine forR (fun k g => ∃ (l : Nat) (x4 x5 x6 : S), g = [.v (.lst (nats es)), .v (.int (n : Nat)), .v (.int (es.sum : Nat)), .v (.int (l : Nat)), x4, x5, x6] ∧ l ≤ n ∧ (l = n ∨ ∃ N, N < 2 ^ n ∧ (pickE es N).length = l ∧ es.sum ≤ 2 * (pickE es N).sum) ∧ ∀ N, N < k → N < 2 ^ n → es.sum ≤ 2 * (pickE es N).sum → l ≤ (pickE es N).length) 1024 ⟨n, _, _, _, rfl, Nat.le_refl _, .inl rfl, fun N h => by omega⟩ ?_ ?_
  · rintro k g hk ⟨l, x4, x5, x6, rfl, hl, hex, hall⟩
    have esh : shrD (.int (k : Nat)) (.int (n : Nat)) = some (.int ((k / 2 ^ n : Nat))) := shr_nat
    by_cases hkl : 2 ^ n ≤ k
    · have hpos : 0 < k / 2 ^ n := Nat.div_pos hkl (Nat.two_pow_pos _)
      have hf := fin l hl hex fun N hN => hall N (by omega) hN
      generalize k / 2 ^ n = kk at *
      simp
      refine seq_wp ?_
      simp [esh, hpos]
      rw [hf]
    · have hz : k / 2 ^ n = 0 := Nat.div_eq_of_lt (by omega)
      rw [hz] at esh
      have key : lcL (tgN 6) (tstF (op2F eqD (op2F andD (bltF intF (consV (dF (op2F shrD (varF 4) (varF 6))) nilV)) (cF (.int 1))) (cF (.int 1)))) (varF 6) [6] (nats (List.range n)) [] [.v (.lst (nats es)), .v (.int (n : Nat)), .v (.int (es.sum : Nat)), .v (.int (l : Nat)), .v (.int (k : Nat)), x5, .un] = .ok (nats (picksN n k)) [.v (.lst (nats es)), .v (.int (n : Nat)), .v (.int (es.sum : Nat)), .v (.int (l : Nat)), .v (.int (k : Nat)), x5, .un] := by
        have := lc_map (t := tgN 6) (c := tstF (op2F eqD (op2F andD (bltF intF (consV (dF (op2F shrD (varF 4) (varF 6))) nilV)) (cF (.int 1))) (cF (.int 1)))) (e := varF 6) (vs := [6]) (fun n : Nat => D.int (n : Nat)) (fun b => decide (bitN k b = 1)) (fun n : Nat => D.int (n : Nat)) (g0 := [.v (.lst (nats es)), .v (.int (n : Nat)), .v (.int (es.sum : Nat)), .v (.int (l : Nat)), .v (.int (k : Nat)), x5, .un]) (List.range n) [] (fun b hb => by
          refine ⟨[.v (.lst (nats es)), .v (.int (n : Nat)), .v (.int (es.sum : Nat)), .v (.int (l : Nat)), .v (.int (k : Nat)), x5, .v (.int (b : Nat))], by simp, ?_, fun _ => by simp, by simp [wipeG]⟩
          have hb2 := bitN_lt (N := k) (k := b)
          have hd : k / 2 ^ b % 2 = bitN k b := rfl
          simp only [s_tst, s_op2, s_blt, s_consV, s_nilV, s_dF, s_var, s_c, s_gat0, s_gatS, R.bd_ok, shr_nat, opt_some, resI, if_true, s_ress1, s_ress0, s_resd, Option.bind_some, l_int, and_one, hd]
          generalize bitN k b = B at *
          by_cases hB : B = 1
          · subst hB; simp
          · have : ¬ ((B : Int) = 1) := by omega
            simp [hB, this])
        rw [this]; rfl
      have key2 : ∀ x6', x6' = S.un → lcL (tgN 6) yesB (op2F ixD (varF 0) (varF 6)) [6] (nats (picksN n k)) [] [.v (.lst (nats es)), .v (.int (n : Nat)), .v (.int (es.sum : Nat)), .v (.int (l : Nat)), .v (.int (k : Nat)), .v (.lst (nats (picksN n k))), x6'] = .ok (nats (pickE es k)) [.v (.lst (nats es)), .v (.int (n : Nat)), .v (.int (es.sum : Nat)), .v (.int (l : Nat)), .v (.int (k : Nat)), .v (.lst (nats (picksN n k))), .un] := fun x6' hx => by
        subst hx
        have e0 : nats (pickE es k) = (picksN n k).map fun b => D.int (es.getD b 0 : Nat) := by rw [pickE, hlen, nats_map]
        rw [e0]
        refine lc_all (fun n : Nat => D.int (n : Nat)) _ _ fun b hb => ⟨[.v (.lst (nats es)), .v (.int (n : Nat)), .v (.int (es.sum : Nat)), .v (.int (l : Nat)), .v (.int (k : Nat)), .v (.lst (nats (picksN n k))), .v (.int (b : Nat))], by simp, rfl, ?_, by simp [wipeG]⟩
        have hbn : b < n := List.mem_range.mp (List.mem_filter.mp hb).1
        have e1 := ix_nL (ns := es) (k := b) (by rw [hlen]; exact hbn)
        simp only [s_op2, s_var, s_gat0, s_gatS, R.bd_ok, e1, opt_some]
      have hPl := picks_len (N := k) hlen
      have hsl : (picksN n k).length ≤ sizeLine := by
        have : (picksN n k).length ≤ n := by unfold picksN; exact Nat.le_trans (List.length_filter_le _ _) (by simp)
        omega
      have hS : (pickE es k).sum ≤ es.sum := sub_sum (pickE_sub es k)
      have em := two_mul h hn hS
      generalize hE : pickE es k = E' at *
      have es1 : sumD [.lst (nats E')] = some (.int (E'.sum : Nat)) := sum_nL
      generalize picksN n k = P at *
      generalize hEs : E'.sum = s at *
      have hk2 : k < 2 ^ n := by omega
      have step : ∀ l' : Nat, (E'.length < l ∧ es.sum ≤ 2 * s → l' = E'.length) → (¬ (E'.length < l ∧ es.sum ≤ 2 * s) → l' = l) → l' ≤ n ∧ (l' = n ∨ ∃ N, N < 2 ^ n ∧ (pickE es N).length = l' ∧ es.sum ≤ 2 * (pickE es N).sum) ∧ ∀ N, N < k + 1 → N < 2 ^ n → es.sum ≤ 2 * (pickE es N).sum → l' ≤ (pickE es N).length := fun l' a1 a2 => by
        by_cases c : E'.length < l ∧ es.sum ≤ 2 * s
        · have := a1 c
          subst this
          refine ⟨by omega, .inr ⟨k, hk2, by rw [hE], by rw [hE, hEs]; exact c.2⟩, fun N hN hN2 hN3 => ?_⟩
          by_cases e : N = k
          · subst e; rw [hE]; exact Nat.le_refl _
          · have := hall N (by omega) hN2 hN3; omega
        · have := a2 c
          subst this
          refine ⟨hl, hex, fun N hN hN2 hN3 => ?_⟩
          by_cases e : N = k
          · subst e
            rw [hE, hEs] at hN3
            rw [hE]
            exact Nat.le_of_not_lt fun q => c ⟨q, hN3⟩
          · exact hall N (by omega) hN2 hN3
      clear hall hex fin
      generalize es.sum = T at *
      generalize hEl : E'.length = el at *
      generalize nats E' = NE at *
      generalize hNP : nats P = NP at *
      have hNPl : NP.length = el := by rw [← hNP]; simpa using hPl
      generalize 2 * s = ss at *
      simp
      refine seq_wp ?_
      simp [esh]
      refine seq_wp ?_
      simp [ern, hnl, wipeG, key]
      by_cases c1 : el < l
      · by_cases c2 : T ≤ ss
        · have S1 := step el (fun _ => rfl) (fun z => absurd ⟨c1, c2⟩ z)
          simp [hNPl, c1, c2, wipeG, key2, es1, em]
          exact ⟨⟨fun _ => ⟨el, rfl, S1⟩, by omega⟩, fun z => absurd z (by omega)⟩
        · have S1 := step l (fun z => absurd z.2 c2) (fun _ => rfl)
          simp [hNPl, c1, c2, wipeG, key2, es1, em]
          exact ⟨⟨fun _ => ⟨l, rfl, S1⟩, by omega⟩, fun z => absurd z (by omega)⟩
      · have S1 := step l (fun z => absurd z.1 c1) (fun _ => rfl)
        simp [hNPl, c1, wipeG]
        exact fun _ => ⟨l, rfl, S1⟩
  · rintro g ⟨l, x4, x5, x6, rfl, hl, hex, hall⟩
    simp
    rw [fin l hl hex fun N hN => hall N (by omega) hN]
end
end K19

set_option Elab.async false
set_option linter.all false
set_option maxRecDepth 100000
set_option maxHeartbeats 4000000
set_option exponentiation.threshold 20000
/-! the law's own small row -/
namespace K19
open PySem L2 DL
section
variable {n : Nat} {es : List Nat} {cs : List (List Nat)}
def smallA (es : List Nat) (cs : List (List Nat)) : D := match above es cs 0 with
  | some (k, b) => .tup [.str "above", .int (k : Nat), .int (b : Nat), .bl true]
  | none => .tup ((smallR es).map rt)
theorem lsmall_ok (h : EntOk n es) (hn : n ≤ 10) (hC : CsOk n cs) (hcl : cs.length ≤ 1000) (g : Sg) : callR 2 d__law_small [.d (.lst (lists cs)), .d (.lst (nats es))] g = .ok (smallA es cs) g := by
  refine callR_v rfl rfl (ss := [.v (.lst (lists cs)), .v (.lst (nats es))]) (RC.eq_ok ?_)
  show (d__law_small [.v (.lst (lists cs)), .v (.lst (nats es))]).wp _ _ _
  have hbr := fun g => broken_ok h hC hcl g
  have hs : es.sum < 2 ^ 1004 := by
    have h1 := sum_lt h.bd
    have h3 := h.len
    rw [show 1004 = 4 + 1000 from rfl, Nat.pow_add]
    have : es.length * 2 ^ 1000 ≤ 10 * 2 ^ 1000 := Nat.mul_le_mul_right _ (by omega)
    omega
  have hl : es.length ≤ sizeLine := by rw [sizeLine_eq, h.len]; omega
  generalize lists cs = CS at *
  unfold smallA
  unfold d__law_small
  refine def_wp ?_
  refine seq_wp ?_
  simp [hbr]
  cases ha : above es cs 0 with
  | some p =>
    obtain ⟨k, b⟩ := p
    refine seq_wp ?_
    simp [fmtA]
  | none =>
    refine seq_wp ?_
    simp [fmtA]
    refine seq_wp ?_
    simp
    by_cases c : es.sum = 0
    · have e1 : (smallR es).map rt = es.map fun _ => D.tup [.int 0, .int 1] := by
        unfold smallR
        rw [List.map_map]
        refine List.map_congr_left fun x hx => ?_
        simp [c]
      have key : lcL (tgN 4) yesB (tupF (consA (cF (.int 0)) (consA (cF (.int 1)) nilA))) [4] (nats es) [] [.v (.lst CS), .v (.lst (nats es)), .v .non, .v (.int 0), .un] = .ok (es.map fun _ => D.tup [.int 0, .int 1]) [.v (.lst CS), .v (.lst (nats es)), .v .non, .v (.int 0), .un] := lc_all (t := tgN 4) (c := yesB) (e := tupF (consA (cF (.int 0)) (consA (cF (.int 1)) nilA))) (vs := [4]) (fun n : Nat => D.int (n : Nat)) (fun _ => D.tup [.int 0, .int 1]) (g0 := [.v (.lst CS), .v (.lst (nats es)), .v .non, .v (.int 0), .un]) es fun b hb => ⟨[.v (.lst CS), .v (.lst (nats es)), .v .non, .v (.int 0), .v (.int (b : Nat))], by simp, rfl, by simp, by simp [wipeG]⟩
      rw [← e1] at key
      generalize (smallR es).map rt = R at *
      generalize hN : nats es = N at *
      have hNl : N.length ≤ sizeLine := by rw [← hN]; simpa using hl
      refine seq_wp ?_
      simp [c, hNl, wipeG, key]
    · have hm : mulD (.int 2) (.int (es.sum : Nat)) = some (.int ((2 * es.sum : Nat))) := mul_nat (m := 2) (b := 1006) (by rw [show 1006 = 2 + 1004 from rfl, Nat.pow_add]; omega)
      have hbb : BB 1006 ((2 * es.sum : Nat) : Int) := by unfold BB; rw [Int.natAbs_natCast, show 1006 = 2 + 1004 from rfl, Nat.pow_add]; omega
      have key : lcL (tgN 4) yesB (callF 2 d__law_ratio [] (consV (dF (varF 4)) (consV (dF (op2F mulD (cF (.int 2)) (varF 3))) nilV))) [4] (nats es) [] [.v (.lst CS), .v (.lst (nats es)), .v .non, .v (.int (es.sum : Nat)), .un] = .ok (es.map fun x : Nat => rt (Rat.divInt x (2 * es.sum : Nat))) [.v (.lst CS), .v (.lst (nats es)), .v .non, .v (.int (es.sum : Nat)), .un] := lc_all (t := tgN 4) (c := yesB) (e := callF 2 d__law_ratio [] (consV (dF (varF 4)) (consV (dF (op2F mulD (cF (.int 2)) (varF 3))) nilV))) (vs := [4]) (fun n : Nat => D.int (n : Nat)) (fun x : Nat => rt (Rat.divInt x (2 * es.sum : Nat))) (g0 := [.v (.lst CS), .v (.lst (nats es)), .v .non, .v (.int (es.sum : Nat)), .un]) es fun b hb => ⟨[.v (.lst CS), .v (.lst (nats es)), .v .non, .v (.int (es.sum : Nat)), .v (.int (b : Nat))], by simp, rfl, by
        have e2 := fun g => lratio_ok (a := (b : Nat)) (b := ((2 * es.sum : Nat) : Int)) (by omega) hbb (by decide) g
        simp only [s_call, s_consV, s_nilV, s_dF, s_var, s_op2, s_c, s_gat0, s_gatS, R.bd_ok, hm, opt_some, resI, if_true, List.map_nil, List.append_nil, e2], by simp [wipeG]⟩
      have e1 : (smallR es).map rt = es.map fun x : Nat => rt (Rat.divInt x (2 * es.sum : Nat)) := by unfold smallR; rw [List.map_map]; rfl
      rw [← e1] at key
      generalize (smallR es).map rt = R at *
      generalize hN : nats es = N at *
      have hNl : N.length ≤ sizeLine := by rw [← hN]; simpa using hl
      generalize es.sum = T at *
      refine seq_wp ?_
      simp [c]
      simp [hNl, wipeG, key]
end
end K19

set_option Elab.async false
set_option linter.all false
set_option maxRecDepth 100000
set_option maxHeartbeats 4000000
set_option exponentiation.threshold 20000
/-! what is no cone row is refused -/
namespace K19
open PySem L2 DL
/-- no whole number from 0 -/
def badE : D → Bool
  | .int i => decide (i < 0)
  | .obj _ _ _ => false
  | .emp => false
  | _ => true
def BadP (n : Nat) (d : D) (z : Int) : Prop :=
  (z = -1 ∧ (isLstTup d = some false ∨ ∃ ds, d = .lst ds ∧ ds.length ≠ n ∧ ds.length ≤ 20)) ∨
    (∃ (p : List Nat) (b : D) (q : List D), d = .lst (nats p ++ b :: q) ∧ p.length + 1 + q.length = n ∧ badE b = true ∧ z = p.length)
def badX (z : Int) : Exn := mkE "BadCone" ["place"] [.int z]
def aboveX (k b : Nat) : Exn := mkE "NotCone" ["number", "bit"] [.int (k : Nat), .int (b : Nat)]
section
variable {n : Nat} {es : List Nat} {cs : List (List Nat)} {d : D} {z : Int}
theorem ok_fi {i : Int} {r : List D} (h : i.natAbs < 1000000) : okF [0] (.int i :: r) = true := by
  simp [okF, fmtD, h]
theorem whole_bad {b : D} (h : badE b = true) (g : Sg) : callR 3 d_is_whole [.d b, .d (.int 0), .d .non] g = .ok (.bl false) g := by
  cases b with
  | int i => have : i < 0 := by simpa [badE] using h
             simp; omega
  | obj c ns ds => cases h
  | emp => cases h
  | _ => simp
theorem split_at {α : Type} {bs p q : List α} {e : α} (h : bs = p ++ e :: q) : bs[p.length]? = some e := by rw [h]; simp
theorem zip_at {α : Type} {l : List α} {i : Nat} {e : α × Nat} (h : l.zipIdx[i]? = some e) : l[i]? = some e.1 ∧ e.2 = i := by
  rw [List.getElem?_zipIdx] at h
  cases h1 : l[i]? with
  | none => rw [h1] at h; cases h
  | some x => rw [h1] at h; simp at h; subst h; exact ⟨rfl, rfl⟩
theorem check_entries_bad (hC : CodeOk n cs) (h : BadP n d z) (g : Sg) : callR 2 d_check_entries [.d (codeD n cs), .d d] g = .ex (badX z) g := by
  refine callR_x rfl rfl (ss := [.v (codeD n cs), .v d]) (RC.eq_ex ?_)
  show (d_check_entries [.v (codeD n cs), .v d]).wp _ _ _
  unfold d_check_entries
  refine def_wp ?_
  rcases h with ⟨rfl, h | ⟨ds, rfl, hne, h20⟩⟩ | ⟨p, b, q, rfl, hn, hb, rfl⟩
  · have hs := fun g => seq_ok (g := g) h
    refine seq_wp ?_
    simp [hs, badX]
    exact ok_fi (by have := hC.n2; omega)
  · have hne' : ¬ ((ds.length : Int) = (n : Int)) := by omega
    refine seq_wp ?_
    simp [hne', badX]
    exact ok_fi (by have := hC.n2; omega)
  · have hl : (nats p ++ b :: q).length = n := by simp; omega
    have hm : enmD [.lst (nats p ++ b :: q)] = some ((nats p ++ b :: q).zipIdx.map fun p => D.tup [.int (p.2 : Nat), p.1]) := enmD_L
    have hat1 : ∀ i, i < p.length → (nats p ++ b :: q)[i]? = some (.int (p.getD i 0 : Nat)) := fun i hi => by
      rw [List.getElem?_append_left (by simpa using hi)]
      simp [hi]
    have hat2 : (nats p ++ b :: q)[p.length]? = some b := by
      rw [List.getElem?_append_right (by simp)]; simp
    have hlz : (nats p ++ b :: q).zipIdx.length = n := by rw [List.length_zipIdx, hl]
    generalize nats p ++ b :: q = L at *
    refine seq_wp ?_
    simp [hl]
    refine seq_wp ?_
    simp [hm]
    refine forI (fun pre g => pre.length ≤ p.length ∧ (∃ x y, g = [.v (codeD n cs), .v (.lst L), x, y])) L.zipIdx ⟨Nat.zero_le _, _, _, rfl⟩ ?_ ?_
    · intro pre e q' g he hI
      obtain ⟨hle, x, y, hg⟩ := hI
      subst hg
      obtain ⟨h1, h2⟩ := zip_at (split_at he)
      rw [h2]
      by_cases c : pre.length < p.length
      · rw [hat1 _ c] at h1
        have h1' := Option.some.inj h1
        rw [← h1']
        simp [s_seq]
        omega
      · have c' : pre.length = p.length := by omega
        rw [c', hat2] at h1
        have h1' := Option.some.inj h1
        rw [← h1', c']
        have hw := fun g => whole_bad hb g
        simp [s_seq, hw, badX]
        exact ok_fi (by have := hC.n2; omega)
    · intro g hI
      obtain ⟨hle, _⟩ := hI
      omega
theorem cone_fault_bad (hC : CodeOk n cs) (h : BadP n d z) (g : Sg) : callR 2 d_cone_fault [.d (codeD n cs), .d d] g = .ex (badX z) g := by
  refine callR_x rfl rfl (ss := [.v (codeD n cs), .v d]) (RC.eq_ex ?_)
  show (d_cone_fault [.v (codeD n cs), .v d]).wp _ _ _
  unfold d_cone_fault
  refine def_wp ?_
  simp [check_entries_bad hC h]
theorem bars_from_bad (hC : CodeOk n cs) (h : BadP n d z) (g : Sg) : callR 2 d_bars_from [.d (codeD n cs), .d d] g = .ex (badX z) g := by
  refine callR_x rfl rfl (ss := [.v (codeD n cs), .v d]) (RC.eq_ex ?_)
  show (d_bars_from [.v (codeD n cs), .v d]).wp _ _ _
  unfold d_bars_from
  refine def_wp ?_
  refine seq_wp ?_
  simp [check_entries_bad hC h]
theorem check_cone_bad (hC : CodeOk n cs) (h : BadP n d z) (g : Sg) : callR 2 d_check_cone [.d (codeD n cs), .d d] g = .ex (badX z) g := by
  refine callR_x rfl rfl (ss := [.v (codeD n cs), .v d]) (RC.eq_ex ?_)
  show (d_check_cone [.v (codeD n cs), .v d]).wp _ _ _
  unfold d_check_cone
  refine def_wp ?_
  refine seq_wp ?_
  simp [check_entries_bad hC h]
theorem small_row_bad (hC : CodeOk n cs) (h : BadP n d z) (g : Sg) : callR 2 d_small_row [.d (codeD n cs), .d d] g = .ex (badX z) g := by
  refine callR_x rfl rfl (ss := [.v (codeD n cs), .v d]) (RC.eq_ex ?_)
  show (d_small_row [.v (codeD n cs), .v d]).wp _ _ _
  unfold d_small_row
  refine def_wp ?_
  refine seq_wp ?_
  simp [check_cone_bad hC h]
theorem check_cone_above (hC : CodeOk n cs) (h : EntOk n es) {e : D} (he : SeqN e es) {k b : Nat} (ha : above es cs 0 = some (k, b)) (g : Sg) : callR 2 d_check_cone [.d (codeD n cs), .d e] g = .ex (aboveX k b) g := by
  refine callR_x rfl rfl (ss := [.v (codeD n cs), .v e]) (RC.eq_ex ?_)
  show (d_check_cone [.v (codeD n cs), .v e]).wp _ _ _
  have hok : okF [0, 1] [.int (k : Nat), .int (b : Nat)] = true := by
    obtain ⟨c, _, hc, hb, _⟩ := above_some cs 0 k b ha
    have hkl := (List.getElem?_eq_some_iff.mp hc).1
    have hcm : c ∈ cs := List.mem_of_getElem? hc
    have h1 := (hC.lot c hcm).1.bd b hb
    have h2 := hC.n2
    have h3 := hC.len
    have a1 : (k : Int).natAbs < 1000000 := by omega
    have a2 : (b : Int).natAbs < 1000000 := by omega
    simp [okF, fmtD, a1, a2]
    omega
  unfold d_check_cone
  refine def_wp ?_
  refine seq_wp ?_
  simp [check_entries_ok h he]
  refine seq_wp ?_
  simp [first_above_ok hC h, ha, fmtA]
  refine seq_wp ?_
  simp [hok, aboveX]
theorem small_row_above (hC : CodeOk n cs) (h : EntOk n es) {e : D} (he : SeqN e es) {k b : Nat} (ha : above es cs 0 = some (k, b)) (g : Sg) : callR 2 d_small_row [.d (codeD n cs), .d e] g = .ex (aboveX k b) g := by
  refine callR_x rfl rfl (ss := [.v (codeD n cs), .v e]) (RC.eq_ex ?_)
  show (d_small_row [.v (codeD n cs), .v e]).wp _ _ _
  unfold d_small_row
  refine def_wp ?_
  refine seq_wp ?_
  simp [check_cone_above hC h he ha]
/-- what the law's one gives -/
theorem one_bad (hC : CodeOk n cs) (h : BadP n d z) {k : Nat} (hk : k < 4) (g : Sg) : callR 3 d__law_one [.d (codeD n cs), .d d, .d (.int (k : Nat))] g = .ok (.tup [.str "bad", .int z, .bl true]) g := by
  refine callR_v rfl rfl (ss := [.v (codeD n cs), .v d, .v (.int (k : Nat))]) (RC.eq_ok ?_)
  show (d__law_one [.v (codeD n cs), .v d, .v (.int (k : Nat))]).wp _ _ _
  have e0 := fun g => check_entries_bad hC h g
  have e1 := fun g => cone_fault_bad hC h g
  have e2 := fun g => bars_from_bad hC h g
  have e3 := fun g => small_row_bad hC h g
  have hk' : k = 0 ∨ k = 1 ∨ k = 2 ∨ k = 3 := by omega
  unfold d__law_one
  refine def_wp ?_
  rcases hk' with rfl | rfl | rfl | rfl <;> simp [tryM, s_seq, e0, e1, e2, e3, tryH, hdT, badX, mkE, xfF, isxF, andV, lookD, endX]
end
end K19

set_option Elab.async false
set_option linter.all false
set_option maxRecDepth 100000
set_option maxHeartbeats 4000000
set_option exponentiation.threshold 20000
/-! the law's questions about a row of entries -/
namespace K19
open PySem L2 DL
def due (es : List Nat) (cs : List (List Nat)) : Nat → D
  | 0 => .tup (nats es)
  | 1 => fmtA (above es cs 0)
  | 2 => .int (barsN es : Nat)
  | _ => smallA es cs
section
variable {n : Nat} {es : List Nat} {cs : List (List Nat)} {d : D} {z : Int}
theorem one_ok (hC : CodeOk n cs) (h : EntOk n es) {e : D} (he : SeqN e es) {k : Nat} (hk : k < 4) (g : Sg) : callR 3 d__law_one [.d (codeD n cs), .d e, .d (.int (k : Nat))] g = .ok (due es cs k) g := by
  refine callR_v rfl rfl (ss := [.v (codeD n cs), .v e, .v (.int (k : Nat))]) (RC.eq_ok ?_)
  show (d__law_one [.v (codeD n cs), .v e, .v (.int (k : Nat))]).wp _ _ _
  have e0 := fun g => check_entries_ok (cs := cs) h he g
  have e1 := fun g => cone_fault_ok hC h he g
  have e2 := fun g => bars_from_ok hC h he g
  have hk' : k = 0 ∨ k = 1 ∨ k = 2 ∨ k = 3 := by omega
  unfold d__law_one
  refine def_wp ?_
  rcases hk' with rfl | rfl | rfl | rfl
  · simp [tryM, s_seq, e0, due]
  · simp [tryM, s_seq, e1, due]
  · simp [tryM, s_seq, e2, due]
  · cases ha : above es cs 0 with
    | none =>
      have e3 := fun g => small_ok hC h he ha g
      simp [tryM, s_seq, e3, due, smallA, ha]
    | some p =>
      obtain ⟨k, b⟩ := p
      have e3 := fun g => small_row_above hC h he ha g
      have l1 : List.lookup ("NotCone" : Str) [(("BadCone" : Str), true), ("BadRatio", false), ("NotCone", false)] = some false := by decide
      have l2 : List.lookup ("NotCone" : Str) [(("BadRatio" : Str), false), ("NotCone", true)] = some true := by decide
      have l3 : List.lookup ("NotCone" : Str) [(("NotCone" : Str), true)] = some true := by decide
      have l4 : (("number" : Str) = "bit") = False := by simp only [eq_iff_iff, iff_false]; decide
      simp [tryM, s_seq, e3, tryH, hdT, aboveX, mkE, xfF, isxF, andV, lookD, endX, due, smallA, ha, l1, l2, l3, l4]
theorem ix_get {L : List D} {k : Nat} {x : D} (h : L[k]? = some x) : ixD (.lst L) (.int (k : Nat)) = some x := by
  have hk := (List.getElem?_eq_some_iff.mp h).1
  have i0 : Inhabited D := ⟨.non⟩
  have := ix_lst (xs := L) (f := id) hk
  rw [List.map_id] at this
  rw [this]
  simp [List.getD_eq_getElem?_getD, h]
theorem bad_place_ok (hn : n ≤ 10) (h : BadP n d z) (g : Sg) : callR 2 d__law_bad_place [.d (.int (n : Nat)), .d d] g = .ok (.int z) g := by
  refine callR_v rfl rfl (ss := [.v (.int (n : Nat)), .v d]) (RC.eq_ok ?_)
  show (d__law_bad_place [.v (.int (n : Nat)), .v d]).wp _ _ _
  have ern : rng1D [.int (n : Nat)] = some (nats (List.range n)) := d_rng1 (by omega)
  unfold d__law_bad_place
  refine def_wp ?_
  rcases h with ⟨rfl, h | ⟨ds, rfl, hne, h20⟩⟩ | ⟨p, b, q, rfl, hpn, hb, rfl⟩
  · refine seq_wp ?_
    simp [h]
  · have hne' : ¬ ((ds.length : Int) = (n : Int)) := by omega
    refine seq_wp ?_
    simp [hne', isLstTup]
  · have hl : (nats p ++ b :: q).length = n := by simp; omega
    have hat1 : ∀ i, i < p.length → ixD (.lst (nats p ++ b :: q)) (.int (i : Nat)) = some (.int (p.getD i 0 : Nat)) := fun i hi => by
      have h1 : (nats p ++ b :: q)[i]? = some (.int (p.getD i 0 : Nat)) := by
        rw [List.getElem?_append_left (by simpa using hi)]
        simp [hi]
      exact ix_get h1
    have hat2 : ixD (.lst (nats p ++ b :: q)) (.int (p.length : Nat)) = some b := by
      have h1 : (nats p ++ b :: q)[p.length]? = some b := by
        rw [List.getElem?_append_right (by simp)]; simp
      exact ix_get h1
    generalize nats p ++ b :: q = L at *
    refine seq_wp ?_
    simp [hl, isLstTup]
    refine seq_wp ?_
    simp [ern]
    refine forR (fun k g => k ≤ p.length ∧ (∃ x, g = [.v (.int (n : Nat)), .v (.lst L), x])) n ⟨Nat.zero_le _, _, rfl⟩ ?_ ?_
    · intro k g hk hI
      obtain ⟨hle, x, hg⟩ := hI
      subst hg
      by_cases c : k < p.length
      · have e1 := hat1 k c
        simp [e1]
        omega
      · have c' : k = p.length := by omega
        subst c'
        cases b with
        | int i =>
          have : i < 0 := by simpa [badE] using hb
          simp [hat2, this]
        | obj c ns ds => cases hb
        | emp => cases hb
        | _ => simp [hat2]
    · intro g hI
      obtain ⟨hle, _⟩ := hI
      omega
theorem refused_hs (hC : CodeOk n cs) (hS : HS d__law_spoilt [.v (.lst (nats es))] (fun d => ∃ z, BadP n d z)) : HS d__law_refused [.v (codeD n cs), .v (.int (n : Nat)), .v (.lst (nats es))] (fun d => d = .bl true) := by
  intro h H
  have er : rng1D [.int 4] = some (nats (List.range 4)) := d_rng1 (n := 4) (by decide)
  generalize hEs : nats es = ES at *
  unfold d__law_refused
  refine def_wp ?_
  refine seq_wp ?_
  simp
  refine hS.call rfl H rfl rfl rfl ?_
  rintro d h' ⟨z, hz⟩ H'
  have e1 := fun g => bad_place_ok hC.n2 hz g
  have e2 := fun k (hk : k < 4) g => one_bad hC hz hk g
  simp
  refine seq_wp ?_
  simp [e1]
  refine seq_wp ?_
  simp [er]
  refine forR (fun k g => ∃ x, g = [.ow h', .v (codeD n cs), .v (.int (n : Nat)), .v (.lst ES), .v d, .v (.int z), x]) 4 ⟨_, rfl⟩ ?_ ?_
  · rintro k g hk ⟨x, rfl⟩
    have e3 := e2 k hk
    have k1 : okN 19 (.str (Str.ofString "bad")) = true := by decide +kernel
    simp [e3, k1]
  · rintro g ⟨x, rfl⟩
    simp [H']
end
end K19

set_option Elab.async false
set_option linter.all false
set_option maxRecDepth 100000
set_option maxHeartbeats 4000000
set_option exponentiation.threshold 20000
/-! rows judged; rows spoilt -/
namespace K19
open PySem L2 DL
section
variable {n : Nat} {es : List Nat} {cs : List (List Nat)} {d : D} {z : Int}
theorem due_pl (h : EntOk n es) (hn : n ≤ 10) (k : Nat) : plD 4 (due es cs k) = true := by
  have hl : es.length ≤ 1000 := by rw [h.len]; omega
  have a0 : plD 4 (.tup (nats es)) = true := by
    simp [plD, hl]
  match k with
  | 0 => exact a0
  | 1 =>
    show plD 4 (fmtA (above es cs 0)) = true
    cases above es cs 0 with
    | none => rfl
    | some p => obtain ⟨k, b⟩ := p; rfl
  | 2 => rfl
  | k + 3 =>
    show plD 4 (smallA es cs) = true
    unfold smallA
    cases above es cs 0 with
    | some p =>
      obtain ⟨k, b⟩ := p
      have a1 : (("above" : Str).cps.all (· < 0x110000)) = true := by decide +kernel
      simp [plD, a1]
    | none =>
      have hR : (smallR es).length ≤ 1000 := by unfold smallR; rw [List.length_map]; exact hl
      generalize smallR es = R at *
      simp [plD, hR]
theorem judged_hs (hC : CodeOk n cs) (hCs : CsOk n cs) (h : EntOk n es) : HS d__law_judged [.v (codeD n cs), .v (.lst (lists cs)), .v (.lst (nats es))] (fun d => d = .bl true) := by
  intro hd H
  have er : rng1D [.int 4] = some (nats (List.range 4)) := d_rng1 (n := 4) (by decide)
  have hn := hC.n2
  have hcl : cs.length ≤ 1000 := by have := hC.len; omega
  have e1 := fun g => broken_ok h hCs hcl g
  have e2 := fun g => lbars_ok h hn g
  have e3 := fun g => lsmall_ok h hn hCs hcl g
  have e4 : ∀ {e : D}, SeqN e es → ∀ k, k < 4 → ∀ g, callR 3 d__law_one [.d (codeD n cs), .d e, .d (.int (k : Nat))] g = .ok (due es cs k) g := fun he k hk g => one_ok hC h he hk g
  have e5 := fun k g => exact_self (due_pl (cs := cs) h hn k) g
  have hdue : due es cs 0 = .tup (nats es) ∧ due es cs 1 = fmtA (above es cs 0) ∧ due es cs 2 = .int (barsN es : Nat) ∧ due es cs 3 = smallA es cs := ⟨rfl, rfl, rfl, rfl⟩
  have hok : (nats es).all (okN 19) = true := okN_nats
  have ht : tupleD [.lst (nats es)] = some (.tup (nats es)) := rfl
  unfold d__law_judged
  refine def_wp ?_
  refine seq_wp ?_
  simp
  refine (list_hs (e := .lst (nats es)) (ds := nats es) rfl rfl).call rfl H rfl rfl rfl ?_
  rintro e h' he' H'
  have he : SeqN e es := he'
  have e6 := e4 he
  have hL : listD [e] = some (nats es) := by rcases he with rfl | rfl <;> rfl
  simp
  refine seq_wp ?_
  simp [e1, e2, e3, ht]
  rw [← hdue.1, ← hdue.2.1, ← hdue.2.2.1, ← hdue.2.2.2]
  have ixd : ∀ k, k < 4 → ixD (.lst [due es cs 0, due es cs 1, due es cs 2, due es cs 3]) (.int (k : Nat)) = some (due es cs k) := fun k hk => ix_get (by
    have hk' : k = 0 ∨ k = 1 ∨ k = 2 ∨ k = 3 := by omega
    rcases hk' with rfl | rfl | rfl | rfl <;> rfl)
  clear e1 e2 e3 hdue
  generalize [due es cs 0, due es cs 1, due es cs 2, due es cs 3] = DL at *
  refine seq_wp ?_
  simp [er]
  refine forR (fun k g => ∃ x, g = [.ow h', .v (codeD n cs), .v (.lst (lists cs)), .v (.lst (nats es)), .v e, .v (.lst DL), x]) 4 ⟨_, rfl⟩ ?_ ?_
  · rintro k g hk ⟨x, rfl⟩
    have f1 := e6 k hk
    have f2 := ixd k hk
    have f3 := e5 k
    generalize due es cs k = dk at *
    simp [f1, f2, f3, hL]
  · rintro g ⟨x, rfl⟩
    simp [H']
end
end K19

set_option Elab.async false
set_option linter.all false
set_option maxRecDepth 100000
set_option maxHeartbeats 4000000
set_option exponentiation.threshold 20000
/-! rows spoilt -/
namespace K19
open PySem L2 DL
section
variable {n : Nat} {es : List Nat} {cs : List (List Nat)} {d : D} {z : Int}
def entE (d : D) : Prop := (∃ m : Nat, d = .int (m : Nat)) ∨ badE d = true
theorem first_bad : ∀ {ds : List D}, (∀ d ∈ ds, entE d) → (∃ d ∈ ds, badE d = true) → ∃ (p : List Nat) (b : D) (q : List D), ds = nats p ++ b :: q ∧ badE b = true
  | [], _, h => by obtain ⟨d, hd, _⟩ := h; cases hd
  | d :: ds, h, hx => by
    by_cases c : badE d = true
    · exact ⟨[], d, ds, rfl, c⟩
    · rcases h d List.mem_cons_self with ⟨m, rfl⟩ | h1
      · obtain ⟨e, he, hb⟩ := hx
        have he' : e ∈ ds := by
          rcases List.mem_cons.mp he with rfl | q
          · exact absurd hb c
          · exact q
        obtain ⟨p, b, q, e1, e2⟩ := first_bad (fun x hx => h x (List.mem_cons_of_mem _ hx)) ⟨e, he', hb⟩
        exact ⟨m :: p, b, q, by rw [e1]; rfl, e2⟩
      · exact absurd h1 c
theorem bad_of {ds : List D} (hl : ds.length = n) (h : ∀ d ∈ ds, entE d) (hx : ∃ d ∈ ds, badE d = true) : ∃ z, BadP n (.lst ds) z := by
  obtain ⟨p, b, q, e1, e2⟩ := first_bad h hx
  refine ⟨p.length, .inr ⟨p, b, q, by rw [e1], ?_, e2, rfl⟩⟩
  rw [e1] at hl
  simp at hl
  omega
theorem odd_whole_hs (h : EntOk n es) (h1 : 1 ≤ n) (h10 : n ≤ 10) : HS d__law_odd_whole [.v (.lst (nats es))] (fun d => ∃ z, BadP n d z) := by
  intro hd H
  have hl := h.len
  have i0 : ixD (.lst (nats es)) (.int 0) = some (.int (es.getD 0 0 : Nat)) := ix_nL (k := 0) (by omega)
  have hnl : es.length ≤ sizeLine := by rw [sizeLine_eq]; omega
  unfold d__law_odd_whole
  refine def_wp ?_
  have b1 : ∀ d, isLstTup d = some false → ∃ z, BadP n d z := fun d h => ⟨-1, .inl ⟨rfl, .inl h⟩⟩
  have b2 : ∀ ds : List D, ds.length ≠ n → ds.length ≤ 20 → ∃ z, BadP n (.lst ds) z := fun ds h1 h2 => ⟨-1, .inl ⟨rfl, .inr ⟨ds, rfl, h1, h2⟩⟩⟩
  have c1 : (cut (nats es) (some 1) none).length = n - 1 := by
    rw [show ((1 : Int)) = ((1 : Nat) : Int) from rfl, cut_from (by simp; omega)]
    simp [hl]
  have c2 : (nats es ++ [D.int ((es.getD 0 0 : Nat))]).length = n + 1 := by simp [hl]
  simp [i0]
  simp at c2
  generalize cut (nats es) (some 1) none = L1 at *
  have tab : ∀ v, v < 6 → ∃ x, ([D.non, D.str (Str.ofString "01"), D.lst (nats es ++ [D.int ((es[0]?.getD 0 : Nat))]), D.lst L1, D.int 3, D.emp] : List D)[v]? = some x ∧ ∃ z, BadP n x z := fun v hv => by
    have hv' : v = 0 ∨ v = 1 ∨ v = 2 ∨ v = 3 ∨ v = 4 ∨ v = 5 := by omega
    rcases hv' with rfl | rfl | rfl | rfl | rfl | rfl
    · exact ⟨_, rfl, b1 _ rfl⟩
    · exact ⟨_, rfl, b1 _ rfl⟩
    · exact ⟨_, rfl, b2 _ (by simp [hl]) (by simp [hl]; omega)⟩
    · exact ⟨_, rfl, b2 _ (by omega) (by omega)⟩
    · exact ⟨_, rfl, b1 _ rfl⟩
    · exact ⟨_, rfl, b1 _ rfl⟩
  generalize ([D.non, D.str (Str.ofString "01"), D.lst (nats es ++ [D.int ((es[0]?.getD 0 : Nat))]), D.lst L1, D.int 3, D.emp] : List D) = T at *
  refine ⟨fun _ => take_lit rfl H rfl ?_, by omega⟩
  intro v h' hv H'
  obtain ⟨x, hx, hz⟩ := tab v (by omega)
  have e1 : ixD (.tup T) (.int (v : Nat)) = some x := ix_get hx
  simp [e1, H', hz]
theorem spoilt_hs (h : EntOk n es) (h1 : 1 ≤ n) (h10 : n ≤ 10) : HS d__law_spoilt [.v (.lst (nats es))] (fun d => ∃ z, BadP n d z) := by
  intro hd H
  have hl := h.len
  have ho := odd_whole_hs h h1 h10
  have hE : ∀ d ∈ nats es, entE d := fun d hd => by
    obtain ⟨m, _, rfl⟩ := List.mem_map.mp hd
    exact .inl ⟨m, rfl⟩
  have hlN : (nats es).length = n := by simp [hl]
  have hL : listD [.lst (nats es)] = some (nats es) := rfl
  generalize nats es = ES at *
  unfold d__law_spoilt
  refine def_wp ?_
  refine seq_wp ?_
  simp
  refine take_lit rfl H rfl ?_
  intro v h' hv H'
  by_cases c : v = 0
  · simp [c]
    refine ho.call rfl H' rfl rfl rfl ?_
    rintro d h2 hz H2
    simp [hz, H2]
  · simp [c]
    refine seq_wp ?_
    simp [hL]
    refine seq_wp ?_
    simp
    refine take_lit rfl H' rfl ?_
    intro v2 h2 hv2 H2
    have er : rng1D [.int (1 + (v2 : Int))] = some (nats (List.range (1 + v2))) := d_rng1 (n := 1 + v2) (by omega)
    simp [er]
    refine forR (fun k g => ∃ ds hh x y, g = [.ow hh, .v (.lst ES), .ow ds, x, y] ∧ IsHand hh ∧ ds.length = n ∧ (∀ d ∈ ds, entE d) ∧ (0 < k → ∃ d ∈ ds, badE d = true)) (1 + v2) ⟨ES, h2, _, _, rfl, H2, hlN, hE, fun z => absurd z (by omega)⟩ ?_ ?_
    · rintro k g hk ⟨ds, hh, x, y, rfl, HH, hdl, hde, hdb⟩
      simp
      refine seq_wp ?_
      simp [hdl]
      refine take_wp rfl HH h1 (big8000 (by omega)) ?_
      intro w h3 hw H3
      have ep : powD (.int 10) (.int 20) = some (.int 100000000000000000000) := rfl
      simp [ep]
      have tab : ∀ v, v < 8 → ∃ x, ([D.bl true, D.bl false, D.int (-1), D.non, D.str (Str.ofString "1"), D.tup [D.int 1, D.int 1], D.lst [D.int 0], D.int (-100000000000000000000)] : List D)[v]? = some x ∧ badE x = true := fun v hv => by
        have hv' : v = 0 ∨ v = 1 ∨ v = 2 ∨ v = 3 ∨ v = 4 ∨ v = 5 ∨ v = 6 ∨ v = 7 := by omega
        rcases hv' with rfl | rfl | rfl | rfl | rfl | rfl | rfl | rfl <;> exact ⟨_, rfl, rfl⟩
      generalize ([D.bl true, D.bl false, D.int (-1), D.non, D.str (Str.ofString "1"), D.tup [D.int 1, D.int 1], D.lst [D.int 0], D.int (-100000000000000000000)] : List D) = T at *
      refine take_lit rfl H3 rfl ?_
      intro u h4 hu H4
      obtain ⟨x, hx, hbx⟩ := tab u (by omega)
      have e1 : ixD (.tup T) (.int (u : Nat)) = some x := ix_get hx
      have e2 : ixN n (w : Nat) = some w := ixN_nat (by omega)
      simp [e1, hdl, e2]
      refine ⟨ds.set w x, h4, ⟨rfl, rfl⟩, H4, by simp [hdl], fun y hy => ?_, x, List.mem_set (by omega) x, hbx⟩
      rcases List.mem_or_eq_of_mem_set hy with q | rfl
      · exact hde y q
      · exact .inr hbx
    · rintro g ⟨ds, hh, x, y, rfl, HH, hdl, hde, hdb⟩
      have := bad_of hdl hde (hdb (by omega))
      simp [HH, this]
end
end K19

set_option Elab.async false
set_option linter.all false
set_option maxRecDepth 100000
set_option maxHeartbeats 4000000
set_option exponentiation.threshold 20000
/-! the law -/
namespace K19
open PySem L2 DL
@[simp] theorem s_mk {cn : Str} {n : Nat} {dn : Dn} {dfs : List D} {fa : FV} {g : Sg} : mkF cn n dn dfs fa g = (fa g).bd fun as g1 => mkR cn n dn (as ++ dfs.map AV.d) g1 := rfl
theorem law_wp {ns : List Int} (hl : ns.length ≤ 63) (hb : ∀ z ∈ ns, BB 1048576 z) : (d_law [.v (.lst (intz ns))]).wp E0 F0 (fun d _ => d = .bl true) := by
  obtain ⟨h, eh, H⟩ := hand_ok hl hb [.v (.lst (intz ns)), .un, .un, .un, .un, .un, .un, .un, .un, .un]
  generalize hL : intz ns = L at *
  unfold d_law
  refine def_wp ?_
  refine seq_wp ?_
  simp [eh]
  have er : rng1D [.int 3] = some (nats (List.range 3)) := d_rng1 (n := 3) (by decide)
  generalize nats (List.range 3) = LL at er
  refine seq_wp ?_
  simp [er]
  refine forA (fun g => ∃ (h : List D) (s2 s3 s4 s5 s6 s7 s8 s9 : S), g = [.v (.lst L), .ow h, s2, s3, s4, s5, s6, s7, s8, s9] ∧ IsHand h) LL ⟨h, _, _, _, _, _, _, _, _, rfl, H⟩ ?_ ?_
  · rintro d g _ ⟨h, s2, s3, s4, s5, s6, s7, s8, s9, rfl, H⟩
    simp
    refine seq_wp ?_
    simp
    refine HS.call (bits_hs (m := 8) (by decide)) rfl H rfl rfl rfl ?_
    rintro d1 h1 ⟨n, rfl, hn1, hn8⟩ H1
    simp
    refine seq_wp ?_
    simp
    refine HF.callF (checks_hf (n := n) hn1 (by omega)) rfl H1 rfl rfl rfl ?_
    rintro ds h2 ⟨cs, rfl, hcl, hcs⟩ H2
    have hC : CodeOk n cs := ⟨hn1, by omega, by omega, hcs⟩
    have eC := fun (e : D) (he : e = .lst (lists cs) ∨ e = .tup (lists cs)) g => code_ok hC (e := e) (es := lists cs) he (by simp) (fun k d c hd hc => by
      rw [List.getElem?_map, hc] at hd
      injection hd with hd
      exact .inl hd.symm) g
    simp
    refine seq_wp ?_
    simp
    refine (list_hs (e := .lst (lists cs)) (ds := lists cs) rfl rfl).call rfl H2 rfl rfl rfl ?_
    rintro e h3 he H3
    have eC' := eC e he
    simp [eC']
    clear eC eC' he
    have ern : rng1D [.int (n : Nat)] = some (nats (List.range n)) := d_rng1 (by omega)
    have hnl : n ≤ sizeLine := by rw [sizeLine_eq]; omega
    have hcl2 : cs.length ≤ 1000 := by omega
    generalize hCC : lists cs = CC at *
    refine seq_wp ?_
    simp [ern, hnl, wipeG]
    refine lc_draw (n := n) (p := fun e => e ≤ 9) (fun g => ∃ h, g = [.v (.lst L), .ow h, .v d, .v (.int (n : Nat)), .v (.lst CC), .v (codeD n cs), s6, .un, s8, s9] ∧ IsHand h) ⟨h3, rfl, H3⟩ ?_ ?_ (by omega)
    · rintro d' g ⟨h, rfl, H⟩
      simp
      refine take_lit rfl H rfl ?_
      intro v h' hv H'
      simp
      exact ⟨v, rfl, by omega, H'⟩
    · rintro es0 g hlen0 hes0 ⟨h4, rfl, H4⟩
      simp
      refine seq_cut (fun g => ∃ (h : List D) (es : List Nat) (s7 s8 s9 : S), g = [.v (.lst L), .ow h, .v d, .v (.int (n : Nat)), .v (.lst CC), .v (codeD n cs), .ow (nats es), s7, s8, s9] ∧ IsHand h ∧ es.length = n ∧ ∀ e ∈ es, e ≤ 9) ?_ ?_
      · simp
        refine take_lit rfl H4 rfl ?_
        intro v h5 hv H5
        simp
        refine ⟨fun c => ?_, fun c => ⟨h5, es0, ⟨rfl, rfl⟩, H5, hlen0, hes0⟩⟩
        refine HF.callF (cone_row_hf (n := n) (by omega) hcs hcl2) rfl H5 rfl rfl (by rw [hCC]; rfl) ?_
        rintro ds h6 ⟨es, rfl, hlen, hes⟩ H6
        simp
        exact ⟨h6, es, ⟨rfl, rfl⟩, H6, hlen, hes⟩
      · rintro g ⟨h5, es1, s7, s8, s9, rfl, H5, hlen1, hes1⟩
        refine seq_cut (fun g => ∃ (h : List D) (es : List Nat) (s7 s8 s9 : S), g = [.v (.lst L), .ow h, .v d, .v (.int (n : Nat)), .v (.lst CC), .v (codeD n cs), .ow (nats es), s7, s8, s9] ∧ IsHand h ∧ es.length = n ∧ ∀ e ∈ es, e ≤ 10) ?_ ?_
        · simp
          refine take_lit rfl H5 rfl ?_
          intro v h6 hv H6
          simp
          refine ⟨fun c => ?_, fun c => ⟨h6, es1, ⟨rfl, rfl⟩, H6, hlen1, fun e he => Nat.le_succ_of_le (hes1 e he)⟩⟩
          simp [augIS]
          refine take_wp rfl H6 hn1 (big8000 (by omega)) ?_
          intro w h7 hw H7
          have a1 : atI (nats es1) (w : Nat) = some (.int (es1.getD w 0 : Nat)) := ix_nL (by omega)
          have a2 : ixN (nats es1).length (w : Nat) = some w := ixN_nat (by simp; omega)
          have a3 : (nats es1).set w (.int ((es1.getD w 0 : Nat) + 1)) = nats (es1.set w (es1.getD w 0 + 1)) := by
            show _ = (es1.set w (es1.getD w 0 + 1)).map fun (n : Nat) => D.int (n : Nat)
            rw [List.map_set]; rfl
          have a4 : es1.getD w 0 ≤ 9 := by
            rw [List.getD_eq_getElem?_getD, List.getElem?_eq_getElem (by omega)]
            exact hes1 _ (List.getElem_mem _)
          have a5 : ∀ e ∈ es1.set w (es1.getD w 0 + 1), e ≤ 10 := fun e he => by
            rcases List.mem_or_eq_of_mem_set he with q | rfl
            · exact Nat.le_succ_of_le (hes1 e q)
            · omega
          have a6 : (es1.set w (es1.getD w 0 + 1)).length = n := by rw [List.length_set]; exact hlen1
          generalize es1.set w (es1.getD w 0 + 1) = es2 at *
          generalize es1.getD w 0 = y at *
          generalize nats es1 = N1 at *
          simp only [s_gat0, s_gatS, a1, a2, a3, List.set]
          exact ⟨h7, es2, ⟨_, _, _, rfl⟩, H7, a6, a5⟩
        · rintro g ⟨h6, es2, s7, s8, s9, rfl, H6, hlen2, hes2⟩
          refine seq_wp ?_
          have ep : powD (.int 10) (.int 20) = some (.int 100000000000000000000) := rfl
          simp [ep]
          refine take_lit rfl H6 rfl ?_
          intro v h7 hv H7
          have tab : ∃ x : Nat, ixD (.tup [.int 1, .int 1, .int 1, .int 7, .int 100000000000000000000]) (.int (v : Nat)) = some (.int (x : Nat)) ∧ x ≤ 100000000000000000000 := by
            have hv' : v = 0 ∨ v = 1 ∨ v = 2 ∨ v = 3 ∨ v = 4 := by omega
            rcases hv' with rfl | rfl | rfl | rfl | rfl
            · exact ⟨1, by rfl, by omega⟩
            · exact ⟨1, by rfl, by omega⟩
            · exact ⟨1, by rfl, by omega⟩
            · exact ⟨7, by rfl, by omega⟩
            · exact ⟨100000000000000000000, by rfl, by omega⟩
          obtain ⟨x, hx, hxb⟩ := tab
          simp [hx]
          refine seq_wp ?_
          have key : lcL (tgN 9) yesB (op2F mulD (varF 8) (varF 9)) [9] (nats es2) [] [.v (.lst L), .ow h7, .v d, .v (.int (n : Nat)), .v (.lst CC), .v (codeD n cs), .v (.lst (nats es2)), s7, .v (.int (x : Nat)), .un] = .ok (nats (es2.map fun e => x * e)) [.v (.lst L), .ow h7, .v d, .v (.int (n : Nat)), .v (.lst CC), .v (codeD n cs), .v (.lst (nats es2)), s7, .v (.int (x : Nat)), .un] := by
            rw [nats_map]
            refine lc_all (fun n : Nat => D.int (n : Nat)) _ _ fun b hb => ⟨[.v (.lst L), .ow h7, .v d, .v (.int (n : Nat)), .v (.lst CC), .v (codeD n cs), .v (.lst (nats es2)), s7, .v (.int (x : Nat)), .v (.int (b : Nat))], by simp, rfl, ?_, by simp [wipeG]⟩
            have e1 : mulD (.int (x : Nat)) (.int (b : Nat)) = some (.int ((x * b : Nat))) := mul_nat (b := 100) (by
              have h1 := hes2 b hb
              have h2 : x * b ≤ 100000000000000000000 * 10 := Nat.mul_le_mul hxb h1
              omega)
            simp only [s_op2, s_var, s_gat0, s_gatS, R.bd_ok, e1, opt_some]
          have hE : EntOk n (es2.map fun e => x * e) := ⟨by rw [List.length_map]; exact hlen2, fun e he => by
            obtain ⟨y, hy, rfl⟩ := List.mem_map.mp he
            have h1 := hes2 y hy
            have h2 : x * y ≤ 100000000000000000000 * 10 := Nat.mul_le_mul hxb h1
            exact Nat.lt_of_lt_of_le (show x * y < 2 ^ 100 by omega) (Nat.pow_le_pow_right (by decide) (by decide))⟩
          have hl2 : (nats es2).length ≤ sizeLine := by simp; omega
          have J := judged_hs hC hcs hE
          have R0 := refused_hs (es := es2.map fun e => x * e) hC (spoilt_hs hE hn1 hC.n2)
          rw [hCC] at J
          generalize nats (es2.map fun e => x * e) = NE at *
          generalize nats es2 = N2 at *
          simp [hl2, wipeG, key]
          refine seq_wp ?_
          simp
          refine HS.call J rfl H7 rfl rfl rfl ?_
          rintro d1 h8 rfl H8
          simp
          refine HS.call R0 rfl H8 rfl rfl rfl ?_
          rintro d1 h9 rfl H9
          simp
          refine HS.call J rfl H9 rfl rfl rfl ?_
          rintro d1 h10 rfl H10
          simp
          exact H10
  · rintro g ⟨h, s2, s3, s4, s5, s6, s7, s8, s9, rfl, H⟩
    simp
theorem law_ok : LawOk d_law := fun ns hl hb => by
  have h := law_wp hl fun z hz => bits_bb (hb z hz)
  generalize d_law [.v (.lst (intz ns))] = r at h
  cases r with
  | ok d as =>
    have : d = .bl true := h
    subst this
    exact ⟨as, rfl⟩
  | okf d as => exact h.elim
  | ex e as => exact h.elim
  | no => exact h.elim
end K19

set_option Elab.async false
set_option linter.all false
set_option maxRecDepth 100000
set_option maxHeartbeats 0
/-! what the top has written (printed by gen.py) -/
namespace K19
open PySem L2 PySem.Spec PyProof.Rows DL
theorem all_mk {P : Program} {w : World} {K : PySem.W.Frag} {h : Heap} {mg : Str → Option Value} {fa : Addr} (X : K.In h) (G : h.Ns mainGlobals mg) (hfa : mg "law" = some (.ref fa))
  {f0 : Addr}
  {oc0 kV0 dc0 pm0 cd0 ct0 : Value}
  {od0 an0 : Option Addr}
  {sl0 : Array (Option Value)}
  {f1 : Addr}
  {oc1 kV1 dc1 pm1 cd1 ct1 : Value}
  {od1 an1 : Option Addr}
  {sl1 : Array (Option Value)}
  {f2 : Addr}
  {oc2 kV2 dc2 pm2 cd2 ct2 : Value}
  {od2 an2 : Option Addr}
  {sl2 : Array (Option Value)}
  {f3 : Addr}
  {oc3 kV3 dc3 pm3 cd3 ct3 : Value}
  {od3 an3 : Option Addr}
  {sl3 : Array (Option Value)}
  {f4 : Addr}
  {oc4 kV4 dc4 pm4 cd4 ct4 : Value}
  {od4 an4 : Option Addr}
  {sl4 : Array (Option Value)}
  {f5 : Addr}
  {oc5 kV5 dc5 pm5 cd5 ct5 : Value}
  {od5 an5 : Option Addr}
  {sl5 : Array (Option Value)}
  {f6 : Addr}
  {oc6 kV6 dc6 pm6 cd6 ct6 : Value}
  {od6 an6 : Option Addr}
  {sl6 : Array (Option Value)}
  {T6 : Addr} {ocT6 : Value} {odT6 : Option Addr} {nT6 : Nat} {slT6 : Array (Option Value)}
  {f7 : Addr}
  {oc7 kV7 dc7 pm7 cd7 ct7 : Value}
  {od7 an7 : Option Addr}
  {sl7 : Array (Option Value)}
  {f8 : Addr}
  {oc8 kV8 dc8 pm8 cd8 ct8 : Value}
  {od8 an8 : Option Addr}
  {sl8 : Array (Option Value)}
  {f9 : Addr}
  {oc9 kV9 dc9 pm9 cd9 ct9 : Value}
  {od9 an9 : Option Addr}
  {sl9 : Array (Option Value)}
  {f10 : Addr}
  {oc10 kV10 dc10 pm10 cd10 ct10 : Value}
  {od10 an10 : Option Addr}
  {sl10 : Array (Option Value)}
  {f11 : Addr}
  {oc11 kV11 dc11 pm11 cd11 ct11 : Value}
  {od11 an11 : Option Addr}
  {sl11 : Array (Option Value)}
  {f12 : Addr}
  {oc12 kV12 dc12 pm12 cd12 ct12 : Value}
  {od12 an12 : Option Addr}
  {sl12 : Array (Option Value)}
  {f13 : Addr}
  {oc13 kV13 dc13 pm13 cd13 ct13 : Value}
  {od13 an13 : Option Addr}
  {sl13 : Array (Option Value)}
  {f14 : Addr}
  {oc14 kV14 dc14 pm14 cd14 ct14 : Value}
  {od14 an14 : Option Addr}
  {sl14 : Array (Option Value)}
  {f15 : Addr}
  {oc15 kV15 dc15 pm15 cd15 ct15 : Value}
  {od15 an15 : Option Addr}
  {sl15 : Array (Option Value)}
  {f16 : Addr}
  {oc16 kV16 dc16 pm16 cd16 ct16 : Value}
  {od16 an16 : Option Addr}
  {sl16 : Array (Option Value)}
  {f17 : Addr}
  {oc17 kV17 dc17 pm17 cd17 ct17 : Value}
  {od17 an17 : Option Addr}
  {sl17 : Array (Option Value)}
  {f18 : Addr}
  {oc18 kV18 dc18 pm18 cd18 ct18 : Value}
  {od18 an18 : Option Addr}
  {sl18 : Array (Option Value)}
  {f19 : Addr}
  {oc19 kV19 dc19 pm19 cd19 ct19 : Value}
  {od19 an19 : Option Addr}
  {sl19 : Array (Option Value)}
  {f20 : Addr}
  {oc20 kV20 dc20 pm20 cd20 ct20 : Value}
  {od20 an20 : Option Addr}
  {sl20 : Array (Option Value)}
  {f21 : Addr}
  {oc21 kV21 dc21 pm21 cd21 ct21 : Value}
  {od21 an21 : Option Addr}
  {sl21 : Array (Option Value)}
  {f22 : Addr}
  {oc22 kV22 dc22 pm22 cd22 ct22 : Value}
  {od22 an22 : Option Addr}
  {sl22 : Array (Option Value)}
  {f23 : Addr}
  {oc23 kV23 dc23 pm23 cd23 ct23 : Value}
  {od23 an23 : Option Addr}
  {sl23 : Array (Option Value)}
  {f24 : Addr}
  {oc24 kV24 dc24 pm24 cd24 ct24 : Value}
  {od24 an24 : Option Addr}
  {sl24 : Array (Option Value)}
  {T24 : Addr} {ocT24 : Value} {odT24 : Option Addr} {nT24 : Nat} {slT24 : Array (Option Value)}
  {tk24_0 : Tok}
  {f25 : Addr}
  {oc25 kV25 dc25 pm25 cd25 ct25 : Value}
  {od25 an25 : Option Addr}
  {sl25 : Array (Option Value)}
  {f26 : Addr}
  {oc26 kV26 dc26 pm26 cd26 ct26 : Value}
  {od26 an26 : Option Addr}
  {sl26 : Array (Option Value)}
  {f27 : Addr}
  {oc27 kV27 dc27 pm27 cd27 ct27 : Value}
  {od27 an27 : Option Addr}
  {sl27 : Array (Option Value)}
  {f28 : Addr}
  {oc28 kV28 dc28 pm28 cd28 ct28 : Value}
  {od28 an28 : Option Addr}
  {sl28 : Array (Option Value)}
  {f29 : Addr}
  {oc29 kV29 dc29 pm29 cd29 ct29 : Value}
  {od29 an29 : Option Addr}
  {sl29 : Array (Option Value)}
  {f30 : Addr}
  {oc30 kV30 dc30 pm30 cd30 ct30 : Value}
  {od30 an30 : Option Addr}
  {sl30 : Array (Option Value)}
  {f31 : Addr}
  {oc31 kV31 dc31 pm31 cd31 ct31 : Value}
  {od31 an31 : Option Addr}
  {sl31 : Array (Option Value)}
  {f32 : Addr}
  {oc32 kV32 dc32 pm32 cd32 ct32 : Value}
  {od32 an32 : Option Addr}
  {sl32 : Array (Option Value)}
  {f33 : Addr}
  {oc33 kV33 dc33 pm33 cd33 ct33 : Value}
  {od33 an33 : Option Addr}
  {sl33 : Array (Option Value)}
  {f34 : Addr}
  {oc34 kV34 dc34 pm34 cd34 ct34 : Value}
  {od34 an34 : Option Addr}
  {sl34 : Array (Option Value)}
  {tq0_0 : Tok}
  {tq0_1 : Tok}
  {q0 : Addr} {odq0 : Option Addr} {nq0 : Nat} {slq0 : Array (Option Value)}
  {tq1 : Tok}
  {tq2 : Tok}
  {K0 : Addr}
  {C0 : Addr}
  {C1 : Addr}
  {C2 : Addr}
  {C3 : Addr}
  {C4 : Addr}
  {nm1 qn1 : Str} {N1 : Addr} {bs1 : List Value} {sn1 : List Str} {sub1 : List Value} {ab1 : Bool} {col1 : Option Bool} {dd1 : Option Addr} {m01 m11 m21 m31 m51 : Option Value}
  {g1 : Addr} {goc1 gkV1 gdc1 gpm1 gcd1 gct1 : Value} {god1 gan1 : Option Addr} {gsl1 : Array (Option Value)}
  {nm2 qn2 : Str} {N2 : Addr} {bs2 : List Value} {sn2 : List Str} {sub2 : List Value} {ab2 : Bool} {col2 : Option Bool} {dd2 : Option Addr} {m02 m12 m22 m32 m52 : Option Value}
  {g2 : Addr} {goc2 gkV2 gdc2 gpm2 gcd2 gct2 : Value} {god2 gan2 : Option Addr} {gsl2 : Array (Option Value)}
  {nm3 qn3 : Str} {N3 : Addr} {bs3 : List Value} {sn3 : List Str} {sub3 : List Value} {ab3 : Bool} {col3 : Option Bool} {dd3 : Option Addr} {m03 m13 m23 m33 m53 : Option Value}
  {g3 : Addr} {goc3 gkV3 gdc3 gpm3 gcd3 gct3 : Value} {god3 gan3 : Option Addr} {gsl3 : Array (Option Value)}
  {nm4 qn4 : Str} {N4 : Addr} {bs4 : List Value} {sn4 : List Str} {sub4 : List Value} {ab4 : Bool} {col4 : Option Bool} {dd4 : Option Addr} {m04 m14 m24 m34 m54 : Option Value}
  {g4 : Addr} {goc4 gkV4 gdc4 gpm4 gcd4 gct4 : Value} {god4 gan4 : Option Addr} {gsl4 : Array (Option Value)}
  (a0 : PySem.W.nsIn K mainGlobals "_law_hand" = some (some (.ref f0)))
  (l0 : K.lookup f0 = some ⟨oc0, od0, .func (PySem.W.fnOf "_law_hand" "_law_hand" (defArgs s__law_hand) (defBody s__law_hand) (defScope s__law_hand) .none kV0 dc0 pm0 an0 cd0 ct0), sl0⟩)
  (c0 : PySem.W.codeIn K cd0 "_law_hand" = true)
  (k0 : PySem.W.keepIn K (.ref f0) = true)
  (a1 : PySem.W.nsIn K mainGlobals "_law_mixed" = some (some (.ref f1)))
  (l1 : K.lookup f1 = some ⟨oc1, od1, .func (PySem.W.fnOf "_law_mixed" "_law_mixed" (defArgs s__law_mixed) (defBody s__law_mixed) (defScope s__law_mixed) .none kV1 dc1 pm1 an1 cd1 ct1), sl1⟩)
  (c1 : PySem.W.codeIn K cd1 "_law_mixed" = true)
  (k1 : PySem.W.keepIn K (.ref f1) = true)
  (a2 : PySem.W.nsIn K mainGlobals "_law_take" = some (some (.ref f2)))
  (l2 : K.lookup f2 = some ⟨oc2, od2, .func (PySem.W.fnOf "_law_take" "_law_take" (defArgs s__law_take) (defBody s__law_take) (defScope s__law_take) .none kV2 dc2 pm2 an2 cd2 ct2), sl2⟩)
  (c2 : PySem.W.codeIn K cd2 "_law_take" = true)
  (k2 : PySem.W.keepIn K (.ref f2) = true)
  (a3 : PySem.W.nsIn K mainGlobals "_law_bits" = some (some (.ref f3)))
  (l3 : K.lookup f3 = some ⟨oc3, od3, .func (PySem.W.fnOf "_law_bits" "_law_bits" (defArgs s__law_bits) (defBody s__law_bits) (defScope s__law_bits) .none kV3 dc3 pm3 an3 cd3 ct3), sl3⟩)
  (c3 : PySem.W.codeIn K cd3 "_law_bits" = true)
  (k3 : PySem.W.keepIn K (.ref f3) = true)
  (a4 : PySem.W.nsIn K mainGlobals "_law_lot" = some (some (.ref f4)))
  (l4 : K.lookup f4 = some ⟨oc4, od4, .func (PySem.W.fnOf "_law_lot" "_law_lot" (defArgs s__law_lot) (defBody s__law_lot) (defScope s__law_lot) .none kV4 dc4 pm4 an4 cd4 ct4), sl4⟩)
  (c4 : PySem.W.codeIn K cd4 "_law_lot" = true)
  (k4 : PySem.W.keepIn K (.ref f4) = true)
  (a5 : PySem.W.nsIn K mainGlobals "_law_checks" = some (some (.ref f5)))
  (l5 : K.lookup f5 = some ⟨oc5, od5, .func (PySem.W.fnOf "_law_checks" "_law_checks" (defArgs s__law_checks) (defBody s__law_checks) (defScope s__law_checks) .none kV5 dc5 pm5 an5 cd5 ct5), sl5⟩)
  (c5 : PySem.W.codeIn K cd5 "_law_checks" = true)
  (k5 : PySem.W.keepIn K (.ref f5) = true)
  (a6 : PySem.W.nsIn K mainGlobals "is_whole" = some (some (.ref f6)))
  (l6 : K.lookup f6 = some ⟨oc6, od6, .func (PySem.W.fnOf "is_whole" "is_whole" (defArgs s_is_whole) (defBody s_is_whole) (defScope s_is_whole) (.ref T6) kV6 dc6 pm6 an6 cd6 ct6), sl6⟩)
  (lT6 : K.lookup T6 = some ⟨ocT6, odT6, .seq #[.none, .none] nT6, slT6⟩)
  (c6 : PySem.W.codeIn K cd6 "is_whole" = true)
  (k6 : PySem.W.keepIn K (.ref f6) = true)
  (a7 : PySem.W.nsIn K mainGlobals "is_sequence" = some (some (.ref f7)))
  (l7 : K.lookup f7 = some ⟨oc7, od7, .func (PySem.W.fnOf "is_sequence" "is_sequence" (defArgs s_is_sequence) (defBody s_is_sequence) (defScope s_is_sequence) .none kV7 dc7 pm7 an7 cd7 ct7), sl7⟩)
  (c7 : PySem.W.codeIn K cd7 "is_sequence" = true)
  (k7 : PySem.W.keepIn K (.ref f7) = true)
  (a8 : PySem.W.nsIn K mainGlobals "lot_of" = some (some (.ref f8)))
  (l8 : K.lookup f8 = some ⟨oc8, od8, .func (PySem.W.fnOf "lot_of" "lot_of" (defArgs s_lot_of) (defBody s_lot_of) (defScope s_lot_of) .none kV8 dc8 pm8 an8 cd8 ct8), sl8⟩)
  (c8 : PySem.W.codeIn K cd8 "lot_of" = true)
  (k8 : PySem.W.keepIn K (.ref f8) = true)
  (aK0 : PySem.W.nsIn K mainGlobals "Code" = some (some (.ref K0)))
  (inK0 : PySem.W.findIn K (.ref K0) "__init__" = some (some (.ref f9)))
  (l9 : K.lookup f9 = some ⟨oc9, od9, .func (PySem.W.fnOf "__init__" "Code.__init__" (defArgs s_Code__init__) (defBody s_Code__init__) (defScope s_Code__init__) .none kV9 dc9 pm9 an9 cd9 ct9), sl9⟩)
  (c9 : PySem.W.codeIn K cd9 "Code.__init__" = true)
  (k9 : PySem.W.keepIn K (.ref f9) = true)
  (a10 : PySem.W.nsIn K mainGlobals "_law_list" = some (some (.ref f10)))
  (l10 : K.lookup f10 = some ⟨oc10, od10, .func (PySem.W.fnOf "_law_list" "_law_list" (defArgs s__law_list) (defBody s__law_list) (defScope s__law_list) .none kV10 dc10 pm10 an10 cd10 ct10), sl10⟩)
  (c10 : PySem.W.codeIn K cd10 "_law_list" = true)
  (k10 : PySem.W.keepIn K (.ref f10) = true)
  (a11 : PySem.W.nsIn K mainGlobals "_law_broken" = some (some (.ref f11)))
  (l11 : K.lookup f11 = some ⟨oc11, od11, .func (PySem.W.fnOf "_law_broken" "_law_broken" (defArgs s__law_broken) (defBody s__law_broken) (defScope s__law_broken) .none kV11 dc11 pm11 an11 cd11 ct11), sl11⟩)
  (c11 : PySem.W.codeIn K cd11 "_law_broken" = true)
  (k11 : PySem.W.keepIn K (.ref f11) = true)
  (a12 : PySem.W.nsIn K mainGlobals "_law_brought_down" = some (some (.ref f12)))
  (l12 : K.lookup f12 = some ⟨oc12, od12, .func (PySem.W.fnOf "_law_brought_down" "_law_brought_down" (defArgs s__law_brought_down) (defBody s__law_brought_down) (defScope s__law_brought_down) .none kV12 dc12 pm12 an12 cd12 ct12), sl12⟩)
  (c12 : PySem.W.codeIn K cd12 "_law_brought_down" = true)
  (k12 : PySem.W.keepIn K (.ref f12) = true)
  (a13 : PySem.W.nsIn K mainGlobals "_law_cone_row" = some (some (.ref f13)))
  (l13 : K.lookup f13 = some ⟨oc13, od13, .func (PySem.W.fnOf "_law_cone_row" "_law_cone_row" (defArgs s__law_cone_row) (defBody s__law_cone_row) (defScope s__law_cone_row) .none kV13 dc13 pm13 an13 cd13 ct13), sl13⟩)
  (c13 : PySem.W.codeIn K cd13 "_law_cone_row" = true)
  (k13 : PySem.W.keepIn K (.ref f13) = true)
  (a14 : PySem.W.nsIn K mainGlobals "_law_bars" = some (some (.ref f14)))
  (l14 : K.lookup f14 = some ⟨oc14, od14, .func (PySem.W.fnOf "_law_bars" "_law_bars" (defArgs s__law_bars) (defBody s__law_bars) (defScope s__law_bars) .none kV14 dc14 pm14 an14 cd14 ct14), sl14⟩)
  (c14 : PySem.W.codeIn K cd14 "_law_bars" = true)
  (k14 : PySem.W.keepIn K (.ref f14) = true)
  (a15 : PySem.W.nsIn K mainGlobals "_law_gcd" = some (some (.ref f15)))
  (l15 : K.lookup f15 = some ⟨oc15, od15, .func (PySem.W.fnOf "_law_gcd" "_law_gcd" (defArgs s__law_gcd) (defBody s__law_gcd) (defScope s__law_gcd) .none kV15 dc15 pm15 an15 cd15 ct15), sl15⟩)
  (c15 : PySem.W.codeIn K cd15 "_law_gcd" = true)
  (k15 : PySem.W.keepIn K (.ref f15) = true)
  (a16 : PySem.W.nsIn K mainGlobals "_law_ratio" = some (some (.ref f16)))
  (l16 : K.lookup f16 = some ⟨oc16, od16, .func (PySem.W.fnOf "_law_ratio" "_law_ratio" (defArgs s__law_ratio) (defBody s__law_ratio) (defScope s__law_ratio) .none kV16 dc16 pm16 an16 cd16 ct16), sl16⟩)
  (c16 : PySem.W.codeIn K cd16 "_law_ratio" = true)
  (k16 : PySem.W.keepIn K (.ref f16) = true)
  (a17 : PySem.W.nsIn K mainGlobals "_law_small" = some (some (.ref f17)))
  (l17 : K.lookup f17 = some ⟨oc17, od17, .func (PySem.W.fnOf "_law_small" "_law_small" (defArgs s__law_small) (defBody s__law_small) (defScope s__law_small) .none kV17 dc17 pm17 an17 cd17 ct17), sl17⟩)
  (c17 : PySem.W.codeIn K cd17 "_law_small" = true)
  (k17 : PySem.W.keepIn K (.ref f17) = true)
  (a18 : PySem.W.nsIn K mainGlobals "_law_exact" = some (some (.ref f18)))
  (l18 : K.lookup f18 = some ⟨oc18, od18, .func (PySem.W.fnOf "_law_exact" "_law_exact" (defArgs s__law_exact) (defBody s__law_exact) (defScope s__law_exact) .none kV18 dc18 pm18 an18 cd18 ct18), sl18⟩)
  (c18 : PySem.W.codeIn K cd18 "_law_exact" = true)
  (k18 : PySem.W.keepIn K (.ref f18) = true)
  (a19 : PySem.W.nsIn K mainGlobals "check_entries" = some (some (.ref f19)))
  (l19 : K.lookup f19 = some ⟨oc19, od19, .func (PySem.W.fnOf "check_entries" "check_entries" (defArgs s_check_entries) (defBody s_check_entries) (defScope s_check_entries) .none kV19 dc19 pm19 an19 cd19 ct19), sl19⟩)
  (c19 : PySem.W.codeIn K cd19 "check_entries" = true)
  (k19 : PySem.W.keepIn K (.ref f19) = true)
  (a20 : PySem.W.nsIn K mainGlobals "first_above" = some (some (.ref f20)))
  (l20 : K.lookup f20 = some ⟨oc20, od20, .func (PySem.W.fnOf "first_above" "first_above" (defArgs s_first_above) (defBody s_first_above) (defScope s_first_above) .none kV20 dc20 pm20 an20 cd20 ct20), sl20⟩)
  (c20 : PySem.W.codeIn K cd20 "first_above" = true)
  (k20 : PySem.W.keepIn K (.ref f20) = true)
  (a21 : PySem.W.nsIn K mainGlobals "check_cone" = some (some (.ref f21)))
  (l21 : K.lookup f21 = some ⟨oc21, od21, .func (PySem.W.fnOf "check_cone" "check_cone" (defArgs s_check_cone) (defBody s_check_cone) (defScope s_check_cone) .none kV21 dc21 pm21 an21 cd21 ct21), sl21⟩)
  (c21 : PySem.W.codeIn K cd21 "check_cone" = true)
  (k21 : PySem.W.keepIn K (.ref f21) = true)
  (a22 : PySem.W.nsIn K mainGlobals "common_divisor" = some (some (.ref f22)))
  (l22 : K.lookup f22 = some ⟨oc22, od22, .func (PySem.W.fnOf "common_divisor" "common_divisor" (defArgs s_common_divisor) (defBody s_common_divisor) (defScope s_common_divisor) .none kV22 dc22 pm22 an22 cd22 ct22), sl22⟩)
  (c22 : PySem.W.codeIn K cd22 "common_divisor" = true)
  (k22 : PySem.W.keepIn K (.ref f22) = true)
  (a23 : PySem.W.nsIn K mainGlobals "lowest_terms" = some (some (.ref f23)))
  (l23 : K.lookup f23 = some ⟨oc23, od23, .func (PySem.W.fnOf "lowest_terms" "lowest_terms" (defArgs s_lowest_terms) (defBody s_lowest_terms) (defScope s_lowest_terms) .none kV23 dc23 pm23 an23 cd23 ct23), sl23⟩)
  (c23 : PySem.W.codeIn K cd23 "lowest_terms" = true)
  (k23 : PySem.W.keepIn K (.ref f23) = true)
  (a24 : PySem.W.nsIn K mainGlobals "make_ratio" = some (some (.ref f24)))
  (l24 : K.lookup f24 = some ⟨oc24, od24, .func (PySem.W.fnOf "make_ratio" "make_ratio" (defArgs s_make_ratio) (defBody s_make_ratio) (defScope s_make_ratio) (.ref T24) kV24 dc24 pm24 an24 cd24 ct24), sl24⟩)
  (lT24 : K.lookup T24 = some ⟨ocT24, odT24, .seq #[(.int 1 tk24_0)] nT24, slT24⟩)
  (c24 : PySem.W.codeIn K cd24 "make_ratio" = true)
  (k24 : PySem.W.keepIn K (.ref f24) = true)
  (a25 : PySem.W.nsIn K mainGlobals "small_row" = some (some (.ref f25)))
  (l25 : K.lookup f25 = some ⟨oc25, od25, .func (PySem.W.fnOf "small_row" "small_row" (defArgs s_small_row) (defBody s_small_row) (defScope s_small_row) .none kV25 dc25 pm25 an25 cd25 ct25), sl25⟩)
  (c25 : PySem.W.codeIn K cd25 "small_row" = true)
  (k25 : PySem.W.keepIn K (.ref f25) = true)
  (a26 : PySem.W.nsIn K mainGlobals "cone_fault" = some (some (.ref f26)))
  (l26 : K.lookup f26 = some ⟨oc26, od26, .func (PySem.W.fnOf "cone_fault" "cone_fault" (defArgs s_cone_fault) (defBody s_cone_fault) (defScope s_cone_fault) .none kV26 dc26 pm26 an26 cd26 ct26), sl26⟩)
  (c26 : PySem.W.codeIn K cd26 "cone_fault" = true)
  (k26 : PySem.W.keepIn K (.ref f26) = true)
  (a27 : PySem.W.nsIn K mainGlobals "bars_from" = some (some (.ref f27)))
  (l27 : K.lookup f27 = some ⟨oc27, od27, .func (PySem.W.fnOf "bars_from" "bars_from" (defArgs s_bars_from) (defBody s_bars_from) (defScope s_bars_from) .none kV27 dc27 pm27 an27 cd27 ct27), sl27⟩)
  (c27 : PySem.W.codeIn K cd27 "bars_from" = true)
  (k27 : PySem.W.keepIn K (.ref f27) = true)
  (a28 : PySem.W.nsIn K mainGlobals "_law_one" = some (some (.ref f28)))
  (l28 : K.lookup f28 = some ⟨oc28, od28, .func (PySem.W.fnOf "_law_one" "_law_one" (defArgs s__law_one) (defBody s__law_one) (defScope s__law_one) .none kV28 dc28 pm28 an28 cd28 ct28), sl28⟩)
  (c28 : PySem.W.codeIn K cd28 "_law_one" = true)
  (k28 : PySem.W.keepIn K (.ref f28) = true)
  (a29 : PySem.W.nsIn K mainGlobals "_law_judged" = some (some (.ref f29)))
  (l29 : K.lookup f29 = some ⟨oc29, od29, .func (PySem.W.fnOf "_law_judged" "_law_judged" (defArgs s__law_judged) (defBody s__law_judged) (defScope s__law_judged) .none kV29 dc29 pm29 an29 cd29 ct29), sl29⟩)
  (c29 : PySem.W.codeIn K cd29 "_law_judged" = true)
  (k29 : PySem.W.keepIn K (.ref f29) = true)
  (a30 : PySem.W.nsIn K mainGlobals "_law_odd_whole" = some (some (.ref f30)))
  (l30 : K.lookup f30 = some ⟨oc30, od30, .func (PySem.W.fnOf "_law_odd_whole" "_law_odd_whole" (defArgs s__law_odd_whole) (defBody s__law_odd_whole) (defScope s__law_odd_whole) .none kV30 dc30 pm30 an30 cd30 ct30), sl30⟩)
  (c30 : PySem.W.codeIn K cd30 "_law_odd_whole" = true)
  (k30 : PySem.W.keepIn K (.ref f30) = true)
  (a31 : PySem.W.nsIn K mainGlobals "_law_spoilt" = some (some (.ref f31)))
  (l31 : K.lookup f31 = some ⟨oc31, od31, .func (PySem.W.fnOf "_law_spoilt" "_law_spoilt" (defArgs s__law_spoilt) (defBody s__law_spoilt) (defScope s__law_spoilt) .none kV31 dc31 pm31 an31 cd31 ct31), sl31⟩)
  (c31 : PySem.W.codeIn K cd31 "_law_spoilt" = true)
  (k31 : PySem.W.keepIn K (.ref f31) = true)
  (a32 : PySem.W.nsIn K mainGlobals "_law_bad_place" = some (some (.ref f32)))
  (l32 : K.lookup f32 = some ⟨oc32, od32, .func (PySem.W.fnOf "_law_bad_place" "_law_bad_place" (defArgs s__law_bad_place) (defBody s__law_bad_place) (defScope s__law_bad_place) .none kV32 dc32 pm32 an32 cd32 ct32), sl32⟩)
  (c32 : PySem.W.codeIn K cd32 "_law_bad_place" = true)
  (k32 : PySem.W.keepIn K (.ref f32) = true)
  (a33 : PySem.W.nsIn K mainGlobals "_law_refused" = some (some (.ref f33)))
  (l33 : K.lookup f33 = some ⟨oc33, od33, .func (PySem.W.fnOf "_law_refused" "_law_refused" (defArgs s__law_refused) (defBody s__law_refused) (defScope s__law_refused) .none kV33 dc33 pm33 an33 cd33 ct33), sl33⟩)
  (c33 : PySem.W.codeIn K cd33 "_law_refused" = true)
  (k33 : PySem.W.keepIn K (.ref f33) = true)
  (a34 : PySem.W.nsIn K mainGlobals "law" = some (some (.ref f34)))
  (l34 : K.lookup f34 = some ⟨oc34, od34, .func (PySem.W.fnOf "law" "law" (defArgs s_law) (defBody s_law) (defScope s_law) .none kV34 dc34 pm34 an34 cd34 ct34), sl34⟩)
  (c34 : PySem.W.codeIn K cd34 "law" = true)
  (k34 : PySem.W.keepIn K (.ref f34) = true)
  (z0 : PySem.W.nsIn K mainGlobals "ValueError" = some none)
  (z1 : PySem.W.nsIn K mainGlobals "abs" = some none)
  (z2 : PySem.W.nsIn K mainGlobals "bool" = some none)
  (z3 : PySem.W.nsIn K mainGlobals "enumerate" = some none)
  (z4 : PySem.W.nsIn K mainGlobals "int" = some none)
  (z5 : PySem.W.nsIn K mainGlobals "isinstance" = some none)
  (z6 : PySem.W.nsIn K mainGlobals "len" = some none)
  (z7 : PySem.W.nsIn K mainGlobals "list" = some none)
  (z8 : PySem.W.nsIn K mainGlobals "min" = some none)
  (z9 : PySem.W.nsIn K mainGlobals "range" = some none)
  (z10 : PySem.W.nsIn K mainGlobals "sorted" = some none)
  (z11 : PySem.W.nsIn K mainGlobals "str" = some none)
  (z12 : PySem.W.nsIn K mainGlobals "sum" = some none)
  (z13 : PySem.W.nsIn K mainGlobals "tuple" = some none)
  (aq0 : PySem.W.nsIn K mainGlobals "ZERO" = some (some (.ref q0)))
  (lq0 : K.lookup q0 = some ⟨.type "tuple", odq0, .seq #[(.int 0 tq0_0), (.int 1 tq0_1)] nq0, slq0⟩)
  (aq1 : PySem.W.nsIn K mainGlobals "MOST_BITS" = some (some (.int 10 tq1)))
  (aq2 : PySem.W.nsIn K mainGlobals "MOST_CHECKS" = some (some (.int 63 tq2)))
  (pgK0 : PySem.W.plainGet K K0 Str.empty = true)
  (hdK0 : PySem.W.hasDictIn K K0 = true)
  (poK0 : PySem.W.plainOver K K0 = true)
  (saK0 : PySem.W.findIn K (.ref K0) "__setattr__" = some (some (.builtin "object.__setattr__")))
  (nfK0_0 : PySem.W.findIn K (.ref K0) "bits" = some none)
  (nfK0_1 : PySem.W.findIn K (.ref K0) "checks" = some none)
  (mkK0 : PySem.W.makesIn K K0 = true)
  (fnK0 : PySem.W.isFn K (.ref f9) = true)
  (kpK0 : PySem.W.keepIn K (.ref K0) = true)
  (aC0 : PySem.W.nsIn K mainGlobals "CodeError" = some (some (.ref C0)))
  (aC1 : PySem.W.nsIn K mainGlobals "BadRatio" = some (some (.ref C1)))
  (aC2 : PySem.W.nsIn K mainGlobals "BadCode" = some (some (.ref C2)))
  (aC3 : PySem.W.nsIn K mainGlobals "BadCone" = some (some (.ref C3)))
  (aC4 : PySem.W.nsIn K mainGlobals "NotCone" = some (some (.ref C4)))
  (xL1 : K.lookup C1 = some (excClassObj nm1 qn1 C1 N1 bs1 [.ref C0, .type "ValueError", .type "Exception", .type "BaseException", .type "object"] true sn1 sub1 ab1 col1 dd1 m01 m11 m21 m31 m51 "ValueError.__new__"))
  (sa1 : PySem.W.findIn K (.ref C1) "__setattr__" = some (some (.builtin "object.__setattr__")))
  (eC1 : PySem.W.subIn K (.ref C1) (.type "BaseException") = some true)
  (tC1 : PySem.W.typeIn K (.ref C1) = some (.type "type"))
  (kC1 : PySem.W.keepIn K (.ref C1) = true)
  (ai1 : PySem.W.findIn K (.ref C1) "__init__" = some (some (.ref g1)))
  (ti1 : PySem.W.typeIn K (.ref g1) = some (.type "function"))
  (li1 : K.lookup g1 = some ⟨goc1, god1, .func (PySem.W.fnOf "__init__" "BadRatio.__init__" (defArgs sx_BadRatio) (defBody sx_BadRatio) (defScope sx_BadRatio) .none gkV1 gdc1 gpm1 gan1 gcd1 gct1), gsl1⟩)
  (ci1 : PySem.W.codeIn K gcd1 "BadRatio.__init__" = true)
  (ki1 : PySem.W.keepIn K (.ref g1) = true)
  (nf1_0 : PySem.W.findIn K (.ref C1) "what" = some none)
  (xL2 : K.lookup C2 = some (excClassObj nm2 qn2 C2 N2 bs2 [.ref C0, .type "ValueError", .type "Exception", .type "BaseException", .type "object"] true sn2 sub2 ab2 col2 dd2 m02 m12 m22 m32 m52 "ValueError.__new__"))
  (sa2 : PySem.W.findIn K (.ref C2) "__setattr__" = some (some (.builtin "object.__setattr__")))
  (eC2 : PySem.W.subIn K (.ref C2) (.type "BaseException") = some true)
  (tC2 : PySem.W.typeIn K (.ref C2) = some (.type "type"))
  (kC2 : PySem.W.keepIn K (.ref C2) = true)
  (ai2 : PySem.W.findIn K (.ref C2) "__init__" = some (some (.ref g2)))
  (ti2 : PySem.W.typeIn K (.ref g2) = some (.type "function"))
  (li2 : K.lookup g2 = some ⟨goc2, god2, .func (PySem.W.fnOf "__init__" "BadCode.__init__" (defArgs sx_BadCode) (defBody sx_BadCode) (defScope sx_BadCode) .none gkV2 gdc2 gpm2 gan2 gcd2 gct2), gsl2⟩)
  (ci2 : PySem.W.codeIn K gcd2 "BadCode.__init__" = true)
  (ki2 : PySem.W.keepIn K (.ref g2) = true)
  (nf2_0 : PySem.W.findIn K (.ref C2) "what" = some none)
  (nf2_1 : PySem.W.findIn K (.ref C2) "place" = some none)
  (xL3 : K.lookup C3 = some (excClassObj nm3 qn3 C3 N3 bs3 [.ref C0, .type "ValueError", .type "Exception", .type "BaseException", .type "object"] true sn3 sub3 ab3 col3 dd3 m03 m13 m23 m33 m53 "ValueError.__new__"))
  (sa3 : PySem.W.findIn K (.ref C3) "__setattr__" = some (some (.builtin "object.__setattr__")))
  (eC3 : PySem.W.subIn K (.ref C3) (.type "BaseException") = some true)
  (tC3 : PySem.W.typeIn K (.ref C3) = some (.type "type"))
  (kC3 : PySem.W.keepIn K (.ref C3) = true)
  (ai3 : PySem.W.findIn K (.ref C3) "__init__" = some (some (.ref g3)))
  (ti3 : PySem.W.typeIn K (.ref g3) = some (.type "function"))
  (li3 : K.lookup g3 = some ⟨goc3, god3, .func (PySem.W.fnOf "__init__" "BadCone.__init__" (defArgs sx_BadCone) (defBody sx_BadCone) (defScope sx_BadCone) .none gkV3 gdc3 gpm3 gan3 gcd3 gct3), gsl3⟩)
  (ci3 : PySem.W.codeIn K gcd3 "BadCone.__init__" = true)
  (ki3 : PySem.W.keepIn K (.ref g3) = true)
  (nf3_0 : PySem.W.findIn K (.ref C3) "place" = some none)
  (xL4 : K.lookup C4 = some (excClassObj nm4 qn4 C4 N4 bs4 [.ref C0, .type "ValueError", .type "Exception", .type "BaseException", .type "object"] true sn4 sub4 ab4 col4 dd4 m04 m14 m24 m34 m54 "ValueError.__new__"))
  (sa4 : PySem.W.findIn K (.ref C4) "__setattr__" = some (some (.builtin "object.__setattr__")))
  (eC4 : PySem.W.subIn K (.ref C4) (.type "BaseException") = some true)
  (tC4 : PySem.W.typeIn K (.ref C4) = some (.type "type"))
  (kC4 : PySem.W.keepIn K (.ref C4) = true)
  (ai4 : PySem.W.findIn K (.ref C4) "__init__" = some (some (.ref g4)))
  (ti4 : PySem.W.typeIn K (.ref g4) = some (.type "function"))
  (li4 : K.lookup g4 = some ⟨goc4, god4, .func (PySem.W.fnOf "__init__" "NotCone.__init__" (defArgs sx_NotCone) (defBody sx_NotCone) (defScope sx_NotCone) .none gkV4 gdc4 gpm4 gan4 gcd4 gct4), gsl4⟩)
  (ci4 : PySem.W.codeIn K gcd4 "NotCone.__init__" = true)
  (ki4 : PySem.W.keepIn K (.ref g4) = true)
  (nf4_0 : PySem.W.findIn K (.ref C4) "number" = some none)
  (nf4_1 : PySem.W.findIn K (.ref C4) "bit" = some none)
  (rd0 : PySem.W.readsIn K C0 (.type "type") = true)
  (rg0 : PySem.W.specialIn K (.ref C0) "__getattribute__" = some (some (.builtin "type.__getattribute__")))
  (vi0 : PySem.W.findCls K (.ref C0) (.type "type") "__init__" = some (.val (.builtin "ValueError.__init__")))
  (sb3_3 : PySem.W.subIn K (.ref C3) (.ref C3) = some true)
  (xhd3 : PySem.W.hasDictIn K C3 = true)
  (sb1_3 : PySem.W.subIn K (.ref C1) (.ref C3) = some false)
  (sb1_4 : PySem.W.subIn K (.ref C1) (.ref C4) = some false)
  (xhd4 : PySem.W.hasDictIn K C4 = true)
  (sb4_3 : PySem.W.subIn K (.ref C4) (.ref C3) = some false)
  (sb4_4 : PySem.W.subIn K (.ref C4) (.ref C4) = some true)
  (sb3_0 : PySem.W.subIn K (.ref C3) (.ref C0) = some true)
  (eC0 : PySem.W.subIn K (.ref C0) (.type "BaseException") = some true)
  (tC0 : PySem.W.typeIn K (.ref C0) = some (.type "type"))
  (xhd0 : PySem.W.hasDictIn K C0 = true)
  (sb0_0 : PySem.W.subIn K (.ref C0) (.ref C0) = some true)
  (sb3_ValueError : PySem.W.subIn K (.ref C3) (.type "ValueError") = some true)
  (sb4_0 : PySem.W.subIn K (.ref C4) (.ref C0) = some true)
  (sb4_ValueError : PySem.W.subIn K (.ref C4) (.type "ValueError") = some true)
  (xn : PySem.W.specialIn K (.builtin "object.__class__") "__get__" = some (some (.builtin "getset_descriptor.__get__")))
  (xt : PySem.W.takesIn K (.builtin "object.__class__") = some true)
  (xhg3 : PySem.W.findIn K (.ref C3) "__getattribute__" = some (some (.builtin "BaseException.__getattribute__")))
  (xhk3 : PySem.W.findIn K (.ref C3) "__getattr__" = some none)
  (xhs3 : PySem.W.subIn K (.ref C3) (.type "BaseException") = some true)
  (xha3 : PySem.W.findIn K (.ref C3) "__class__" = some (some (.builtin "object.__class__")))
  (xhm3 : PySem.W.mroIn K C3 (.type "object") = some true)
  (xhg4 : PySem.W.findIn K (.ref C4) "__getattribute__" = some (some (.builtin "BaseException.__getattribute__")))
  (xhk4 : PySem.W.findIn K (.ref C4) "__getattr__" = some none)
  (xhs4 : PySem.W.subIn K (.ref C4) (.type "BaseException") = some true)
  (xha4 : PySem.W.findIn K (.ref C4) "__class__" = some (some (.builtin "object.__class__")))
  (xhm4 : PySem.W.mroIn K C4 (.type "object") = some true)
  (hl : LawOk d_law) :
  ∃ fd : FuncData, (∀ (s : Shared) (v : Value), BindsTo s fd ⟨[v], []⟩ [("_law_script", v)]) ∧ ∀ base : Heap, K.In base → base.Ns mainGlobals mg → FnOk P w K mg base (L2.CX P w) 8 fa fd ["_law_script"] (spLaw K) := by
  have e := hfa.symm.trans (PySem.W.mg_of X G a34)
  cases e
  let A : Ad := {
    f__law_hand := f0,
    fd__law_hand := PySem.W.fnOf "_law_hand" "_law_hand" (defArgs s__law_hand) (defBody s__law_hand) (defScope s__law_hand) .none kV0 dc0 pm0 an0 cd0 ct0,
    f__law_mixed := f1,
    fd__law_mixed := PySem.W.fnOf "_law_mixed" "_law_mixed" (defArgs s__law_mixed) (defBody s__law_mixed) (defScope s__law_mixed) .none kV1 dc1 pm1 an1 cd1 ct1,
    f__law_take := f2,
    fd__law_take := PySem.W.fnOf "_law_take" "_law_take" (defArgs s__law_take) (defBody s__law_take) (defScope s__law_take) .none kV2 dc2 pm2 an2 cd2 ct2,
    f__law_bits := f3,
    fd__law_bits := PySem.W.fnOf "_law_bits" "_law_bits" (defArgs s__law_bits) (defBody s__law_bits) (defScope s__law_bits) .none kV3 dc3 pm3 an3 cd3 ct3,
    f__law_lot := f4,
    fd__law_lot := PySem.W.fnOf "_law_lot" "_law_lot" (defArgs s__law_lot) (defBody s__law_lot) (defScope s__law_lot) .none kV4 dc4 pm4 an4 cd4 ct4,
    f__law_checks := f5,
    fd__law_checks := PySem.W.fnOf "_law_checks" "_law_checks" (defArgs s__law_checks) (defBody s__law_checks) (defScope s__law_checks) .none kV5 dc5 pm5 an5 cd5 ct5,
    f_is_whole := f6,
    fd_is_whole := PySem.W.fnOf "is_whole" "is_whole" (defArgs s_is_whole) (defBody s_is_whole) (defScope s_is_whole) (.ref T6) kV6 dc6 pm6 an6 cd6 ct6,
    f_is_sequence := f7,
    fd_is_sequence := PySem.W.fnOf "is_sequence" "is_sequence" (defArgs s_is_sequence) (defBody s_is_sequence) (defScope s_is_sequence) .none kV7 dc7 pm7 an7 cd7 ct7,
    f_lot_of := f8,
    fd_lot_of := PySem.W.fnOf "lot_of" "lot_of" (defArgs s_lot_of) (defBody s_lot_of) (defScope s_lot_of) .none kV8 dc8 pm8 an8 cd8 ct8,
    f_Code__init__ := f9,
    fd_Code__init__ := PySem.W.fnOf "__init__" "Code.__init__" (defArgs s_Code__init__) (defBody s_Code__init__) (defScope s_Code__init__) .none kV9 dc9 pm9 an9 cd9 ct9,
    f__law_list := f10,
    fd__law_list := PySem.W.fnOf "_law_list" "_law_list" (defArgs s__law_list) (defBody s__law_list) (defScope s__law_list) .none kV10 dc10 pm10 an10 cd10 ct10,
    f__law_broken := f11,
    fd__law_broken := PySem.W.fnOf "_law_broken" "_law_broken" (defArgs s__law_broken) (defBody s__law_broken) (defScope s__law_broken) .none kV11 dc11 pm11 an11 cd11 ct11,
    f__law_brought_down := f12,
    fd__law_brought_down := PySem.W.fnOf "_law_brought_down" "_law_brought_down" (defArgs s__law_brought_down) (defBody s__law_brought_down) (defScope s__law_brought_down) .none kV12 dc12 pm12 an12 cd12 ct12,
    f__law_cone_row := f13,
    fd__law_cone_row := PySem.W.fnOf "_law_cone_row" "_law_cone_row" (defArgs s__law_cone_row) (defBody s__law_cone_row) (defScope s__law_cone_row) .none kV13 dc13 pm13 an13 cd13 ct13,
    f__law_bars := f14,
    fd__law_bars := PySem.W.fnOf "_law_bars" "_law_bars" (defArgs s__law_bars) (defBody s__law_bars) (defScope s__law_bars) .none kV14 dc14 pm14 an14 cd14 ct14,
    f__law_gcd := f15,
    fd__law_gcd := PySem.W.fnOf "_law_gcd" "_law_gcd" (defArgs s__law_gcd) (defBody s__law_gcd) (defScope s__law_gcd) .none kV15 dc15 pm15 an15 cd15 ct15,
    f__law_ratio := f16,
    fd__law_ratio := PySem.W.fnOf "_law_ratio" "_law_ratio" (defArgs s__law_ratio) (defBody s__law_ratio) (defScope s__law_ratio) .none kV16 dc16 pm16 an16 cd16 ct16,
    f__law_small := f17,
    fd__law_small := PySem.W.fnOf "_law_small" "_law_small" (defArgs s__law_small) (defBody s__law_small) (defScope s__law_small) .none kV17 dc17 pm17 an17 cd17 ct17,
    f__law_exact := f18,
    fd__law_exact := PySem.W.fnOf "_law_exact" "_law_exact" (defArgs s__law_exact) (defBody s__law_exact) (defScope s__law_exact) .none kV18 dc18 pm18 an18 cd18 ct18,
    f_check_entries := f19,
    fd_check_entries := PySem.W.fnOf "check_entries" "check_entries" (defArgs s_check_entries) (defBody s_check_entries) (defScope s_check_entries) .none kV19 dc19 pm19 an19 cd19 ct19,
    f_first_above := f20,
    fd_first_above := PySem.W.fnOf "first_above" "first_above" (defArgs s_first_above) (defBody s_first_above) (defScope s_first_above) .none kV20 dc20 pm20 an20 cd20 ct20,
    f_check_cone := f21,
    fd_check_cone := PySem.W.fnOf "check_cone" "check_cone" (defArgs s_check_cone) (defBody s_check_cone) (defScope s_check_cone) .none kV21 dc21 pm21 an21 cd21 ct21,
    f_common_divisor := f22,
    fd_common_divisor := PySem.W.fnOf "common_divisor" "common_divisor" (defArgs s_common_divisor) (defBody s_common_divisor) (defScope s_common_divisor) .none kV22 dc22 pm22 an22 cd22 ct22,
    f_lowest_terms := f23,
    fd_lowest_terms := PySem.W.fnOf "lowest_terms" "lowest_terms" (defArgs s_lowest_terms) (defBody s_lowest_terms) (defScope s_lowest_terms) .none kV23 dc23 pm23 an23 cd23 ct23,
    f_make_ratio := f24,
    fd_make_ratio := PySem.W.fnOf "make_ratio" "make_ratio" (defArgs s_make_ratio) (defBody s_make_ratio) (defScope s_make_ratio) (.ref T24) kV24 dc24 pm24 an24 cd24 ct24,
    f_small_row := f25,
    fd_small_row := PySem.W.fnOf "small_row" "small_row" (defArgs s_small_row) (defBody s_small_row) (defScope s_small_row) .none kV25 dc25 pm25 an25 cd25 ct25,
    f_cone_fault := f26,
    fd_cone_fault := PySem.W.fnOf "cone_fault" "cone_fault" (defArgs s_cone_fault) (defBody s_cone_fault) (defScope s_cone_fault) .none kV26 dc26 pm26 an26 cd26 ct26,
    f_bars_from := f27,
    fd_bars_from := PySem.W.fnOf "bars_from" "bars_from" (defArgs s_bars_from) (defBody s_bars_from) (defScope s_bars_from) .none kV27 dc27 pm27 an27 cd27 ct27,
    f__law_one := f28,
    fd__law_one := PySem.W.fnOf "_law_one" "_law_one" (defArgs s__law_one) (defBody s__law_one) (defScope s__law_one) .none kV28 dc28 pm28 an28 cd28 ct28,
    f__law_judged := f29,
    fd__law_judged := PySem.W.fnOf "_law_judged" "_law_judged" (defArgs s__law_judged) (defBody s__law_judged) (defScope s__law_judged) .none kV29 dc29 pm29 an29 cd29 ct29,
    f__law_odd_whole := f30,
    fd__law_odd_whole := PySem.W.fnOf "_law_odd_whole" "_law_odd_whole" (defArgs s__law_odd_whole) (defBody s__law_odd_whole) (defScope s__law_odd_whole) .none kV30 dc30 pm30 an30 cd30 ct30,
    f__law_spoilt := f31,
    fd__law_spoilt := PySem.W.fnOf "_law_spoilt" "_law_spoilt" (defArgs s__law_spoilt) (defBody s__law_spoilt) (defScope s__law_spoilt) .none kV31 dc31 pm31 an31 cd31 ct31,
    f__law_bad_place := f32,
    fd__law_bad_place := PySem.W.fnOf "_law_bad_place" "_law_bad_place" (defArgs s__law_bad_place) (defBody s__law_bad_place) (defScope s__law_bad_place) .none kV32 dc32 pm32 an32 cd32 ct32,
    f__law_refused := f33,
    fd__law_refused := PySem.W.fnOf "_law_refused" "_law_refused" (defArgs s__law_refused) (defBody s__law_refused) (defScope s__law_refused) .none kV33 dc33 pm33 an33 cd33 ct33,
    f_law := fa,
    fd_law := PySem.W.fnOf "law" "law" (defArgs s_law) (defBody s_law) (defScope s_law) .none kV34 dc34 pm34 an34 cd34 ct34,
    c_Code := K0,
    c_CodeError := C0,
    c_BadRatio := C1,
    fi_BadRatio := g1,
    fdi_BadRatio := PySem.W.fnOf "__init__" "BadRatio.__init__" (defArgs sx_BadRatio) (defBody sx_BadRatio) (defScope sx_BadRatio) .none gkV1 gdc1 gpm1 gan1 gcd1 gct1,
    c_BadCode := C2,
    fi_BadCode := g2,
    fdi_BadCode := PySem.W.fnOf "__init__" "BadCode.__init__" (defArgs sx_BadCode) (defBody sx_BadCode) (defScope sx_BadCode) .none gkV2 gdc2 gpm2 gan2 gcd2 gct2,
    c_BadCone := C3,
    fi_BadCone := g3,
    fdi_BadCone := PySem.W.fnOf "__init__" "BadCone.__init__" (defArgs sx_BadCone) (defBody sx_BadCone) (defScope sx_BadCone) .none gkV3 gdc3 gpm3 gan3 gcd3 gct3,
    c_NotCone := C4,
    fi_NotCone := g4,
    fdi_NotCone := PySem.W.fnOf "__init__" "NotCone.__init__" (defArgs sx_NotCone) (defBody sx_NotCone) (defScope sx_NotCone) .none gkV4 gdc4 gpm4 gan4 gcd4 gct4,
    a_ZERO := .ref q0,
    a_MOST_BITS := (.int 10 tq1),
    a_MOST_CHECKS := (.int 63 tq2) }
  have T : Tx K mg A := {
    m__law_hand := PySem.W.mg_of X G a0,
    k__law_hand := k0,
    F__law_hand := ⟨⟨_, _, _, _, _, _, _, _, _, _, rfl, l0, c0, .inl ⟨rfl, rfl⟩, .inl rfl⟩, k0⟩,
    m__law_mixed := PySem.W.mg_of X G a1,
    k__law_mixed := k1,
    F__law_mixed := ⟨⟨_, _, _, _, _, _, _, _, _, _, rfl, l1, c1, .inl ⟨rfl, rfl⟩, .inl rfl⟩, k1⟩,
    m__law_take := PySem.W.mg_of X G a2,
    k__law_take := k2,
    F__law_take := ⟨⟨_, _, _, _, _, _, _, _, _, _, rfl, l2, c2, .inl ⟨rfl, rfl⟩, .inl rfl⟩, k2⟩,
    m__law_bits := PySem.W.mg_of X G a3,
    k__law_bits := k3,
    F__law_bits := ⟨⟨_, _, _, _, _, _, _, _, _, _, rfl, l3, c3, .inl ⟨rfl, rfl⟩, .inl rfl⟩, k3⟩,
    m__law_lot := PySem.W.mg_of X G a4,
    k__law_lot := k4,
    F__law_lot := ⟨⟨_, _, _, _, _, _, _, _, _, _, rfl, l4, c4, .inl ⟨rfl, rfl⟩, .inl rfl⟩, k4⟩,
    m__law_checks := PySem.W.mg_of X G a5,
    k__law_checks := k5,
    F__law_checks := ⟨⟨_, _, _, _, _, _, _, _, _, _, rfl, l5, c5, .inl ⟨rfl, rfl⟩, .inl rfl⟩, k5⟩,
    m_is_whole := PySem.W.mg_of X G a6,
    k_is_whole := k6,
    F_is_whole := ⟨⟨_, _, _, _, _, _, _, _, _, _, rfl, l6, c6, .inr ⟨by simp, T6, _, _, _, rfl, lT6, rfl, (.cons rfl (.cons rfl .nil))⟩, .inl rfl⟩, k6⟩,
    m_is_sequence := PySem.W.mg_of X G a7,
    k_is_sequence := k7,
    F_is_sequence := ⟨⟨_, _, _, _, _, _, _, _, _, _, rfl, l7, c7, .inl ⟨rfl, rfl⟩, .inl rfl⟩, k7⟩,
    m_lot_of := PySem.W.mg_of X G a8,
    k_lot_of := k8,
    F_lot_of := ⟨⟨_, _, _, _, _, _, _, _, _, _, rfl, l8, c8, .inl ⟨rfl, rfl⟩, .inl rfl⟩, k8⟩,
    F_Code__init__ := ⟨⟨_, _, _, _, _, _, _, _, _, _, rfl, l9, c9, .inl ⟨rfl, rfl⟩, .inl rfl⟩, k9⟩,
    m__law_list := PySem.W.mg_of X G a10,
    k__law_list := k10,
    F__law_list := ⟨⟨_, _, _, _, _, _, _, _, _, _, rfl, l10, c10, .inl ⟨rfl, rfl⟩, .inl rfl⟩, k10⟩,
    m__law_broken := PySem.W.mg_of X G a11,
    k__law_broken := k11,
    F__law_broken := ⟨⟨_, _, _, _, _, _, _, _, _, _, rfl, l11, c11, .inl ⟨rfl, rfl⟩, .inl rfl⟩, k11⟩,
    m__law_brought_down := PySem.W.mg_of X G a12,
    k__law_brought_down := k12,
    F__law_brought_down := ⟨⟨_, _, _, _, _, _, _, _, _, _, rfl, l12, c12, .inl ⟨rfl, rfl⟩, .inl rfl⟩, k12⟩,
    m__law_cone_row := PySem.W.mg_of X G a13,
    k__law_cone_row := k13,
    F__law_cone_row := ⟨⟨_, _, _, _, _, _, _, _, _, _, rfl, l13, c13, .inl ⟨rfl, rfl⟩, .inl rfl⟩, k13⟩,
    m__law_bars := PySem.W.mg_of X G a14,
    k__law_bars := k14,
    F__law_bars := ⟨⟨_, _, _, _, _, _, _, _, _, _, rfl, l14, c14, .inl ⟨rfl, rfl⟩, .inl rfl⟩, k14⟩,
    m__law_gcd := PySem.W.mg_of X G a15,
    k__law_gcd := k15,
    F__law_gcd := ⟨⟨_, _, _, _, _, _, _, _, _, _, rfl, l15, c15, .inl ⟨rfl, rfl⟩, .inl rfl⟩, k15⟩,
    m__law_ratio := PySem.W.mg_of X G a16,
    k__law_ratio := k16,
    F__law_ratio := ⟨⟨_, _, _, _, _, _, _, _, _, _, rfl, l16, c16, .inl ⟨rfl, rfl⟩, .inl rfl⟩, k16⟩,
    m__law_small := PySem.W.mg_of X G a17,
    k__law_small := k17,
    F__law_small := ⟨⟨_, _, _, _, _, _, _, _, _, _, rfl, l17, c17, .inl ⟨rfl, rfl⟩, .inl rfl⟩, k17⟩,
    m__law_exact := PySem.W.mg_of X G a18,
    k__law_exact := k18,
    F__law_exact := ⟨⟨_, _, _, _, _, _, _, _, _, _, rfl, l18, c18, .inl ⟨rfl, rfl⟩, .inl rfl⟩, k18⟩,
    m_check_entries := PySem.W.mg_of X G a19,
    k_check_entries := k19,
    F_check_entries := ⟨⟨_, _, _, _, _, _, _, _, _, _, rfl, l19, c19, .inl ⟨rfl, rfl⟩, .inl rfl⟩, k19⟩,
    m_first_above := PySem.W.mg_of X G a20,
    k_first_above := k20,
    F_first_above := ⟨⟨_, _, _, _, _, _, _, _, _, _, rfl, l20, c20, .inl ⟨rfl, rfl⟩, .inl rfl⟩, k20⟩,
    m_check_cone := PySem.W.mg_of X G a21,
    k_check_cone := k21,
    F_check_cone := ⟨⟨_, _, _, _, _, _, _, _, _, _, rfl, l21, c21, .inl ⟨rfl, rfl⟩, .inl rfl⟩, k21⟩,
    m_common_divisor := PySem.W.mg_of X G a22,
    k_common_divisor := k22,
    F_common_divisor := ⟨⟨_, _, _, _, _, _, _, _, _, _, rfl, l22, c22, .inl ⟨rfl, rfl⟩, .inl rfl⟩, k22⟩,
    m_lowest_terms := PySem.W.mg_of X G a23,
    k_lowest_terms := k23,
    F_lowest_terms := ⟨⟨_, _, _, _, _, _, _, _, _, _, rfl, l23, c23, .inl ⟨rfl, rfl⟩, .inl rfl⟩, k23⟩,
    m_make_ratio := PySem.W.mg_of X G a24,
    k_make_ratio := k24,
    F_make_ratio := ⟨⟨_, _, _, _, _, _, _, _, _, _, rfl, l24, c24, .inr ⟨by simp, T24, _, _, _, rfl, lT24, rfl, (.cons ⟨_, rfl⟩ .nil)⟩, .inl rfl⟩, k24⟩,
    m_small_row := PySem.W.mg_of X G a25,
    k_small_row := k25,
    F_small_row := ⟨⟨_, _, _, _, _, _, _, _, _, _, rfl, l25, c25, .inl ⟨rfl, rfl⟩, .inl rfl⟩, k25⟩,
    m_cone_fault := PySem.W.mg_of X G a26,
    k_cone_fault := k26,
    F_cone_fault := ⟨⟨_, _, _, _, _, _, _, _, _, _, rfl, l26, c26, .inl ⟨rfl, rfl⟩, .inl rfl⟩, k26⟩,
    m_bars_from := PySem.W.mg_of X G a27,
    k_bars_from := k27,
    F_bars_from := ⟨⟨_, _, _, _, _, _, _, _, _, _, rfl, l27, c27, .inl ⟨rfl, rfl⟩, .inl rfl⟩, k27⟩,
    m__law_one := PySem.W.mg_of X G a28,
    k__law_one := k28,
    F__law_one := ⟨⟨_, _, _, _, _, _, _, _, _, _, rfl, l28, c28, .inl ⟨rfl, rfl⟩, .inl rfl⟩, k28⟩,
    m__law_judged := PySem.W.mg_of X G a29,
    k__law_judged := k29,
    F__law_judged := ⟨⟨_, _, _, _, _, _, _, _, _, _, rfl, l29, c29, .inl ⟨rfl, rfl⟩, .inl rfl⟩, k29⟩,
    m__law_odd_whole := PySem.W.mg_of X G a30,
    k__law_odd_whole := k30,
    F__law_odd_whole := ⟨⟨_, _, _, _, _, _, _, _, _, _, rfl, l30, c30, .inl ⟨rfl, rfl⟩, .inl rfl⟩, k30⟩,
    m__law_spoilt := PySem.W.mg_of X G a31,
    k__law_spoilt := k31,
    F__law_spoilt := ⟨⟨_, _, _, _, _, _, _, _, _, _, rfl, l31, c31, .inl ⟨rfl, rfl⟩, .inl rfl⟩, k31⟩,
    m__law_bad_place := PySem.W.mg_of X G a32,
    k__law_bad_place := k32,
    F__law_bad_place := ⟨⟨_, _, _, _, _, _, _, _, _, _, rfl, l32, c32, .inl ⟨rfl, rfl⟩, .inl rfl⟩, k32⟩,
    m__law_refused := PySem.W.mg_of X G a33,
    k__law_refused := k33,
    F__law_refused := ⟨⟨_, _, _, _, _, _, _, _, _, _, rfl, l33, c33, .inl ⟨rfl, rfl⟩, .inl rfl⟩, k33⟩,
    m_law := PySem.W.mg_of X G a34,
    k_law := k34,
    F_law := ⟨⟨_, _, _, _, _, _, _, _, _, _, rfl, l34, c34, .inl ⟨rfl, rfl⟩, .inl rfl⟩, k34⟩,
    m_Code := PySem.W.mg_of X G aK0,
    L_Code := ⟨pgK0, hdK0, poK0, saK0⟩,
    M_Code := ⟨mkK0, inK0, fnK0, kpK0⟩,
    nf_Code_bits := nfK0_0,
    nf_Code_checks := nfK0_1,
    z_ValueError := PySem.W.mg_none_of X G z0,
    z_abs := PySem.W.mg_none_of X G z1,
    z_bool := PySem.W.mg_none_of X G z2,
    z_enumerate := PySem.W.mg_none_of X G z3,
    z_int := PySem.W.mg_none_of X G z4,
    z_isinstance := PySem.W.mg_none_of X G z5,
    z_len := PySem.W.mg_none_of X G z6,
    z_list := PySem.W.mg_none_of X G z7,
    z_min := PySem.W.mg_none_of X G z8,
    z_range := PySem.W.mg_none_of X G z9,
    z_sorted := PySem.W.mg_none_of X G z10,
    z_str := PySem.W.mg_none_of X G z11,
    z_sum := PySem.W.mg_none_of X G z12,
    z_tuple := PySem.W.mg_none_of X G z13,
    m_ZERO := PySem.W.mg_of X G aq0,
    r_ZERO := ⟨.ref q0, rfl, rep_ktup (M := ⟨K, mg⟩) (vs := [(.int 0), (.int 1)]) lq0 (by show 2 ≤ sizeLine; decide) (.cons ⟨_, rfl⟩ (.cons ⟨_, rfl⟩ .nil)) (fun _ _ => (RepL.cons rep_int (RepL.cons rep_int RepL.nil)))⟩,
    m_MOST_BITS := PySem.W.mg_of X G aq1,
    r_MOST_BITS := ⟨(.int 10), ⟨_, rfl⟩, fun _ _ => rep_int⟩,
    m_MOST_CHECKS := PySem.W.mg_of X G aq2,
    r_MOST_CHECKS := ⟨(.int 63), ⟨_, rfl⟩, fun _ _ => rep_int⟩,
    m_CodeError := PySem.W.mg_of X G aC0,
    m_BadRatio := PySem.W.mg_of X G aC1,
    o_BadRatio := { cls := ⟨_, _, _, _, _, _, _, _, _, _, _, _, _, _, _, xL1, (by show PySem.HandSPX.refsVE [.type "ValueError", .type "Exception", .type "BaseException", .type "object"] = true; decide +kernel)⟩, sa := sa1, exC := eC1, tyC := tC1, kC := kC1 },
    i_BadRatio := ai1,
    t_BadRatio := ti1,
    F_BadRatio := ⟨⟨_, _, _, _, _, _, _, _, _, _, rfl, li1, ci1, .inl ⟨rfl, rfl⟩, .inl rfl⟩, ki1⟩,
    n_BadRatio_what := nf1_0,
    m_BadCode := PySem.W.mg_of X G aC2,
    o_BadCode := { cls := ⟨_, _, _, _, _, _, _, _, _, _, _, _, _, _, _, xL2, (by show PySem.HandSPX.refsVE [.type "ValueError", .type "Exception", .type "BaseException", .type "object"] = true; decide +kernel)⟩, sa := sa2, exC := eC2, tyC := tC2, kC := kC2 },
    i_BadCode := ai2,
    t_BadCode := ti2,
    F_BadCode := ⟨⟨_, _, _, _, _, _, _, _, _, _, rfl, li2, ci2, .inl ⟨rfl, rfl⟩, .inl rfl⟩, ki2⟩,
    n_BadCode_what := nf2_0,
    n_BadCode_place := nf2_1,
    m_BadCone := PySem.W.mg_of X G aC3,
    o_BadCone := { cls := ⟨_, _, _, _, _, _, _, _, _, _, _, _, _, _, _, xL3, (by show PySem.HandSPX.refsVE [.type "ValueError", .type "Exception", .type "BaseException", .type "object"] = true; decide +kernel)⟩, sa := sa3, exC := eC3, tyC := tC3, kC := kC3 },
    i_BadCone := ai3,
    t_BadCone := ti3,
    F_BadCone := ⟨⟨_, _, _, _, _, _, _, _, _, _, rfl, li3, ci3, .inl ⟨rfl, rfl⟩, .inl rfl⟩, ki3⟩,
    n_BadCone_place := nf3_0,
    m_NotCone := PySem.W.mg_of X G aC4,
    o_NotCone := { cls := ⟨_, _, _, _, _, _, _, _, _, _, _, _, _, _, _, xL4, (by show PySem.HandSPX.refsVE [.type "ValueError", .type "Exception", .type "BaseException", .type "object"] = true; decide +kernel)⟩, sa := sa4, exC := eC4, tyC := tC4, kC := kC4 },
    i_NotCone := ai4,
    t_NotCone := ti4,
    F_NotCone := ⟨⟨_, _, _, _, _, _, _, _, _, _, rfl, li4, ci4, .inl ⟨rfl, rfl⟩, .inl rfl⟩, ki4⟩,
    n_NotCone_number := nf4_0,
    n_NotCone_bit := nf4_1,
    rd_CodeError := ⟨rd0, rg0⟩,
    vi_CodeError := vi0,
    e_BadCone_BadCone := PySem.W.exm_ref eC3 xhd3 tC3 sb3_3,
    e_BadRatio_BadCone := PySem.W.exm_ref eC3 xhd3 tC3 sb1_3,
    e_BadRatio_NotCone := PySem.W.exm_ref eC4 xhd4 tC4 sb1_4,
    e_NotCone_BadCone := PySem.W.exm_ref eC3 xhd3 tC3 sb4_3,
    e_NotCone_NotCone := PySem.W.exm_ref eC4 xhd4 tC4 sb4_4,
    j_BadCone_CodeError := kit_refT xhd0 tC0 sb0_0 sb3_0,
    j_BadCone_ValueError := kit_tyT (by decide +kernel) sb3_ValueError,
    j_NotCone_CodeError := kit_refT xhd0 tC0 sb0_0 sb4_0,
    j_NotCone_ValueError := kit_tyT (by decide +kernel) sb4_ValueError,
    x_BadCone := ⟨xhg3, xhk3, xhs3, xhd3, xha3, xn, xt, xhm3⟩,
    x_NotCone := ⟨xhg4, xhk4, xhs4, xhd4, xha4, xn, xt, xhm4⟩,
    y_BadCone := ⟨xhg3, xhk3, xhs3, xhd3⟩,
    y_NotCone := ⟨xhg4, xhk4, xhs4, xhd4⟩ }
  exact ⟨A.fd_law, fun s v => .of_eq rfl, fun base _ _ => law_imp (ok_law T) hl⟩
end K19

set_option Elab.async false
set_option linter.all false
set_option maxRecDepth 100000
/-! the end (printed by gen.py) -/
open PySem PySem.W PyProof.Rows
set_option maxHeartbeats 0 in
theorem PySem.Challenge.cw_letbychecks_k19_whole_cone_rows_judged_a_holds : PySem.Challenge.rw_letbychecks_k19_whole_cone_rows_judged_a.Holds := by
  w_on; o_law; k_head; (case hw => w_witness2)
  k_fill
  refine DL.walk (l := PySem.Challenge.rw_letbychecks_k19_whole_cone_rows_judged_a) (k := 8) (x := "_law_script") rfl rfl ⟨rfl, by decide, by decide⟩ (fun w h Y => PySem.W.kIn_of Y) ?F
  case F =>
    intro w mg fa h KX G hmg
    refine' K19.all_mk KX G hmg ?a0 ?l0 ?c0 ?k0 ?a1 ?l1 ?c1 ?k1 ?a2 ?l2 ?c2 ?k2 ?a3 ?l3 ?c3 ?k3 ?a4 ?l4 ?c4 ?k4 ?a5 ?l5 ?c5 ?k5 ?a6 ?l6 ?lT6 ?c6 ?k6 ?a7 ?l7 ?c7 ?k7 ?a8 ?l8 ?c8 ?k8 ?aK0 ?inK0 ?l9 ?c9 ?k9 ?a10 ?l10 ?c10 ?k10 ?a11 ?l11 ?c11 ?k11 ?a12 ?l12 ?c12 ?k12 ?a13 ?l13 ?c13 ?k13 ?a14 ?l14 ?c14 ?k14 ?a15 ?l15 ?c15 ?k15 ?a16 ?l16 ?c16 ?k16 ?a17 ?l17 ?c17 ?k17 ?a18 ?l18 ?c18 ?k18 ?a19 ?l19 ?c19 ?k19 ?a20 ?l20 ?c20 ?k20 ?a21 ?l21 ?c21 ?k21 ?a22 ?l22 ?c22 ?k22 ?a23 ?l23 ?c23 ?k23 ?a24 ?l24 ?lT24 ?c24 ?k24 ?a25 ?l25 ?c25 ?k25 ?a26 ?l26 ?c26 ?k26 ?a27 ?l27 ?c27 ?k27 ?a28 ?l28 ?c28 ?k28 ?a29 ?l29 ?c29 ?k29 ?a30 ?l30 ?c30 ?k30 ?a31 ?l31 ?c31 ?k31 ?a32 ?l32 ?c32 ?k32 ?a33 ?l33 ?c33 ?k33 ?a34 ?l34 ?c34 ?k34 ?z0 ?z1 ?z2 ?z3 ?z4 ?z5 ?z6 ?z7 ?z8 ?z9 ?z10 ?z11 ?z12 ?z13 ?aq0 ?lq0 ?aq1 ?aq2 ?pgK0 ?hdK0 ?poK0 ?saK0 ?nfK0_0 ?nfK0_1 ?mkK0 ?fnK0 ?kpK0 ?aC0 ?aC1 ?aC2 ?aC3 ?aC4 ?xL1 ?sa1 ?eC1 ?tC1 ?kC1 ?ai1 ?ti1 ?li1 ?ci1 ?ki1 ?nf1_0 ?xL2 ?sa2 ?eC2 ?tC2 ?kC2 ?ai2 ?ti2 ?li2 ?ci2 ?ki2 ?nf2_0 ?nf2_1 ?xL3 ?sa3 ?eC3 ?tC3 ?kC3 ?ai3 ?ti3 ?li3 ?ci3 ?ki3 ?nf3_0 ?xL4 ?sa4 ?eC4 ?tC4 ?kC4 ?ai4 ?ti4 ?li4 ?ci4 ?ki4 ?nf4_0 ?nf4_1 ?rd0 ?rg0 ?vi0 ?sb3_3 ?xhd3 ?sb1_3 ?sb1_4 ?xhd4 ?sb4_3 ?sb4_4 ?sb3_0 ?eC0 ?tC0 ?xhd0 ?sb0_0 ?sb3_ValueError ?sb4_0 ?sb4_ValueError ?xn ?xt ?xhg3 ?xhk3 ?xhs3 ?xha3 ?xhm3 ?xhg4 ?xhk4 ?xhs4 ?xha4 ?xhm4 K19.law_ok
    (case a0 => k_is)
    (case l0 => k_is)
    (case c0 => k_is)
    (case k0 => k_is)
    (case a1 => k_is)
    (case l1 => k_is)
    (case c1 => k_is)
    (case k1 => k_is)
    (case a2 => k_is)
    (case l2 => k_is)
    (case c2 => k_is)
    (case k2 => k_is)
    (case a3 => k_is)
    (case l3 => k_is)
    (case c3 => k_is)
    (case k3 => k_is)
    (case a4 => k_is)
    (case l4 => k_is)
    (case c4 => k_is)
    (case k4 => k_is)
    (case a5 => k_is)
    (case l5 => k_is)
    (case c5 => k_is)
    (case k5 => k_is)
    (case a6 => k_is)
    (case l6 => k_is)
    (case lT6 => k_is)
    (case c6 => k_is)
    (case k6 => k_is)
    (case a7 => k_is)
    (case l7 => k_is)
    (case c7 => k_is)
    (case k7 => k_is)
    (case a8 => k_is)
    (case l8 => k_is)
    (case c8 => k_is)
    (case k8 => k_is)
    (case aK0 => k_is)
    (case inK0 => k_is)
    (case l9 => k_is)
    (case c9 => k_is)
    (case k9 => k_is)
    (case a10 => k_is)
    (case l10 => k_is)
    (case c10 => k_is)
    (case k10 => k_is)
    (case a11 => k_is)
    (case l11 => k_is)
    (case c11 => k_is)
    (case k11 => k_is)
    (case a12 => k_is)
    (case l12 => k_is)
    (case c12 => k_is)
    (case k12 => k_is)
    (case a13 => k_is)
    (case l13 => k_is)
    (case c13 => k_is)
    (case k13 => k_is)
    (case a14 => k_is)
    (case l14 => k_is)
    (case c14 => k_is)
    (case k14 => k_is)
    (case a15 => k_is)
    (case l15 => k_is)
    (case c15 => k_is)
    (case k15 => k_is)
    (case a16 => k_is)
    (case l16 => k_is)
    (case c16 => k_is)
    (case k16 => k_is)
    (case a17 => k_is)
    (case l17 => k_is)
    (case c17 => k_is)
    (case k17 => k_is)
    (case a18 => k_is)
    (case l18 => k_is)
    (case c18 => k_is)
    (case k18 => k_is)
    (case a19 => k_is)
    (case l19 => k_is)
    (case c19 => k_is)
    (case k19 => k_is)
    (case a20 => k_is)
    (case l20 => k_is)
    (case c20 => k_is)
    (case k20 => k_is)
    (case a21 => k_is)
    (case l21 => k_is)
    (case c21 => k_is)
    (case k21 => k_is)
    (case a22 => k_is)
    (case l22 => k_is)
    (case c22 => k_is)
    (case k22 => k_is)
    (case a23 => k_is)
    (case l23 => k_is)
    (case c23 => k_is)
    (case k23 => k_is)
    (case a24 => k_is)
    (case l24 => k_is)
    (case lT24 => k_is)
    (case c24 => k_is)
    (case k24 => k_is)
    (case a25 => k_is)
    (case l25 => k_is)
    (case c25 => k_is)
    (case k25 => k_is)
    (case a26 => k_is)
    (case l26 => k_is)
    (case c26 => k_is)
    (case k26 => k_is)
    (case a27 => k_is)
    (case l27 => k_is)
    (case c27 => k_is)
    (case k27 => k_is)
    (case a28 => k_is)
    (case l28 => k_is)
    (case c28 => k_is)
    (case k28 => k_is)
    (case a29 => k_is)
    (case l29 => k_is)
    (case c29 => k_is)
    (case k29 => k_is)
    (case a30 => k_is)
    (case l30 => k_is)
    (case c30 => k_is)
    (case k30 => k_is)
    (case a31 => k_is)
    (case l31 => k_is)
    (case c31 => k_is)
    (case k31 => k_is)
    (case a32 => k_is)
    (case l32 => k_is)
    (case c32 => k_is)
    (case k32 => k_is)
    (case a33 => k_is)
    (case l33 => k_is)
    (case c33 => k_is)
    (case k33 => k_is)
    (case a34 => k_is)
    (case l34 => k_is)
    (case c34 => k_is)
    (case k34 => k_is)
    (case z0 => k_is)
    (case z1 => k_is)
    (case z2 => k_is)
    (case z3 => k_is)
    (case z4 => k_is)
    (case z5 => k_is)
    (case z6 => k_is)
    (case z7 => k_is)
    (case z8 => k_is)
    (case z9 => k_is)
    (case z10 => k_is)
    (case z11 => k_is)
    (case z12 => k_is)
    (case z13 => k_is)
    (case aq0 => k_is)
    (case lq0 => k_is)
    (case aq1 => k_is)
    (case aq2 => k_is)
    (case pgK0 => k_is)
    (case hdK0 => k_is)
    (case poK0 => k_is)
    (case saK0 => k_is)
    (case nfK0_0 => k_is)
    (case nfK0_1 => k_is)
    (case mkK0 => k_is)
    (case fnK0 => k_is)
    (case kpK0 => k_is)
    (case aC0 => k_is)
    (case aC1 => k_is)
    (case aC2 => k_is)
    (case aC3 => k_is)
    (case aC4 => k_is)
    (case xL1 => k_is)
    (case sa1 => k_is)
    (case eC1 => k_is)
    (case tC1 => k_is)
    (case kC1 => k_is)
    (case ai1 => k_is)
    (case ti1 => k_is)
    (case li1 => k_is)
    (case ci1 => k_is)
    (case ki1 => k_is)
    (case nf1_0 => k_is)
    (case xL2 => k_is)
    (case sa2 => k_is)
    (case eC2 => k_is)
    (case tC2 => k_is)
    (case kC2 => k_is)
    (case ai2 => k_is)
    (case ti2 => k_is)
    (case li2 => k_is)
    (case ci2 => k_is)
    (case ki2 => k_is)
    (case nf2_0 => k_is)
    (case nf2_1 => k_is)
    (case xL3 => k_is)
    (case sa3 => k_is)
    (case eC3 => k_is)
    (case tC3 => k_is)
    (case kC3 => k_is)
    (case ai3 => k_is)
    (case ti3 => k_is)
    (case li3 => k_is)
    (case ci3 => k_is)
    (case ki3 => k_is)
    (case nf3_0 => k_is)
    (case xL4 => k_is)
    (case sa4 => k_is)
    (case eC4 => k_is)
    (case tC4 => k_is)
    (case kC4 => k_is)
    (case ai4 => k_is)
    (case ti4 => k_is)
    (case li4 => k_is)
    (case ci4 => k_is)
    (case ki4 => k_is)
    (case nf4_0 => k_is)
    (case nf4_1 => k_is)
    (case rd0 => k_is)
    (case rg0 => k_is)
    (case vi0 => k_is)
    (case sb3_3 => first | k_is | rfl)
    (case xhd3 => k_is)
    (case sb1_3 => first | k_is | rfl)
    (case sb1_4 => first | k_is | rfl)
    (case xhd4 => k_is)
    (case sb4_3 => first | k_is | rfl)
    (case sb4_4 => first | k_is | rfl)
    (case sb3_0 => first | k_is | rfl)
    (case eC0 => k_is)
    (case tC0 => k_is)
    (case xhd0 => k_is)
    (case sb0_0 => first | k_is | rfl)
    (case sb3_ValueError => first | k_is | rfl)
    (case sb4_0 => first | k_is | rfl)
    (case sb4_ValueError => first | k_is | rfl)
    (case xn => k_is)
    (case xt => k_is)
    (case xhg3 => k_is)
    (case xhk3 => k_is)
    (case xhs3 => k_is)
    (case xha3 => k_is)
    (case xhm3 => k_is)
    (case xhg4 => k_is)
    (case xhk4 => k_is)
    (case xhs4 => k_is)
    (case xha4 => k_is)
    (case xhm4 => k_is)
#print axioms PySem.Challenge.cw_letbychecks_k19_whole_cone_rows_judged_a_holds

