import PyProof.Rows.All
import Wide.All
import OpenK.AllK
import Wide.FinOn
import HandS.ForMost
import HandS.ForExc
import HandS.EndBits
import HandS.Walk
import HandS.Conv
import HandS.CallSlots
import PyProof.P3In
import HandS.IsInst
import HandS.Defaults
import KE.GoesEnum
import HandS.More
import HandS.ExcInit
import HandS.ExcField
import HandS.ExcIs
import HandS.TryOnly
import HandS.TryMany
import HandS.ClsMeth
import PySem.Challenge.RW_letbychecks_k00_whole_ratios_reckoned
set_option Elab.async false
set_option linter.all false
set_option maxRecDepth 100000
set_option maxHeartbeats 2000000
/-! Den0: data D, how a value bears it (Rep), slots S, the state of a body (BRel), denotations' results. -/
namespace DL
open PySem L2

/-- plain data; lists in it are never changed again -/
inductive D where
  | non | bl (b : Bool) | int (i : Int) | str (x : Str) | tup (ds : List D) | lst (ds : List D)
  | obj (c : Str) (ns : List Str) (ds : List D)

abbrev Fzn := Addr → Prop
/-- the module's part: K, mg -/
structure MM where
  K : PySem.W.Frag
  mg : Str → Option Value

/-- a list that is frozen, known, or the module's -/
def LsF (K : PySem.W.Frag) (Fz : Fzn) (H : Hp) (a : Addr) (xs : List V) : Prop :=
  (Fz a ∧ H a = some (.lst xs)) ∨ (∃ o, H a = some (.frz o (.lst xs))) ∨
    ∃ (o : Obj) (its : Array Value) (n : Nat), K.lookup a = some o ∧ o.cls = .type "list" ∧ o.dict = none ∧ o.data = .seq its n ∧ its.size ≤ sizeLine ∧ Vals xs its.toList
theorem LsF.sq {K : PySem.W.Frag} {Fz : Fzn} {H : Hp} {a : Addr} {xs : List V} (h : LsF K Fz H a xs) : SqL K H a xs := by
  rcases h with ⟨_, h⟩ | ⟨o, h⟩ | h
  · exact .inl (.inl h)
  · exact .inl (.inr ⟨o, h⟩)
  · exact .inr h

mutual
def Rep (M : MM) (Fz : Fzn) (H : Hp) : D → V → Prop
  | .non, v => v = .non
  | .bl b, v => v = .bl b
  | .int i, v => v = .int i
  | .str x, v => v = .str x
  | .tup ds, v => ∃ a vs, v = .ref a ∧ SqT M.K H a vs ∧ RepL M Fz H ds vs
  | .lst ds, v => ∃ a vs, v = .ref a ∧ LsF M.K Fz H a vs ∧ RepL M Fz H ds vs
  | .obj c ns ds, v => ∃ a C dx vs, v = .ref a ∧ M.mg c = some (.ref C) ∧ Fz a ∧ H a = some (.ins C dx (ns.zip vs)) ∧ ns.length = vs.length ∧ RepL M Fz H ds vs
def RepL (M : MM) (Fz : Fzn) (H : Hp) : List D → List V → Prop
  | [], vs => vs = []
  | d :: ds, vs => ∃ v r, vs = v :: r ∧ Rep M Fz H d v ∧ RepL M Fz H ds r
end

structure Ext (Fz : Fzn) (H : Hp) (Fz' : Fzn) (H' : Hp) : Prop where
  fz : ∀ a, Fz a → Fz' a
  st : ∀ a o, H a = some o → (Fz a ∨ ¬ Mut (some o)) → H' a = some o
theorem Ext.refl {Fz : Fzn} {H : Hp} : Ext Fz H Fz H := ⟨fun _ h => h, fun _ _ h _ => h⟩
theorem Ext.trans {Fz Fz1 Fz2 : Fzn} {H H1 H2 : Hp} (a : Ext Fz H Fz1 H1) (b : Ext Fz1 H1 Fz2 H2) : Ext Fz H Fz2 H2 :=
  ⟨fun x h => b.fz x (a.fz x h), fun x o h q => b.st x o (a.st x o h q) (q.imp (a.fz x) id)⟩

theorem Ext.sqT {K : PySem.W.Frag} {Fz Fz' : Fzn} {H H' : Hp} (e : Ext Fz H Fz' H') {a : Addr} {vs : List V} (h : SqT K H a vs) : SqT K H' a vs := by
  rcases h with (h | ⟨o, h⟩) | h
  · exact .inl (.inl (e.st _ _ h (.inr fun z => z)))
  · exact .inl (.inr ⟨o, e.st _ _ h (.inr fun z => z)⟩)
  · exact .inr h
theorem Ext.lsF {K : PySem.W.Frag} {Fz Fz' : Fzn} {H H' : Hp} (e : Ext Fz H Fz' H') {a : Addr} {vs : List V} (h : LsF K Fz H a vs) : LsF K Fz' H' a vs := by
  rcases h with ⟨f, h⟩ | ⟨o, h⟩ | h
  · exact .inl ⟨e.fz _ f, e.st _ _ h (.inl f)⟩
  · exact .inr (.inl ⟨o, e.st _ _ h (.inr fun z => z)⟩)
  · exact .inr (.inr h)

mutual
theorem Rep.mono {M : MM} {Fz Fz' : Fzn} {H H' : Hp} (e : Ext Fz H Fz' H') : ∀ (d : D) (v : V), Rep M Fz H d v → Rep M Fz' H' d v
  | .non, _, h => h
  | .bl _, _, h => h
  | .int _, _, h => h
  | .str _, _, h => h
  | .tup ds, v, h => by
    unfold Rep at h ⊢
    obtain ⟨a, vs, e1, h1, h2⟩ := h
    exact ⟨a, vs, e1, e.sqT h1, RepL.mono e ds vs h2⟩
  | .lst ds, v, h => by
    unfold Rep at h ⊢
    obtain ⟨a, vs, e1, h1, h2⟩ := h
    exact ⟨a, vs, e1, e.lsF h1, RepL.mono e ds vs h2⟩
  | .obj c ns ds, v, h => by
    unfold Rep at h ⊢
    obtain ⟨a, C, dx, vs, e1, hm, hf, h1, hl, h2⟩ := h
    exact ⟨a, C, dx, vs, e1, hm, e.fz a hf, e.st _ _ h1 (.inl hf), hl, RepL.mono e ds vs h2⟩
theorem RepL.mono {M : MM} {Fz Fz' : Fzn} {H H' : Hp} (e : Ext Fz H Fz' H') : ∀ (ds : List D) (vs : List V), RepL M Fz H ds vs → RepL M Fz' H' ds vs
  | [], vs, h => by unfold RepL at h ⊢; exact h
  | d :: ds, vs, h => by
    unfold RepL at h ⊢
    obtain ⟨v, r, e1, h1, h2⟩ := h
    exact ⟨v, r, e1, Rep.mono e d v h1, RepL.mono e ds r h2⟩
end

section
variable {M : MM} {Fz : Fzn} {H : Hp} {d : D} {ds : List D} {v : V} {vs : List V}
theorem RepL.nil_iff : RepL M Fz H [] vs ↔ vs = [] := by unfold RepL; exact Iff.rfl
theorem RepL.cons_iff : RepL M Fz H (d :: ds) vs ↔ ∃ v r, vs = v :: r ∧ Rep M Fz H d v ∧ RepL M Fz H ds r := by rw [RepL]
theorem RepL.nil : RepL M Fz H [] [] := by unfold RepL; rfl
theorem RepL.cons (h : Rep M Fz H d v) (t : RepL M Fz H ds vs) : RepL M Fz H (d :: ds) (v :: vs) := by unfold RepL; exact ⟨v, vs, rfl, h, t⟩
theorem RepL.length : ∀ {ds : List D} {vs : List V}, RepL M Fz H ds vs → ds.length = vs.length
  | [], vs, h => by unfold RepL at h; rw [h]; rfl
  | d :: ds, vs, h => by
    unfold RepL at h
    obtain ⟨v, r, rfl, _, h2⟩ := h
    simp [RepL.length h2]
theorem RepL.get : ∀ {ds : List D} {vs : List V} {i : Nat} {d : D}, RepL M Fz H ds vs → ds[i]? = some d → ∃ v, vs[i]? = some v ∧ Rep M Fz H d v
  | [], _, _, _, _, e => by simp at e
  | x :: ds, vs, i, d, h, e => by
    unfold RepL at h
    obtain ⟨v, r, rfl, h1, h2⟩ := h
    cases i with
    | zero =>
      have e' : x = d := by simpa using e
      subst e'
      exact ⟨v, rfl, h1⟩
    | succ i => exact RepL.get (i := i) h2 (by simpa using e)
theorem RepL.getV : ∀ {ds : List D} {vs : List V} {i : Nat} {v : V}, RepL M Fz H ds vs → vs[i]? = some v → ∃ d, ds[i]? = some d ∧ Rep M Fz H d v
  | [], vs, _, _, h, e => by unfold RepL at h; subst h; simp at e
  | x :: ds, vs, i, v, h, e => by
    unfold RepL at h
    obtain ⟨v', r, rfl, h1, h2⟩ := h
    cases i with
    | zero =>
      have e' : v' = v := by simpa using e
      subst e'
      exact ⟨x, rfl, h1⟩
    | succ i => exact RepL.getV (i := i) h2 (by simpa using e)
theorem RepL.append : ∀ {ds es : List D} {vs ws : List V}, RepL M Fz H ds vs → RepL M Fz H es ws → RepL M Fz H (ds ++ es) (vs ++ ws)
  | [], _, vs, _, h, q => by unfold RepL at h; subst h; exact q
  | d :: ds, es, vs, ws, h, q => by
    unfold RepL at h
    obtain ⟨v, r, rfl, h1, h2⟩ := h
    exact RepL.cons h1 (RepL.append h2 q)
theorem RepL.take : ∀ {ds : List D} {vs : List V} (n : Nat), RepL M Fz H ds vs → RepL M Fz H (ds.take n) (vs.take n)
  | _, _, 0, _ => by simp [RepL.nil]
  | [], vs, n + 1, h => by unfold RepL at h; subst h; exact RepL.nil
  | d :: ds, vs, n + 1, h => by
    unfold RepL at h
    obtain ⟨v, r, rfl, h1, h2⟩ := h
    exact RepL.cons h1 (RepL.take n h2)
theorem RepL.drop : ∀ {ds : List D} {vs : List V} (n : Nat), RepL M Fz H ds vs → RepL M Fz H (ds.drop n) (vs.drop n)
  | _, _, 0, h => h
  | [], vs, n + 1, h => by unfold RepL at h; subst h; exact RepL.nil
  | d :: ds, vs, n + 1, h => by
    unfold RepL at h
    obtain ⟨v, r, rfl, h1, h2⟩ := h
    exact RepL.drop n h2
theorem RepL.set : ∀ {ds : List D} {vs : List V} (i : Nat), RepL M Fz H ds vs → Rep M Fz H d v → RepL M Fz H (ds.set i d) (vs.set i v)
  | [], vs, i, h, _ => by unfold RepL at h; subst h; exact RepL.nil
  | x :: ds, vs, i, h, q => by
    unfold RepL at h
    obtain ⟨v', r, rfl, h1, h2⟩ := h
    cases i with
    | zero => exact RepL.cons q h2
    | succ i => exact RepL.cons h1 (RepL.set i h2 q)
theorem RepL.eraseIdx : ∀ {ds : List D} {vs : List V} (i : Nat), RepL M Fz H ds vs → RepL M Fz H (ds.eraseIdx i) (vs.eraseIdx i)
  | [], vs, i, h => by unfold RepL at h; subst h; exact RepL.nil
  | x :: ds, vs, i, h => by
    unfold RepL at h
    obtain ⟨v', r, rfl, h1, h2⟩ := h
    cases i with
    | zero => exact h2
    | succ i => exact RepL.cons h1 (RepL.eraseIdx i h2)
theorem RepL.reverse : ∀ {ds : List D} {vs : List V}, RepL M Fz H ds vs → RepL M Fz H ds.reverse vs.reverse
  | [], vs, h => by unfold RepL at h; subst h; exact RepL.nil
  | x :: ds, vs, h => by
    unfold RepL at h
    obtain ⟨v', r, rfl, h1, h2⟩ := h
    rw [List.reverse_cons, List.reverse_cons]
    exact RepL.append (RepL.reverse h2) (RepL.cons h1 RepL.nil)
theorem RepL.rep (h : RepL M Fz H ds vs) : ∀ k : Nat, RepL M Fz H (List.replicate k ds).flatten (List.replicate k vs).flatten
  | 0 => RepL.nil
  | k + 1 => by
    rw [List.replicate_succ, List.replicate_succ, List.flatten_cons, List.flatten_cons]
    exact RepL.append h (RepL.rep h k)
end

/-- borrowed: the value itself need not be frozen -/
def TRep (M : MM) (Fz : Fzn) (H : Hp) (d : D) (v : V) : Prop := match d with
  | .lst ds => ∃ a vs, v = .ref a ∧ SqL M.K H a vs ∧ RepL M Fz H ds vs
  | d => Rep M Fz H d v
theorem Rep.t {M : MM} {Fz : Fzn} {H : Hp} {d : D} {v : V} (h : Rep M Fz H d v) : TRep M Fz H d v := by
  cases d with
  | lst ds =>
    unfold Rep at h
    obtain ⟨a, vs, e, h1, h2⟩ := h
    exact ⟨a, vs, e, h1.sq, h2⟩
  | _ => exact h

/-! ### slots -/
/-- unassigned or forgotten | data | an own list, an own dict (keys ints, texts | tuples of them), an own instance: they may be changed -/
inductive S where
  | un | v (d : D) | ow (ds : List D) | oK (kvs : List (Key × D)) | oT (kvs : List (List Key × D)) | oi (c : Str) (ns : List Str) (ds : List D)

def KRep {κ : Type} (M : MM) (Fz : Fzn) (H : Hp) (kvs : List (κ × D)) (ws : List (κ × V)) : Prop :=
  kvs.map Prod.fst = ws.map Prod.fst ∧ RepL M Fz H (kvs.map Prod.snd) (ws.map Prod.snd)
/-- what stands at an own slot's address -/
def OwnAt (M : MM) (Fz : Fzn) (H : Hp) : S → HO → Prop
  | .ow ds, o => ∃ vs, o = .lst vs ∧ RepL M Fz H ds vs
  | .oK kvs, o => ∃ ws, o = .dK ws ∧ KRep M Fz H kvs ws
  | .oT kvs, o => ∃ ws, o = .dT ws ∧ KRep M Fz H kvs ws
  | .oi c ns ds, o => ∃ C dx vs, o = .ins C dx (ns.zip vs) ∧ M.mg c = some (.ref C) ∧ ns.length = vs.length ∧ RepL M Fz H ds vs
  | _, _ => False
def S.isOw : S → Bool
  | .un => false
  | .v _ => false
  | _ => true
def SlotOk (M : MM) (Fz : Fzn) (H : Hp) (s : S) (o : Option (Option V)) : Prop := match s with
  | .un => True
  | .v d => ∃ x, o = some (some x) ∧ Rep M Fz H d x
  | s => ∃ a u, o = some (some (.ref a)) ∧ ¬ Fz a ∧ H a = some u ∧ OwnAt M Fz H s u
def Own (g : List S) (σ : List (Option V)) (i : Nat) (a : Addr) : Prop := (∃ s, g[i]? = some s ∧ s.isOw = true) ∧ σ[i]? = some (some (.ref a))
structure ARel (M : MM) (Fz : Fzn) (H : Hp) (g : List S) (σ : List (Option V)) : Prop where
  len : g.length = σ.length
  ok : ∀ (i : Nat) (s : S), g[i]? = some s → SlotOk M Fz H s (σ[i]?)
  apart : ∀ (i j : Nat) (a : Addr), Own g σ i a → Own g σ j a → i = j

/-- the entry of a body -/
structure B where
  M : MM
  H0 : Hp
  Fz0 : Fzn
  OA : Addr → Prop
  np : Nat
  σ0 : List (Option V)
  /-- a slot that holds a caught exception -/
  px : Option (Nat × Addr) := none
/-- slot i is not the caught exception's -/
def PxOk (b : B) (i : Nat) : Prop := ∀ a, b.px ≠ some (i, a)
theorem PxOk.of {b : B} (h : b.px = none) (i : Nat) : PxOk b i := fun a z => by rw [h] at z; cases z

structure Grow (b : B) (Fz : Fzn) (H : Hp) : Prop where
  dom : ∀ a, Fz a → ∃ o, H a = some o
  fz : ∀ a, b.Fz0 a → Fz a
  new : ∀ a, Fz a → b.Fz0 a ∨ b.H0 a = none
  fr : ∀ a o, b.H0 a = some o → ¬ b.OA a → H a = some o
  oa : ∀ a, b.OA a → (∃ o, H a = some o) ∧ ¬ b.Fz0 a ∧ ∃ o, b.H0 a = some o
structure BRel (b : B) (Fz : Fzn) (g : List S) (σ : List (Option V)) (H : Hp) : Prop where
  gr : Grow b Fz H
  rel : ARel b.M Fz H g σ
  own : ∀ i a, Own g σ i a → (i < b.np ∧ b.OA a) ∨ (b.np ≤ i ∧ b.H0 a = none)
  pin : ∀ i a, i < b.np → Own g σ i a → b.σ0[i]? = some (some (.ref a))
  px : ∀ i a, b.px = some (i, a) → σ[i]? = some (some (.ref a))

/-- an exception: its class, its fields -/
structure Exn where
  cls : Str
  ns : List Str
  ds : List D
/-- how it lies: its class, its own dict -/
def ExOk (M : MM) (Fz : Fzn) (H : Hp) (e : Exn) (cl : Value) (dx : Option Addr) : Prop :=
  ∃ C, cl = .ref C ∧ M.mg e.cls = some (.ref C) ∧ ((e.ns = [] ∧ e.ds = [] ∧ dx = none) ∨ ∃ d vs, dx = some d ∧ H d = some (.xd (e.ns.zip vs)) ∧ e.ns.length = vs.length ∧ RepL M Fz H e.ds vs)

abbrev Sg := List S
/-- an argument: data, or an own slot as it stands -/
inductive AV where
  | d (d : D) | o (i : Nat)
/-- a piece's result -/
inductive R (α : Type) where
  | ok (a : α) (g : Sg) | ex (e : Exn) (g : Sg) | no
/-- a statement's result; rf: a new list is returned -/
inductive RS where
  | nx (g : Sg) | rt (d : D) (g : Sg) | rf (ds : List D) (g : Sg) | bk (g : Sg) | ct (g : Sg) | ex (e : Exn) (g : Sg) | no
/-- a call's result -/
inductive RC where
  | ok (d : D) (as : Sg) | okf (ds : List D) (as : Sg) | ex (e : Exn) (as : Sg) | no

abbrev FE := Sg → R D
abbrev FF := Sg → R (List D)
abbrev FA := Sg → R (List D)
abbrev FB := Sg → R Bool
abbrev FV := Sg → R (List AV)
abbrev FS := Sg → RS
abbrev Dn := Sg → RC

def R.bd {α β : Type} (r : R α) (k : α → Sg → R β) : R β := match r with
  | .ok d g => k d g
  | .ex e g => .ex e g
  | .no => .no
@[simp] theorem R.bd_ok {α β : Type} {d : α} {g : Sg} {k : α → Sg → R β} : (R.ok d g).bd k = k d g := rfl
@[simp] theorem R.bd_ex {α β : Type} {e : Exn} {g : Sg} {k : α → Sg → R β} : (R.ex e g : R α).bd k = .ex e g := rfl
@[simp] theorem R.bd_no {α β : Type} {k : α → Sg → R β} : (R.no : R α).bd k = .no := rfl

section
variable (b : B) (W : WX)
/-- what is asked of an exception -/
def ExK (σ : L2.St) (Fz : Fzn) (H : Hp) (e : Exn) (g : Sg) : Prop := ∀ cl dx H' Fz', BRel b Fz' g σ H' → Ext Fz H Fz' H' → ExOk b.M Fz' H' e cl dx → W cl dx σ H'
/-- how a result is borne -/
abbrev Bear (α ξ : Type) := L2.St → Fzn → Hp → Sg → α → ξ → Prop
def bE : Bear D V := fun _ Fz H _ d x => Rep b.M Fz H d x
def bF : Bear (List D) V := fun σ Fz H g ds x => ∃ p vs, x = .ref p ∧ b.H0 p = none ∧ ¬ Fz p ∧ H p = some (.lst vs) ∧ (∀ i, ¬ Own g σ i p) ∧ RepL b.M Fz H ds vs
def bA : Bear (List D) (List V) := fun _ Fz H _ ds xs => RepL b.M Fz H ds xs
def bB : Bear Bool Bool := fun _ _ _ _ c x => x = c
def AVOk (σ : L2.St) (Fz : Fzn) (H : Hp) (g : Sg) : AV → V → Prop
  | .d d, x => Rep b.M Fz H d x
  | .o i, x => ∃ a, x = .ref a ∧ Own g σ i a
def AVsOk (σ : L2.St) (Fz : Fzn) (H : Hp) (g : Sg) : List AV → List V → Prop
  | [], xs => xs = []
  | a :: as, xs => ∃ x r, xs = x :: r ∧ AVOk b σ Fz H g a x ∧ AVsOk σ Fz H g as r
def bV : Bear (List AV) (List V) := fun σ Fz H g as xs => AVsOk b σ Fz H g as xs
def b1 : Bear AV V := fun σ Fz H g as xs => AVOk b σ Fz H g as xs
/-- a piece's post, from one state on -/
def Po {α ξ : Type} (P : Bear α ξ) (σ : L2.St) (Fz : Fzn) (H : Hp) (K : ξ → Sg → Fzn → Hp → α → Prop) (r : R α) : Prop := match r with
  | .ok a g' => ∀ x H' Fz', BRel b Fz' g' σ H' → Ext Fz H Fz' H' → P σ Fz' H' g' a x → K x g' Fz' H' a
  | .ex e g' => ExK b W σ Fz H e g'
  | .no => False
def tG {α ξ : Type} (P : Bear α ξ) (f : Sg → R α) : L2.St → Hp → (ξ → Hp → Prop) → Prop := fun σ H Q => ∃ Fz g, BRel b Fz g σ H ∧ Po b W P σ Fz H (fun x _ _ H' _ => Q x H') (f g)
abbrev tE (f : FE) : TE := tG b W (bE b) f
abbrev tFr (f : FF) : TE := tG b W (bF b) f
abbrev tAr (f : FA) : TA := tG b W (bA b) f
abbrev tAv (f : FV) : TA := tG b W (bV b) f
abbrev tA1 (f : Sg → R AV) : TE := tG b W (b1 b) f
abbrev tBo (f : FB) : TT := tG b W bB f
/-- onward: what is held stands, the slots but those of as are as they were -/
structure Go (as : List Nat) (σ : L2.St) (Fz : Fzn) (H : Hp) (σ' : L2.St) (Fz' : Fzn) (H' : Hp) : Prop where
  ex : Ext Fz H Fz' H'
  sl : ∀ i, i ∉ as → σ'[i]? = σ[i]?
/-- a statement's post -/
def PoS (as : List Nat) (σ : L2.St) (Fz : Fzn) (H : Hp) (D : Ends) (r : RS) : Prop := match r with
  | .nx g' => ∀ σ' H' Fz', BRel b Fz' g' σ' H' → Go as σ Fz H σ' Fz' H' → D.nx σ' H'
  | .rt d g' => ∀ x σ' H' Fz', BRel b Fz' g' σ' H' → Rep b.M Fz' H' d x → D.rt x H'
  | .rf ds g' => ∀ x σ' H' Fz', BRel b Fz' g' σ' H' → bF b σ' Fz' H' g' ds x → D.rt x H'
  | .bk g' => ∀ σ' H' Fz', BRel b Fz' g' σ' H' → Go as σ Fz H σ' Fz' H' → D.bk σ' H'
  | .ct g' => ∀ σ' H' Fz', BRel b Fz' g' σ' H' → Go as σ Fz H σ' Fz' H' → D.ct σ' H'
  | .ex e g' => ∀ σ' cl dx H' Fz', BRel b Fz' g' σ' H' → Go as σ Fz H σ' Fz' H' → ExOk b.M Fz' H' e cl dx → W cl dx σ' H'
  | .no => False
/-- as: the slots that it may store -/
def tSt (as : List Nat) (f : FS) : TS := fun D σ H => ∃ Fz g, BRel b Fz g σ H ∧ PoS b W as σ Fz H D (f g)
end
end DL

set_option Elab.async false
set_option linter.all false
set_option maxRecDepth 100000
set_option maxHeartbeats 2000000
/-! Den1: how the state is carried; plain expressions. -/
namespace DL
open PySem L2 PySem.Spec PyProof.Rows

/-! ### growth of the heap -/
structure GrowTo (Fz : Fzn) (H : Hp) (Fz' : Fzn) (H' : Hp) : Prop where
  st : ∀ a o, H a = some o → H' a = some o
  fz : ∀ a, Fz a → Fz' a
  new : ∀ a, Fz' a → Fz a ∨ (H a = none ∧ ∃ o, H' a = some o)
theorem GrowTo.refl {Fz : Fzn} {H : Hp} : GrowTo Fz H Fz H := ⟨fun _ _ h => h, fun _ h => h, fun _ h => .inl h⟩
theorem GrowTo.ext {Fz Fz' : Fzn} {H H' : Hp} (e : GrowTo Fz H Fz' H') : Ext Fz H Fz' H' := ⟨e.fz, fun a o h _ => e.st a o h⟩
theorem GrowTo.trans {Fz Fz1 Fz2 : Fzn} {H H1 H2 : Hp} (a : GrowTo Fz H Fz1 H1) (b : GrowTo Fz1 H1 Fz2 H2) : GrowTo Fz H Fz2 H2 :=
  ⟨fun x o h => b.st x o (a.st x o h), fun x h => b.fz x (a.fz x h), fun x h => by
    rcases b.new x h with q | ⟨q, o, r⟩
    · rcases a.new x q with z | ⟨z, o, r⟩
      · exact .inl z
      · exact .inr ⟨z, o, b.st x o r⟩
    · refine .inr ⟨?_, o, r⟩
      cases e : H x with
      | none => rfl
      | some u => rw [a.st x u e] at q; cases q⟩
theorem upd_old {H : Hp} {p : Addr} {o : HO} (hp : H p = none) : ∀ a u, H a = some u → upd H p o a = some u := fun a u e => by
  rw [upd_ne (ne_of_none e hp)]; exact e
/-- a new object, not frozen -/
theorem GrowTo.alloc {Fz : Fzn} {H : Hp} {p : Addr} {o : HO} (hp : H p = none) : GrowTo Fz H Fz (upd H p o) := ⟨upd_old hp, fun _ h => h, fun _ h => .inl h⟩
/-- a new object, frozen -/
def fzAdd (Fz : Fzn) (p : Addr) : Fzn := fun a => Fz a ∨ a = p
theorem GrowTo.allocF {Fz : Fzn} {H : Hp} {p : Addr} {o : HO} (hp : H p = none) : GrowTo Fz H (fzAdd Fz p) (upd H p o) :=
  ⟨upd_old hp, fun _ h => .inl h, fun a h => by
    rcases h with h | h
    · exact .inl h
    · subst h; exact .inr ⟨hp, o, upd_same⟩⟩

theorem Rep.grow {M : MM} {Fz Fz' : Fzn} {H H' : Hp} (e : GrowTo Fz H Fz' H') {d : D} {v : V} (h : Rep M Fz H d v) : Rep M Fz' H' d v := Rep.mono e.ext d v h
theorem RepL.grow {M : MM} {Fz Fz' : Fzn} {H H' : Hp} (e : GrowTo Fz H Fz' H') {d : List D} {v : List V} (h : RepL M Fz H d v) : RepL M Fz' H' d v := RepL.mono e.ext d v h
theorem KRep.mono {κ : Type} {M : MM} {Fz Fz' : Fzn} {H H' : Hp} (e : Ext Fz H Fz' H') {kvs : List (κ × D)} {ws : List (κ × V)} (h : KRep M Fz H kvs ws) : KRep M Fz' H' kvs ws := ⟨h.1, RepL.mono e _ _ h.2⟩
theorem OwnAt.mono {M : MM} {Fz Fz' : Fzn} {H H' : Hp} (e : Ext Fz H Fz' H') {s : S} {u : HO} (h : OwnAt M Fz H s u) : OwnAt M Fz' H' s u := by
  cases s with
  | ow ds => obtain ⟨vs, e1, r⟩ := h; exact ⟨vs, e1, RepL.mono e _ _ r⟩
  | oK kvs => obtain ⟨vs, e1, r⟩ := h; exact ⟨vs, e1, r.mono e⟩
  | oT kvs => obtain ⟨vs, e1, r⟩ := h; exact ⟨vs, e1, r.mono e⟩
  | oi c ns ds => obtain ⟨C, dx, vs, e1, m, l, r⟩ := h; exact ⟨C, dx, vs, e1, m, l, RepL.mono e _ _ r⟩
  | un => exact h
  | v d => exact h
theorem OwnAt.mut {M : MM} {Fz : Fzn} {H : Hp} {s : S} {u : HO} (h : OwnAt M Fz H s u) : Mut (some u) := by
  cases s with
  | ow ds => obtain ⟨vs, e1, r⟩ := h; subst e1; trivial
  | oK kvs => obtain ⟨vs, e1, r⟩ := h; subst e1; trivial
  | oT kvs => obtain ⟨vs, e1, r⟩ := h; subst e1; trivial
  | oi c ns ds => obtain ⟨C, dx, vs, e1, _⟩ := h; subst e1; trivial
  | un => exact h.elim
  | v d => exact h.elim
theorem OwnAt.isOw {M : MM} {Fz : Fzn} {H : Hp} {s : S} {u : HO} (h : OwnAt M Fz H s u) : s.isOw = true := by
  cases s <;> first | rfl | exact h.elim
theorem SlotOk.own {M : MM} {Fz : Fzn} {H : Hp} {s : S} {o : Option (Option V)} (h : SlotOk M Fz H s o) (i : s.isOw = true) : ∃ a u, o = some (some (.ref a)) ∧ ¬ Fz a ∧ H a = some u ∧ OwnAt M Fz H s u := by
  cases s with
  | un => cases i
  | v d => cases i
  | _ => exact h
theorem SlotOk.of_own {M : MM} {Fz : Fzn} {H : Hp} {s : S} {o : Option (Option V)} {a : Addr} {u : HO} (e : o = some (some (.ref a))) (n : ¬ Fz a) (h : H a = some u) (w : OwnAt M Fz H s u) : SlotOk M Fz H s o := by
  cases s with
  | un => exact w.elim
  | v d => exact w.elim
  | _ => exact ⟨a, u, e, n, h, w⟩

section
variable {b : B} {W : WX} {Fz Fz' : Fzn} {g g' : Sg} {σ : L2.St} {H H' : Hp}
theorem SlotOk.grow {M : MM} (e : GrowTo Fz H Fz' H') {s : S} {o : Option (Option V)} (h : SlotOk M Fz H s o) : SlotOk M Fz' H' s o := by
  cases s with
  | un => trivial
  | v d => obtain ⟨x, e1, r⟩ := h; exact ⟨x, e1, r.grow e⟩
  | _ =>
    obtain ⟨a, u, e1, n, h1, w⟩ := h
    refine ⟨a, u, e1, fun q => ?_, e.st a u h1, w.mono e.ext⟩
    rcases e.new a q with z | ⟨z, _⟩
    · exact n z
    · rw [h1] at z; cases z
theorem Grow.grow (r : Grow b Fz H) (e : GrowTo Fz H Fz' H') : Grow b Fz' H' where
  dom := fun a h => by
    rcases e.new a h with z | ⟨_, z⟩
    · obtain ⟨o, q⟩ := r.dom a z
      exact ⟨o, e.st a o q⟩
    · exact z
  fz := fun a h => e.fz a (r.fz a h)
  new := fun a h => by
    rcases e.new a h with z | ⟨z, _⟩
    · exact r.new a z
    · refine .inr ?_
      cases q : b.H0 a with
      | none => rfl
      | some o =>
        by_cases hoa : b.OA a
        · obtain ⟨⟨o', h'⟩, _⟩ := r.oa a hoa
          rw [z] at h'; cases h'
        · rw [r.fr a o q hoa] at z; cases z
  fr := fun a o h n => e.st a o (r.fr a o h n)
  oa := fun a h => let ⟨⟨o, q⟩, z⟩ := r.oa a h; ⟨⟨o, e.st a o q⟩, z⟩
theorem BRel.grow (r : BRel b Fz g σ H) (e : GrowTo Fz H Fz' H') : BRel b Fz' g σ H' :=
  ⟨r.gr.grow e, ⟨r.rel.len, fun i s h => (r.rel.ok i s h).grow e, r.rel.apart⟩, r.own, r.pin, r.px⟩
theorem BRel.alloc (r : BRel b Fz g σ H) {p : Addr} {o : HO} (hp : H p = none) : BRel b Fz g σ (upd H p o) := r.grow (.alloc hp)
theorem BRel.allocF (r : BRel b Fz g σ H) {p : Addr} {o : HO} (hp : H p = none) : BRel b (fzAdd Fz p) g σ (upd H p o) := r.grow (.allocF hp)
/-- what is new of the heap is new of the entry -/
theorem BRel.new0 (r : BRel b Fz g σ H) {p : Addr} (hp : H p = none) : b.H0 p = none := by
  cases q : b.H0 p with
  | none => rfl
  | some o =>
    by_cases hoa : b.OA p
    · obtain ⟨⟨o', h'⟩, _⟩ := r.gr.oa p hoa
      rw [hp] at h'; cases h'
    · rw [r.gr.fr p o q hoa] at hp; cases hp
theorem BRel.notFz (r : BRel b Fz g σ H) {p : Addr} (hp : H p = none) : ¬ Fz p := fun h => by
  obtain ⟨o, q⟩ := r.gr.dom p h
  rw [hp] at q; cases q
theorem BRel.slot (r : BRel b Fz g σ H) {i : Nat} {s : S} (h : g[i]? = some s) : SlotOk b.M Fz H s σ[i]? := r.rel.ok i s h
theorem BRel.there (r : BRel b Fz g σ H) {i : Nat} {a : Addr} (h : Own g σ i a) : ∃ s u, g[i]? = some s ∧ ¬ Fz a ∧ H a = some u ∧ OwnAt b.M Fz H s u := by
  obtain ⟨⟨s, e, w⟩, q⟩ := h
  obtain ⟨a', u, e1, n, h1, w1⟩ := (r.slot e).own w
  rw [q] at e1
  have e2 : a = a' := by injection e1 with e1; injection e1 with e1; injection e1
  subst e2
  exact ⟨s, u, e, n, h1, w1⟩
theorem BRel.notOwn (r : BRel b Fz g σ H) {p : Addr} (hp : H p = none) : ∀ i, ¬ Own g σ i p := fun i h => by
  obtain ⟨s, u, _, _, q, _⟩ := r.there h
  rw [hp] at q; cases q

theorem gset_get {i j : Nat} {s t : S} (h : (g.set i s)[j]? = some t) : (j = i ∧ t = s) ∨ (j ≠ i ∧ g[j]? = some t) := by
  by_cases e : i = j
  · subst e
    by_cases hl : i < g.length
    · rw [List.getElem?_set_self hl] at h
      exact .inl ⟨rfl, (Option.some.inj h).symm⟩
    · rw [List.getElem?_eq_none (by rw [List.length_set]; omega)] at h
      cases h
  · rw [List.getElem?_set_ne e] at h
    exact .inr ⟨fun q => e q.symm, h⟩
theorem own_set {i j : Nat} {s : S} {a : Addr} (hi : ∃ s0, g[i]? = some s0 ∧ s0.isOw = true) (h : Own (g.set i s) σ j a) : Own g σ j a := by
  obtain ⟨⟨t, e, w⟩, q⟩ := h
  rcases gset_get e with ⟨e1, e2⟩ | ⟨_, e2⟩
  · subst e1
    exact ⟨hi, q⟩
  · exact ⟨⟨t, e2, w⟩, q⟩
/-- the own object of slot i is changed -/
theorem BRel.mut (r : BRel b Fz g σ H) {i : Nat} {a : Addr} {s' : S} {u' : HO} (h : Own g σ i a) (w : OwnAt b.M Fz H s' u') : BRel b Fz (g.set i s') σ (upd H a u') := by
  obtain ⟨s, u, e0, nf, hu, w0⟩ := r.there h
  have ne : ∀ x o, H x = some o → (Fz x ∨ ¬ Mut (some o)) → upd H a u' x = some o := fun x o hx q => by
    rw [upd_ne]
    · exact hx
    · intro z
      subst z
      rcases q with q | q
      · exact nf q
      · rw [hu] at hx; cases hx; exact q w0.mut
  have ex : Ext Fz H Fz (upd H a u') := ⟨fun _ q => q, ne⟩
  have hi : ∃ s0, g[i]? = some s0 ∧ s0.isOw = true := h.1
  refine ⟨⟨fun x q => ?_, r.gr.fz, r.gr.new, fun x o q n => ?_, fun x q => ?_⟩, ⟨by rw [List.length_set]; exact r.rel.len, fun j t q => ?_, fun j k x p q => r.rel.apart j k x (own_set hi p) (own_set hi q)⟩, fun j x q => r.own j x (own_set hi q), fun j x l q => r.pin j x l (own_set hi q), r.px⟩
  · obtain ⟨o, z⟩ := r.gr.dom x q
    exact ⟨o, ne x o z (.inl q)⟩
  · rw [upd_ne]
    · exact r.gr.fr x o q n
    · intro z
      subst z
      rcases r.own i x h with ⟨_, y⟩ | ⟨_, y⟩
      · exact n y
      · rw [q] at y; cases y
  · obtain ⟨⟨o, z⟩, y⟩ := r.gr.oa x q
    refine ⟨?_, y⟩
    by_cases hx : x = a
    · subst hx; exact ⟨u', upd_same⟩
    · exact ⟨o, by rw [upd_ne hx]; exact z⟩
  · rcases gset_get q with ⟨e1, e2⟩ | ⟨hj, e2⟩
    · subst e1; subst e2
      exact SlotOk.of_own h.2 nf upd_same (w.mono ex)
    · have z := r.slot e2
      by_cases ht : t.isOw = true
      · obtain ⟨x, o, e3, n3, h3, w3⟩ := z.own ht
        have hx : x ≠ a := fun y => by
          subst y
          exact hj (r.rel.apart j i x ⟨⟨t, e2, ht⟩, e3⟩ h)
        exact SlotOk.of_own e3 n3 (by rw [upd_ne hx]; exact h3) (w3.mono ex)
      · cases t with
        | un => trivial
        | v d => obtain ⟨x, e3, r3⟩ := z; exact ⟨x, e3, Rep.mono ex d x r3⟩
        | _ => exact absurd rfl ht
/-- slot i gets plain data -/
theorem BRel.setV (r : BRel b Fz g σ H) {i : Nat} {d : D} {x : V} (hx : PxOk b i) (h : Rep b.M Fz H d x) : BRel b Fz (g.set i (.v d)) (σ.set i (some x)) H := by
  have ow : ∀ {j a}, Own (g.set i (.v d)) (σ.set i (some x)) j a → j ≠ i ∧ Own g σ j a := fun {j a} q => by
    obtain ⟨⟨t, e, w⟩, z⟩ := q
    rcases gset_get e with ⟨_, e2⟩ | ⟨hj, e2⟩
    · subst e2; cases w
    · refine ⟨hj, ⟨t, e2, w⟩, ?_⟩
      rw [List.getElem?_set_ne (Ne.symm hj)] at z
      exact z
  refine ⟨r.gr, ⟨by rw [List.length_set, List.length_set]; exact r.rel.len, fun j t q => ?_, fun j k a p q => r.rel.apart j k a (ow p).2 (ow q).2⟩, fun j a q => r.own j a (ow q).2, fun j a l q => r.pin j a l (ow q).2, fun j a q => (List.getElem?_set_ne fun z => hx a (by rw [z]; exact q)).trans (r.px j a q)⟩
  rcases gset_get q with ⟨e1, e2⟩ | ⟨hj, e2⟩
  · subst e1; subst e2
    have hl : j < σ.length := by
      have z := (List.getElem?_eq_some_iff.mp q).1
      rw [List.length_set] at z
      rw [← r.rel.len]; exact z
    exact ⟨x, List.getElem?_set_self hl, h⟩
  · rw [List.getElem?_set_ne (Ne.symm hj)]
    exact r.slot e2
/-- slot i (no parameter) gets a new own object -/
theorem BRel.setO (r : BRel b Fz g σ H) {i : Nat} {s : S} {p : Addr} {u : HO} (hx : PxOk b i) (hnp : b.np ≤ i) (hp0 : b.H0 p = none) (hf : ¬ Fz p) (hu : H p = some u) (ho : ∀ j, ¬ Own g σ j p) (w : OwnAt b.M Fz H s u) : BRel b Fz (g.set i s) (σ.set i (some (.ref p))) H := by
  have ow : ∀ {j a}, Own (g.set i s) (σ.set i (some (.ref p))) j a → (j = i ∧ a = p) ∨ (j ≠ i ∧ Own g σ j a) := fun {j a} q => by
    obtain ⟨⟨t, e, w⟩, z⟩ := q
    rcases gset_get e with ⟨e1, e2⟩ | ⟨hj, e2⟩
    · subst e1
      refine .inl ⟨rfl, ?_⟩
      have hl : j < σ.length := by
        have z := (List.getElem?_eq_some_iff.mp e).1
        rw [List.length_set] at z
        rw [← r.rel.len]; exact z
      rw [List.getElem?_set_self hl] at z
      injection z with z
      injection z with z
      injection z with z
      exact z.symm
    · refine .inr ⟨hj, ⟨t, e2, w⟩, ?_⟩
      rw [List.getElem?_set_ne (Ne.symm hj)] at z
      exact z
  refine ⟨r.gr, ⟨by rw [List.length_set, List.length_set]; exact r.rel.len, fun j t q => ?_, fun j k a p q => ?_⟩, fun j a q => ?_, fun j a l q => ?_, fun j a q => (List.getElem?_set_ne fun z => hx a (by rw [z]; exact q)).trans (r.px j a q)⟩
  · rcases gset_get q with ⟨e1, e2⟩ | ⟨hj, e2⟩
    · subst e1; subst e2
      have hl : j < σ.length := by
        have z := (List.getElem?_eq_some_iff.mp q).1
        rw [List.length_set] at z
        rw [← r.rel.len]; exact z
      exact SlotOk.of_own (List.getElem?_set_self hl) hf hu w
    · rw [List.getElem?_set_ne (Ne.symm hj)]
      exact r.slot e2
  · rcases ow p with ⟨e1, e2⟩ | ⟨e1, e2⟩
    · rcases ow q with ⟨e3, e4⟩ | ⟨e3, e4⟩
      · rw [e1, e3]
      · subst e2; exact absurd e4 (ho k)
    · rcases ow q with ⟨e3, e4⟩ | ⟨e3, e4⟩
      · subst e4; exact absurd e2 (ho j)
      · exact r.rel.apart j k a e2 e4
  · rcases ow q with ⟨e1, e2⟩ | ⟨e1, e2⟩
    · subst e2; exact .inr ⟨by omega, hp0⟩
    · exact r.own j a e2
  · rcases ow q with ⟨e1, e2⟩ | ⟨e1, e2⟩
    · omega
    · exact r.pin j a l e2
/-- slot i is forgotten -/
theorem BRel.forget (r : BRel b Fz g σ H) (i : Nat) : BRel b Fz (g.set i .un) σ H := by
  have ow : ∀ {j a}, Own (g.set i .un) σ j a → Own g σ j a := fun {j a} q => by
    obtain ⟨⟨t, e, w⟩, z⟩ := q
    rcases gset_get e with ⟨_, e2⟩ | ⟨hj, e2⟩
    · subst e2; cases w
    · exact ⟨⟨t, e2, w⟩, z⟩
  refine ⟨r.gr, ⟨by rw [List.length_set]; exact r.rel.len, fun j t q => ?_, fun j k a p q => r.rel.apart j k a (ow p) (ow q)⟩, fun j a q => r.own j a (ow q), fun j a l q => r.pin j a l (ow q), r.px⟩
  rcases gset_get q with ⟨_, e2⟩ | ⟨_, e2⟩
  · subst e2; trivial
  · exact r.slot e2
/-- the own list of slot i (no parameter) is frozen: from now on it is data -/
theorem BRel.freeze (r : BRel b Fz g σ H) {i : Nat} {a : Addr} {u : HO} (hnp : b.np ≤ i) (h : Own g σ i a) {d : D} (hd : ∀ Fz', Fz' a → Ext Fz H Fz' H → Rep b.M Fz' H d (.ref a)) : BRel b (fzAdd Fz a) (g.set i (.v d)) σ H := by
  obtain ⟨s, u0, e0, nf, hu, w0⟩ := r.there h
  have ex : Ext Fz H (fzAdd Fz a) H := ⟨fun _ q => .inl q, fun _ _ q _ => q⟩
  have ow : ∀ {j x}, Own (g.set i (.v d)) σ j x → j ≠ i ∧ Own g σ j x := fun {j x} q => by
    obtain ⟨⟨t, e, w⟩, z⟩ := q
    rcases gset_get e with ⟨_, e2⟩ | ⟨hj, e2⟩
    · subst e2; cases w
    · exact ⟨hj, ⟨t, e2, w⟩, z⟩
  refine ⟨⟨fun x q => ?_, fun x q => .inl (r.gr.fz x q), fun x q => ?_, r.gr.fr, r.gr.oa⟩, ⟨by rw [List.length_set]; exact r.rel.len, fun j t q => ?_, fun j k x p q => r.rel.apart j k x (ow p).2 (ow q).2⟩, fun j x q => r.own j x (ow q).2, fun j x l q => r.pin j x l (ow q).2, r.px⟩
  · rcases q with q | q
    · exact r.gr.dom x q
    · subst q; exact ⟨u0, hu⟩
  · rcases q with q | q
    · exact r.gr.new x q
    · subst q
      rcases r.own i x h with ⟨z, _⟩ | ⟨_, z⟩
      · omega
      · exact .inr z
  · rcases gset_get q with ⟨e1, e2⟩ | ⟨hj, e2⟩
    · subst e1; subst e2
      exact ⟨.ref a, h.2, hd _ (.inr rfl) ex⟩
    · have z := r.slot e2
      by_cases ht : t.isOw = true
      · obtain ⟨x, o, e3, n3, h3, w3⟩ := z.own ht
        refine SlotOk.of_own e3 (fun y => ?_) h3 (w3.mono ex)
        rcases y with y | y
        · exact n3 y
        · subst y
          exact hj (r.rel.apart j i x ⟨⟨t, e2, ht⟩, e3⟩ h)
      · cases t with
        | un => trivial
        | v d => obtain ⟨x, e3, r3⟩ := z; exact ⟨x, e3, Rep.mono ex d x r3⟩
        | _ => exact absurd rfl ht
end
end DL

set_option Elab.async false
set_option linter.all false
set_option maxRecDepth 100000
set_option maxHeartbeats 2000000
/-! Den2: denotations of expressions, and that the syntax has them. -/
namespace DL
open PySem L2 PySem.Spec PyProof.Rows

def gat : Sg → Nat → S
  | [], _ => .un
  | s :: _, 0 => s
  | _ :: g, i + 1 => gat g i
theorem gat_get : ∀ {g : Sg} {i : Nat} {s : S}, gat g i = s → s ≠ .un → g[i]? = some s
  | [], _, s, h, n => absurd h.symm n
  | t :: _, 0, s, h, _ => by
    have h' : t = s := h
    rw [h']; rfl
  | _ :: g, i + 1, s, h, n => gat_get (g := g) (i := i) h n

theorem get_gat : ∀ {g : Sg} {i : Nat} {s : S}, g[i]? = some s → gat g i = s
  | [], _, _, h => by simp at h
  | t :: _, 0, s, h => by
    have h' : t = s := by simpa using h
    exact h'
  | _ :: g, i + 1, s, h => get_gat (g := g) (i := i) (by simpa using h)

theorem pe_mono {X : Cx} {e : Expr} {t t' : TE} (h : PE X e t) (i : ∀ σ H Q, t' σ H Q → t σ H Q) : PE X e t' := ⟨fun pins s σ H Q I hw => h.run pins s σ H Q I (i _ _ _ hw)⟩
theorem pt_mono {X : Cx} {e : Expr} {t t' : TT} (h : PT X e t) (i : ∀ σ H Q, t' σ H Q → t σ H Q) : PT X e t' := ⟨fun pins s σ H Q I hw => h.run pins s σ H Q I (i _ _ _ hw)⟩
theorem pw_mono {X : Cx} {e : Expr} {t t' : TT} (h : PW X e t) (i : ∀ σ H Q, t' σ H Q → t σ H Q) : PW X e t' := ⟨fun wh pins s σ H Q I hw => h.run wh pins s σ H Q I (i _ _ _ hw)⟩
theorem pa_mono {X : Cx} {e : List Expr} {t t' : TA} (h : PA X e t) (i : ∀ σ H Q, t' σ H Q → t σ H Q) : PA X e t' := ⟨fun pos pins s σ H Q I hw => h.run pos pins s σ H Q I (i _ _ _ hw)⟩
theorem ps_mono {X : Cx} {e : Stmt} {t t' : TS} (h : PS X e t) (i : ∀ D σ H, t' D σ H → t D σ H) : PS X e t' := ⟨fun pins s σ H D I hw => h.run pins s σ H D I (i _ _ _ hw)⟩
theorem pss_mono {X : Cx} {e : List Stmt} {t t' : TS} (h : PSs X e t) (i : ∀ D σ H, t' D σ H → t D σ H) : PSs X e t' := ⟨fun pins s σ H D I hw => h.run pins s σ H D I (i _ _ _ hw)⟩

section
variable {b : B} {W : WX} {α β ξ ζ : Type} {P : Bear α ξ} {P2 : Bear β ζ} {σ : L2.St} {Fz Fz1 : Fzn} {H H1 : Hp} {g : Sg}
theorem Po.weak {K : ξ → Sg → Fzn → Hp → α → Prop} {r : R α} (e : Ext Fz H Fz1 H1) (h : Po b W P σ Fz H K r) : Po b W P σ Fz1 H1 K r := by
  cases r with
  | ok a g' => exact fun x H' Fz' r e' p => h x H' Fz' r (e.trans e') p
  | ex ee g' => exact fun cl dx H' Fz' r e' p => h cl dx H' Fz' r (e.trans e') p
  | no => exact h
/-- first f, then more -/
theorem tG_seq {f : Sg → R α} {Q : ξ → Hp → Prop} {K : ζ → Sg → Fzn → Hp → β → Prop} {k : α → Sg → R β} (r : BRel b Fz g σ H) (h : Po b W P2 σ Fz H K ((f g).bd k))
    (hk : ∀ d x g1 Fz1 H1, BRel b Fz1 g1 σ H1 → Ext Fz H Fz1 H1 → P σ Fz1 H1 g1 d x → Po b W P2 σ Fz1 H1 K (k d g1) → Q x H1) : tG b W P f σ H Q := by
  refine ⟨Fz, g, r, ?_⟩
  cases q : f g with
  | ok d g' => rw [q] at h; exact fun x H' Fz' r' e' rep => hk d x g' Fz' H' r' e' rep (h.weak e')
  | ex e g' => rw [q] at h; exact h
  | no => rw [q] at h; exact h
theorem Po.ok {K : ξ → Sg → Fzn → Hp → α → Prop} {a : α} {g' : Sg} (h : Po b W P σ Fz H K (.ok a g')) {x : ξ} {H' : Hp} {Fz' : Fzn} (r : BRel b Fz' g' σ H') (e : Ext Fz H Fz' H') (p : P σ Fz' H' g' a x) : K x g' Fz' H' a := h x H' Fz' r e p
end
def opt {α : Type} (o : Option α) (g : Sg) : R α := match o with
  | some z => .ok z g
  | none => .no
@[simp] theorem opt_some {α : Type} {z : α} {g : Sg} : opt (some z) g = .ok z g := rfl
@[simp] theorem opt_none {α : Type} {g : Sg} : opt (none : Option α) g = .no := rfl
theorem Po.opt {b : B} {W : WX} {α ξ : Type} {P : Bear α ξ} {σ : L2.St} {Fz : Fzn} {H : Hp} {K : ξ → Sg → Fzn → Hp → α → Prop} {o : Option α} {g : Sg} (h : Po b W P σ Fz H K (DL.opt o g)) : ∃ z, o = some z ∧ Po b W P σ Fz H K (.ok z g) := by
  cases o with
  | none => exact h.elim
  | some z => exact ⟨z, rfl, h⟩

section
variable {X : Cx} {b : B} {W : WX} {e e1 e2 e3 : Expr} {f f1 f2 f3 : FE} {pos p p2 : Pos}

/-! ### names and constants -/
def varF (i : Nat) : FE := fun g => match gat g i with
  | .v d => .ok d g
  | _ => .no
theorem pd_var {i : Nat} (h : PE X e (tVar i)) : PE X e (tE b W (varF i)) := pe_mono h fun σ H Q ⟨Fz, g, r, q⟩ => by
  unfold varF at q
  cases hg : gat g i with
  | v d =>
    rw [hg] at q
    obtain ⟨x, e1, rep⟩ := r.slot (gat_get hg (by intro z; cases z))
    exact ⟨x, e1, q x H Fz r .refl rep⟩
  | _ => rw [hg] at q; exact q.elim
/-- a name that may hold an own list: it is frozen -/
def frzF (i : Nat) : FE := fun g => match gat g i with
  | .v d => .ok d g
  | .ow ds => .ok (.lst ds) (g.set i (.v (.lst ds)))
  | _ => .no
theorem pd_frz {i : Nat} (h : PE X e (tVar i)) (hnp : b.np ≤ i) : PE X e (tE b W (frzF i)) := pe_mono h fun σ H Q ⟨Fz, g, r, q⟩ => by
  unfold frzF at q
  cases hg : gat g i with
  | v d =>
    rw [hg] at q
    obtain ⟨x, e1, rep⟩ := r.slot (gat_get hg (by intro z; cases z))
    exact ⟨x, e1, q x H Fz r .refl rep⟩
  | ow ds =>
    rw [hg] at q
    have hgi := gat_get hg (by intro z; cases z)
    obtain ⟨a, u, e1, nf, hu, vs, eu, rep⟩ := r.slot hgi
    subst eu
    have ex : Ext Fz H (fzAdd Fz a) H := ⟨fun _ q => .inl q, fun _ _ q _ => q⟩
    have hd : ∀ Fz', Fz' a → Ext Fz H Fz' H → Rep b.M Fz' H (.lst ds) (.ref a) := fun Fz' ha ex' => by
      unfold Rep
      exact ⟨a, vs, rfl, .inl ⟨ha, hu⟩, RepL.mono ex' _ _ rep⟩
    have r' := r.freeze (i := i) (a := a) (u := .lst vs) (d := .lst ds) hnp ⟨⟨_, hgi, rfl⟩, e1⟩ hd
    exact ⟨.ref a, e1, q (.ref a) H (fzAdd Fz a) r' ex (hd _ (.inr rfl) ex)⟩
  | _ => rw [hg] at q; exact q.elim
/-- a name as an argument: an own slot as it stands -/
def nmF (i : Nat) : Sg → R AV := fun g => match gat g i with
  | .v d => .ok (.d d) g
  | .un => .no
  | _ => .ok (.o i) g
theorem p1_nm {i : Nat} (h : PE X e (tVar i)) : PE X e (tA1 b W (nmF i)) := pe_mono h fun σ H Q ⟨Fz, g, r, q⟩ => by
  unfold nmF at q
  cases hg : gat g i with
  | un => rw [hg] at q; exact q.elim
  | v d =>
    rw [hg] at q
    obtain ⟨x, e1, rep⟩ := r.slot (gat_get hg (by intro z; cases z))
    exact ⟨x, e1, q x H Fz r .refl rep⟩
  | _ =>
    rw [hg] at q
    have hgi := gat_get hg (by intro z; cases z)
    obtain ⟨a, u, e1, nf, hu, w⟩ := r.slot hgi
    exact ⟨.ref a, e1, q (.ref a) H Fz r .refl ⟨a, rfl, ⟨_, hgi, rfl⟩, e1⟩⟩
def dF (f : FE) : Sg → R AV := fun g => (f g).bd fun d g1 => .ok (.d d) g1
theorem p1_d (h : PE X e (tE b W f)) : PE X e (tA1 b W (dF f)) := pe_mono h fun σ H Q ⟨Fz, g, r, q⟩ => tG_seq r q fun d x g1 Fz1 H1 r1 e1 rep h1 => h1.ok r1 .refl rep
def cF (d : D) : FE := fun g => .ok d g
theorem pd_c {v : V} {d : D} (h : PE X e (tC v)) (hr : ∀ Fz H, Rep b.M Fz H d v) : PE X e (tE b W (cF d)) := pe_mono h fun σ H Q ⟨Fz, g, r, q⟩ => q v H Fz r .refl (hr Fz H)
theorem pd_int {i j} : PE X (.Constant (.int i) j pos) (tE b W (cF (.int i))) := pd_c pe_int fun _ _ => by unfold Rep; rfl
theorem pd_bl {c j} : PE X (.Constant (.bool c) j pos) (tE b W (cF (.bl c))) := pd_c pe_bl fun _ _ => by unfold Rep; rfl
theorem pd_non {j} : PE X (.Constant .none j pos) (tE b W (cF .non)) := pd_c pe_non fun _ _ => by unfold Rep; rfl
theorem pd_str {x j} : PE X (.Constant (.str x) j pos) (tE b W (cF (.str x))) := pd_c pe_str fun _ _ => by unfold Rep; rfl

/-! ### operators on values -/
/-- o tells what the operator r makes of data -/
def OpT (M : MM) (r : R2) (o : D → D → Option D) : Prop := ∀ {Fz : Fzn} {H : Hp} {d e z : D} {x y : V} {Q : VK}, (∀ a, Fz a → ∃ o, H a = some o) → TRep M Fz H d x → TRep M Fz H e y → o d e = some z →
  (∀ v Fz' H', GrowTo Fz H Fz' H' → Rep M Fz' H' z v → Q v H') → r x y H Q
def op2F (o : D → D → Option D) (f1 f2 : FE) : FE := fun g => (f1 g).bd fun d g1 => (f2 g1).bd fun e g2 => opt (o d e) g2
theorem tE_op2 {r : R2} {o : D → D → Option D} (ho : OpT b.M r o) {σ : L2.St} {H : Hp} {Q : VK} (h : tE b W (op2F o f1 f2) σ H Q) : tOp r (tE b W f1) (tE b W f2) σ H Q := by
  obtain ⟨Fz, g, r0, h⟩ := h
  refine tG_seq r0 h fun d x g1 Fz1 H1 r1 e1 rep1 h1 => ?_
  refine tG_seq r1 h1 fun e y g2 Fz2 H2 r2 e2 rep2 h2 => ?_
  obtain ⟨z, ez, h3⟩ := h2.opt
  exact ho r2.gr.dom (Rep.mono e2 d x rep1).t rep2.t ez fun v Fz' H' gr rv => h3.ok (r2.grow gr) gr.ext rv
theorem pd_op {op : Operator} {r : R2} {o : D → D → Option D} (hr : OpR X (binaryOp op) r) (ho : OpT b.M r o) (h1 : PE X e1 (tE b W f1)) (h2 : PE X e2 (tE b W f2)) : PE X (.BinOp e1 op e2 pos) (tE b W (op2F o f1 f2)) :=
  pe_mono (pe_op hr h1 h2) fun _ _ _ h => tE_op2 ho h
theorem pd_cmp {op : CmpOp} {r : R2} {o : D → D → Option D} (hr : OpR X (compareOp op) r) (ho : OpT b.M r o) (h1 : PE X e1 (tE b W f1)) (h2 : PE X e2 (tE b W f2)) (hm : behindInMarks op e2 = false) : PE X (.Compare e1 [op] [e2] pos) (tE b W (op2F o f1 f2)) :=
  pe_mono (pe_cmpR hr h1 h2 hm) fun _ _ _ h => tE_op2 ho h

/-- what an own slot or data is, now -/
def res (g : Sg) : AV → Option D
  | .d d => some d
  | .o i => match gat g i with
    | .ow ds => some (.lst ds)
    | _ => none
theorem res_ok {σ : L2.St} {Fz : Fzn} {H : Hp} {g : Sg} {a : AV} {x : V} {d : D} (r : BRel b Fz g σ H) (h : AVOk b σ Fz H g a x) (e : res g a = some d) : TRep b.M Fz H d x := by
  cases a with
  | d d' =>
    have e' : d' = d := Option.some.inj e
    subst e'
    exact Rep.t h
  | o i =>
    obtain ⟨a, ex, ow⟩ := h
    subst ex
    unfold res at e
    dsimp only at e
    cases hg : gat g i with
    | ow ds =>
      rw [hg] at e
      have e' : D.lst ds = d := Option.some.inj e
      subst e'
      obtain ⟨s, u, e2, nf, hu, w⟩ := r.there ow
      rw [gat_get hg (by intro z; cases z)] at e2
      have e3 : S.ow ds = s := Option.some.inj e2
      subst e3
      obtain ⟨vs, eu, rep⟩ := w
      subst eu
      exact ⟨a, vs, rfl, .inl (.inl hu), rep⟩
    | _ => rw [hg] at e; cases e
/-- an argument read earlier, still as it was -/
theorem AVOk.mono {σ : L2.St} {Fz Fz' : Fzn} {H H' : Hp} {g g' : Sg} {a : AV} {x : V} (h : AVOk b σ Fz H g a x) (e : Ext Fz H Fz' H') (hg : ∀ i, a = .o i → ∃ s, g'[i]? = some s ∧ s.isOw = true) : AVOk b σ Fz' H' g' a x := by
  cases a with
  | d d => exact Rep.mono e d x h
  | o i =>
    obtain ⟨ad, ex, ow⟩ := h
    exact ⟨ad, ex, hg i rfl, ow.2⟩
def resI (g : Sg) (a : AV) : Bool := match a with
  | .d _ => true
  | .o i => (gat g i).isOw
theorem resI_ok {g : Sg} {a : AV} (h : resI g a = true) : ∀ i, a = .o i → ∃ s, g[i]? = some s ∧ s.isOw = true := fun i e => by
  subst e
  refine ⟨gat g i, ?_, h⟩
  refine gat_get rfl fun z => ?_
  have h' : (gat g i).isOw = true := h
  rw [z] at h'
  cases h'
theorem res_I {g : Sg} {a : AV} {d : D} (h : res g a = some d) : resI g a = true := by
  cases a with
  | d d => rfl
  | o i =>
    unfold res at h
    unfold resI
    dsimp only at h ⊢
    cases hg : gat g i with
    | ow ds => rfl
    | _ => rw [hg] at h; cases h
def op2V (o : D → D → Option D) (f1 f2 : Sg → R AV) : FE := fun g => (f1 g).bd fun a g1 => (f2 g1).bd fun c g2 => opt ((res g2 a).bind fun d => (res g2 c).bind fun e => o d e) g2
theorem tE_op2V {r : R2} {o : D → D → Option D} {f1 f2 : Sg → R AV} (ho : OpT b.M r o) {σ : L2.St} {H : Hp} {Q : VK} (h : tE b W (op2V o f1 f2) σ H Q) : tOp r (tA1 b W f1) (tA1 b W f2) σ H Q := by
  obtain ⟨Fz, g, r0, h⟩ := h
  refine tG_seq r0 h fun a x g1 Fz1 H1 r1 e1 rep1 h1 => ?_
  refine tG_seq r1 h1 fun c y g2 Fz2 H2 r2 e2 rep2 h2 => ?_
  obtain ⟨z, ez, h3⟩ := h2.opt
  obtain ⟨d, ed, ez⟩ := Option.bind_eq_some_iff.mp ez
  obtain ⟨e, ee, ez⟩ := Option.bind_eq_some_iff.mp ez
  exact ho r2.gr.dom (res_ok r2 (rep1.mono e2 (resI_ok (res_I ed))) ed) (res_ok r2 rep2 ee) ez fun v Fz' H' gr rv => h3.ok (r2.grow gr) gr.ext rv
theorem pd_opV {op : Operator} {r : R2} {o : D → D → Option D} {f1 f2 : Sg → R AV} (hr : OpR X (binaryOp op) r) (ho : OpT b.M r o) (h1 : PE X e1 (tA1 b W f1)) (h2 : PE X e2 (tA1 b W f2)) : PE X (.BinOp e1 op e2 pos) (tE b W (op2V o f1 f2)) :=
  pe_mono (pe_op hr h1 h2) fun _ _ _ h => tE_op2V ho h
theorem pd_cmpV {op : CmpOp} {r : R2} {o : D → D → Option D} {f1 f2 : Sg → R AV} (hr : OpR X (compareOp op) r) (ho : OpT b.M r o) (h1 : PE X e1 (tA1 b W f1)) (h2 : PE X e2 (tA1 b W f2)) (hm : behindInMarks op e2 = false) : PE X (.Compare e1 [op] [e2] pos) (tE b W (op2V o f1 f2)) :=
  pe_mono (pe_cmpR hr h1 h2 hm) fun _ _ _ h => tE_op2V ho h
theorem pd_ixV {r : R2} {o : D → D → Option D} {f1 f2 : Sg → R AV} (hr : IxR X r) (ho : OpT b.M r o) (h1 : PE X e1 (tA1 b W f1)) (h2 : PE X e2 (tA1 b W f2)) (hs : PlainIx e2) : PE X (.Subscript e1 e2 pos) (tE b W (op2V o f1 f2)) :=
  pe_mono (pe_ix hr h1 h2 hs) fun _ _ _ h => tE_op2V ho h
theorem pd_ix {r : R2} {o : D → D → Option D} (hr : IxR X r) (ho : OpT b.M r o) (h1 : PE X e1 (tE b W f1)) (h2 : PE X e2 (tE b W f2)) (hs : PlainIx e2) : PE X (.Subscript e1 e2 pos) (tE b W (op2F o f1 f2)) :=
  pe_mono (pe_ix hr h1 h2 hs) fun _ _ _ h => tE_op2 ho h
def op1F (o : D → Option D) (f : FE) : FE := fun g => (f g).bd fun d g1 => opt (o d) g1
def UnT (M : MM) (r : V → Hp → VK → Prop) (o : D → Option D) : Prop := ∀ {Fz : Fzn} {H : Hp} {d z : D} {x : V} {Q : VK}, (∀ a, Fz a → ∃ o, H a = some o) → Rep M Fz H d x → o d = some z →
  (∀ v Fz' H', GrowTo Fz H Fz' H' → Rep M Fz' H' z v → Q v H') → r x H Q
theorem pd_un {op : UnaryOp} {r : V → Hp → VK → Prop} {o : D → Option D} (hr : UnR X (unaryOp op) r) (ho : UnT b.M r o) (h1 : PE X e1 (tE b W f1)) : PE X (.UnaryOp op e1 pos) (tE b W (op1F o f1)) :=
  pe_mono (pe_un hr h1) fun σ H Q ⟨Fz, g, r0, h⟩ => tG_seq r0 h fun d x g1 Fz1 H1 r1 e1 rep1 h1 => by
    obtain ⟨z, ez, h3⟩ := h1.opt
    exact ho r1.gr.dom rep1 ez fun v Fz' H' gr rv => h3.ok (r1.grow gr) gr.ext rv

/-! ### truth -/
def tstF (f : FE) : FB := fun g => (f g).bd fun d g1 => match d with
  | .bl c => .ok c g1
  | _ => .no
theorem tB_tst {t : TE} {σ : L2.St} {H : Hp} {Q : Bool → Hp → Prop} (h : tBo b W (tstF f) σ H Q) : tB (tE b W f) σ H Q := by
  obtain ⟨Fz, g, r0, h⟩ := h
  refine tG_seq r0 h fun d x g1 Fz1 H1 r1 e1 rep1 h1 => ?_
  cases d with
  | bl c =>
    have rep' : x = .bl c := by
      have z : Rep b.M Fz1 H1 (.bl c) x := rep1
      unfold Rep at z
      exact z
    exact ⟨c, rep', h1.ok r1 .refl rfl⟩
  | _ => exact h1.elim
/-- an expression whose value is a bool as a test -/
theorem pt_of (h : PE X e (tE b W f)) (he : ∀ whole, isTrue e X.env whole = (do let v ← whole; standAt e.pos; holding [v] (truthy v)) := by intro _; rfl) : PT X e (tBo b W (tstF f)) :=
  pt_mono (pt_val h he) fun _ _ _ q => tB_tst (t := tE b W f) q
/-- a comparison as a test -/
theorem pt_cmpD {op : CmpOp} {r : R2} {o : D → D → Option D} (hr : OpR X (compareOp op) r) (ho : OpT b.M r o) (h1 : PE X e1 (tE b W f1)) (h2 : PE X e2 (tE b W f2)) (hm : behindInMarks op e2 = false) : PT X (.Compare e1 [op] [e2] pos) (tBo b W (tstF (op2F o f1 f2))) :=
  pt_mono (pt_cmpR hr h1 h2 hm) fun σ H Q q => by
    obtain ⟨Fz, g, r0, h⟩ := q
    have z : tE b W (op2F o f1 f2) σ H (fun x H' => ∃ k, x = V.bl k ∧ Q k H') := tG_seq r0 h fun d x g1 Fz1 H1 r1 e1 rep1 h1 => by
      cases d with
      | bl c =>
        have rep' : x = .bl c := by
          have z : Rep b.M Fz1 H1 (.bl c) x := rep1
          unfold Rep at z
          exact z
        exact ⟨c, rep', h1.ok r1 .refl rfl⟩
      | _ => exact h1.elim
    exact tE_op2 ho z
theorem pt_cmpDV {op : CmpOp} {r : R2} {o : D → D → Option D} {f1 f2 : Sg → R AV} (hr : OpR X (compareOp op) r) (ho : OpT b.M r o) (h1 : PE X e1 (tA1 b W f1)) (h2 : PE X e2 (tA1 b W f2)) (hm : behindInMarks op e2 = false) : PT X (.Compare e1 [op] [e2] pos) (tBo b W (tstF (op2V o f1 f2))) :=
  pt_mono (pt_cmpR hr h1 h2 hm) fun σ H Q q => by
    obtain ⟨Fz, g, r0, h⟩ := q
    have z : tE b W (op2V o f1 f2) σ H (fun x H' => ∃ k, x = V.bl k ∧ Q k H') := tG_seq r0 h fun d x g1 Fz1 H1 r1 e1 rep1 h1 => by
      cases d with
      | bl c =>
        have rep' : x = .bl c := by
          have z : Rep b.M Fz1 H1 (.bl c) x := rep1
          unfold Rep at z
          exact z
        exact ⟨c, rep', h1.ok r1 .refl rfl⟩
      | _ => exact h1.elim
    exact tE_op2V ho z
def andB (f1 f2 : FB) : FB := fun g => (f1 g).bd fun c g1 => if c = true then f2 g1 else .ok false g1
def orB (f1 f2 : FB) : FB := fun g => (f1 g).bd fun c g1 => if c = true then .ok true g1 else f2 g1
def notB (f1 : FB) : FB := fun g => (f1 g).bd fun c g1 => .ok (!c) g1
variable {fb1 fb2 : FB} {a c : Expr} {rest : List Expr}
theorem pwb_and1 (h : PT X a (tBo b W fb1)) : PW X (.BoolOp .And [a] pos) (tBo b W fb1) := pw_and1 h
theorem pwb_or1 (h : PT X a (tBo b W fb1)) : PW X (.BoolOp .Or [a] pos) (tBo b W fb1) := pw_or1 h
theorem Po.bb {σ : L2.St} {Fz : Fzn} {H : Hp} {Q : Bool → Hp → Prop} {f : FB} {g : Sg} (r : BRel b Fz g σ H) (h : Po b W bB σ Fz H (fun x _ _ H' _ => Q x H') (f g)) : tBo b W f σ H Q := ⟨Fz, g, r, h⟩
theorem pwb_and (h1 : PT X a (tBo b W fb1)) (h2 : PW X (.BoolOp .And (c :: rest) pos) (tBo b W fb2)) : PW X (.BoolOp .And (a :: c :: rest) pos) (tBo b W (andB fb1 fb2)) :=
  pw_mono (pw_and h1 h2) fun σ H Q ⟨Fz, g, r0, h⟩ => tG_seq r0 h fun d x g1 Fz1 H1 r1 e1 rep1 h1 => by
    have rep' : x = d := rep1
    subst rep'
    cases x with
    | true => exact ⟨Fz1, g1, r1, h1⟩
    | false => exact h1.ok r1 .refl rfl
theorem pwb_or (h1 : PT X a (tBo b W fb1)) (h2 : PW X (.BoolOp .Or (c :: rest) pos) (tBo b W fb2)) : PW X (.BoolOp .Or (a :: c :: rest) pos) (tBo b W (orB fb1 fb2)) :=
  pw_mono (pw_or h1 h2) fun σ H Q ⟨Fz, g, r0, h⟩ => tG_seq r0 h fun d x g1 Fz1 H1 r1 e1 rep1 h1 => by
    have rep' : x = d := rep1
    subst rep'
    cases x with
    | true => exact h1.ok r1 .refl rfl
    | false => exact ⟨Fz1, g1, r1, h1⟩
theorem ptb_not (h1 : PT X a (tBo b W fb1)) : PT X (.UnaryOp .Not a pos) (tBo b W (notB fb1)) :=
  pt_mono (pt_not h1) fun σ H Q ⟨Fz, g, r0, h⟩ => tG_seq r0 h fun d x g1 Fz1 H1 r1 e1 rep1 h1 => by
    have rep' : x = d := rep1
    subst rep'
    exact h1.ok r1 .refl rfl
/-- .. as values -/
def blF (f : FB) : FE := fun g => (f g).bd fun c g1 => .ok (.bl c) g1
def andV (f1 f2 : FE) : FE := fun g => (f1 g).bd fun d g1 => match d with
  | .bl c => if c = true then f2 g1 else .ok (.bl false) g1
  | _ => .no
def orV (f1 f2 : FE) : FE := fun g => (f1 g).bd fun d g1 => match d with
  | .bl c => if c = true then .ok (.bl true) g1 else f2 g1
  | _ => .no
def notV (f1 : FE) : FE := fun g => (f1 g).bd fun d g1 => match d with
  | .bl c => .ok (.bl (!c)) g1
  | _ => .no
theorem rep_bl {M : MM} {Fz : Fzn} {H : Hp} {c : Bool} : Rep M Fz H (.bl c) (.bl c) := by unfold Rep; rfl
theorem rep_bl' {M : MM} {Fz : Fzn} {H : Hp} {c : Bool} {x : V} (h : Rep M Fz H (.bl c) x) : x = .bl c := by unfold Rep at h; exact h
theorem rep_int {M : MM} {Fz : Fzn} {H : Hp} {c : Int} : Rep M Fz H (.int c) (.int c) := by unfold Rep; rfl
theorem rep_int' {M : MM} {Fz : Fzn} {H : Hp} {c : Int} {x : V} (h : Rep M Fz H (.int c) x) : x = .int c := by unfold Rep at h; exact h
theorem rep_str {M : MM} {Fz : Fzn} {H : Hp} {c : Str} : Rep M Fz H (.str c) (.str c) := by unfold Rep; rfl
theorem rep_str' {M : MM} {Fz : Fzn} {H : Hp} {c : Str} {x : V} (h : Rep M Fz H (.str c) x) : x = .str c := by unfold Rep at h; exact h
theorem rep_non {M : MM} {Fz : Fzn} {H : Hp} : Rep M Fz H .non .non := by unfold Rep; rfl
theorem rep_non' {M : MM} {Fz : Fzn} {H : Hp} {x : V} (h : Rep M Fz H .non x) : x = .non := by unfold Rep at h; exact h
theorem pd_and (h1 : PE X a (tE b W f1)) (h2 : PE X (.BoolOp .And (c :: rest) pos) (tE b W f2)) : PE X (.BoolOp .And (a :: c :: rest) pos) (tE b W (andV f1 f2)) :=
  pe_mono (pe_and h1 h2) fun σ H Q ⟨Fz, g, r0, h⟩ => tG_seq r0 h fun d x g1 Fz1 H1 r1 e1 rep1 h1 => by
    cases d with
    | bl c =>
      refine ⟨c, rep_bl' rep1, ?_⟩
      cases c with
      | true => exact ⟨Fz1, g1, r1, h1⟩
      | false => exact h1.ok r1 .refl rep_bl
    | _ => exact h1.elim
theorem pd_or (h1 : PE X a (tE b W f1)) (h2 : PE X (.BoolOp .Or (c :: rest) pos) (tE b W f2)) : PE X (.BoolOp .Or (a :: c :: rest) pos) (tE b W (orV f1 f2)) :=
  pe_mono (pe_or h1 h2) fun σ H Q ⟨Fz, g, r0, h⟩ => tG_seq r0 h fun d x g1 Fz1 H1 r1 e1 rep1 h1 => by
    cases d with
    | bl c =>
      refine ⟨c, rep_bl' rep1, ?_⟩
      cases c with
      | true => exact h1.ok r1 .refl rep_bl
      | false => exact ⟨Fz1, g1, r1, h1⟩
    | _ => exact h1.elim
theorem pd_not (h1 : PE X a (tE b W f1)) : PE X (.UnaryOp .Not a pos) (tE b W (notV f1)) :=
  pe_mono (pe_not h1) fun σ H Q ⟨Fz, g, r0, h⟩ => tG_seq r0 h fun d x g1 Fz1 H1 r1 e1 rep1 h1 => by
    cases d with
    | bl c => exact ⟨c, rep_bl' rep1, h1.ok r1 .refl rep_bl⟩
    | _ => exact h1.elim
theorem pd_one {op} (h1 : PE X a (tE b W f1)) : PE X (.BoolOp op [a] pos) (tE b W f1) := pe_one h1
def ifF (t : FB) (f1 f2 : FE) : FE := fun g => (t g).bd fun c g1 => if c = true then f1 g1 else f2 g1
theorem pd_if (h0 : PT X c (tBo b W fb1)) (h1 : PE X e1 (tE b W f1)) (h2 : PE X e2 (tE b W f2)) : PE X (.IfExp c e1 e2 pos) (tE b W (ifF fb1 f1 f2)) :=
  pe_mono (pe_ifExp h0 h1 h2) fun σ H Q ⟨Fz, g, r0, h⟩ => tG_seq r0 h fun d x g1 Fz1 H1 r1 e1 rep1 h1 => by
    have rep' : x = d := rep1
    subst rep'
    cases x with
    | true => exact ⟨Fz1, g1, r1, h1⟩
    | false => exact ⟨Fz1, g1, r1, h1⟩
/-- a < b < c, b a plain piece -/
def chF (o o' : D → D → Option D) (f1 f2 f3 : FE) : FE := fun g => (f1 g).bd fun d g1 => (f2 g1).bd fun e g2 => (opt (o d e) g2).bd fun z g3 => match z with
  | .bl c => if c = true then (f3 g3).bd fun k g4 => opt (o' e k) g4 else .ok (.bl false) g3
  | _ => .no
end
end DL

set_option Elab.async false
set_option linter.all false
set_option maxRecDepth 100000
set_option maxHeartbeats 4000000
/-! Den3: operators on data. -/
namespace DL
open PySem L2 PySem.Spec PyProof.Rows

theorem tint' {M : MM} {Fz : Fzn} {H : Hp} {c : Int} {x : V} (h : TRep M Fz H (.int c) x) : x = .int c := rep_int' (M := M) (Fz := Fz) (H := H) h
theorem tstr' {M : MM} {Fz : Fzn} {H : Hp} {c : Str} {x : V} (h : TRep M Fz H (.str c) x) : x = .str c := rep_str' (M := M) (Fz := Fz) (H := H) h
theorem tbl' {M : MM} {Fz : Fzn} {H : Hp} {c : Bool} {x : V} (h : TRep M Fz H (.bl c) x) : x = .bl c := rep_bl' (M := M) (Fz := Fz) (H := H) h
theorem tnon' {M : MM} {Fz : Fzn} {H : Hp} {x : V} (h : TRep M Fz H .non x) : x = .non := rep_non' (M := M) (Fz := Fz) (H := H) h
/-! ### sizes -/
def LIM : Nat := 2 ^ 2000000
def LID : Nat := 2 ^ 8000
theorem lt_LIM {n k : Nat} (h : n < 2 ^ k) (hk : k ≤ 2000000) : n < LIM := Nat.lt_of_lt_of_le h (Nat.pow_le_pow_right (by decide) hk)
theorem lt_LID {n k : Nat} (h : n < 2 ^ k) (hk : k ≤ 8000) : n < LID := Nat.lt_of_lt_of_le h (Nat.pow_le_pow_right (by decide) hk)
theorem log2_lt' {n k : Nat} (h : n < 2 ^ k) (hk : 0 < k) : n.log2 < k := by
  by_cases hn : n = 0
  · subst hn; simpa using hk
  · exact (Nat.log2_lt hn).mpr h
theorem intBits_le (x : Int) : Builtin.Int.intBits x ≤ x.natAbs.log2 + 1 := by
  unfold Builtin.Int.intBits
  split <;> omega
theorem mulOk_of {i j : Int} (h : (i * j).natAbs < LIM) : IntMulOk i j := by
  by_cases hi : i = 0
  · subst hi
    exact IntMulOk.of_left (by decide)
  by_cases hj : j = 0
  · subst hj
    exact IntMulOk.of_right (by decide)
  have h1 := intBits_le i
  have h2 := intBits_le j
  have n1 : i.natAbs ≠ 0 := by omega
  have n2 : j.natAbs ≠ 0 := by omega
  have p1 : 2 ^ i.natAbs.log2 ≤ i.natAbs := Nat.log2_self_le n1
  have p2 : 2 ^ j.natAbs.log2 ≤ j.natAbs := Nat.log2_self_le n2
  have p3 : 2 ^ (i.natAbs.log2 + j.natAbs.log2) ≤ i.natAbs * j.natAbs := by
    rw [Nat.pow_add]
    exact Nat.mul_le_mul p1 p2
  rw [Int.natAbs_mul] at h
  have p4 : 2 ^ (i.natAbs.log2 + j.natAbs.log2) < 2 ^ 2000000 := Nat.lt_of_le_of_lt p3 h
  have p5 : i.natAbs.log2 + j.natAbs.log2 < 2000000 := (Nat.pow_lt_pow_iff_right (by decide)).mp p4
  unfold IntMulOk
  intro z
  rw [Bool.and_eq_true] at z
  have z2 := z.2
  unfold Builtin.Int.intTooBig at z2
  have z3 := of_decide_eq_true z2
  have e : bitsLine = 134217728 := by decide
  rw [e] at z3
  omega

/-! ### arithmetic -/
def szOk (n : Nat) : Bool := decide (n ≤ 16777216)
theorem szOk_iff {n : Nat} : szOk n = true ↔ n ≤ 16777216 := by unfold szOk; simp
theorem szOk_le {n : Nat} (h : szOk n = true) : n ≤ sizeLine := by rw [sizeLine_eq]; exact szOk_iff.mp h
def addD : D → D → Option D
  | .int i, .int j => some (.int (i + j))
  | .lst xs, .lst ys => if szOk (xs.length + ys.length) then some (.lst (xs ++ ys)) else none
  | .tup xs, .tup ys => if szOk (xs.length + ys.length) then some (.tup (xs ++ ys)) else none
  | .str x, .str y => if szOk (x.length + y.length) then some (.str (x ++ y)) else none
  | _, _ => none
def subD : D → D → Option D
  | .int i, .int j => some (.int (i - j))
  | _, _ => none
def mulD : D → D → Option D
  | .int i, .int j => if (i * j).natAbs < LIM then some (.int (i * j)) else none
  | .lst xs, .int k => if szOk (xs.length * k.toNat) && decide (-(2 ^ 63) ≤ k) && decide (k < 2 ^ 63) then some (.lst (List.replicate k.toNat xs).flatten) else none
  | _, _ => none
def fdivD : D → D → Option D
  | .int i, .int j => if j ≠ 0 ∧ j.natAbs < LID then some (.int (i.fdiv j)) else none
  | _, _ => none
def modD : D → D → Option D
  | .int i, .int j => if j ≠ 0 then some (.int (i.fmod j)) else none
  | _, _ => none
def powD : D → D → Option D
  | .int i, .int j => if 0 ≤ j ∧ j ≤ 1000000 ∧ i.natAbs < 2 ^ 64 then some (.int (i ^ j.toNat)) else none
  | _, _ => none
def shlD : D → D → Option D
  | .int i, .int j => if 0 ≤ j ∧ j ≤ 1000000 ∧ i.natAbs < 2 ^ 64 then some (.int (i * 2 ^ j.toNat)) else none
  | _, _ => none
def shrD : D → D → Option D
  | .int i, .int j => if 0 ≤ j then some (.int (i / 2 ^ j.toNat)) else none
  | _, _ => none
def andD : D → D → Option D
  | .int i, .int j => some (.int (Builtin.bitAnd i j))
  | _, _ => none
def orD : D → D → Option D
  | .int i, .int j => some (.int (Builtin.bitOr i j))
  | _, _ => none
def xorD : D → D → Option D
  | .int i, .int j => some (.int (Builtin.bitXor i j))
  | _, _ => none
def negD : D → Option D
  | .int i => some (.int (-i))
  | _ => none
def ltD : D → D → Option D
  | .int i, .int j => some (.bl (decide (i < j)))
  | _, _ => none
def leD : D → D → Option D
  | .int i, .int j => some (.bl (decide (i ≤ j)))
  | _, _ => none
def gtD : D → D → Option D
  | .int i, .int j => some (.bl (decide (j < i)))
  | _, _ => none
def geD : D → D → Option D
  | .int i, .int j => some (.bl (decide (j ≤ i)))
  | _, _ => none

section
variable {X : Cx} {M : MM}
/-- int operators -/
theorem opT_I {C : Int → Int → Prop} {g : Int → Int → V} {o : D → D → Option D} (h : ∀ d e z, o d e = some z → ∃ i j, d = .int i ∧ e = .int j ∧ C i j ∧ ∀ Fz H, Rep M Fz H z (g i j)) : OpT M (rI C g) o := by
  intro Fz H d e z x y Q dom rx ry eo k
  obtain ⟨i, j, rfl, rfl, c, rz⟩ := h d e z eo
  exact ⟨i, j, tint' rx, tint' ry, c, k _ Fz H .refl (rz Fz H)⟩
theorem opT_I0 {g : Int → Int → V} {o : D → D → Option D} (h : ∀ d e z, o d e = some z → ∃ i j, d = .int i ∧ e = .int j ∧ ∀ Fz H, Rep M Fz H z (g i j)) : OpT M (rI0 g) o := by
  intro Fz H d e z x y Q dom rx ry eo k
  obtain ⟨i, j, rfl, rfl, rz⟩ := h d e z eo
  exact ⟨i, j, tint' rx, tint' ry, k _ Fz H .refl (rz Fz H)⟩
theorem opt_sub : OpT M (rI0 fun i j => .int (i - j)) subD := opT_I0 fun d e z h => by
  unfold subD at h
  split at h
  · injection h with h; subst h; exact ⟨_, _, rfl, rfl, fun _ _ => rep_int⟩
  · cases h
theorem opt_lt : OpT M (rI0 fun i j => .bl (decide (i < j))) ltD := opT_I0 fun d e z h => by
  unfold ltD at h
  split at h
  · injection h with h; subst h; exact ⟨_, _, rfl, rfl, fun _ _ => rep_bl⟩
  · cases h
theorem opt_le : OpT M (rI0 fun i j => .bl (decide (i ≤ j))) leD := opT_I0 fun d e z h => by
  unfold leD at h
  split at h
  · injection h with h; subst h; exact ⟨_, _, rfl, rfl, fun _ _ => rep_bl⟩
  · cases h
theorem opt_gt : OpT M (rI0 fun i j => .bl (decide (j < i))) gtD := opT_I0 fun d e z h => by
  unfold gtD at h
  split at h
  · injection h with h; subst h; exact ⟨_, _, rfl, rfl, fun _ _ => rep_bl⟩
  · cases h
theorem opt_ge : OpT M (rI0 fun i j => .bl (decide (j ≤ i))) geD := opT_I0 fun d e z h => by
  unfold geD at h
  split at h
  · injection h with h; subst h; exact ⟨_, _, rfl, rfl, fun _ _ => rep_bl⟩
  · cases h
theorem opt_and : OpT M (rI0 fun i j => .int (Builtin.bitAnd i j)) andD := opT_I0 fun d e z h => by
  unfold andD at h
  split at h
  · injection h with h; subst h; exact ⟨_, _, rfl, rfl, fun _ _ => rep_int⟩
  · cases h
theorem opt_or : OpT M (rI0 fun i j => .int (Builtin.bitOr i j)) orD := opT_I0 fun d e z h => by
  unfold orD at h
  split at h
  · injection h with h; subst h; exact ⟨_, _, rfl, rfl, fun _ _ => rep_int⟩
  · cases h
theorem opt_xor : OpT M (rI0 fun i j => .int (Builtin.bitXor i j)) xorD := opT_I0 fun d e z h => by
  unfold xorD at h
  split at h
  · injection h with h; subst h; exact ⟨_, _, rfl, rfl, fun _ _ => rep_int⟩
  · cases h
theorem opt_pow : OpT M (rI CPow fun i j => .int (i ^ j.toNat)) powD := opT_I fun d e z h => by
  unfold powD at h
  split at h
  · split at h
    · rename_i c
      injection h with h; subst h; exact ⟨_, _, rfl, rfl, c, fun _ _ => rep_int⟩
    · cases h
  · cases h
theorem opt_shl : OpT M (rI CPow fun i j => .int (i * 2 ^ j.toNat)) shlD := opT_I fun d e z h => by
  unfold shlD at h
  split at h
  · split at h
    · rename_i c
      injection h with h; subst h; exact ⟨_, _, rfl, rfl, c, fun _ _ => rep_int⟩
    · cases h
  · cases h
theorem opt_shr : OpT M (rI (fun _ j => 0 ≤ j) fun i j => .int (i / 2 ^ j.toNat)) shrD := opT_I fun d e z h => by
  unfold shrD at h
  split at h
  · split at h
    · rename_i c
      injection h with h; subst h; exact ⟨_, _, rfl, rfl, c, fun _ _ => rep_int⟩
    · cases h
  · cases h
theorem opt_mod : OpT M (rI (fun _ j => j ≠ 0) fun i j => .int (i.fmod j)) modD := opT_I fun d e z h => by
  unfold modD at h
  split at h
  · split at h
    · rename_i c
      injection h with h; subst h; exact ⟨_, _, rfl, rfl, c, fun _ _ => rep_int⟩
    · cases h
  · cases h
def CDivL (_ j : Int) : Prop := j ≠ 0 ∧ j.natAbs < LID
theorem op_fdivL : OpR X (binaryOp .FloorDiv) (rI CDivL fun i j => .int (i.fdiv j)) := opI fun i j _ _ _ _ _ hc q =>
  floordiv_int hc.1 q (.inl (PyProof.noPylong_of_log2 (Nat.lt_trans (log2_lt' hc.2 (by decide)) (by decide))))
theorem opt_fdiv : OpT M (rI CDivL fun i j => .int (i.fdiv j)) fdivD := opT_I fun d e z h => by
  unfold fdivD at h
  split at h
  · split at h
    · rename_i c
      injection h with h; subst h; exact ⟨_, _, rfl, rfl, c, fun _ _ => rep_int⟩
    · cases h
  · cases h
def CMulL (i j : Int) : Prop := (i * j).natAbs < LIM
theorem op_mulL : OpR X (binaryOp .Mult) (rI CMulL fun i j => .int (i * j)) := opI fun i j _ _ _ _ _ hc q => mul_int q (mulOk_of hc)
/-! ### + -/
def rCatL (K : PySem.W.Frag) : R2 := fun x y H Q => ∃ l b xs zs, x = .ref l ∧ y = .ref b ∧ SqL K H l xs ∧ SqL K H b zs ∧ xs.length + zs.length ≤ sizeLine ∧ ∀ p, H p = none → Q (.ref p) (upd H p (.lst (xs ++ zs)))
theorem op_catL : OpR X (binaryOp .Add) (rCatL X.K) := by
  intro pins s σ H x y v u Q I rx ry h
  obtain ⟨l, b, xs, zs, rfl, rfl, hH, hB, hz, q⟩ := h
  cases rx
  cases ry
  obtain ⟨its, r1, ⟨⟨cls, dd, data, sl⟩, n, ho, hc, hdd, hd⟩, _⟩ := I.list hH
  obtain ⟨its2, r2, ⟨⟨cls2, dd2, data2, sl2⟩, n2, ho2, hc2, hdd2, hd2⟩, _⟩ := I.list hB
  simp only at hc hd hc2 hd2
  subst hc hd hc2 hd2
  have e : its.toArray ++ its2.toArray = (its ++ its2).toArray := by simp
  refine concat_meets ⟨_, ho, rfl⟩ ⟨_, ho2, rfl⟩ noFill_list_add seq_list_add PySem.F.slot_list_add PySem.F.entry_list_add (PySem.F.args_list_add_2 _ _) (list_addW l b its.toArray its2.toArray n n2 dd dd2 sl sl2 (by rw [List.size_toArray, List.size_toArray, ← r1.length, ← r2.length]; exact hz)) ⟨ho, ho2, ?_⟩
  rw [e]
  exact ⟨.ref _, _, I.lnew (t' := s.toks) (r1.append r2) (by rw [List.length_append]; exact hz), rfl, q _ I.fresh⟩
/-- () + t is t -/
def rCatT0 (K : PySem.W.Frag) : R2 := fun x y H Q => ∃ a b ys, x = .ref a ∧ y = .ref b ∧ SqT K H a [] ∧ SqT K H b ys ∧ Q (.ref b) H
theorem op_catT0 : OpR X (binaryOp .Add) (rCatT0 X.K) := by
  intro pins s σ H x y v u Q I rx ry h
  obtain ⟨a, b, ys, rfl, rfl, ha, hb, q⟩ := h
  cases rx
  cases ry
  obtain ⟨its, r1, ⟨⟨cls, dd, data, sl⟩, ho, hc, n, hd⟩, _⟩ := I.tuple ha
  obtain ⟨its2, r2, ⟨⟨cls2, dd2, data2, sl2⟩, ho2, hc2, n2, hd2⟩, _⟩ := I.tuple hb
  simp only at hc hd hc2 hd2
  subst hc hd hc2 hd2
  have e : its = [] := r1.nil_iff.mpr rfl
  subst e
  exact concat_meets ⟨_, ho, rfl⟩ ⟨_, ho2, rfl⟩ noFill_tuple_add seq_tuple_add PySem.F.slot_tuple_add PySem.F.entry_tuple_add (PySem.F.args_tuple_add_2 _ _)
      (tuple_addW0 a b _ its2.toArray n n2 dd dd2 sl sl2 rfl) ⟨ho, ho2, ⟨.ref b, H, I, rfl, q⟩⟩
def rStr : R2 := fun x y H Q => ∃ i j, x = .str i ∧ y = .str j ∧ i.length + j.length ≤ sizeLine ∧ Q (.str (i ++ j)) H
def rAddA (K : PySem.W.Frag) : R2 := fun x y H Q => (((rI0 (fun i j => .int (i + j)) x y H Q ∨ rCatL K x y H Q) ∨ rCatT0 K x y H Q) ∨ rCatT K x y H Q) ∨ rStr x y H Q
theorem op_addA : OpR X (binaryOp .Add) (rAddA X.K) := (((op_add.or op_catL).or op_catT0).or op_catT).or op_add_str
theorem sqT_rep {Fz : Fzn} {H : Hp} {ds : List D} {x : V} (h : Rep M Fz H (.tup ds) x) : ∃ a vs, x = .ref a ∧ SqT M.K H a vs ∧ RepL M Fz H ds vs := by unfold Rep at h; exact h
theorem rep_tup {Fz : Fzn} {H : Hp} {ds : List D} {a : Addr} {vs : List V} (h : SqT M.K H a vs) (r : RepL M Fz H ds vs) : Rep M Fz H (.tup ds) (.ref a) := by unfold Rep; exact ⟨a, vs, rfl, h, r⟩
theorem rep_lst {Fz : Fzn} {H : Hp} {ds : List D} {a : Addr} {vs : List V} (h : LsF M.K Fz H a vs) (r : RepL M Fz H ds vs) : Rep M Fz H (.lst ds) (.ref a) := by unfold Rep; exact ⟨a, vs, rfl, h, r⟩
theorem rep_lst' {Fz : Fzn} {H : Hp} {ds : List D} {x : V} (h : Rep M Fz H (.lst ds) x) : ∃ a vs, x = .ref a ∧ LsF M.K Fz H a vs ∧ RepL M Fz H ds vs := by unfold Rep at h; exact h
/-- a new list, at once frozen -/
theorem newL {Fz : Fzn} {H : Hp} {ds : List D} {vs : List V} {p : Addr} (hp : H p = none) (r : RepL M Fz H ds vs) : GrowTo Fz H (fzAdd Fz p) (upd H p (.lst vs)) ∧ Rep M (fzAdd Fz p) (upd H p (.lst vs)) (.lst ds) (.ref p) :=
  ⟨.allocF hp, rep_lst (.inl ⟨.inr rfl, upd_same⟩) (r.grow (.allocF hp))⟩
theorem newT {Fz : Fzn} {H : Hp} {ds : List D} {vs : List V} {p : Addr} (hp : H p = none) (r : RepL M Fz H ds vs) : GrowTo Fz H Fz (upd H p (.tup vs)) ∧ Rep M Fz (upd H p (.tup vs)) (.tup ds) (.ref p) :=
  ⟨.alloc hp, rep_tup (.inl (.inl upd_same)) (r.grow (.alloc hp))⟩
theorem opt_add : OpT M (rAddA M.K) addD := by
  intro Fz H d e z x y Q dom rx ry eo k
  unfold addD at eo
  split at eo
  · injection eo with eo; subst eo
    exact .inl (.inl (.inl (.inl ⟨_, _, tint' rx, tint' ry, k _ Fz H .refl rep_int⟩)))
  · split at eo
    · rename_i hz
      injection eo with eo; subst eo
      obtain ⟨a, vs, rfl, h1, r1⟩ := rx
      obtain ⟨b, ws, rfl, h2, r2⟩ := ry
      refine .inl (.inl (.inl (.inr ⟨a, b, vs, ws, rfl, rfl, h1, h2, ?_, fun p hp => ?_⟩)))
      · rw [← r1.length, ← r2.length]; exact szOk_le hz
      · obtain ⟨g, r⟩ := newL (M := M) hp (r1.append r2)
        exact k _ _ _ g r
    · cases eo
  · split at eo
    · rename_i xs ys hz
      injection eo with eo; subst eo
      obtain ⟨a, vs, rfl, h1, r1⟩ := sqT_rep rx
      obtain ⟨b, ws, rfl, h2, r2⟩ := sqT_rep ry
      by_cases hx : xs = []
      · subst hx
        have ev := RepL.nil_iff.mp r1
        subst ev
        exact .inl (.inl (.inr ⟨a, b, ws, rfl, rfl, h1, h2, k _ Fz H .refl ry⟩))
      · have nv : vs ≠ [] := fun q => by
          subst q
          have := r1.length
          exact hx (List.length_eq_zero_iff.mp this)
        refine .inl (.inr ⟨a, b, vs, ws, rfl, rfl, h1, h2, nv, by rw [← r1.length, ← r2.length]; exact szOk_le hz, fun hw => ?_, fun hw p hp => ?_⟩)
        · subst hw
          have e : ys = [] := by
            have := r2.length
            exact List.length_eq_zero_iff.mp this
          subst e
          rw [List.append_nil] at k
          exact k _ Fz H .refl rx
        · obtain ⟨g, r⟩ := newT (M := M) hp (r1.append r2)
          exact k _ _ _ g r
    · cases eo
  · split at eo
    · rename_i hz
      injection eo with eo; subst eo
      exact .inr ⟨_, _, tstr' rx, tstr' ry, szOk_le hz, k _ Fz H .refl rep_str⟩
    · cases eo
  · cases eo
def mulI : D → D → Option D
  | .int i, .int j => if (i * j).natAbs < LIM then some (.int (i * j)) else none
  | _, _ => none
theorem opt_mulI : OpT M (rI CMulL fun i j => .int (i * j)) mulI := opT_I fun d e z h => by
  unfold mulI at h
  split at h
  · split at h
    · rename_i c
      injection h with h; subst h; exact ⟨_, _, rfl, rfl, c, fun _ _ => rep_int⟩
    · cases h
  · cases h
theorem unt_neg : UnT M (rU fun i => .int (-i)) negD := by
  intro Fz H d z x Q dom rx eo k
  unfold negD at eo
  split at eo
  · injection eo with eo; subst eo
    exact ⟨_, rep_int' rx, k _ Fz H .refl rep_int⟩
  · cases eo


/-! ### a list times an int -/
theorem int_rmulW (a : Int) (t : Tok) (l : Addr) (items : Array Value) (n : Nat) (dd : Option Addr) (sl : Array (Option Value)) :
    Meets (Builtin.«int.__rmul__» ⟨[.int a t, .ref l], []⟩) (fun _ R s => s.heap.get? l = some { cls := .type "list", dict := dd, data := .seq items n, slots := sl } ∧ R (.ok (.ret Value.notImplemented)) s) :=
  .of_wp fun prog w A R s h => by obtain ⟨hp, g, d, tk, os⟩ := s; obtain ⟨hl, h⟩ := h; wp_walk; exact ⟨_, rfl, h⟩
theorem list_mulW (l : Addr) (items : Array Value) (n : Nat) (x : Int) (u : Tok) (dd : Option Addr) (sl : Array (Option Value)) (hc0 : ¬(!Builtin.List.listFitsIndex x) = true) (hc1 : ¬items.size * x.toNat > (2 ^ 63 - 1) / 8) (hc2 : ¬Builtin.List.listTooLong (items.size * x.toNat) = true) :
    Meets (Builtin.«list.__mul__» ⟨[.ref l, .int x u], []⟩) (fun _ R s => s.heap.get? l = some { cls := .type "list", dict := dd, data := .seq items n, slots := sl } ∧ R (.ok (.ret (Value.ref s.heap.objs.size))) { s with heap := s.heap.push { cls := Value.type "list", data := Data.seq (List.foldl (fun x1 x2 => x1 ++ x2) #[] (List.replicate (if items.isEmpty = true then 0 else x.toNat) items)) }, toks := s.toks }) :=
  .of_wp fun prog w A R s h => by
    obtain ⟨hp, g, d, tk, os⟩ := s; obtain ⟨hl, h⟩ := h
    have hsz := AutoListH.joined_fits hc2
    wp_walk using AutoSeq1.wpAny_loadPart' hl
    refine wpAny_ite_false (decide_eq_false (Nat.not_lt.mpr hsz)) ?_
    wp_walk
    exact ⟨_, rfl, h⟩
def rRepL (K : PySem.W.Frag) : R2 := fun x y H Q => ∃ l k xs, x = .ref l ∧ y = .int k ∧ SqL K H l xs ∧ -(2 ^ 63) ≤ k ∧ k < 2 ^ 63 ∧ xs.length * k.toNat ≤ sizeLine ∧
  ∀ p, H p = none → Q (.ref p) (upd H p (.lst (List.replicate k.toNat xs).flatten))
theorem op_repL : OpR X (binaryOp .Mult) (rRepL X.K) := by
  intro pins s σ H x y v u Q I rx ry h
  obtain ⟨l, k, xs, rfl, rfl, hH, h1, h2, hz, q⟩ := h
  cases rx
  obtain ⟨t, rfl⟩ := ry
  obtain ⟨its, r, ⟨⟨cls, dd, data, sl⟩, n, e, hc, hdd, hd⟩, _⟩ := I.list hH
  simp only at hc hd
  subst hc hd
  have hl := r.length
  have hlen : its.toArray.size * k.toNat ≤ sizeLine := by rw [List.size_toArray, ← hl]; exact hz
  have hcap : ¬ its.toArray.size * k.toNat > (2 ^ 63 - 1) / 8 := by
    have : (sizeLine : Nat) ≤ (2 ^ 63 - 1) / 8 := by decide
    omega
  have hfit : ¬ (!Builtin.List.listFitsIndex k) = true := by
    rw [fitsIndex_both h1 h2]
    exact Bool.false_ne_true
  have hlong : ¬ Builtin.List.listTooLong (its.toArray.size * k.toNat) = true := by
    rw [notLongL hlen]
    exact Bool.false_ne_true
  have hnew : List.foldl (fun x1 x2 => x1 ++ x2) #[] (List.replicate (if its.toArray.isEmpty = true then 0 else k.toNat) its.toArray) = (List.replicate k.toNat its).flatten.toArray := by
    have f0 : ∀ m : Nat, List.foldl (fun x1 x2 => x1 ++ x2) #[] (List.replicate m its.toArray) = (List.replicate m its).flatten.toArray := fun m => by
      have := foldl_rep its m []
      rw [List.nil_append] at this
      exact this
    rw [f0]
    cases its with
    | nil => simp
    | cons a r' => rw [if_neg (by simp)]
  refine wpAny_binaryOp_repeat_ref (T := "list") (U := "int") (by decide) ⟨_, e, rfl⟩ (fun s' => typeIs_int s' k t) noFill_list_mul F.fills_int_mul F.slot_int_rmul repeat_list F.slot_int_index.lookup
    (call_meets F.slot_int_rmul (typeIs_int s k t) F.entry_int_rmul (F.args_int_rmul_2 _ _) (int_rmulW k t l its.toArray n dd sl)
      ⟨e, rfl, ⟨_, e, rfl⟩, call_meets F.slot_list_mul ⟨_, e, rfl⟩ F.entry_list_mul (F.args_list_mul_2 _ _) (list_mulW l its.toArray n k t dd sl hfit hcap hlong) ⟨e, ?_⟩⟩)
  rw [hnew]
  exact ⟨.ref _, _, I.lnew (t' := s.toks) (r.rep k.toNat) (by rw [PyProof.Rows.lm_len_rep_flat, Nat.mul_comm]; exact hz), rfl, q _ I.fresh⟩
def rMulA (K : PySem.W.Frag) : R2 := fun x y H Q => rI CMulL (fun i j => .int (i * j)) x y H Q ∨ rRepL K x y H Q
theorem op_mulA : OpR X (binaryOp .Mult) (rMulA X.K) := op_mulL.or op_repL
theorem opt_mul : OpT M (rMulA M.K) mulD := by
  intro Fz H d e z x y Q dom rx ry eo k
  unfold mulD at eo
  split at eo
  · split at eo
    · rename_i c
      injection eo with eo; subst eo
      exact .inl ⟨_, _, tint' rx, tint' ry, c, k _ Fz H .refl rep_int⟩
    · cases eo
  · split at eo
    · rename_i hz
      simp only [Bool.and_eq_true, decide_eq_true_eq] at hz
      injection eo with eo; subst eo
      obtain ⟨a, vs, rfl, h1, r1⟩ := rx
      refine .inr ⟨a, _, vs, rfl, tint' ry, h1, hz.1.2, hz.2, by rw [← r1.length]; exact szOk_le hz.1.1, fun p hp => ?_⟩
      obtain ⟨g, r⟩ := newL (M := M) hp (r1.rep _)
      exact k _ _ _ g r
    · cases eo
  · cases eo

/-! ### == -/
end
mutual
def D.eqb : D → D → Bool
  | .non, e => match e with
    | .non => true
    | _ => false
  | .bl a, e => match e with
    | .bl b => a == b
    | .int j => (if a then 1 else 0) == j
    | _ => false
  | .int i, e => match e with
    | .bl b => i == (if b then 1 else 0)
    | .int j => i == j
    | _ => false
  | .str x, e => match e with
    | .str y => x == y
    | _ => false
  | .lst xs, e => match e with
    | .lst ys => D.eqbs xs ys
    | _ => false
  | .tup xs, e => match e with
    | .tup ys => D.eqbs xs ys
    | _ => false
  | .obj _ _ _, _ => false
def D.eqbs : List D → List D → Bool
  | [], es => match es with
    | [] => true
    | _ => false
  | x :: xs, es => match es with
    | [] => false
    | y :: ys => D.eqb x y && D.eqbs xs ys
end
mutual
def D.py : D → PyData
  | .non => .none
  | .bl b => .bool b
  | .int i => .int i
  | .str x => .str x
  | .lst ds => .list (D.pys ds)
  | .tup ds => .tuple (D.pys ds)
  | .obj _ _ _ => .none
def D.pys : List D → List PyData
  | [] => []
  | d :: ds => D.py d :: D.pys ds
end
/-- plain data (no instance), texts well-formed, at most so deep -/
def okN : Nat → D → Bool
  | _, .non => true
  | _, .bl _ => true
  | _, .int _ => true
  | _, .str x => x.cps.all (· < 0x110000)
  | n + 1, .lst ds => ds.all (okN n)
  | n + 1, .tup ds => ds.all (okN n)
  | _, _ => false
theorem pys_eq (ds : List D) : D.pys ds = ds.map D.py := by
  induction ds with
  | nil => simp [D.pys]
  | cons d ds ih => simp [D.pys, ih]
theorem okN_py : ∀ (n : Nat) (d : D), okN n d = true → d.py.canLay0 = true ∧ d.py.depth ≤ n := by
  intro n
  induction n with
  | zero =>
    intro d h
    cases d with
    | lst ds => cases h
    | tup ds => cases h
    | obj c ns ds => cases h
    | str x => exact ⟨h, Nat.le_refl _⟩
    | _ => exact ⟨rfl, Nat.le_refl _⟩
  | succ n ih =>
    have all : ∀ ds : List D, ds.all (okN n) = true → PyData.canLayAll0 (D.pys ds) = true ∧ PyData.depthAll (D.pys ds) ≤ n := by
      intro ds
      induction ds with
      | nil => intro _; exact ⟨rfl, Nat.zero_le _⟩
      | cons d ds ih2 =>
        intro h
        rw [List.all_cons, Bool.and_eq_true] at h
        have h1 := ih d h.1
        have h2 := ih2 h.2
        refine ⟨?_, ?_⟩
        · rw [D.pys, PyData.canLayAll0, h1.1, h2.1]; rfl
        · rw [D.pys, PyData.depthAll]; omega
    intro d h
    cases d with
    | lst ds =>
      have h' := all ds h
      exact ⟨by rw [D.py, PyData.canLay0]; exact h'.1, by rw [D.py, PyData.depth]; omega⟩
    | tup ds =>
      have h' := all ds h
      exact ⟨by rw [D.py, PyData.canLay0]; exact h'.1, by rw [D.py, PyData.depth]; omega⟩
    | obj c ns ds => cases h
    | str x => exact ⟨h, Nat.zero_le _⟩
    | non => exact ⟨rfl, Nat.zero_le _⟩
    | bl b => exact ⟨rfl, Nat.zero_le _⟩
    | int i => exact ⟨rfl, Nat.zero_le _⟩
theorem okN_shaped {d : D} (h : okN 20 d = true) : SeqAt.shaped d.py = true := by
  obtain ⟨h1, h2⟩ := okN_py 20 d h
  unfold SeqAt.shaped
  rw [h1]
  simp
  omega
mutual
theorem eqb_py : ∀ (n : Nat) (d e : D), okN n d = true → (∃ m, okN m e = true) → PyData.eqv d.py e.py = D.eqb d e
  | n, .non, e, _, he => by cases e <;> simp_all [D.py, D.eqb, PyData.eqv, okN]
  | n, .bl a, e, _, he => by cases e <;> simp_all [D.py, D.eqb, PyData.eqv, okN]
  | n, .int a, e, _, he => by cases e <;> simp_all [D.py, D.eqb, PyData.eqv, okN]
  | n, .str a, e, _, he => by cases e <;> simp_all [D.py, D.eqb, PyData.eqv, okN]
  | 0, .lst _, _, h, _ => by simp [okN] at h
  | 0, .tup _, _, h, _ => by simp [okN] at h
  | n + 1, .lst xs, e, h, he => by
    cases e with
    | lst ys =>
      rw [D.py, D.py, D.eqb, PyData.eqv]
      refine eqbs_py n xs ys (by simpa [okN] using h) ?_
      obtain ⟨m, hm⟩ := he
      cases m with
      | zero => simp [okN] at hm
      | succ m => exact ⟨m, by simpa [okN] using hm⟩
    | _ => simp_all [D.py, D.eqb, PyData.eqv, okN]
  | n + 1, .tup xs, e, h, he => by
    cases e with
    | tup ys =>
      rw [D.py, D.py, D.eqb, PyData.eqv]
      refine eqbs_py n xs ys (by simpa [okN] using h) ?_
      obtain ⟨m, hm⟩ := he
      cases m with
      | zero => simp [okN] at hm
      | succ m => exact ⟨m, by simpa [okN] using hm⟩
    | _ => simp_all [D.py, D.eqb, PyData.eqv, okN]
  | n, .obj c ns ds, e, h, _ => by cases n <;> simp [okN] at h
theorem eqbs_py : ∀ (n : Nat) (xs ys : List D), (∀ d ∈ xs, okN n d = true) → (∃ m, ∀ d ∈ ys, okN m d = true) → PyData.eqvAll (D.pys xs) (D.pys ys) = D.eqbs xs ys
  | n, [], ys, _, _ => by cases ys <;> simp [D.pys, D.eqbs, PyData.eqvAll]
  | n, x :: xs, [], _, _ => by simp [D.pys, D.eqbs, PyData.eqvAll]
  | n, x :: xs, y :: ys, h, ⟨m, hm⟩ => by
    rw [D.pys, D.pys, D.eqbs, PyData.eqvAll]
    rw [eqb_py n x y (h x List.mem_cons_self) ⟨m, hm y List.mem_cons_self⟩, eqbs_py n xs ys (fun d q => h d (List.mem_cons_of_mem _ q)) ⟨m, fun d q => hm d (List.mem_cons_of_mem _ q)⟩]
end
section
variable {X : Cx} {M : MM} {Fz : Fzn} {H : Hp}
mutual
theorem rep_dp : ∀ (n : Nat) (d : D) (v : V), okN n d = true → Rep M Fz H d v → Dp M.K H v d.py
  | _, .non, v, _, r => by have := rep_non' r; subst this; rw [D.py]; exact .non
  | _, .bl b, v, _, r => by have := rep_bl' r; subst this; rw [D.py]; exact .bl b
  | _, .int b, v, _, r => by have := rep_int' r; subst this; rw [D.py]; exact .int b
  | _, .str b, v, _, r => by have := rep_str' r; subst this; rw [D.py]; exact .str b
  | 0, .lst _, _, h, _ => by simp [okN] at h
  | 0, .tup _, _, h, _ => by simp [okN] at h
  | n + 1, .lst ds, v, h, r => by
    obtain ⟨a, vs, rfl, h1, r1⟩ := rep_lst' r
    rw [D.py]
    exact .lst h1.sq (repL_dp n ds vs (by simpa [okN] using h) r1)
  | n + 1, .tup ds, v, h, r => by
    obtain ⟨a, vs, rfl, h1, r1⟩ := sqT_rep r
    rw [D.py]
    exact .tup h1 (repL_dp n ds vs (by simpa [okN] using h) r1)
  | n, .obj c ns ds, _, h, _ => by cases n <;> simp [okN] at h
theorem repL_dp : ∀ (n : Nat) (ds : List D) (vs : List V), (∀ d ∈ ds, okN n d = true) → RepL M Fz H ds vs → DpAll M.K H vs (D.pys ds)
  | n, [], vs, _, r => by
    have := RepL.nil_iff.mp r
    subst this
    rw [D.pys]; exact .nil
  | n, d :: ds, vs, h, r => by
    obtain ⟨v, r', rfl, r1, r2⟩ := RepL.cons_iff.mp r
    rw [D.pys]
    exact .cons (rep_dp n d v (h d List.mem_cons_self) r1) (repL_dp n ds r' (fun d q => h d (List.mem_cons_of_mem _ q)) r2)
end
theorem trep_dp {n : Nat} {d : D} {v : V} (h : okN n d = true) (r : TRep M Fz H d v) : Dp M.K H v d.py := by
  cases d with
  | lst ds =>
    obtain ⟨a, vs, rfl, h1, r1⟩ := r
    rw [D.py]
    cases n with
    | zero => simp [okN] at h
    | succ n => exact .lst h1 (repL_dp n ds vs (by simpa [okN] using h) r1)
  | _ => exact rep_dp (Fz := Fz) n _ v h r
/-- == -/
def eqD (d e : D) : Option D := if okN 20 d && okN 20 e then some (.bl (D.eqb d e)) else none
def neD (d e : D) : Option D := if okN 20 d && okN 20 e then some (.bl (!D.eqb d e)) else none
theorem opt_eq : OpT M (rEqD M.K) eqD := by
  intro Fz H d e z x y Q dom rx ry eo k
  unfold eqD at eo
  split at eo
  · rename_i h
    rw [Bool.and_eq_true] at h
    injection eo with eo; subst eo
    refine ⟨d.py, e.py, trep_dp h.1 rx, trep_dp h.2 ry, okN_shaped h.1, okN_shaped h.2, ?_⟩
    rw [eqb_py 20 d e h.1 ⟨20, h.2⟩]
    exact k _ Fz H .refl rep_bl
  · cases eo
theorem opt_ne : OpT M (rNeD M.K) neD := by
  intro Fz H d e z x y Q dom rx ry eo k
  unfold neD at eo
  split at eo
  · rename_i h
    rw [Bool.and_eq_true] at h
    injection eo with eo; subst eo
    refine ⟨d.py, e.py, trep_dp h.1 rx, trep_dp h.2 ry, okN_shaped h.1, okN_shaped h.2, ?_⟩
    rw [eqb_py 20 d e h.1 ⟨20, h.2⟩]
    exact k _ Fz H .refl rep_bl
  · cases eo
theorem op_eqR {k : Nat} (hr : Room k X.A) : OpR X (compareOp .Eq) (rEqD X.K) := op_eqD hr.units
theorem op_neR {k : Nat} (hr : Room k X.A) : OpR X (compareOp .NotEq) (rNeD X.K) := op_neD hr.units

/-! ### in -/
def rInD (K : PySem.W.Frag) (neg : Bool) : R2 := fun x y H Q => ∃ d es, Dp K H x d ∧ (Dp K H y (.list es) ∨ Dp K H y (.tuple es)) ∧ SeqAt.shaped d = true ∧ PyData.canLayAll0 es = true ∧ Q (.bl (if neg then !(es.any fun y => PyData.eqv y d) else es.any fun y => PyData.eqv y d)) H
theorem room_in {A : Around} {xs : List PyData} {d : PyData} (hd : SeqAt.shaped d = true) (hu : A.units + 65 < cLine) : A.units + 1 + min (PyData.depthAll xs) d.depth < cLine := by
  have h1 := SeqAt.depth_of_shaped hd
  have h2 : min (PyData.depthAll xs) d.depth ≤ d.depth := Nat.min_le_right _ _
  omega
theorem op_inD (hu : X.A.units + 65 < cLine) : OpR X (compareOp .In) (rInD X.K false) := by
  intro pins s σ H x y v u Q I rx ry h
  obtain ⟨d, es, hd, he, sd, se, q⟩ := h
  obtain ⟨as, r1⟩ := Dp.reads I d x v hd rx
  rcases he with he | he
  · obtain ⟨bs, r2⟩ := Dp.reads I _ y u he ry
    exact SeqAt.in_list_reads r2 r1 se (SeqAt.canLay_of_shaped sd) (room_in sd hu) ⟨.bl _, H, I, rfl, q⟩
  · obtain ⟨bs, r2⟩ := Dp.reads I _ y u he ry
    exact SeqAt.in_tuple_reads r2 r1 se (SeqAt.canLay_of_shaped sd) (room_in sd hu) ⟨.bl _, H, I, rfl, q⟩
theorem op_notInD (hu : X.A.units + 65 < cLine) : OpR X (compareOp .NotIn) (rInD X.K true) := by
  intro pins s σ H x y v u Q I rx ry h
  obtain ⟨d, es, hd, he, sd, se, q⟩ := h
  obtain ⟨as, r1⟩ := Dp.reads I d x v hd rx
  rcases he with he | he
  · obtain ⟨bs, r2⟩ := Dp.reads I _ y u he ry
    exact SeqAt.notIn_list_reads r2 r1 se (SeqAt.canLay_of_shaped sd) (room_in sd hu) ⟨.bl _, H, I, rfl, q⟩
  · obtain ⟨bs, r2⟩ := Dp.reads I _ y u he ry
    exact SeqAt.notIn_tuple_reads r2 r1 se (SeqAt.canLay_of_shaped sd) (room_in sd hu) ⟨.bl _, H, I, rfl, q⟩
def memD (d : D) (es : List D) : Bool := es.any fun y => D.eqb y d
def inD : D → D → Option D
  | d, .lst es => if okN 20 d && es.all (okN 20) then some (.bl (memD d es)) else none
  | d, .tup es => if okN 20 d && es.all (okN 20) then some (.bl (memD d es)) else none
  | _, _ => none
def notInD : D → D → Option D
  | d, .lst es => if okN 20 d && es.all (okN 20) then some (.bl (!memD d es)) else none
  | d, .tup es => if okN 20 d && es.all (okN 20) then some (.bl (!memD d es)) else none
  | _, _ => none
theorem any_py {d : D} (hd : okN 20 d = true) : ∀ es : List D, es.all (okN 20) = true → (D.pys es).any (fun y => PyData.eqv y d.py) = memD d es
  | [], _ => by simp [D.pys, memD]
  | e :: es, h => by
    rw [List.all_cons, Bool.and_eq_true] at h
    rw [D.pys, List.any_cons, any_py hd es h.2, eqb_py 20 e d h.1 ⟨20, hd⟩]
    simp [memD]
theorem lays {es : List D} (h : es.all (okN 20) = true) : PyData.canLayAll0 (D.pys es) = true := by
  have z := okN_py 21 (.lst es) (by simpa [okN] using h)
  have z1 := z.1
  rw [D.py, PyData.canLay0] at z1
  exact z1
theorem in_aux {Q : VK} {d : D} {es : List D} {x y : V} {neg : Bool} {c : Bool} (h : (okN 20 d && es.all (okN 20)) = true) (rx : TRep M Fz H d x) (ry : TRep M Fz H (.lst es) y ∨ TRep M Fz H (.tup es) y) (hc : c = if neg then !memD d es else memD d es) (k : Q (.bl c) H) : rInD M.K neg x y H Q := by
  rw [Bool.and_eq_true] at h
  refine ⟨d.py, D.pys es, trep_dp h.1 rx, ?_, okN_shaped h.1, lays h.2, ?_⟩
  · rcases ry with ry | ry
    · have z := trep_dp (n := 21) (d := .lst es) (by simpa [okN] using h.2) ry
      rw [D.py] at z
      exact .inl z
    · have z := trep_dp (n := 21) (d := .tup es) (by simpa [okN] using h.2) ry
      rw [D.py] at z
      exact .inr z
  · rw [any_py h.1 es h.2, ← hc]
    exact k
theorem opt_in : OpT M (rInD M.K false) inD := by
  intro Fz H d e z x y Q dom rx ry eo k
  unfold inD at eo
  split at eo
  · split at eo
    · rename_i h
      injection eo with eo; subst eo
      exact in_aux h rx (.inl ry) (by simp) (k _ Fz H .refl rep_bl)
    · cases eo
  · split at eo
    · rename_i h
      injection eo with eo; subst eo
      exact in_aux h rx (.inr ry) (by simp) (k _ Fz H .refl rep_bl)
    · cases eo
  · cases eo
theorem opt_notIn : OpT M (rInD M.K true) notInD := by
  intro Fz H d e z x y Q dom rx ry eo k
  unfold notInD at eo
  split at eo
  · split at eo
    · rename_i h
      injection eo with eo; subst eo
      exact in_aux h rx (.inl ry) (by simp) (k _ Fz H .refl rep_bl)
    · cases eo
  · split at eo
    · rename_i h
      injection eo with eo; subst eo
      exact in_aux h rx (.inr ry) (by simp) (k _ Fz H .refl rep_bl)
    · cases eo
  · cases eo
theorem op_inR {k : Nat} (hr : Room k X.A) : OpR X (compareOp .In) (rInD X.K false) := op_inD (by have := hr.un; omega)
theorem op_notInR {k : Nat} (hr : Room k X.A) : OpR X (compareOp .NotIn) (rInD X.K true) := op_notInD (by have := hr.un; omega)

/-! ### is None -/
def D.isNon : D → Bool
  | .non => true
  | _ => false
def isD : D → D → Option D
  | d, .non => some (.bl d.isNon)
  | _, _ => none
def isNotD : D → D → Option D
  | d, .non => some (.bl (!d.isNon))
  | _, _ => none
theorem isNon_rep {d : D} {x : V} (r : TRep M Fz H d x) : decide (x = .non) = d.isNon := by
  cases d with
  | non => rw [tnon' r]; rfl
  | bl b => rw [tbl' r]; rfl
  | int i => rw [tint' r]; rfl
  | str i => rw [tstr' r]; rfl
  | tup ds =>
    obtain ⟨a, vs, rfl, _⟩ := sqT_rep (M := M) (Fz := Fz) (H := H) r
    rfl
  | lst ds =>
    obtain ⟨a, vs, rfl, _⟩ := r
    rfl
  | obj c ns ds =>
    have r' : Rep M Fz H (.obj c ns ds) x := r
    unfold Rep at r'
    obtain ⟨a, C, dx, vs, rfl, _⟩ := r'
    rfl
theorem opt_is : OpT M (fun x y H Q => y = .non ∧ Q (.bl (decide (x = .non))) H) isD := by
  intro Fz H d e z x y Q dom rx ry eo k
  unfold isD at eo
  split at eo
  · injection eo with eo; subst eo
    refine ⟨tnon' ry, ?_⟩
    rw [isNon_rep rx]
    exact k _ Fz H .refl rep_bl
  · cases eo
theorem opt_isNot : OpT M (fun x y H Q => y = .non ∧ Q (.bl (!decide (x = .non))) H) isNotD := by
  intro Fz H d e z x y Q dom rx ry eo k
  unfold isNotD at eo
  split at eo
  · injection eo with eo; subst eo
    refine ⟨tnon' ry, ?_⟩
    rw [isNon_rep rx]
    exact k _ Fz H .refl rep_bl
  · cases eo

/-! ### items -/
def ixD : D → D → Option D
  | .lst ds, .int i => atI ds i
  | .tup ds, .int i => atI ds i
  | _, _ => none
theorem atI_rep {ds : List D} {vs : List V} {i : Int} {d : D} (r : RepL M Fz H ds vs) (h : atI ds i = some d) : ∃ v, atI vs i = some v ∧ Rep M Fz H d v := by
  unfold atI at h ⊢
  rw [← r.length]
  obtain ⟨j, hj, e⟩ := Option.bind_eq_some_iff.mp h
  obtain ⟨v, hv, rv⟩ := r.get e
  exact ⟨v, by rw [hj]; exact hv, rv⟩
def rIxA (K : PySem.W.Frag) : R2 := fun x y H Q => rIxL K x y H Q ∨ rIxT K x y H Q
theorem ix_A : IxR X (rIxA X.K) := ix_list.or ix_tup
theorem opt_ix : OpT M (rIxA M.K) ixD := by
  intro Fz H d e z x y Q dom rx ry eo k
  unfold ixD at eo
  split at eo
  · obtain ⟨a, vs, rfl, h1, r1⟩ := rx
    obtain ⟨v, hv, rv⟩ := atI_rep r1 eo
    exact .inl ⟨a, vs, _, v, rfl, tint' ry, h1, hv, k _ Fz H .refl rv⟩
  · obtain ⟨a, vs, rfl, h1, r1⟩ := sqT_rep (M := M) (Fz := Fz) (H := H) rx
    obtain ⟨v, hv, rv⟩ := atI_rep r1 eo
    exact .inr ⟨a, vs, _, v, rfl, tint' ry, h1, hv, k _ Fz H .refl rv⟩
  · cases eo
end
end DL

set_option Elab.async false
set_option linter.all false
set_option maxRecDepth 100000
set_option maxHeartbeats 4000000
/-! Den4: argument lists, displays, built-in functions, isinstance, fields, calls of defs. -/
namespace DL
open PySem L2 PySem.Spec PyProof.Rows

/-- a fresh list is frozen -/
theorem BRel.fzFresh {b : B} {Fz : Fzn} {g : Sg} {σ : L2.St} {H : Hp} {p : Addr} {u : HO} (r : BRel b Fz g σ H) (h0 : b.H0 p = none) (hu : H p = some u) (ho : ∀ i, ¬ Own g σ i p) : BRel b (fzAdd Fz p) g σ H := by
  have ex : Ext Fz H (fzAdd Fz p) H := ⟨fun _ q => .inl q, fun _ _ q _ => q⟩
  refine ⟨⟨fun a q => ?_, fun a q => .inl (r.gr.fz a q), fun a q => ?_, r.gr.fr, r.gr.oa⟩, ⟨r.rel.len, fun i t q => ?_, r.rel.apart⟩, r.own, r.pin, r.px⟩
  · rcases q with q | q
    · exact r.gr.dom a q
    · subst q; exact ⟨u, hu⟩
  · rcases q with q | q
    · exact r.gr.new a q
    · subst q; exact .inr h0
  · have z := r.slot q
    by_cases ht : t.isOw = true
    · obtain ⟨x, o, e3, n3, h3, w3⟩ := z.own ht
      refine SlotOk.of_own e3 (fun y => ?_) h3 (w3.mono ex)
      rcases y with y | y
      · exact n3 y
      · subst y
        exact ho i ⟨⟨t, q, ht⟩, e3⟩
    · cases t with
      | un => trivial
      | v d => obtain ⟨x, e3, r3⟩ := z; exact ⟨x, e3, Rep.mono ex d x r3⟩
      | _ => exact absurd rfl ht

section
variable {X : Cx} {b : B} {W : WX} {e e1 e2 e3 : Expr} {es : List Expr} {f f1 f2 f3 : FE} {pos p p2 : Pos}

/-! ### argument lists -/
def nilA : FA := fun g => .ok [] g
def consA (f : FE) (fr : FA) : FA := fun g => (f g).bd fun d g1 => (fr g1).bd fun ds g2 => .ok (d :: ds) g2
theorem pda_nil : PA X [] (tAr b W nilA) := pa_mono pa_nil fun σ H Q ⟨Fz, g, r, h⟩ => h [] H Fz r .refl RepL.nil
theorem pda_cons {fr : FA} (h1 : PE X e (tE b W f)) (h2 : PA X es (tAr b W fr)) (hs : starEach (e :: es) X.env = (false, eval e X.env) :: starEach es X.env := by rfl) : PA X (e :: es) (tAr b W (consA f fr)) :=
  pa_mono (pa_cons h1 h2 hs) fun σ H Q ⟨Fz, g, r, h⟩ => tG_seq r h fun d x g1 Fz1 H1 r1 e1 rep1 h1 => tG_seq r1 h1 fun ds xs g2 Fz2 H2 r2 e2 rep2 h2 => h2.ok r2 .refl (RepL.cons (Rep.mono e2 d x rep1) rep2)
def nilV : FV := fun g => .ok [] g
def consV (f : Sg → R AV) (fr : FV) : FV := fun g => (f g).bd fun a g1 => (fr g1).bd fun as g2 => if resI g2 a = true then .ok (a :: as) g2 else .no
theorem pva_nil : PA X [] (tAv b W nilV) := pa_mono pa_nil fun σ H Q ⟨Fz, g, r, h⟩ => h [] H Fz r .refl rfl
theorem pva_cons {f : Sg → R AV} {fr : FV} (h1 : PE X e (tA1 b W f)) (h2 : PA X es (tAv b W fr)) (hs : starEach (e :: es) X.env = (false, eval e X.env) :: starEach es X.env := by rfl) : PA X (e :: es) (tAv b W (consV f fr)) :=
  pa_mono (pa_cons h1 h2 hs) fun σ H Q ⟨Fz, g, r, h⟩ => tG_seq r h fun a x g1 Fz1 H1 r1 e1 rep1 h1 => tG_seq r1 h1 fun as xs g2 Fz2 H2 r2 e2 rep2 h2 => by
    by_cases c : resI g2 a = true
    · rw [if_pos c] at h2
      exact h2.ok r2 .refl ⟨x, xs, rfl, rep1.mono e2 (resI_ok c), rep2⟩
    · rw [if_neg c] at h2
      exact h2.elim

/-! ### displays -/
def tupF (fa : FA) : FE := fun g => (fa g).bd fun ds g1 => if szOk ds.length = true then .ok (.tup ds) g1 else .no
theorem pd_tup {fa : FA} {x1} (h : PA X es (tAr b W fa)) : PE X (.Tuple es x1 pos) (tE b W (tupF fa)) :=
  pe_mono (pe_tup h) fun σ H Q ⟨Fz, g, r, h⟩ => tG_seq r h fun ds xs g1 Fz1 H1 r1 e1 rep1 h1 => by
    by_cases c : szOk ds.length = true
    · rw [if_pos c] at h1
      have rep' : RepL b.M Fz1 H1 ds xs := rep1
      refine ⟨by rw [← rep'.length]; exact szOk_le c, fun p hp => ?_⟩
      obtain ⟨gr, rv⟩ := newT (M := b.M) hp rep'
      exact h1.ok (r1.grow gr) gr.ext rv
    · rw [if_neg c] at h1
      exact h1.elim
def lstF (fa : FA) : FF := fun g => (fa g).bd fun ds g1 => if szOk ds.length = true then .ok ds g1 else .no
/-- a list laid just now is fresh -/
theorem fresh_new {Fz : Fzn} {g : Sg} {σ : L2.St} {H : Hp} {p : Addr} {ds : List D} {vs : List V} (r : BRel b Fz g σ H) (hp : H p = none) (rep : RepL b.M Fz H ds vs) : BRel b Fz g σ (upd H p (.lst vs)) ∧ bF b σ Fz (upd H p (.lst vs)) g ds (.ref p) := by
  have gr : GrowTo Fz H Fz (upd H p (.lst vs)) := .alloc hp
  exact ⟨r.grow gr, p, vs, rfl, r.new0 hp, r.notFz hp, upd_same, r.notOwn hp, rep.grow gr⟩
theorem pf_lst {fa : FA} (h : PA X es (tAr b W fa)) : PE X (.List es pos) (tFr b W (lstF fa)) :=
  pe_mono (pe_lst h) fun σ H Q ⟨Fz, g, r, h⟩ => tG_seq r h fun ds xs g1 Fz1 H1 r1 e1 rep1 h1 => by
    by_cases c : szOk ds.length = true
    · rw [if_pos c] at h1
      have rep' : RepL b.M Fz1 H1 ds xs := rep1
      refine ⟨by rw [← rep'.length]; exact szOk_le c, fun p hp => ?_⟩
      obtain ⟨r2, fr⟩ := fresh_new r1 hp rep'
      exact h1.ok r2 (GrowTo.alloc hp).ext fr
    · rw [if_neg c] at h1
      exact h1.elim
/-- a fresh list as a value -/
def frF (f : FF) : FE := fun g => (f g).bd fun ds g1 => .ok (.lst ds) g1
theorem fresh_rep {Fz : Fzn} {g : Sg} {σ : L2.St} {H : Hp} {ds : List D} {x : V} (r : BRel b Fz g σ H) (h : bF b σ Fz H g ds x) : ∃ Fz', BRel b Fz' g σ H ∧ Ext Fz H Fz' H ∧ Rep b.M Fz' H (.lst ds) x := by
  obtain ⟨p, vs, rfl, h0, nf, hu, ho, rep⟩ := h
  have ex : Ext Fz H (fzAdd Fz p) H := ⟨fun _ q => .inl q, fun _ _ q _ => q⟩
  exact ⟨fzAdd Fz p, r.fzFresh h0 hu ho, ex, rep_lst (.inl ⟨.inr rfl, hu⟩) (RepL.mono ex _ _ rep)⟩
theorem pd_fr {ff : FF} (h : PE X e (tFr b W ff)) : PE X e (tE b W (frF ff)) := pe_mono h fun σ H Q ⟨Fz, g, r, h⟩ => tG_seq r h fun ds x g1 Fz1 H1 r1 e1 rep1 h1 => by
  obtain ⟨Fz2, r2, e2, rv⟩ := fresh_rep r1 rep1
  exact h1.ok r2 e2 rv

/-! ### built-in functions on data -/
def TRepL (M : MM) (Fz : Fzn) (H : Hp) : List D → List V → Prop
  | [], xs => xs = []
  | d :: ds, xs => ∃ x r, xs = x :: r ∧ TRep M Fz H d x ∧ TRepL M Fz H ds r
def CallT (M : MM) (r : List V → Hp → VK → Prop) (o : List D → Option D) : Prop := ∀ {Fz : Fzn} {H : Hp} {ds : List D} {z : D} {xs : List V} {Q : VK}, (∀ a, Fz a → ∃ o, H a = some o) → TRepL M Fz H ds xs → o ds = some z →
  (∀ v Fz' H', GrowTo Fz H Fz' H' → Rep M Fz' H' z v → Q v H') → r xs H Q
/-- .. whose answer is a new list -/
def CallTF (M : MM) (r : List V → Hp → VK → Prop) (o : List D → Option (List D)) : Prop := ∀ {Fz : Fzn} {H : Hp} {ds zs : List D} {xs : List V} {Q : VK}, (∀ a, Fz a → ∃ o, H a = some o) → TRepL M Fz H ds xs → o ds = some zs →
  (∀ p vs, H p = none → RepL M Fz H zs vs → Q (.ref p) (upd H p (.lst vs))) → r xs H Q
def ress (g : Sg) : List AV → Option (List D)
  | [] => some []
  | a :: as => (res g a).bind fun d => (ress g as).bind fun ds => some (d :: ds)
theorem ress_ok {Fz : Fzn} {g : Sg} {σ : L2.St} {H : Hp} (r : BRel b Fz g σ H) : ∀ {as : List AV} {xs : List V} {ds : List D}, AVsOk b σ Fz H g as xs → ress g as = some ds → TRepL b.M Fz H ds xs
  | [], xs, ds, h, e => by
    have e' : [] = ds := Option.some.inj e
    subst e'
    exact h
  | a :: as, xs, ds, h, e => by
    obtain ⟨x, r', rfl, h1, h2⟩ := h
    obtain ⟨d, ed, e⟩ := Option.bind_eq_some_iff.mp e
    obtain ⟨ds', eds, e⟩ := Option.bind_eq_some_iff.mp e
    have e' := Option.some.inj e
    subst e'
    exact ⟨x, r', rfl, res_ok r h1 ed, ress_ok r h2 eds⟩
def bltF (o : List D → Option D) (fa : FV) : FE := fun g => (fa g).bd fun as g1 => opt ((ress g1 as).bind o) g1
def bltFF (o : List D → Option (List D)) (fa : FV) : FF := fun g => (fa g).bd fun as g1 => opt ((ress g1 as).bind o) g1
theorem tE_blt {r : List V → Hp → VK → Prop} {o : List D → Option D} {fa : FV} (ho : CallT b.M r o) {σ : L2.St} {H : Hp} {Q : VK} (h : tE b W (bltF o fa) σ H Q) : tCB r (tAv b W fa) σ H Q := by
  obtain ⟨Fz, g, r0, h⟩ := h
  refine tG_seq r0 h fun as xs g1 Fz1 H1 r1 e1 rep1 h1 => ?_
  obtain ⟨z, ez, h3⟩ := h1.opt
  obtain ⟨ds, eds, ez⟩ := Option.bind_eq_some_iff.mp ez
  exact ho r1.gr.dom (ress_ok r1 rep1 eds) ez fun v Fz' H' gr rv => h3.ok (r1.grow gr) gr.ext rv
theorem tF_blt {r : List V → Hp → VK → Prop} {o : List D → Option (List D)} {fa : FV} (ho : CallTF b.M r o) {σ : L2.St} {H : Hp} {Q : VK} (h : tFr b W (bltFF o fa) σ H Q) : tCB r (tAv b W fa) σ H Q := by
  obtain ⟨Fz, g, r0, h⟩ := h
  refine tG_seq r0 h fun as xs g1 Fz1 H1 r1 e1 rep1 h1 => ?_
  obtain ⟨z, ez, h3⟩ := h1.opt
  obtain ⟨ds, eds, ez⟩ := Option.bind_eq_some_iff.mp ez
  refine ho r1.gr.dom (ress_ok r1 rep1 eds) ez fun p vs hp rep => ?_
  obtain ⟨r2, fr⟩ := fresh_new r1 hp rep
  exact h3.ok r2 (GrowTo.alloc hp).ext fr
section
variable {x : Str} {id T : String} {r : List V → Hp → VK → Prop} {o : List D → Option D} {ol : List D → Option (List D)} {fa : FV}
theorem pd_blt (hc : CallR X (.builtin id) r) (ho : CallT b.M r o) (hg : Gl X x) (hm : X.mg x = none) (hv : bootBuiltins x = some (.builtin id)) (ha : PA X (e :: es) (tAv b W fa)) (hn : x ≠ "__name__" := by decide) (hdb : (x == ("__debug__" : Str)) = false := by decide)
    (he : starEach (e :: es) X.env = (false, eval e X.env) :: starEach es X.env := by rfl) (hpl : (backTo pos (starEach es X.env)).any (·.1) = false := by rfl) : PE X (.Call (.Name x p) (e :: es) [] pos) (tE b W (bltF o fa)) :=
  pe_mono (pe_callB hc hg hm hv ha hn hdb he hpl) fun _ _ _ h => tE_blt ho h
theorem pf_blt (hc : CallR X (.builtin id) r) (ho : CallTF b.M r ol) (hg : Gl X x) (hm : X.mg x = none) (hv : bootBuiltins x = some (.builtin id)) (ha : PA X (e :: es) (tAv b W fa)) (hn : x ≠ "__name__" := by decide) (hdb : (x == ("__debug__" : Str)) = false := by decide)
    (he : starEach (e :: es) X.env = (false, eval e X.env) :: starEach es X.env := by rfl) (hpl : (backTo pos (starEach es X.env)).any (·.1) = false := by rfl) : PE X (.Call (.Name x p) (e :: es) [] pos) (tFr b W (bltFF ol fa)) :=
  pe_mono (pe_callB hc hg hm hv ha hn hdb he hpl) fun _ _ _ h => tF_blt ho h
theorem pd_ty (hc : CallR X (.type T) r) (ho : CallT b.M r o) (hg : Gl X x) (hm : X.mg x = none) (hv : bootBuiltins x = some (.type T)) (ha : PA X (e :: es) (tAv b W fa)) (hn : x ≠ "__name__" := by decide) (hdb : (x == ("__debug__" : Str)) = false := by decide)
    (he : starEach (e :: es) X.env = (false, eval e X.env) :: starEach es X.env := by rfl) (hpl : (backTo pos (starEach es X.env)).any (·.1) = false := by rfl) : PE X (.Call (.Name x p) (e :: es) [] pos) (tE b W (bltF o fa)) :=
  pe_mono (pe_callTy hc hg hm hv ha hn hdb he hpl) fun _ _ _ h => tE_blt ho h
theorem pf_ty (hc : CallR X (.type T) r) (ho : CallTF b.M r ol) (hg : Gl X x) (hm : X.mg x = none) (hv : bootBuiltins x = some (.type T)) (ha : PA X (e :: es) (tAv b W fa)) (hn : x ≠ "__name__" := by decide) (hdb : (x == ("__debug__" : Str)) = false := by decide)
    (he : starEach (e :: es) X.env = (false, eval e X.env) :: starEach es X.env := by rfl) (hpl : (backTo pos (starEach es X.env)).any (·.1) = false := by rfl) : PE X (.Call (.Name x p) (e :: es) [] pos) (tFr b W (bltFF ol fa)) :=
  pe_mono (pe_callTy hc hg hm hv ha hn hdb he hpl) fun _ _ _ h => tF_blt ho h
end

/-! ### which -/
variable {M : MM}
def seqOf : D → Option (List D)
  | .lst ds => some ds
  | .tup ds => some ds
  | _ => none
theorem seq_rep {Fz : Fzn} {H : Hp} {d : D} {x : V} {ds : List D} (r : TRep M Fz H d x) (e : seqOf d = some ds) : ∃ a vs, x = .ref a ∧ (SqL M.K H a vs ∨ SqT M.K H a vs) ∧ RepL M Fz H ds vs := by
  cases d with
  | lst ds' =>
    have e' : ds' = ds := Option.some.inj e
    subst e'
    obtain ⟨a, vs, e, h, rr⟩ := r
    exact ⟨a, vs, e, .inl h, rr⟩
  | tup ds' =>
    have e' : ds' = ds := Option.some.inj e
    subst e'
    obtain ⟨a, vs, e, h, rr⟩ := sqT_rep (M := M) (Fz := Fz) (H := H) r
    exact ⟨a, vs, e, .inr h, rr⟩
  | _ => cases e
theorem trep1 {Fz : Fzn} {H : Hp} {d : D} {xs : List V} (h : TRepL M Fz H [d] xs) : ∃ x, xs = [x] ∧ TRep M Fz H d x := by
  obtain ⟨x, r, rfl, h1, h2⟩ := h
  have h2' : r = [] := h2
  subst h2'
  exact ⟨x, rfl, h1⟩
theorem trep2 {Fz : Fzn} {H : Hp} {d e : D} {xs : List V} (h : TRepL M Fz H [d, e] xs) : ∃ x y, xs = [x, y] ∧ TRep M Fz H d x ∧ TRep M Fz H e y := by
  obtain ⟨x, r, rfl, h1, h2⟩ := h
  have h3 := trep1 h2
  clear h2
  obtain ⟨y, rfl, h2⟩ := h3
  exact ⟨x, y, rfl, h1, h2⟩
/-- the int of a list of ints -/
def intD : D → Option Int
  | .int i => some i
  | _ => none
def boolD : D → Option Bool
  | .bl i => some i
  | _ => none
def intsD : List D → Option (List Int)
  | [] => some []
  | d :: ds => (intD d).bind fun i => (intsD ds).bind fun is => some (i :: is)
def boolsD : List D → Option (List Bool)
  | [] => some []
  | d :: ds => (boolD d).bind fun i => (boolsD ds).bind fun is => some (i :: is)
theorem ints_rep {Fz : Fzn} {H : Hp} : ∀ {ds : List D} {vs : List V} {ns : List Int}, RepL M Fz H ds vs → intsD ds = some ns → vs = ns.map V.int ∧ ds = ns.map D.int
  | [], vs, ns, r, e => by
    have e' : [] = ns := Option.some.inj e
    subst e'
    exact ⟨RepL.nil_iff.mp r, rfl⟩
  | d :: ds, vs, ns, r, e => by
    obtain ⟨v, r', rfl, r1, r2⟩ := RepL.cons_iff.mp r
    obtain ⟨i, ei, e⟩ := Option.bind_eq_some_iff.mp e
    obtain ⟨is, eis, e⟩ := Option.bind_eq_some_iff.mp e
    have e' := Option.some.inj e
    subst e'
    obtain ⟨h1, h2⟩ := ints_rep r2 eis
    cases d with
    | int j =>
      have ej : j = i := Option.some.inj ei
      subst ej
      rw [h1, h2, rep_int' r1]
      exact ⟨rfl, rfl⟩
    | _ => cases ei
theorem bools_rep {Fz : Fzn} {H : Hp} : ∀ {ds : List D} {vs : List V} {ns : List Bool}, RepL M Fz H ds vs → boolsD ds = some ns → vs = ns.map V.bl
  | [], vs, ns, r, e => by
    have e' : [] = ns := Option.some.inj e
    subst e'
    exact RepL.nil_iff.mp r
  | d :: ds, vs, ns, r, e => by
    obtain ⟨v, r', rfl, r1, r2⟩ := RepL.cons_iff.mp r
    obtain ⟨i, ei, e⟩ := Option.bind_eq_some_iff.mp e
    obtain ⟨is, eis, e⟩ := Option.bind_eq_some_iff.mp e
    have e' := Option.some.inj e
    subst e'
    have h1 := bools_rep r2 eis
    cases d with
    | bl j =>
      have ej : j = i := Option.some.inj ei
      subst ej
      rw [h1, rep_bl' r1]
      rfl
    | _ => cases ei
theorem intsD_map (ns : List Int) : intsD (ns.map D.int) = some ns := by
  induction ns with
  | nil => rfl
  | cons n ns ih => simp [intsD, intD, ih]
theorem boolsD_map (ns : List Bool) : boolsD (ns.map D.bl) = some ns := by
  induction ns with
  | nil => rfl
  | cons n ns ih => simp [boolsD, boolD, ih]

/-- len -/
def lenD : List D → Option D
  | [.str x] => if szOk x.length then some (.int x.length) else none
  | [d] => (seqOf d).bind fun ds => some (.int ds.length)
  | _ => none
def rLenA (K : PySem.W.Frag) : List V → Hp → VK → Prop := fun xs H Q => (∃ p ys, xs = [.ref p] ∧ (SqL K H p ys ∨ SqT K H p ys) ∧ Q (.int ys.length) H) ∨ ∃ z : Str, xs = [.str z] ∧ z.length ≤ sizeLine ∧ Q (.int z.length) H
theorem call_lenA : CallR X (.builtin "len") (rLenA X.K) := call_len_seq.or call_len_str
theorem callT_len : CallT M (rLenA M.K) lenD := by
  intro Fz H ds z xs Q dom rx eo k
  unfold lenD at eo
  split at eo
  · split at eo
    · rename_i hz
      injection eo with eo; subst eo
      have rx0 := trep1 rx
      clear rx
      obtain ⟨x, rfl, rx⟩ := rx0
      rw [tstr' rx]
      exact .inr ⟨_, rfl, szOk_le hz, k _ Fz H .refl rep_int⟩
    · cases eo
  · obtain ⟨ds, eds, eo⟩ := Option.bind_eq_some_iff.mp eo
    injection eo with eo; subst eo
    have rx0 := trep1 rx
    clear rx
    obtain ⟨x, rfl, rx⟩ := rx0
    obtain ⟨a, vs, rfl, h, r⟩ := seq_rep rx eds
    rw [r.length] at k
    exact .inl ⟨a, vs, rfl, h, k _ Fz H .refl rep_int⟩
  · cases eo
def absD : List D → Option D
  | [.int i] => some (.int i.natAbs)
  | _ => none
theorem callT_abs : CallT M (fun xs H Q => ∃ i, xs = [.int i] ∧ Q (.int (if i < 0 then -i else i)) H) absD := by
  intro Fz H ds z xs Q dom rx eo k
  unfold absD at eo
  split at eo
  · rename_i i
    injection eo with eo; subst eo
    have rx0 := trep1 rx
    clear rx
    obtain ⟨x, rfl, rx⟩ := rx0
    rw [tint' rx]
    have e : (if i < 0 then -i else i) = (i.natAbs : Int) := by split <;> omega
    exact ⟨_, rfl, by rw [e]; exact k _ Fz H .refl rep_int⟩
  · cases eo
def max2D : List D → Option D
  | [.int i, .int j] => some (.int (max i j))
  | _ => none
def min2D : List D → Option D
  | [.int i, .int j] => some (.int (min i j))
  | _ => none
theorem callT_max2 : CallT M (fun xs H Q => ∃ i j, xs = [.int i, .int j] ∧ Q (.int (if j > i then j else i)) H) max2D := by
  intro Fz H ds z xs Q dom rx eo k
  unfold max2D at eo
  split at eo
  · rename_i i j
    injection eo with eo; subst eo
    have rx0 := trep2 rx
    clear rx
    obtain ⟨x, y, rfl, rx, ry⟩ := rx0
    rw [tint' rx, tint' ry]
    have e : (if j > i then j else i) = max i j := by split <;> omega
    exact ⟨_, _, rfl, by rw [e]; exact k _ Fz H .refl rep_int⟩
  · cases eo
theorem callT_min2 : CallT M (fun xs H Q => ∃ i j, xs = [.int i, .int j] ∧ Q (.int (if j < i then j else i)) H) min2D := by
  intro Fz H ds z xs Q dom rx eo k
  unfold min2D at eo
  split at eo
  · rename_i i j
    injection eo with eo; subst eo
    have rx0 := trep2 rx
    clear rx
    obtain ⟨x, y, rfl, rx, ry⟩ := rx0
    rw [tint' rx, tint' ry]
    have e : (if j < i then j else i) = min i j := by split <;> omega
    exact ⟨_, _, rfl, by rw [e]; exact k _ Fz H .refl rep_int⟩
  · cases eo
/-- sum, min, max of a list of ints -/
def lstI : D → Option (List Int)
  | .lst ds => intsD ds
  | _ => none
def sumD : List D → Option D
  | [d] => (lstI d).bind fun ns => some (.int ns.sum)
  | _ => none
theorem lstI_rep {Fz : Fzn} {H : Hp} {d : D} {x : V} {ns : List Int} (r : TRep M Fz H d x) (e : lstI d = some ns) : ∃ a, x = .ref a ∧ SqL M.K H a (ns.map V.int) := by
  cases d with
  | lst ds =>
    obtain ⟨a, vs, rfl, h, rr⟩ := r
    have e' := (ints_rep rr e).1
    subst e'
    exact ⟨a, rfl, h⟩
  | _ => cases e
theorem callT_sum : CallT M (rSum M.K) sumD := by
  intro Fz H ds z xs Q dom rx eo k
  unfold sumD at eo
  split at eo
  · obtain ⟨ns, e, eo⟩ := Option.bind_eq_some_iff.mp eo
    injection eo with eo; subst eo
    have rx0 := trep1 rx
    clear rx
    obtain ⟨x, rfl, rx⟩ := rx0
    obtain ⟨a, rfl, h⟩ := lstI_rep rx e
    exact ⟨a, ns, rfl, h, k _ Fz H .refl rep_int⟩
  · cases eo
def foldMin : Int → List Int → Int := fun n ns => ns.foldl min n
def foldMax : Int → List Int → Int := fun n ns => ns.foldl max n
def minD : List D → Option D
  | [d] => (lstI d).bind fun ns => match ns with
    | [] => none
    | n :: ns => some (.int (foldMin n ns))
  | _ => none
def maxD : List D → Option D
  | [d] => (lstI d).bind fun ns => match ns with
    | [] => none
    | n :: ns => some (.int (foldMax n ns))
  | _ => none
theorem foldMin_le : ∀ (ns : List Int) (n : Int), foldMin n ns ≤ n ∧ ∀ y ∈ ns, foldMin n ns ≤ y
  | [], n => ⟨Int.le_refl _, fun _ h => nomatch h⟩
  | m :: ns, n => by
    obtain ⟨h1, h2⟩ := foldMin_le ns (min n m)
    unfold foldMin at h1 h2 ⊢
    rw [List.foldl_cons]
    refine ⟨by omega, fun y hy => ?_⟩
    rcases List.mem_cons.mp hy with rfl | hy
    · omega
    · exact h2 y hy
theorem foldMax_le : ∀ (ns : List Int) (n : Int), n ≤ foldMax n ns ∧ ∀ y ∈ ns, y ≤ foldMax n ns
  | [], n => ⟨Int.le_refl _, fun _ h => nomatch h⟩
  | m :: ns, n => by
    obtain ⟨h1, h2⟩ := foldMax_le ns (max n m)
    unfold foldMax at h1 h2 ⊢
    rw [List.foldl_cons]
    refine ⟨by omega, fun y hy => ?_⟩
    rcases List.mem_cons.mp hy with rfl | hy
    · omega
    · exact h2 y hy
theorem foldMin_mem : ∀ (ns : List Int) (n : Int), foldMin n ns ∈ n :: ns
  | [], n => List.mem_singleton.mpr rfl
  | m :: ns, n => by
    have h := foldMin_mem ns (min n m)
    unfold foldMin at h ⊢
    rw [List.foldl_cons]
    rcases List.mem_cons.mp h with h | h
    · rw [h]
      by_cases c : n ≤ m
      · rw [Int.min_eq_left c]; exact List.mem_cons_self
      · rw [Int.min_eq_right (by omega)]; exact List.mem_cons_of_mem _ List.mem_cons_self
    · exact List.mem_cons_of_mem _ (List.mem_cons_of_mem _ h)
theorem foldMax_mem : ∀ (ns : List Int) (n : Int), foldMax n ns ∈ n :: ns
  | [], n => List.mem_singleton.mpr rfl
  | m :: ns, n => by
    have h := foldMax_mem ns (max n m)
    unfold foldMax at h ⊢
    rw [List.foldl_cons]
    rcases List.mem_cons.mp h with h | h
    · rw [h]
      by_cases c : n ≤ m
      · rw [Int.max_eq_right c]; exact List.mem_cons_of_mem _ List.mem_cons_self
      · rw [Int.max_eq_left (by omega)]; exact List.mem_cons_self
    · exact List.mem_cons_of_mem _ (List.mem_cons_of_mem _ h)
theorem callT_min : CallT M (rMin M.K) minD := by
  intro Fz H ds z xs Q dom rx eo k
  unfold minD at eo
  split at eo
  · obtain ⟨ns, e, eo⟩ := Option.bind_eq_some_iff.mp eo
    have rx0 := trep1 rx
    clear rx
    obtain ⟨x, rfl, rx⟩ := rx0
    obtain ⟨a, rfl, h⟩ := lstI_rep rx e
    cases ns with
    | nil => cases eo
    | cons n ns =>
      injection eo with eo; subst eo
      refine ⟨a, _, rfl, h, Nat.succ_pos _, fun m hm hl => ?_⟩
      have h1 := hl _ (foldMin_mem ns n)
      have h2 : foldMin n ns ≤ m := by
        obtain ⟨z1, z2⟩ := foldMin_le ns n
        rcases List.mem_cons.mp hm with rfl | hm
        · exact z1
        · exact z2 m hm
      have h3 : m = foldMin n ns := by omega
      subst h3
      exact k _ Fz H .refl rep_int
  · cases eo
theorem callT_max : CallT M (rMax M.K) maxD := by
  intro Fz H ds z xs Q dom rx eo k
  unfold maxD at eo
  split at eo
  · obtain ⟨ns, e, eo⟩ := Option.bind_eq_some_iff.mp eo
    have rx0 := trep1 rx
    clear rx
    obtain ⟨x, rfl, rx⟩ := rx0
    obtain ⟨a, rfl, h⟩ := lstI_rep rx e
    cases ns with
    | nil => cases eo
    | cons n ns =>
      injection eo with eo; subst eo
      refine ⟨a, _, rfl, h, Nat.succ_pos _, fun m hm hl => ?_⟩
      have h1 := hl _ (foldMax_mem ns n)
      have h2 : m ≤ foldMax n ns := by
        obtain ⟨z1, z2⟩ := foldMax_le ns n
        rcases List.mem_cons.mp hm with rfl | hm
        · exact z1
        · exact z2 m hm
      have h3 : m = foldMax n ns := by omega
      subst h3
      exact k _ Fz H .refl rep_int
  · cases eo
def lstB : D → Option (List Bool)
  | .lst ds => boolsD ds
  | _ => none
theorem lstB_rep {Fz : Fzn} {H : Hp} {d : D} {x : V} {ns : List Bool} (r : TRep M Fz H d x) (e : lstB d = some ns) : ∃ a, x = .ref a ∧ SqL M.K H a (ns.map V.bl) := by
  cases d with
  | lst ds =>
    obtain ⟨a, vs, rfl, h, rr⟩ := r
    have e' := bools_rep rr e
    subst e'
    exact ⟨a, rfl, h⟩
  | _ => cases e
def anyD : List D → Option D
  | [d] => (lstB d).bind fun ns => some (.bl (ns.any id))
  | _ => none
def allD : List D → Option D
  | [d] => (lstB d).bind fun ns => some (.bl (ns.all id))
  | _ => none
theorem callT_any : CallT M (rAny M.K) anyD := by
  intro Fz H ds z xs Q dom rx eo k
  unfold anyD at eo
  split at eo
  · obtain ⟨ns, e, eo⟩ := Option.bind_eq_some_iff.mp eo
    injection eo with eo; subst eo
    have rx0 := trep1 rx
    clear rx
    obtain ⟨x, rfl, rx⟩ := rx0
    obtain ⟨a, rfl, h⟩ := lstB_rep rx e
    exact ⟨a, ns, rfl, h, k _ Fz H .refl rep_bl⟩
  · cases eo
theorem callT_all : CallT M (rAll M.K) allD := by
  intro Fz H ds z xs Q dom rx eo k
  unfold allD at eo
  split at eo
  · obtain ⟨ns, e, eo⟩ := Option.bind_eq_some_iff.mp eo
    injection eo with eo; subst eo
    have rx0 := trep1 rx
    clear rx
    obtain ⟨x, rfl, rx⟩ := rx0
    obtain ⟨a, rfl, h⟩ := lstB_rep rx e
    exact ⟨a, ns, rfl, h, k _ Fz H .refl rep_bl⟩
  · cases eo
/-- int(i), int(bool) -/
def intF : List D → Option D
  | [.int i] => some (.int i)
  | [.bl c] => some (.int (if c then 1 else 0))
  | _ => none
theorem callT_int : CallT M (fun xs H Q => (∃ i, xs = [.int i] ∧ Q (.int i) H) ∨ ∃ k, xs = [.bl k] ∧ Q (.int (if k then 1 else 0)) H) intF := by
  intro Fz H ds z xs Q dom rx eo k
  unfold intF at eo
  split at eo
  · injection eo with eo; subst eo
    have rx0 := trep1 rx
    clear rx
    obtain ⟨x, rfl, rx⟩ := rx0
    rw [tint' rx]
    exact .inl ⟨_, rfl, k _ Fz H .refl rep_int⟩
  · injection eo with eo; subst eo
    have rx0 := trep1 rx
    clear rx
    obtain ⟨x, rfl, rx⟩ := rx0
    rw [tbl' rx]
    exact .inr ⟨_, rfl, k _ Fz H .refl rep_int⟩
  · cases eo
/-- tuple(xs), list(xs) -/
def tupleD : List D → Option D
  | [d] => (seqOf d).bind fun ds => some (.tup ds)
  | _ => none
theorem callT_tuple : CallT M (fun xs H Q => ∃ p ys, xs = [.ref p] ∧ ((SqL M.K H p ys ∧ ∀ l, H l = none → Q (.ref l) (upd H l (.tup ys))) ∨ (SqT M.K H p ys ∧ Q (.ref p) H))) tupleD := by
  intro Fz H ds z xs Q dom rx eo k
  unfold tupleD at eo
  split at eo
  · obtain ⟨ns, e, eo⟩ := Option.bind_eq_some_iff.mp eo
    injection eo with eo; subst eo
    have rx0 := trep1 rx
    clear rx
    obtain ⟨x, rfl, rx⟩ := rx0
    obtain ⟨a, vs, rfl, h, r⟩ := seq_rep rx e
    refine ⟨a, vs, rfl, ?_⟩
    rcases h with h | h
    · exact .inl ⟨h, fun l hl => let ⟨gr, rv⟩ := newT (M := M) hl r; k _ _ _ gr rv⟩
    · exact .inr ⟨h, k _ Fz H .refl (rep_tup h r)⟩
  · cases eo
def listD : List D → Option (List D)
  | [d] => seqOf d
  | _ => none
theorem callTF_list : CallTF M (fun xs H Q => ∃ p ys, xs = [.ref p] ∧ (SqL M.K H p ys ∨ SqT M.K H p ys) ∧ ∀ l, H l = none → Q (.ref l) (upd H l (.lst ys))) listD := by
  intro Fz H ds zs xs Q dom rx eo k
  unfold listD at eo
  split at eo
  · have rx0 := trep1 rx
    clear rx
    obtain ⟨x, rfl, rx⟩ := rx0
    obtain ⟨a, vs, rfl, h, r⟩ := seq_rep rx eo
    exact ⟨a, vs, rfl, h, fun l hl => k l vs hl r⟩
  · cases eo
end
end DL

set_option Elab.async false
set_option linter.all false
set_option maxRecDepth 100000
set_option maxHeartbeats 4000000
/-! Den5: isinstance of built-in types, fields, statements, defs and calls. -/
namespace DL
open PySem L2 PySem.Spec PyProof.Rows

/-! ### isinstance(x, T), T built-in -/
def tyD : D → String
  | .non => "NoneType"
  | .bl _ => "bool"
  | .int _ => "int"
  | .str _ => "str"
  | .tup _ => "tuple"
  | .lst _ => "list"
  | .obj _ _ _ => ""
def isInt : D → Option Bool
  | .bl _ => some true
  | .int _ => some true
  | .obj _ _ _ => none
  | _ => some false
def isBool : D → Option Bool
  | .bl _ => some true
  | .obj _ _ _ => none
  | _ => some false
def isStr : D → Option Bool
  | .str _ => some true
  | .obj _ _ _ => none
  | _ => some false
def isTup : D → Option Bool
  | .tup _ => some true
  | .obj _ _ _ => none
  | _ => some false
def isLst : D → Option Bool
  | .lst _ => some true
  | .obj _ _ _ => none
  | _ => some false
def isLstTup : D → Option Bool
  | .lst _ => some true
  | .tup _ => some true
  | .obj _ _ _ => none
  | _ => some false
def KitB (T : String) (o : D → Option Bool) : Prop := ∀ d r, o d = some r → kitB (tyD d) T = some r ∧ ∀ c ns ds, d ≠ .obj c ns ds
theorem kit_int : KitB "int" isInt := fun d r h => by cases d <;> first | (cases h; refine ⟨?_, fun _ _ _ q => nomatch q⟩; dsimp only [tyD]; decide +kernel) | cases h
theorem kit_bool : KitB "bool" isBool := fun d r h => by cases d <;> first | (cases h; refine ⟨?_, fun _ _ _ q => nomatch q⟩; dsimp only [tyD]; decide +kernel) | cases h
theorem kit_str : KitB "str" isStr := fun d r h => by cases d <;> first | (cases h; refine ⟨?_, fun _ _ _ q => nomatch q⟩; dsimp only [tyD]; decide +kernel) | cases h
theorem kit_tuple : KitB "tuple" isTup := fun d r h => by cases d <;> first | (cases h; refine ⟨?_, fun _ _ _ q => nomatch q⟩; dsimp only [tyD]; decide +kernel) | cases h
theorem kit_list : KitB "list" isLst := fun d r h => by cases d <;> first | (cases h; refine ⟨?_, fun _ _ _ q => nomatch q⟩; dsimp only [tyD]; decide +kernel) | cases h
theorem tyX_rep {M : MM} {Fz : Fzn} {H : Hp} {d : D} {x : V} (r : TRep M Fz H d x) (n : ∀ c ns ds, d ≠ .obj c ns ds) : TyX M.K H x (.type (tyD d)) := by
  cases d with
  | non => rw [tnon' r]; exact .base .non
  | bl c => rw [tbl' r]; exact .base (.bl c)
  | int c => rw [tint' r]; exact .base (.int c)
  | str c => rw [tstr' r]; exact .base (.str c)
  | tup ds =>
    obtain ⟨a, vs, rfl, h, _⟩ := sqT_rep (M := M) (Fz := Fz) (H := H) r
    rcases h with (h | ⟨o, h⟩) | ⟨o, its, n, h, hc, _⟩
    · exact .base (.tup h)
    · exact .fTuple h
    · exact .kTuple h hc
  | lst ds =>
    obtain ⟨a, vs, rfl, h, _⟩ := r
    rcases h with (h | ⟨o, h⟩) | ⟨o, its, n, h, hc, _⟩
    · exact .base (.lst h)
    · exact .base (.frz h)
    · exact .kList h hc
  | obj c ns ds => exact absurd rfl (n c ns ds)
section
variable {X : Cx} {b : B} {W : WX} {e e1 e2 e3 : Expr} {es : List Expr} {f f1 f2 f3 : FE} {pos p p2 p3 p4 : Pos} {M : MM}
def isiF (o : D → Option Bool) (fa : Sg → R AV) : FE := fun g => (fa g).bd fun a g1 => opt ((res g1 a).bind fun d => (o d).bind fun c => some (.bl c)) g1
theorem pd_isi {T : String} {o : D → Option Bool} {fa : Sg → R AV} (hM : b.M = ⟨X.K, X.mg⟩) (ko : KitB T o) (hg : Gl X "isinstance") (hm : X.mg "isinstance" = none) (h1 : PE X e (tA1 b W fa)) (h2 : PE X e2 (tC (.ty T)))
    (hs1 : starEach (e2 :: []) X.env = (false, eval e2 X.env) :: starEach [] X.env := by rfl)
    (he : starEach (e :: [e2]) X.env = (false, eval e X.env) :: starEach [e2] X.env := by rfl) (hpl : (backTo pos (starEach [e2] X.env)).any (·.1) = false := by rfl) : PE X (.Call (.Name "isinstance" p) [e, e2] [] pos) (tE b W (isiF o fa)) :=
  pe_mono (pe_callB call_isi hg hm (by decide +kernel) (pa_cons h1 (pa_cons h2 pa_nil hs1) he) (by decide) (by decide) he hpl) fun σ H Q ⟨Fz, g, r, h⟩ => tG_seq r h fun a x' g1 Fz1 H1 r1 e1 rep1 h1 => by
    obtain ⟨z, ez, h3⟩ := h1.opt
    obtain ⟨d, ed, ez⟩ := Option.bind_eq_some_iff.mp ez
    obtain ⟨c, ec, ez⟩ := Option.bind_eq_some_iff.mp ez
    have ez := Option.some.inj ez
    subst ez
    obtain ⟨k1, k2⟩ := ko d c ec
    have ty := tyX_rep (res_ok r1 rep1 ed) k2
    rw [hM] at ty
    exact ⟨x', .ty T, _, _, c, rfl, .ty T, ty, kit_ty k1, h3.ok r1 .refl rep_bl⟩
theorem pd_isiLT {fa : Sg → R AV} {x1} (hM : b.M = ⟨X.K, X.mg⟩) (hg : Gl X "isinstance") (hm : X.mg "isinstance" = none) (h1 : PE X e (tA1 b W fa)) (h2 : PE X e2 (tC (.ty "list"))) (h3 : PE X e3 (tC (.ty "tuple")))
    (hs2 : starEach (e3 :: []) X.env = (false, eval e3 X.env) :: starEach [] X.env := by rfl) (hs3 : starEach (e2 :: [e3]) X.env = (false, eval e2 X.env) :: starEach [e3] X.env := by rfl)
    (hs1 : starEach ((.Tuple [e2, e3] x1 p2) :: []) X.env = (false, eval (.Tuple [e2, e3] x1 p2) X.env) :: starEach [] X.env := by rfl)
    (he : starEach (e :: [.Tuple [e2, e3] x1 p2]) X.env = (false, eval e X.env) :: starEach [.Tuple [e2, e3] x1 p2] X.env := by rfl) (hpl : (backTo pos (starEach [.Tuple [e2, e3] x1 p2] X.env)).any (·.1) = false := by rfl) :
    PE X (.Call (.Name "isinstance" p) [e, .Tuple [e2, e3] x1 p2] [] pos) (tE b W (isiF isLstTup fa)) :=
  pe_mono (pe_callB call_isiT hg hm (by decide +kernel) (pa_cons h1 (pa_cons (pe_tup (pa_cons h2 (pa_cons h3 pa_nil hs2) hs3)) pa_nil hs1) he) (by decide) (by decide) he hpl) fun σ H Q ⟨Fz, g, r, h⟩ => tG_seq r h fun a x' g1 Fz1 H1 r1 e1 rep1 h1 => by
    refine ⟨by show 2 ≤ sizeLine; decide, fun tp htp => ?_⟩
    obtain ⟨z, ez, h3⟩ := h1.opt
    obtain ⟨d, ed, ez⟩ := Option.bind_eq_some_iff.mp ez
    obtain ⟨c, ec, ez⟩ := Option.bind_eq_some_iff.mp ez
    have ez := Option.some.inj ez
    subst ez
    have gr : GrowTo Fz1 H1 Fz1 (upd H1 tp (.tup [.ty "list", .ty "tuple"])) := .alloc htp
    have k2 : ∀ c ns ds, d ≠ .obj c ns ds := fun _ _ _ q => by subst q; cases ec
    have ty0 := tyX_rep (res_ok r1 rep1 ed) k2
    have tup : ∀ {d : D} {x : V}, TRep b.M Fz1 H1 d x → TRep b.M Fz1 (upd H1 tp (.tup [.ty "list", .ty "tuple"])) d x := fun {d x} t => by
      cases d with
      | lst ds =>
        obtain ⟨a, vs, e, h, rr⟩ := t
        refine ⟨a, vs, e, ?_, rr.grow gr⟩
        rcases h with (h | ⟨o, h⟩) | h
        · exact .inl (.inl (gr.st _ _ h))
        · exact .inl (.inr ⟨o, gr.st _ _ h⟩)
        · exact .inr h
      | _ => exact Rep.grow gr t
    have ty := tyX_rep (tup (res_ok r1 rep1 ed)) k2
    rw [hM] at ty
    refine ⟨x', tp, [.ty "list", .ty "tuple"], _, [.type "list", .type "tuple"], c, rfl, upd_same, .cons (.ty _) (.cons (.ty _) .nil), ty, ?_, h3.ok (r1.grow gr) gr.ext rep_bl⟩
    cases d with
    | lst ds =>
      cases ec
      exact kitAny_cons (kit_ty (b := "list") (r := true) (by show kitB "list" "list" = _; decide +kernel)) (fun q => nomatch q) fun _ => rfl
    | tup ds =>
      cases ec
      exact kitAny_cons (kit_ty (b := "list") (r := false) (by show kitB "tuple" "list" = _; decide +kernel)) (fun _ => kitAny_cons (kit_ty (b := "tuple") (r := true) (by show kitB "tuple" "tuple" = _; decide +kernel)) (fun q => nomatch q) fun _ => rfl) fun q => nomatch q
    | obj c ns ds => cases ec
    | non =>
      cases ec
      exact kitAny_cons (kit_ty (b := "list") (r := false) (by show kitB "NoneType" "list" = _; decide +kernel)) (fun _ => kitAny_cons (kit_ty (b := "tuple") (r := false) (by show kitB "NoneType" "tuple" = _; decide +kernel)) (fun _ => kitAny_nil) fun q => nomatch q) fun q => nomatch q
    | bl k =>
      cases ec
      exact kitAny_cons (kit_ty (b := "list") (r := false) (by show kitB "bool" "list" = _; decide +kernel)) (fun _ => kitAny_cons (kit_ty (b := "tuple") (r := false) (by show kitB "bool" "tuple" = _; decide +kernel)) (fun _ => kitAny_nil) fun q => nomatch q) fun q => nomatch q
    | int k =>
      cases ec
      exact kitAny_cons (kit_ty (b := "list") (r := false) (by show kitB "int" "list" = _; decide +kernel)) (fun _ => kitAny_cons (kit_ty (b := "tuple") (r := false) (by show kitB "int" "tuple" = _; decide +kernel)) (fun _ => kitAny_nil) fun q => nomatch q) fun q => nomatch q
    | str k =>
      cases ec
      exact kitAny_cons (kit_ty (b := "list") (r := false) (by show kitB "str" "list" = _; decide +kernel)) (fun _ => kitAny_cons (kit_ty (b := "tuple") (r := false) (by show kitB "str" "tuple" = _; decide +kernel)) (fun _ => kitAny_nil) fun q => nomatch q) fun q => nomatch q

/-! ### fields of instances -/
def fldD (c0 : Str) (ns0 : List Str) (i : Nat) : D → Option D
  | .obj c ns ds => if c = c0 ∧ ns = ns0 then ds[i]? else none
  | _ => none
theorem lookup_zip : ∀ (ns : List Str) (vs : List V) (f : Str) (i : Nat), ns.findIdx? (· == f) = some i → ns.length = vs.length → (ns.zip vs).lookup f = vs[i]?
  | [], _, f, i, h, _ => by simp at h
  | n :: ns, [], f, i, h, hl => by simp at hl
  | n :: ns, v :: vs, f, i, h, hl => by
    rw [List.findIdx?_cons] at h
    rw [List.zip_cons_cons]
    by_cases c : (n == f) = true
    · rw [if_pos c] at h
      have hi : 0 = i := Option.some.inj h
      subst hi
      have c' : (f == n) = true := by
        have := beq_iff_eq.mp c
        subst this
        simp
      simp [List.lookup, c']
    · rw [if_neg c] at h
      obtain ⟨j, hj, e⟩ := Option.map_eq_some_iff.mp h
      subst e
      have c' : (f == n) = false := by
        rw [beq_eq_false_iff_ne]
        intro q
        subst q
        simp at c
      simp only [List.lookup, c']
      rw [lookup_zip ns vs f j hj (by simpa using hl)]
      simp
structure FldC (M : MM) (c0 : Str) (f : Str) : Prop where
  ok : ∀ C, M.mg c0 = some (.ref C) → Cls M.K C ∧ NoAttr M.K C f
theorem pd_fld {c0 f0 : Str} {ns0 : List Str} {i : Nat} (hM : b.M = ⟨X.K, X.mg⟩) (hc : FldC ⟨X.K, X.mg⟩ c0 f0) (hi : ns0.findIdx? (· == f0) = some i) (h1 : PE X e (tE b W f)) (hb : attributeBase e f0 X.env (eval e X.env) = eval e X.env := by rfl) : PE X (.Attribute e f0 pos) (tE b W (op1F (fldD c0 ns0 i) f)) :=
  pe_mono (pe_fld h1 hb) fun σ H Q ⟨Fz, g, r, h⟩ => tG_seq r h fun d x g1 Fz1 H1 r1 e1 rep1 h1 => by
    obtain ⟨z, ez, h3⟩ := h1.opt
    unfold fldD at ez
    split at ez
    · rename_i c ns ds
      split at ez
      · rename_i hcn
        obtain ⟨rfl, rfl⟩ := hcn
        have rep' : Rep b.M Fz1 H1 (.obj c ns ds) x := rep1
        unfold Rep at rep'
        obtain ⟨a, C, dx, vs, rfl, hmg, hf, hH, hl, rr⟩ := rep'
        obtain ⟨v, hv, rv⟩ := rr.get ez
        rw [hM] at hmg
        obtain ⟨k1, k2⟩ := hc.ok C hmg
        exact ⟨a, C, dx, _, v, rfl, hH, k1, k2, (lookup_zip ns vs f0 i hi hl).trans hv, h3.ok r1 .refl rv⟩
      · cases ez
    · cases ez
end

/-! ### statements -/
section
variable {X : Cx} {b : B} {W : WX} {e e1 e2 : Expr} {f : FE} {pos p : Pos} {st : Stmt} {sts : List Stmt} {s1 s2 : FS}
def RS.bd (r : RS) (k : Sg → RS) : RS := match r with
  | .nx g => k g
  | r => r
@[simp] theorem RS.bd_nx {g : Sg} {k : Sg → RS} : (RS.nx g).bd k = k g := rfl
@[simp] theorem RS.bd_rt {d : D} {g : Sg} {k : Sg → RS} : (RS.rt d g).bd k = .rt d g := rfl
@[simp] theorem RS.bd_rf {d : List D} {g : Sg} {k : Sg → RS} : (RS.rf d g).bd k = .rf d g := rfl
@[simp] theorem RS.bd_bk {g : Sg} {k : Sg → RS} : (RS.bk g).bd k = .bk g := rfl
@[simp] theorem RS.bd_ct {g : Sg} {k : Sg → RS} : (RS.ct g).bd k = .ct g := rfl
@[simp] theorem RS.bd_ex {e : Exn} {g : Sg} {k : Sg → RS} : (RS.ex e g).bd k = .ex e g := rfl
@[simp] theorem RS.bd_no {k : Sg → RS} : RS.no.bd k = .no := rfl
def skipS : FS := fun g => .nx g
def seqS (s1 s2 : FS) : FS := fun g => (s1 g).bd s2
theorem Go.refl {as : List Nat} {σ : L2.St} {Fz : Fzn} {H : Hp} : Go as σ Fz H σ Fz H := ⟨.refl, fun _ _ => rfl⟩
theorem Go.trans {as as2 : List Nat} {σ σ1 σ2 : L2.St} {Fz Fz1 Fz2 : Fzn} {H H1 H2 : Hp} (a : Go as σ Fz H σ1 Fz1 H1) (c : Go as2 σ1 Fz1 H1 σ2 Fz2 H2) : Go (as ++ as2) σ Fz H σ2 Fz2 H2 :=
  ⟨a.ex.trans c.ex, fun i h => (c.sl i fun z => h (List.mem_append_right _ z)).trans (a.sl i fun z => h (List.mem_append_left _ z))⟩
theorem Go.sub {as as2 : List Nat} {σ σ1 : L2.St} {Fz Fz1 : Fzn} {H H1 : Hp} (a : Go as σ Fz H σ1 Fz1 H1) (h : ∀ i ∈ as, i ∈ as2) : Go as2 σ Fz H σ1 Fz1 H1 := ⟨a.ex, fun i z => a.sl i fun q => z (h i q)⟩
theorem PoS.sub {as as2 : List Nat} {σ : L2.St} {Fz : Fzn} {H : Hp} {D : Ends} {r : RS} (h : PoS b W as2 σ Fz H D r) (s : ∀ i ∈ as, i ∈ as2) : PoS b W as σ Fz H D r := by
  cases r with
  | nx g => exact fun σ' H' Fz' r' go => h σ' H' Fz' r' (go.sub s)
  | bk g => exact fun σ' H' Fz' r' go => h σ' H' Fz' r' (go.sub s)
  | ct g => exact fun σ' H' Fz' r' go => h σ' H' Fz' r' (go.sub s)
  | rt d g => exact h
  | rf d g => exact h
  | ex d g => exact fun σ' cl dx H' Fz' r' go ok => h σ' cl dx H' Fz' r' (go.sub s) ok
  | no => exact h
theorem PoS.weak {as as2 : List Nat} {σ σ1 : L2.St} {Fz Fz1 : Fzn} {H H1 : Hp} {D : Ends} {r : RS} (h : PoS b W (as ++ as2) σ Fz H D r) (go : Go as σ Fz H σ1 Fz1 H1) : PoS b W as2 σ1 Fz1 H1 D r := by
  cases r with
  | nx g => exact fun σ' H' Fz' r' go' => h σ' H' Fz' r' (go.trans go')
  | bk g => exact fun σ' H' Fz' r' go' => h σ' H' Fz' r' (go.trans go')
  | ct g => exact fun σ' H' Fz' r' go' => h σ' H' Fz' r' (go.trans go')
  | rt d g => exact h
  | rf d g => exact h
  | ex d g => exact fun σ' cl dx H' Fz' r' go' ok => h σ' cl dx H' Fz' r' (go.trans go') ok
  | no => exact h
theorem PoS.weakE {as : List Nat} {σ : L2.St} {Fz Fz1 : Fzn} {H H1 : Hp} {D : Ends} {r : RS} (h : PoS b W as σ Fz H D r) (e : Ext Fz H Fz1 H1) : PoS b W as σ Fz1 H1 D r :=
  PoS.weak (as := []) (by rw [List.nil_append]; exact h) ⟨e, fun _ _ => rfl⟩
theorem pts_nil' : PSs X [] (tSt b W [] skipS) := pss_mono pss_nil fun D σ H ⟨Fz, g, r, h⟩ => h σ H Fz r .refl
theorem pts_cons {a1 a2 : List Nat} (h1 : PS X st (tSt b W a1 s1)) (h2 : PSs X sts (tSt b W a2 s2)) : PSs X (st :: sts) (tSt b W (a1 ++ a2) (seqS s1 s2)) := pss_mono (pss_cons h1 h2) fun D σ H ⟨Fz, g, r, h⟩ => by
  refine ⟨Fz, g, r, ?_⟩
  unfold seqS at h
  cases q : s1 g with
  | nx g' => rw [q] at h; exact fun σ' H' Fz' r' go => ⟨Fz', g', r', PoS.weak h go⟩
  | rt d g' => rw [q] at h; exact h
  | rf d g' => rw [q] at h; exact h
  | bk g' => rw [q] at h; exact fun σ' H' Fz' r' go => h σ' H' Fz' r' (go.sub fun i z => List.mem_append_left _ z)
  | ct g' => rw [q] at h; exact fun σ' H' Fz' r' go => h σ' H' Fz' r' (go.sub fun i z => List.mem_append_left _ z)
  | ex d g' => rw [q] at h; exact fun σ' cl dx H' Fz' r' go ok => h σ' cl dx H' Fz' r' (go.sub fun i z => List.mem_append_left _ z) ok
  | no => rw [q] at h; exact h
theorem pts_one' {a1 : List Nat} (h1 : PS X st (tSt b W a1 s1)) : PSs X [st] (tSt b W a1 s1) := pss_one h1
/-- an expression, then a statement's way on -/
def R.sb {α : Type} (r : R α) (k : α → Sg → RS) : RS := match r with
  | .ok d g => k d g
  | .ex e g => .ex e g
  | .no => .no
@[simp] theorem R.sb_ok {α : Type} {d : α} {g : Sg} {k : α → Sg → RS} : (R.ok d g).sb k = k d g := rfl
@[simp] theorem R.sb_ex {α : Type} {e : Exn} {g : Sg} {k : α → Sg → RS} : (R.ex e g : R α).sb k = .ex e g := rfl
@[simp] theorem R.sb_no {α : Type} {k : α → Sg → RS} : (R.no : R α).sb k = .no := rfl
theorem tG_st {as : List Nat} {α ξ : Type} {P : Bear α ξ} {f : Sg → R α} {σ : L2.St} {Fz : Fzn} {H : Hp} {g : Sg} {D : Ends} {Q : ξ → Hp → Prop} {k : α → Sg → RS} (r : BRel b Fz g σ H) (h : PoS b W as σ Fz H D ((f g).sb k))
    (hk : ∀ d x g1 Fz1 H1, BRel b Fz1 g1 σ H1 → Ext Fz H Fz1 H1 → P σ Fz1 H1 g1 d x → PoS b W as σ Fz1 H1 D (k d g1) → Q x H1) : tG b W P f σ H Q := by
  refine ⟨Fz, g, r, ?_⟩
  cases q : f g with
  | ok d g' => rw [q] at h; exact fun x H' Fz' r' e' rep => hk d x g' Fz' H' r' e' rep (PoS.weakE h e')
  | ex e g' => rw [q] at h; exact fun cl dx H' Fz' r' ex' ok => h σ cl dx H' Fz' r' ⟨ex', fun _ _ => rfl⟩ ok
  | no => rw [q] at h; exact h
/-- e as a statement -/
def exprS (f : FE) : FS := fun g => (f g).sb fun _ g1 => .nx g1
theorem pts_expr (he : PE X e (tE b W f)) (hs : swapsWith e none pos.line X.env = pure false := by rfl) : PS X (.Expr e pos) (tSt b W [] (exprS f)) := ps_mono (ps_expr he hs) fun D σ H ⟨Fz, g, r, h⟩ =>
  tG_st r h fun d x g1 Fz1 H1 r1 _ _ h1 => h1 σ H1 Fz1 r1 .refl
theorem pts_doc {x j p'} : PS X (.Expr (.Constant (.str x) j p) p') (tSt b W [] skipS) := ps_mono ps_doc fun D σ H ⟨Fz, g, r, h⟩ => h σ H Fz r .refl
theorem pts_pass : PS X (.Pass pos) (tSt b W [] skipS) := ps_mono ps_pass fun D σ H ⟨Fz, g, r, h⟩ => h σ H Fz r .refl
def brkS : FS := fun g => .bk g
def cntS : FS := fun g => .ct g
theorem pts_break : PS X (.Break pos) (tSt b W [] brkS) := ps_mono ps_break fun D σ H ⟨Fz, g, r, h⟩ => h σ H Fz r .refl
theorem pts_continue : PS X (.Continue pos) (tSt b W [] cntS) := ps_mono ps_continue fun D σ H ⟨Fz, g, r, h⟩ => h σ H Fz r .refl
def retS (f : FE) : FS := fun g => (f g).sb fun d g1 => .rt d g1
theorem pts_ret (he : PE X e (tE b W f)) : PS X (.Return (some e) pos) (tSt b W [] (retS f)) := ps_mono (ps_ret he) fun D σ H ⟨Fz, g, r, h⟩ =>
  tG_st r h fun d x g1 Fz1 H1 r1 _ rep h1 => h1 x σ H1 Fz1 r1 rep
def retN : FS := fun g => .rt .non g
theorem pts_retN : PS X (.Return none pos) (tSt b W [] retN) := ps_mono ps_retN fun D σ H ⟨Fz, g, r, h⟩ => h .non σ H Fz r rep_non
/-- a new list is returned -/
def retF (f : FF) : FS := fun g => (f g).sb fun d g1 => .rf d g1
theorem pts_retF {f : FF} (he : PE X e (tFr b W f)) : PS X (.Return (some e) pos) (tSt b W [] (retF f)) := ps_mono (ps_ret he) fun D σ H ⟨Fz, g, r, h⟩ =>
  tG_st r h fun d x g1 Fz1 H1 r1 _ rep h1 => h1 x σ H1 Fz1 r1 rep
/-- the own list of slot i goes out -/
def takeF (i : Nat) : FF := fun g => match gat g i with
  | .ow ds => .ok ds (g.set i .un)
  | _ => .no
theorem pf_take {i : Nat} (h : PE X e (tVar i)) (hnp : b.np ≤ i) : PE X e (tFr b W (takeF i)) := pe_mono h fun σ H Q ⟨Fz, g, r, q⟩ => by
  unfold takeF at q
  cases hg : gat g i with
  | ow ds =>
    rw [hg] at q
    have hgi := gat_get hg (by intro z; cases z)
    obtain ⟨a, u, e1, nf, hu, vs, eu, rep⟩ := r.slot hgi
    subst eu
    have ow : Own g σ i a := ⟨⟨_, hgi, rfl⟩, e1⟩
    have h0 : b.H0 a = none := by
      rcases r.own i a ow with ⟨z, _⟩ | ⟨_, z⟩
      · omega
      · exact z
    refine ⟨.ref a, e1, q (.ref a) H Fz (r.forget i) .refl ⟨a, vs, rfl, h0, nf, hu, fun j z => ?_, rep⟩⟩
    obtain ⟨⟨t, et, w⟩, zz⟩ := z
    rcases gset_get et with ⟨_, e2⟩ | ⟨hj, e2⟩
    · subst e2; cases w
    · exact hj (r.rel.apart j i a ⟨⟨t, e2, w⟩, zz⟩ ow)
  | _ => rw [hg] at q; exact q.elim
def ifS (c : FB) (s1 s2 : FS) : FS := fun g => (c g).sb fun v g1 => if v = true then s1 g1 else s2 g1
theorem pts_if {a1 a2 : List Nat} {a c : List Stmt} {fb : FB} (hc : PT X e (tBo b W fb)) (ha : PSs X a (tSt b W a1 s1)) (hb : PSs X c (tSt b W a2 s2)) : PS X (.If e a c pos) (tSt b W (a1 ++ a2) (ifS fb s1 s2)) := ps_mono (ps_if hc ha hb) fun D σ H ⟨Fz, g, r, h⟩ => by
  refine tG_st r h fun d x g1 Fz1 H1 r1 _ rep h1 => ?_
  have rep' : x = d := rep
  subst rep'
  cases x with
  | true => exact ⟨Fz1, g1, r1, PoS.sub h1 fun i z => List.mem_append_left _ z⟩
  | false => exact ⟨Fz1, g1, r1, PoS.sub h1 fun i z => List.mem_append_right _ z⟩

/-! ### assignments -/
theorem Go.set {σ : L2.St} {Fz : Fzn} {H : Hp} {i : Nat} {v : Option V} : Go [i] σ Fz H (σ.set i v) Fz H := ⟨.refl, fun j h => List.getElem?_set_ne fun z => h (by simp [z])⟩
/-- slot i gets data; a parameter that holds an own list is not overwritten -/
def asgS (i : Nat) (f : FE) : FS := fun g => (f g).sb fun d g1 => .nx (g1.set i (.v d))
theorem pts_asg {i : Nat} {x : Str} {p' : Pos} (hN : X.N.Nodup) (hi : X.N[i]? = some x) (hx : Loc X.env.scope x) (he : PE X e (tE b W f)) (hs : swapsWith e (some (.Name x p')) pos.line X.env = pure false := by rfl)
    (hf : X.fn x = true ∨ X.env.scope.names.lookup x = some .local := by first | exact .inl rfl | exact .inr rfl | assumption) (hpx : PxOk b i) : PS X (.Assign [.Name x p'] e pos) (tSt b W [i] (asgS i f)) := ps_mono (ps_set hN hi hx he hs hf) fun D σ H ⟨Fz, g, r, h⟩ =>
  tG_st r h fun d x' g1 Fz1 H1 r1 _ rep h1 => h1 _ H1 Fz1 (r1.setV hpx rep) .set
/-- slot i (no parameter) gets a new own list -/
def asgO (i : Nat) (f : FF) : FS := fun g => (f g).sb fun d g1 => .nx (g1.set i (.ow d))
theorem pts_asgO {i : Nat} {x : Str} {p' : Pos} {f : FF} (hnp : b.np ≤ i) (hN : X.N.Nodup) (hi : X.N[i]? = some x) (hx : Loc X.env.scope x) (he : PE X e (tFr b W f)) (hs : swapsWith e (some (.Name x p')) pos.line X.env = pure false := by rfl)
    (hf : X.fn x = true ∨ X.env.scope.names.lookup x = some .local := by first | exact .inl rfl | exact .inr rfl | assumption) (hpx : PxOk b i) : PS X (.Assign [.Name x p'] e pos) (tSt b W [i] (asgO i f)) := ps_mono (ps_set hN hi hx he hs hf) fun D σ H ⟨Fz, g, r, h⟩ => by
  refine tG_st r h fun d x' g1 Fz1 H1 r1 _ rep h1 => ?_
  obtain ⟨p, vs, rfl, h0, nf, hu, ho, rr⟩ := rep
  exact h1 _ H1 Fz1 (r1.setO hpx hnp h0 nf hu ho ⟨vs, rfl, rr⟩) .set
end
end DL

set_option Elab.async false
set_option linter.all false
set_option maxRecDepth 100000
set_option maxHeartbeats 4000000
/-! Den6: what a def promises; calls. -/
namespace DL
open PySem L2 PySem.Spec PyProof.Rows

/-- behind a call -/
structure PostC (M : MM) (Fz : Fzn) (H : Hp) (vs : List V) (as : Sg) (Fz' : Fzn) (H' : Hp) (as' : Sg) : Prop where
  dom : ∀ a, Fz' a → ∃ o, H' a = some o
  fz : ∀ a, Fz a → Fz' a
  new : ∀ a, Fz' a → Fz a ∨ H a = none
  fr : ∀ a o, H a = some o → (¬ ∃ i, Own as (vs.map some) i a) → H' a = some o
  len : as'.length = as.length
  out : ∀ i a, Own as (vs.map some) i a → ∃ s u, as'[i]? = some s ∧ ¬ Fz' a ∧ H' a = some u ∧ OwnAt M Fz' H' s u

def spD (M : MM) (n : Nat) (dn : Dn) : Sp := fun vs H Q E => vs.length = n ∧ ∃ Fz as, (∀ a, Fz a → ∃ o, H a = some o) ∧ ARel M Fz H as (vs.map some) ∧ match dn as with
  | .ok d as' => ∀ x H' Fz', PostC M Fz H vs as Fz' H' as' → Rep M Fz' H' d x → Q x H'
  | .okf ds as' => ∀ p ws H' Fz', PostC M Fz H vs as Fz' H' as' → H p = none → ¬ Fz' p → H' p = some (.lst ws) → RepL M Fz' H' ds ws → Q (.ref p) H'
  | .ex e as' => ∀ cl dx H' Fz', PostC M Fz H vs as Fz' H' as' → ExOk M Fz' H' e cl dx → E cl dx H'
  | .no => False

/-! ### a def from its body -/
/-- the own arguments are own still -/
def okOut : Sg → Sg → Bool
  | [], _ => true
  | s :: as, t :: g => (!s.isOw || t.isOw) && okOut as g
  | _ :: _, [] => false
theorem okOut_le : ∀ {as g : Sg}, okOut as g = true → as.length ≤ g.length
  | [], _, _ => Nat.zero_le _
  | _ :: as, _ :: g, h => by
    unfold okOut at h
    rw [Bool.and_eq_true] at h
    exact Nat.succ_le_succ (okOut_le h.2)
  | _ :: _, [], h => by cases h
theorem okOut_get : ∀ {as g : Sg} {i : Nat} {s : S}, okOut as g = true → as[i]? = some s → s.isOw = true → ∃ t, g[i]? = some t ∧ t.isOw = true
  | [], _, i, s, _, e, _ => by simp at e
  | x :: as, t :: g, 0, s, h, e, w => by
    have e' : x = s := by simpa using e
    subst e'
    unfold okOut at h
    rw [w] at h
    simp at h
    exact ⟨t, rfl, h.1⟩
  | x :: as, t :: g, i + 1, s, h, e, w => by
    unfold okOut at h
    rw [Bool.and_eq_true] at h
    obtain ⟨t', h1, h2⟩ := okOut_get (i := i) h.2 (by simpa using e) w
    exact ⟨t', by simpa using h1, h2⟩
  | x :: as, [], i, s, h, e, w => by cases h
def endC (as : Sg) (r : RS) : RC := match r with
  | .nx g => if okOut as g = true then .ok .non (g.take as.length) else .no
  | .rt d g => if okOut as g = true then .ok d (g.take as.length) else .no
  | .rf ds g => if okOut as g = true then .okf ds (g.take as.length) else .no
  | .ex e g => if okOut as g = true then .ex e (g.take as.length) else .no
  | _ => .no
/-- a def of N slots -/
def defF (N : Nat) (body : FS) : Dn := fun as => endC as (body (as ++ List.replicate (N - as.length) .un))

section
variable {P : Program} {w : World} {K : PySem.W.Frag} {mg : Str → Option Value} {base : Heap}
theorem start_rel {M : MM} {N : List Str} {vs : List V} {as : Sg} {Fz : Fzn} {H : Hp} (hl : vs.length ≤ N.length) (dom : ∀ a, Fz a → ∃ o, H a = some o) (rel : ARel M Fz H as (vs.map some)) :
    BRel ⟨M, H, Fz, fun a => ∃ i, Own as (vs.map some) i a, vs.length, vs.map some, none⟩ Fz (as ++ List.replicate (N.length - as.length) .un) (L2.start N vs) H := by
  have len : as.length = vs.length := by rw [rel.len, List.length_map]
  have ow : ∀ {i a}, Own (as ++ List.replicate (N.length - as.length) .un) (L2.start N vs) i a → i < vs.length ∧ Own as (vs.map some) i a := fun {i a} h => by
    obtain ⟨⟨s, e, wo⟩, q⟩ := h
    by_cases hi : i < as.length
    · rw [List.getElem?_append_left hi] at e
      refine ⟨by omega, ⟨s, e, wo⟩, ?_⟩
      unfold L2.start at q
      rw [List.getElem?_append_left (by rw [List.length_map]; omega)] at q
      exact q
    · rw [List.getElem?_append_right (by omega)] at e
      have z := List.mem_replicate.mp (List.mem_of_getElem? e)
      rw [z.2] at wo
      cases wo
  refine ⟨⟨dom, fun _ h => h, fun _ h => .inl h, fun a o h _ => h, fun a h => ?_⟩, ⟨?_, fun i s e => ?_, fun i j a p q => rel.apart i j a (ow p).2 (ow q).2⟩, fun i a h => .inl ⟨(ow h).1, i, (ow h).2⟩, fun i a _ h => (ow h).2.2, fun _ _ h => nomatch h⟩
  · obtain ⟨i, h⟩ := h
    obtain ⟨⟨s, e, wo⟩, q⟩ := h
    obtain ⟨a', u, e1, n, h1, _⟩ := (rel.ok i s e).own wo
    rw [q] at e1
    injection e1 with e1
    injection e1 with e1
    injection e1 with e1
    subst e1
    exact ⟨⟨u, h1⟩, n, u, h1⟩
  · unfold L2.start
    rw [List.length_append, List.length_append, List.length_map, List.length_replicate, List.length_replicate, len]
  · by_cases hi : i < as.length
    · rw [List.getElem?_append_left hi] at e
      have z := rel.ok i s e
      unfold L2.start
      rw [List.getElem?_append_left (by rw [List.length_map]; omega)]
      exact z
    · rw [List.getElem?_append_right (by omega)] at e
      have z := List.mem_replicate.mp (List.mem_of_getElem? e)
      rw [z.2]
      trivial
theorem end_post {M : MM} {vs : List V} {as g : Sg} {Fz Fz' : Fzn} {H H' : Hp} {σ : L2.St} (rel : ARel M Fz H as (vs.map some)) (ok : okOut as g = true)
    (r : BRel ⟨M, H, Fz, fun a => ∃ i, Own as (vs.map some) i a, vs.length, vs.map some, none⟩ Fz' g σ H') : PostC M Fz H vs as Fz' H' (g.take as.length) where
  dom := r.gr.dom
  fz := r.gr.fz
  new := r.gr.new
  fr := r.gr.fr
  len := by rw [List.length_take, Nat.min_eq_left (okOut_le ok)]
  out := fun i a h => by
    obtain ⟨⟨s, e, wo⟩, q⟩ := h
    have hi : i < as.length := (List.getElem?_eq_some_iff.mp e).1
    have len : as.length = vs.length := by rw [rel.len, List.length_map]
    obtain ⟨t, et, wt⟩ := okOut_get ok e wo
    obtain ⟨a', u, e1, n, h1, w1⟩ := (r.slot et).own wt
    have ow : Own g σ i a' := ⟨⟨t, et, wt⟩, e1⟩
    have pin : (vs.map some)[i]? = some (some (V.ref a')) := r.pin i a' (by show i < vs.length; omega) ow
    have z : some (some (V.ref a')) = some (some (V.ref a)) := pin.symm.trans q
    injection z with z
    injection z with z
    injection z with z
    subst z
    exact ⟨t, u, by rw [List.getElem?_take_of_lt hi]; exact et, n, h1, w1⟩
/-- THE RULE for a def -/
theorem ok_def {x qual : Str} {st : Stmt} {f : Addr} {fd : FuncData} {N ps : List Str} {k n : Nat} {al : List Nat} {body : FS} {dvs : List V} (hn : n = ps.length) (hN : ps.length ≤ N.length) (F : FunD K x qual (defArgs st) (defBody st) (defScope st) dvs [] f fd) (S : FnScope N ps (defScope st))
    (hbody : ∀ (cdv : Value) (A : Around) (outer : List Env) (s : Shared) (H : Hp) (E : XK) (b : B), Room k (A.deeper (envOfC qual (defScope st) s.heap.objs.size f cdv)) → b.M = ⟨K, mg⟩ → b.np = n → b.px = none →
      PSs (cxOf (L2.CX P w) P w K mg base N qual (defScope st) f cdv A outer s H E) (defBody st) (tSt b (fun cls d _ H => E cls d H) al body)) : FnOk P w K mg base (L2.CX P w) (k + 1) f fd ps (spD ⟨K, mg⟩ n (defF N.length body)) := by
  subst hn
  refine F.ok (CX := L2.CX P w) S (fun vs H Q E h => h.1) (fun cdv A outer s H vs Q E hr h => ?_)
  obtain ⟨hl, Fz, as, dom, rel, h⟩ := h
  refine ⟨_, hbody cdv A outer s H E ⟨⟨K, mg⟩, H, Fz, fun a => ∃ i, Own as (vs.map some) i a, vs.length, vs.map some, none⟩ hr rfl hl rfl, ?_⟩
  refine ⟨Fz, as ++ List.replicate (N.length - as.length) .un, start_rel (by omega) dom rel, ?_⟩
  unfold defF at h
  cases q : body (as ++ List.replicate (N.length - as.length) .un) with
  | nx g =>
    rw [q] at h
    unfold endC at h
    dsimp only at h
    by_cases c : okOut as g = true
    · rw [if_pos c] at h
      exact fun σ' H' Fz' r' _ => h .non H' Fz' (end_post rel c r') rep_non
    · rw [if_neg c] at h; exact h.elim
  | rt d g =>
    rw [q] at h
    unfold endC at h
    dsimp only at h
    by_cases c : okOut as g = true
    · rw [if_pos c] at h
      exact fun x σ' H' Fz' r' rep => h x H' Fz' (end_post rel c r') rep
    · rw [if_neg c] at h; exact h.elim
  | rf d g =>
    rw [q] at h
    unfold endC at h
    dsimp only at h
    by_cases c : okOut as g = true
    · rw [if_pos c] at h
      intro x σ' H' Fz' r' rep
      obtain ⟨p, ws, rfl, h0, nf, hu, ho, rr⟩ := rep
      exact h p ws H' Fz' (end_post rel c r') h0 nf hu rr
    · rw [if_neg c] at h; exact h.elim
  | ex d g =>
    rw [q] at h
    unfold endC at h
    dsimp only at h
    by_cases c : okOut as g = true
    · rw [if_pos c] at h
      exact fun σ' cl dx H' Fz' r' _ rep => h cl dx H' Fz' (end_post rel c r') rep
    · rw [if_neg c] at h; exact h.elim
  | bk g => rw [q] at h; exact h.elim
  | ct g => rw [q] at h; exact h.elim
  | no => rw [q] at h; exact h.elim
end

/-! ### calls -/
def toS (g : Sg) : AV → S
  | .d d => .v d
  | .o i => gat g i
def ownIx : List AV → List Nat
  | [] => []
  | .d _ :: as => ownIx as
  | .o i :: as => i :: ownIx as
/-- the own arguments as the call left them -/
def merge : Sg → List AV → Sg → Sg
  | g, .d _ :: as, _ :: ss => merge g as ss
  | g, .o i :: as, s :: ss => merge (g.set i s) as ss
  | g, _, _ => g
def nodupB : List Nat → Bool
  | [] => true
  | i :: is => !is.contains i && nodupB is
def callR (n : Nat) (dn : Dn) (as : List AV) (g : Sg) : R D := if as.length = n ∧ nodupB (ownIx as) = true then match dn (as.map (toS g)) with
    | .ok d ss => .ok d (merge g as ss)
    | .okf ds ss => .ok (.lst ds) (merge g as ss)
    | .ex e ss => .ex e (merge g as ss)
    | .no => .no
  else .no
def callRF (n : Nat) (dn : Dn) (as : List AV) (g : Sg) : R (List D) := if as.length = n ∧ nodupB (ownIx as) = true then match dn (as.map (toS g)) with
    | .okf ds ss => .ok ds (merge g as ss)
    | .ex e ss => .ex e (merge g as ss)
    | _ => .no
  else .no
/-- f(..); ds: the defaults that fill up -/
def callF (n : Nat) (dn : Dn) (dfs : List D) (fa : FV) : FE := fun g => (fa g).bd fun as g1 => callR n dn (as ++ dfs.map AV.d) g1
def callFF (n : Nat) (dn : Dn) (dfs : List D) (fa : FV) : FF := fun g => (fa g).bd fun as g1 => callRF n dn (as ++ dfs.map AV.d) g1

theorem merge_length : ∀ (as : List AV) (g ss : Sg), (merge g as ss).length = g.length
  | [], g, ss => by unfold merge; rfl
  | .d _ :: as, g, [] => by unfold merge; rfl
  | .o _ :: as, g, [] => by unfold merge; rfl
  | .d _ :: as, g, _ :: ss => by unfold merge; exact merge_length as g ss
  | .o i :: as, g, s :: ss => by unfold merge; rw [merge_length as, List.length_set]
theorem merge_out : ∀ (as : List AV) (g ss : Sg) (j : Nat), j ∉ ownIx as → (merge g as ss)[j]? = g[j]?
  | [], g, ss, j, _ => by unfold merge; rfl
  | .d _ :: as, g, [], j, _ => by unfold merge; rfl
  | .o _ :: as, g, [], j, _ => by unfold merge; rfl
  | .d _ :: as, g, _ :: ss, j, h => by unfold merge; exact merge_out as g ss j h
  | .o i :: as, g, s :: ss, j, h => by
    unfold ownIx at h
    unfold merge
    rw [merge_out as (g.set i s) ss j (fun q => h (List.mem_cons_of_mem _ q)), List.getElem?_set_ne (fun q => h (by rw [q]; exact List.mem_cons_self))]
theorem merge_in : ∀ (as : List AV) (g ss : Sg) (j : Nat), nodupB (ownIx as) = true → ss.length = as.length → j < g.length → j ∈ ownIx as → ∃ k : Nat, as[k]? = some (AV.o j) ∧ (merge g as ss)[j]? = ss[k]?
  | [], g, ss, j, _, _, _, h => by simp [ownIx] at h
  | .d _ :: as, g, [], j, _, hl, _, h => by simp at hl
  | .o _ :: as, g, [], j, _, hl, _, h => by simp at hl
  | .d _ :: as, g, s :: ss, j, nd, hl, hj, h => by
    unfold merge
    obtain ⟨k, h1, h2⟩ := merge_in as g ss j nd (by simpa using hl) hj h
    exact ⟨k + 1, by simpa using h1, by simpa using h2⟩
  | .o i :: as, g, s :: ss, j, nd, hl, hj, h => by
    unfold ownIx at nd h
    unfold nodupB at nd
    rw [Bool.and_eq_true] at nd
    unfold merge
    by_cases hm : j ∈ ownIx as
    · obtain ⟨k, h1, h2⟩ := merge_in as (g.set i s) ss j nd.2 (by simpa using hl) (by rw [List.length_set]; exact hj) hm
      exact ⟨k + 1, by simpa using h1, by simpa using h2⟩
    · rcases List.mem_cons.mp h with e | e
      · subst e
        refine ⟨0, rfl, ?_⟩
        rw [merge_out as _ ss j hm, List.getElem?_set_self hj]
        rfl
      · exact absurd e hm
theorem avs_get {b : B} {σ : L2.St} {Fz : Fzn} {H : Hp} {g : Sg} : ∀ {as : List AV} {xs : List V} {k : Nat} {a : AV}, AVsOk b σ Fz H g as xs → as[k]? = some a → ∃ x, xs[k]? = some x ∧ AVOk b σ Fz H g a x
  | [], _, _, _, _, e => by simp at e
  | c :: as, xs, k, a, h, e => by
    obtain ⟨x, r, rfl, h1, h2⟩ := h
    cases k with
    | zero =>
      have e' : c = a := by simpa using e
      subst e'
      exact ⟨x, rfl, h1⟩
    | succ k => exact avs_get (k := k) h2 (by simpa using e)
theorem avs_len {b : B} {σ : L2.St} {Fz : Fzn} {H : Hp} {g : Sg} : ∀ {as : List AV} {xs : List V}, AVsOk b σ Fz H g as xs → as.length = xs.length
  | [], xs, h => by
    have h' : xs = [] := h
    subst h'; rfl
  | c :: as, xs, h => by
    obtain ⟨x, r, rfl, h1, h2⟩ := h
    simp [avs_len h2]
theorem mem_ownIx : ∀ {as : List AV} {j : Nat}, j ∈ ownIx as ↔ AV.o j ∈ as
  | [], j => by simp [ownIx]
  | .d d :: as, j => by simp [ownIx, mem_ownIx (as := as)]
  | .o i :: as, j => by simp [ownIx, mem_ownIx (as := as)]
theorem nodup_ix2 : ∀ {as : List AV} {j k l : Nat}, nodupB (ownIx as) = true → as[k]? = some (.o j) → as[l]? = some (.o j) → k = l
  | [], _, _, _, _, h, _ => by simp at h
  | .d d :: as, j, k, l, nd, h1, h2 => by
    cases k with
    | zero => simp at h1
    | succ k =>
      cases l with
      | zero => simp at h2
      | succ l => rw [nodup_ix2 (as := as) (k := k) (l := l) nd (by simpa using h1) (by simpa using h2)]
  | .o i :: as, j, k, l, nd, h1, h2 => by
    unfold ownIx nodupB at nd
    rw [Bool.and_eq_true] at nd
    have nm : i ∉ ownIx as := by simpa using nd.1
    cases k with
    | zero =>
      have e : i = j := by simpa using h1
      subst e
      cases l with
      | zero => rfl
      | succ l => exact absurd (mem_ownIx.mpr (List.mem_of_getElem? (by simpa using h2))) nm
    | succ k =>
      cases l with
      | zero =>
        have e : i = j := by simpa using h2
        subst e
        exact absurd (mem_ownIx.mpr (List.mem_of_getElem? (by simpa using h1))) nm
      | succ l => rw [nodup_ix2 (as := as) (k := k) (l := l) nd.2 (by simpa using h1) (by simpa using h2)]
section
variable {b : B} {σ : L2.St} {Fz Fz' : Fzn} {H H' : Hp} {g : Sg} {as : List AV} {xs : List V}
theorem toS_own {i : Nat} {a : Addr} (r : BRel b Fz g σ H) (av : AVsOk b σ Fz H g as xs) (h : Own (as.map (toS g)) (xs.map some) i a) : ∃ j, as[i]? = some (.o j) ∧ Own g σ j a := by
  obtain ⟨⟨s, e, wo⟩, q⟩ := h
  rw [List.getElem?_map] at e q
  cases ea : as[i]? with
  | none => rw [ea] at e; cases e
  | some c =>
    rw [ea] at e
    have e' : toS g c = s := Option.some.inj e
    subst e'
    obtain ⟨x, ex, ox⟩ := avs_get av ea
    rw [ex] at q
    have q' : x = V.ref a := by
      injection q with q
      injection q
    subst q'
    cases c with
    | d d => cases wo
    | o j =>
      obtain ⟨a', e1, ow⟩ := ox
      injection e1 with e1
      subst e1
      exact ⟨j, rfl, ow⟩
/-- the arguments as the callee takes them -/
theorem args_rel (r : BRel b Fz g σ H) (av : AVsOk b σ Fz H g as xs) (nd : nodupB (ownIx as) = true) : ARel b.M Fz H (as.map (toS g)) (xs.map some) where
  len := by rw [List.length_map, List.length_map, avs_len av]
  ok := fun i s e => by
    rw [List.getElem?_map] at e
    cases ea : as[i]? with
    | none => rw [ea] at e; cases e
    | some c =>
      rw [ea] at e
      have e' : toS g c = s := Option.some.inj e
      subst e'
      obtain ⟨x, ex, ox⟩ := avs_get av ea
      rw [List.getElem?_map, ex]
      cases c with
      | d d => exact ⟨x, rfl, ox⟩
      | o j =>
        obtain ⟨a', e1, ow⟩ := ox
        subst e1
        obtain ⟨⟨t, et, wt⟩, q⟩ := ow
        obtain ⟨a2, u, e2, n, h1, w1⟩ := (r.slot et).own wt
        rw [q] at e2
        injection e2 with e2
        injection e2 with e2
        injection e2 with e2
        subst e2
        have ht : toS g (.o j) = t := get_gat et
        rw [ht]
        exact SlotOk.of_own rfl n h1 w1
  apart := fun i j a p q => by
    obtain ⟨k, e1, o1⟩ := toS_own r av p
    obtain ⟨l, e2, o2⟩ := toS_own r av q
    have e3 := r.rel.apart k l a o1 o2
    subst e3
    exact nodup_ix2 nd e1 e2
/-- the state behind the call -/
theorem after_call {ss : Sg} (r : BRel b Fz g σ H) (av : AVsOk b σ Fz H g as xs) (nd : nodupB (ownIx as) = true) (po : PostC b.M Fz H xs (as.map (toS g)) Fz' H' ss) :
    BRel b Fz' (merge g as ss) σ H' ∧ Ext Fz H Fz' H' := by
  -- an own slot that is not handed on is not the callee's
  have notArg : ∀ {j a}, Own g σ j a → j ∉ ownIx as → ¬ ∃ i, Own (as.map (toS g)) (xs.map some) i a := fun {j a} o h ⟨i, q⟩ => by
    obtain ⟨k, e1, o1⟩ := toS_own r av q
    have e3 := r.rel.apart k j a o1 o
    subst e3
    exact h (mem_ownIx.mpr (List.mem_of_getElem? e1))
  have isArg : ∀ {i a}, Own (as.map (toS g)) (xs.map some) i a → ∃ j, Own g σ j a := fun {i a} q => by
    obtain ⟨k, e1, o1⟩ := toS_own r av q
    exact ⟨k, o1⟩
  have ex : Ext Fz H Fz' H' := ⟨po.fz, fun a o h q => po.fr a o h fun ⟨i, z⟩ => by
    obtain ⟨j, ow⟩ := isArg z
    obtain ⟨s, u, _, nf, hu, w⟩ := r.there ow
    rcases q with q | q
    · exact nf q
    · rw [hu] at h; cases h; exact q w.mut⟩
  have argAt : ∀ {j a} (k : Nat), Own g σ j a → as[k]? = some (AV.o j) → Own (as.map (toS g)) (xs.map some) k a := fun {j a} k o e => by
    obtain ⟨⟨t, et, wt⟩, q⟩ := o
    obtain ⟨x, ex, ox⟩ := avs_get av e
    obtain ⟨a2, e2, ow2⟩ := ox
    subst e2
    have z : σ[j]? = some (some (V.ref a2)) := ow2.2
    rw [q] at z
    injection z with z
    injection z with z
    injection z with z
    subst z
    exact ⟨⟨t, by rw [List.getElem?_map, e]; exact congrArg some (get_gat et), wt⟩, by rw [List.getElem?_map, ex]; rfl⟩
  -- own slots afterwards are own slots before
  have back : ∀ {j a}, Own (merge g as ss) σ j a → Own g σ j a := fun {j a} o => by
    obtain ⟨⟨t, et, wt⟩, q⟩ := o
    by_cases hm : j ∈ ownIx as
    · obtain ⟨k, e⟩ := List.getElem?_of_mem (mem_ownIx.mp hm)
      obtain ⟨x, ex, ox⟩ := avs_get av e
      obtain ⟨a2, _, ow2⟩ := ox
      exact ⟨ow2.1, q⟩
    · rw [merge_out as g ss j hm] at et
      exact ⟨⟨t, et, wt⟩, q⟩
  refine ⟨⟨⟨po.dom, fun a h => po.fz a (r.gr.fz a h), fun a h => ?_, fun a o h n => ?_, fun a h => ?_⟩, ⟨by rw [merge_length]; exact r.rel.len, fun j t et => ?_, fun i j a p q => r.rel.apart i j a (back p) (back q)⟩, fun i a h => r.own i a (back h), fun i a hi h => r.pin i a hi (back h), r.px⟩, ex⟩
  · rcases po.new a h with z | z
    · exact r.gr.new a z
    · exact .inr (r.new0 z)
  · refine po.fr a o (r.gr.fr a o h n) fun ⟨i, z⟩ => ?_
    obtain ⟨j, ow⟩ := isArg z
    rcases r.own j a ow with ⟨_, y⟩ | ⟨_, y⟩
    · exact n y
    · rw [h] at y; cases y
  · obtain ⟨⟨o, z⟩, y⟩ := r.gr.oa a h
    refine ⟨?_, y⟩
    by_cases c : ∃ i, Own (as.map (toS g)) (xs.map some) i a
    · obtain ⟨i, c⟩ := c
      obtain ⟨s, u, _, _, hu, _⟩ := po.out i a c
      exact ⟨u, hu⟩
    · exact ⟨o, po.fr a o z c⟩
  · have hj : j < g.length := by
      have := (List.getElem?_eq_some_iff.mp et).1
      rw [merge_length] at this
      exact this
    by_cases hm : j ∈ ownIx as
    · obtain ⟨k, e1, e2⟩ := merge_in as g ss j nd (by rw [po.len, List.length_map]) hj hm
      obtain ⟨x, ex, ox⟩ := avs_get av e1
      obtain ⟨a2, _, ow2⟩ := ox
      obtain ⟨s, u, es, n, hu, w⟩ := po.out k a2 (argAt k ow2 e1)
      rw [e2, es] at et
      have et' := Option.some.inj et
      subst et'
      exact SlotOk.of_own ow2.2 n hu w
    · rw [merge_out as g ss j hm] at et
      have z := r.slot et
      by_cases ht : t.isOw = true
      · obtain ⟨x, o, e3, n3, h3, w3⟩ := z.own ht
        refine SlotOk.of_own e3 (fun y => ?_) (po.fr x o h3 (notArg ⟨⟨t, et, ht⟩, e3⟩ hm)) (w3.mono ex)
        rcases po.new x y with y | y
        · exact n3 y
        · rw [h3] at y; cases y
      · cases t with
        | un => trivial
        | v d => obtain ⟨x, e3, r3⟩ := z; exact ⟨x, e3, Rep.mono ex d x r3⟩
        | _ => exact absurd rfl ht
end
section
variable {X : Cx} {b : B} {W : WX} {k n : Nat} {f : Addr} {fd : FuncData} {ps : List Str} {dn : Dn} {x : Str} {p pos : Pos} {e : Expr} {es : List Expr} {fa : FV} {dvs : List V} {ds : List Value} {dfs : List D}
theorem avs_app {σ : L2.St} {Fz : Fzn} {H : Hp} {g : Sg} : ∀ {as : List AV} {xs : List V}, AVsOk b σ Fz H g as xs → RepL b.M Fz H dfs dvs → AVsOk b σ Fz H g (as ++ dfs.map AV.d) (xs ++ dvs)
  | [], xs, h, r => by
    have h' : xs = [] := h
    subst h'
    rw [List.nil_append, List.nil_append]
    clear h
    induction dfs generalizing dvs with
    | nil => exact RepL.nil_iff.mp r
    | cons d dfs ih =>
      obtain ⟨v, r', rfl, r1, r2⟩ := RepL.cons_iff.mp r
      exact ⟨v, r', rfl, r1, ih r2⟩
  | a :: as, xs, h, r => by
    obtain ⟨x, r', rfl, h1, h2⟩ := h
    exact ⟨x, r' ++ dvs, rfl, h1, avs_app h2 r⟩
theorem callR_ok {σ : L2.St} {H1 : Hp} {Fz1 : Fzn} {g1 : Sg} {as2 : List AV} {xs2 : List V} {Q : VK} (r1 : BRel b Fz1 g1 σ H1) (av2 : AVsOk b σ Fz1 H1 g1 as2 xs2) (h1 : Po b W (bE b) σ Fz1 H1 (fun x _ _ H' _ => Q x H') (callR n dn as2 g1)) : spD b.M n dn xs2 H1 Q (WE W σ) := by
  unfold callR at h1
  by_cases c : as2.length = n ∧ nodupB (ownIx as2) = true
  · rw [if_pos c] at h1
    refine ⟨by rw [← avs_len av2]; exact c.1, Fz1, as2.map (toS g1), r1.gr.dom, args_rel r1 av2 c.2, ?_⟩
    cases q : dn (as2.map (toS g1)) with
    | ok d ss =>
      rw [q] at h1
      intro x' H' Fz' po rep
      obtain ⟨r2, e2⟩ := after_call r1 av2 c.2 po
      exact h1.ok r2 e2 rep
    | okf zs ss =>
      rw [q] at h1
      intro p' ws H' Fz' po hp nf hu rr
      obtain ⟨r2, e2⟩ := after_call r1 av2 c.2 po
      have fr : bF b σ Fz' H' (merge g1 as2 ss) zs (.ref p') := by
        refine ⟨p', ws, rfl, r1.new0 hp, nf, hu, fun i o => ?_, rr⟩
        obtain ⟨s, u, es, n1, hu1, w1⟩ := r2.there o
        by_cases c2 : ∃ u1, H1 p' = some u1
        · obtain ⟨u1, hu2⟩ := c2
          rw [hp] at hu2; cases hu2
        · obtain ⟨⟨t, et, wt⟩, oq⟩ := o
          by_cases hm : i ∈ ownIx as2
          · obtain ⟨k', e⟩ := List.getElem?_of_mem (mem_ownIx.mp hm)
            obtain ⟨x1, ex1, ox1⟩ := avs_get av2 e
            obtain ⟨a2, _, ow2⟩ := ox1
            have z : σ[i]? = some (some (V.ref a2)) := ow2.2
            rw [oq] at z
            injection z with z
            injection z with z
            injection z with z
            subst z
            obtain ⟨s3, u3, _, _, hu3, _⟩ := r1.there ow2
            exact c2 ⟨u3, hu3⟩
          · rw [merge_out _ g1 ss i hm] at et
            obtain ⟨s3, u3, _, _, hu3, _⟩ := r1.there ⟨⟨t, et, wt⟩, oq⟩
            exact c2 ⟨u3, hu3⟩
      obtain ⟨Fz3, r3, e3, rv⟩ := fresh_rep r2 fr
      exact h1.ok r3 (e2.trans e3) rv
    | ex ee ss =>
      rw [q] at h1
      intro cl dx H' Fz' po ok
      obtain ⟨r2, e2⟩ := after_call r1 av2 c.2 po
      exact h1 cl dx H' Fz' r2 e2 ok
    | no => rw [q] at h1; exact h1
  · rw [if_neg c] at h1
    exact h1.elim
theorem tE_call (hd : ∀ Fz H, RepL b.M Fz H dfs dvs) {σ : L2.St} {H : Hp} {Q : VK} (h : tE b W (callF n dn dfs fa) σ H Q) : tCallSD (spD b.M n dn) dvs (fun σ => WE W σ) (tAv b W fa) σ H Q := by
  obtain ⟨Fz, g, r, h⟩ := h
  exact tG_seq r h fun as xs g1 Fz1 H1 r1 e1 av h1 => callR_ok r1 (avs_app (dfs := dfs) av (hd Fz1 H1)) h1
theorem callRF_ok {σ : L2.St} {H1 : Hp} {Fz1 : Fzn} {g1 : Sg} {as2 : List AV} {xs2 : List V} {Q : VK} (r1 : BRel b Fz1 g1 σ H1) (av2 : AVsOk b σ Fz1 H1 g1 as2 xs2) (h1 : Po b W (bF b) σ Fz1 H1 (fun x _ _ H' _ => Q x H') (callRF n dn as2 g1)) : spD b.M n dn xs2 H1 Q (WE W σ) := by
  unfold callRF at h1
  by_cases c : as2.length = n ∧ nodupB (ownIx as2) = true
  · rw [if_pos c] at h1
    refine ⟨by rw [← avs_len av2]; exact c.1, Fz1, as2.map (toS g1), r1.gr.dom, args_rel r1 av2 c.2, ?_⟩
    cases q : dn (as2.map (toS g1)) with
    | ok d ss => rw [q] at h1; exact h1.elim
    | okf zs ss =>
      rw [q] at h1
      intro p' ws H' Fz' po hp nf hu rr
      obtain ⟨r2, e2⟩ := after_call r1 av2 c.2 po
      have fr : bF b σ Fz' H' (merge g1 as2 ss) zs (.ref p') := by
        refine ⟨p', ws, rfl, r1.new0 hp, nf, hu, fun i o => ?_, rr⟩
        obtain ⟨⟨t, et, wt⟩, oq⟩ := o
        by_cases hm : i ∈ ownIx as2
        · obtain ⟨k', e⟩ := List.getElem?_of_mem (mem_ownIx.mp hm)
          obtain ⟨x1, ex1, ox1⟩ := avs_get av2 e
          obtain ⟨a2, _, ow2⟩ := ox1
          have z : σ[i]? = some (some (V.ref a2)) := ow2.2
          rw [oq] at z
          injection z with z
          injection z with z
          injection z with z
          subst z
          obtain ⟨s3, u3, _, _, hu3, _⟩ := r1.there ow2
          rw [hp] at hu3; cases hu3
        · rw [merge_out _ g1 ss i hm] at et
          obtain ⟨s3, u3, _, _, hu3, _⟩ := r1.there ⟨⟨t, et, wt⟩, oq⟩
          rw [hp] at hu3; cases hu3
      exact h1.ok r2 e2 fr
    | ex ee ss =>
      rw [q] at h1
      intro cl dx H' Fz' po ok
      obtain ⟨r2, e2⟩ := after_call r1 av2 c.2 po
      exact h1 cl dx H' Fz' r2 e2 ok
    | no => rw [q] at h1; exact h1
  · rw [if_neg c] at h1
    exact h1.elim
theorem tF_call (hd : ∀ Fz H, RepL b.M Fz H dfs dvs) {σ : L2.St} {H : Hp} {Q : VK} (h : tFr b W (callFF n dn dfs fa) σ H Q) : tCallSD (spD b.M n dn) dvs (fun σ => WE W σ) (tAv b W fa) σ H Q := by
  obtain ⟨Fz, g, r, h⟩ := h
  exact tG_seq r h fun as xs g1 Fz1 H1 r1 e1 av h1 => callRF_ok r1 (avs_app (dfs := dfs) av (hd Fz1 H1)) h1
theorem pd_call (hM : b.M = ⟨X.K, X.mg⟩) (tk : Takes X W) (F : FnOk X.prog X.w X.K X.mg X.base (L2.CX X.prog X.w) k f fd ps (spD ⟨X.K, X.mg⟩ n dn)) (hr : Room k X.A) (hg : Gl X x) (hm : X.mg x = some (.ref f)) (hk : PySem.W.keepIn X.K (.ref f) = true)
    (hb : Binds X.K fd ps ds) (hd : Vals dvs ds) (hdf : ∀ M Fz H, RepL M Fz H dfs dvs) (ha : PA X (e :: es) (tAv b W fa)) (hdb : (x == ("__debug__" : Str)) = false := by decide)
    (he : starEach (e :: es) X.env = (false, eval e X.env) :: starEach es X.env := by rfl) (hpl : (backTo pos (starEach es X.env)).any (·.1) = false := by rfl) : PE X (.Call (.Name x p) (e :: es) [] pos) (tE b W (callF n dn dfs fa)) :=
  pe_mono (pe_callSD F hr hg hm hk hb hd (fun σ => passAt tk σ) ha hdb he hpl) fun σ H Q h => by
    have z := tE_call (hdf b.M) h
    rw [hM] at z
    exact z
theorem pf_call (hM : b.M = ⟨X.K, X.mg⟩) (tk : Takes X W) (F : FnOk X.prog X.w X.K X.mg X.base (L2.CX X.prog X.w) k f fd ps (spD ⟨X.K, X.mg⟩ n dn)) (hr : Room k X.A) (hg : Gl X x) (hm : X.mg x = some (.ref f)) (hk : PySem.W.keepIn X.K (.ref f) = true)
    (hb : Binds X.K fd ps ds) (hd : Vals dvs ds) (hdf : ∀ M Fz H, RepL M Fz H dfs dvs) (ha : PA X (e :: es) (tAv b W fa)) (hdb : (x == ("__debug__" : Str)) = false := by decide)
    (he : starEach (e :: es) X.env = (false, eval e X.env) :: starEach es X.env := by rfl) (hpl : (backTo pos (starEach es X.env)).any (·.1) = false := by rfl) : PE X (.Call (.Name x p) (e :: es) [] pos) (tFr b W (callFF n dn dfs fa)) :=
  pe_mono (pe_callSD F hr hg hm hk hb hd (fun σ => passAt tk σ) ha hdb he hpl) fun σ H Q h => by
    have z := tF_call (hdf b.M) h
    rw [hM] at z
    exact z
end
end DL

set_option Elab.async false
set_option linter.all false
set_option maxRecDepth 100000
set_option maxHeartbeats 4000000
/-! DenI: enumerate of a list or a tuple, zip of two or three of them, for HandS's loops. -/
namespace PySem
open AutoSeq1 (wpAny_loadPart')
set_option maxHeartbeats 1000000 in
theorem meets_enumerate_newB1 {v : Value} {o : Obj} {H : Heap → Prop} (B : Begins v o H) :
    Meets (Builtin.«enumerate.__new__» ⟨[.type "enumerate", v], []⟩) (fun _ R s => H s.heap ∧
      R (.ok (.ret (.ref (s.heap.push o).objs.size))) { s with heap := (s.heap.push o).push { cls := .type "enumerate", data := .fields #[.none, .bool false, .ref s.heap.objs.size, rawInt 0, .none, .none] } }) :=
  .of_wp fun prog w A R s h => by
    obtain ⟨hp, g, d, tk, os⟩ := s; obtain ⟨h1, h⟩ := h
    have hsub := sub_enumerate
    have q1 : ∀ {A' : Around} {E : Value → Shared → Prop} {Q : Value → Shared → Prop}, Q (.ref hp.objs.size) ⟨hp.push o, g, d, tk, os⟩ → wpAny (model prog w) A' (pyIter v) Q E ⟨hp, g, d, tk, os⟩ :=
      fun q => B.iter prog w _ _ ⟨hp, g, d, tk, os⟩ _ h1 q
    wp_walk using q1
    refine wpAny_stack_any fun st => wpAny_pure ?_
    split
    · rename_i c _ _ _ _ _
      cases (c == Value.type "enumerate")
      · wp_walk using q1
        exact ⟨_, rfl, h⟩
      · wp_walk using q1
        exact ⟨_, rfl, h⟩
    · wp_walk using q1
      exact ⟨_, rfl, h⟩
section
variable {prog : Program} {w : World} {A : Around} {E : Value → Shared → Prop} {s : Shared}
theorem enum_begins1 {v : Value} {o : Obj} {H : Heap → Prop} {Q : Value → Shared → Prop} (B : Begins v o H) (h1 : H s.heap)
    (h : ∀ h', IsEnum h' (s.heap.objs.size + 1) s.heap.objs.size 0 .none → h'.get? s.heap.objs.size = some o → h'.objs.size = s.heap.objs.size + 2 →
      (∀ b o, s.heap.get? b = some o → h'.get? b = some o) → Q (.ref (s.heap.objs.size + 1)) { s with heap := h' }) :
    wpAny (model prog w) A (call (.type "enumerate") [v]) Q E s := by
  refine callType_new F.called_enumerate (by decide) (F.typeCall_enumerate_1 _) (F.newCall_enumerate_1 _) (fun obj => F.args_object_init_2 obj _) F.entry_enumerate_new
    (meets_enumerate_newB1 B) ⟨h1, ?_⟩
  have hz : (s.heap.push o).objs.size = s.heap.objs.size + 1 := Heap.size_push ..
  show _ ∧ _
  rw [hz]
  have he : IsEnum ((s.heap.push o).push { cls := .type "enumerate", data := .fields #[.none, .bool false, .ref s.heap.objs.size, rawInt 0, .none, .none] }) (s.heap.objs.size + 1) s.heap.objs.size 0 .none := by
    have := Heap.get?_push_size (s.heap.push o) (o := { cls := .type "enumerate", data := .fields #[.none, .bool false, .ref s.heap.objs.size, rawInt 0, .none, .none] }) rfl
    rw [hz] at this; exact this
  refine ⟨⟨_, he, rfl⟩, h _ he (Heap.get?_push_of_some _ (Heap.get?_push_size _ B.free)) (by rw [Heap.size_push, hz]) fun b o x => Heap.get?_push_of_some _ (Heap.get?_push_of_some _ x)⟩
end
end PySem

namespace DL
open PySem L2 PySem.Spec PyProof.Rows

/-- n turns, the i-th yields a new tuple f i -/
def ItT (Src : Hp → Nat → (Nat → List V) → Prop) : It :=
  ⟨fun i H => ∃ n f, Src H n f ∧ i < n, fun i H x H' => ∃ T vs, x = .ref T ∧ H T = none ∧ H' = upd H T (.tup vs) ∧ ∀ n f, Src H n f → i < n → vs = f i, fun i H => ∃ n f, Src H n f ∧ i = n⟩
theorem turn_walk {P : Program} {w : World} {K : PySem.W.Frag} {elts : List Expr} {kk : Nat} {tpos : Pos} {z : Addr} {fp : List Addr} {tn : Nat → Heap → Prop} {Src : Hp → Nat → (Nat → List V) → Prop}
    (mem : z ∈ fp) (obj : ∀ i h, tn i h → ∀ b ∈ fp, ∃ o, h.get? b = some o ∧ ∀ v, o.data ≠ .cell v) (keep : ∀ i h h', tn i h → (∀ b ∈ fp, ∀ o, h.get? b = some o → h'.get? b = some o) → tn i h')
    (det : ∀ (X : Cx) (pins : List (Addr × Obj)) (s : Shared) (σ : L2.St) (H : Hp) (n m : Nat) (f g : Nat → List V), X.K = K → Inv X pins σ H s → Src H n f → Src H m g → n = m ∧ ∀ i, i < n → f i = g i)
    (wk : ∀ (X : Cx) (pins : List (Addr × Obj)) (s : Shared) (σ : L2.St) (H : Hp) (n : Nat) (f : Nat → List V) (i : Nat), X.prog = P → X.w = w → X.K = K → X.A.handled = none → Inv X pins σ H s → Src H n f → (∀ b ∈ fp, FpOk X pins H b) → tn i s.heap →
      ∃ fpW wr Pt St Mid, WalksT P w X.A z fpW wr n Pt St Mid ∧ St i s.heap ∧ (∀ i vals, i < n → Pt i vals → Vals (f i) vals.toList ∧ (f i).length ≤ sizeLine) ∧ (∀ b ∈ wr, b ∈ fp) ∧ ∀ i h, St i h → tn i h)
    (self : ∀ (A : Around) (i : Nat) (s : Shared) (Q : Value → Shared → Prop) (E : Value → Shared → Prop), tn i s.heap → Q (.ref z) s → wpAny (model P w) A (pyIter (.ref z)) Q E s) :
    Turn P w K (.Tuple elts kk tpos) (ItT Src) fp z tn where
  mem := mem
  obj := obj
  keep := keep
  item := by
    intro X hP hw hK hc i pins s σ H E I hf st hg
    obtain ⟨n, f, hs, hi⟩ := hg
    obtain ⟨fpW, wr, Pt, St, Mid, W, st2, hPt, hwr, back⟩ := wk X pins s σ H n f i hP hw hK (I.ok.hd hc) I hs hf st
    refine W.item i s _ _ hi st2 fun T vals h' tk hp hT hTup mid hk => ?_
    refine ⟨.ref T, rfl, W.go elts kk tpos i T { s with heap := h', toks := tk } _ E mid fun h'' st3 hk2 => ?_⟩
    obtain ⟨rv, hz⟩ := hPt i vals hi hp
    have hT2 : h''.IsTuple T vals := by
      obtain ⟨o, ho, r⟩ := hTup
      exact ⟨o, hk2 T o (W.apart i T h' mid) ho, r⟩
    have new : ObjOk X.prog X.w (upd H T (.tup (f i))) h'' T (.tup (f i)) := ⟨hz, vals.toList, rv, by
      have e : vals.toList.toArray = vals := by simp
      rw [e]
      exact hT2⟩
    have I1 : Inv X pins σ (upd H T (.tup (f i))) { s with heap := h'', toks := tk } :=
      I.turnedNew (ch := wr) (fun b ob hb q => hk2 b ob hb (hk b ob hb q)) (fun b hb => hf b (hwr b hb)) hT new
    refine ⟨.ref T, _, I1, rfl, ⟨T, f i, rfl, I.hok.fresh hT, rfl, fun m g hs2 hm => (det X pins s σ H n m f g hK I hs hs2).2 i hi⟩, back _ _ st3, fun b hb => ?_⟩
    obtain ⟨o, ho, _⟩ := obj i s.heap st b hb
    rw [upd_ne (Nat.ne_of_lt (Nat.lt_of_lt_of_le (Heap.lt_size ho) hT))]
    exact (hf b hb).1
  done := by
    intro X hP hw hK hc i pins s σ H E I hf st hg
    obtain ⟨n, f, hs, hi⟩ := hg
    subst hi
    obtain ⟨fpW, wr, Pt, St, Mid, W, st2, hPt, hwr, back⟩ := wk X pins s σ H i f i hP hw hK (I.ok.hd hc) I hs hf st
    exact W.done s _ _ st2 fun h' tk hk => ⟨rfl, I.turnedL (ch := wr) (fun b ob hb q => hk b ob hb q) fun b hb => hf b (hwr b hb)⟩
  self := self

/-! ### lists and tuples alike -/
def SqC (K : PySem.W.Frag) (c : Bool) (H : Hp) (a : Addr) (xs : List V) : Prop := if c = true then SqL K H a xs else SqT K H a xs
def ItrAt (c : Bool) (h : Heap) (it a : Addr) (i : Nat) : Prop := if c = true then h.IsListIter it a i else h.IsTupleIter it a i
def SeqAtC (c : Bool) (h : Heap) (a : Addr) (its : Array Value) : Prop := if c = true then h.IsList a its else h.IsTuple a its
theorem Inv.sqC {X : Cx} {pins : List (Addr × Obj)} {σ : L2.St} {H : Hp} {s : Shared} {c : Bool} {a : Addr} {xs : List V} (I : Inv X pins σ H s) (h : SqC X.K c H a xs) :
    ∃ its : List Value, Vals xs its ∧ SeqAtC c s.heap a its.toArray ∧ xs.length ≤ sizeLine := by
  cases c with
  | true =>
    obtain ⟨its, rv, p, hz⟩ := I.list (show SqL X.K H a xs from h)
    exact ⟨its, rv, p.isList, hz⟩
  | false =>
    obtain ⟨its, rv, p, hz⟩ := I.tuple (show SqT X.K H a xs from h)
    exact ⟨its, rv, p, hz⟩
theorem Inv.sqC_inj {X : Cx} {pins : List (Addr × Obj)} {σ : L2.St} {H : Hp} {s : Shared} {c : Bool} {a : Addr} {xs ys : List V} (I : Inv X pins σ H s) (h : SqC X.K c H a xs) (h' : SqC X.K c H a ys) : xs = ys := by
  cases c with
  | true => exact I.list_inj (show SqL X.K H a xs from h) h'
  | false => exact I.tuple_inj (show SqT X.K H a xs from h) h'
theorem drawsC {prog : Program} {w : World} {A : Around} (hh : A.handled = none) (c : Bool) (it a : Addr) (hne : a ≠ it) (items : Array Value) :
    Draws prog w A it [it, a] items.size (fun i v => items[i]? = some v) (fun i h => ItrAt c h it a i ∧ SeqAtC c h a items) := by
  cases c with
  | true => exact Draws.list hh it a hne items
  | false => exact Draws.tuple hh it a hne items
theorem SeqAtC.there {c : Bool} {h : Heap} {a : Addr} {its : Array Value} (x : SeqAtC c h a its) : ∃ o, h.get? a = some o := by
  cases c with
  | true => obtain ⟨o, e, _⟩ := (show h.IsList a its from x); exact ⟨o, e⟩
  | false => obtain ⟨o, e, _⟩ := (show h.IsTuple a its from x); exact ⟨o, e⟩
theorem ItrAt.obj {c : Bool} {h : Heap} {it a : Addr} {i : Nat} (x : ItrAt c h it a i) : ∃ o, h.get? it = some o ∧ ∀ v, o.data ≠ .cell v := by
  cases c with
  | true =>
    obtain ⟨o, e, _, d⟩ := (show h.IsListIter it a i from x)
    exact ⟨o, e, fun v z => by rw [d] at z; cases z⟩
  | false =>
    obtain ⟨o, e, _, d⟩ := (show h.IsTupleIter it a i from x)
    exact ⟨o, e, fun v z => by rw [d] at z; cases z⟩
theorem ItrAt.keep {c : Bool} {h h' : Heap} {it a : Addr} {i : Nat} (x : ItrAt c h it a i) (k : ∀ o, h.get? it = some o → h'.get? it = some o) : ItrAt c h' it a i := by
  cases c with
  | true => exact (show h.IsListIter it a i from x).at k
  | false => exact (show h.IsTupleIter it a i from x).at k
def itrObj (c : Bool) (a : Addr) : Obj := if c = true then { cls := .type "list_iterator", data := .fields #[.ref a, .int 0 0] } else { cls := .type "tuple_iterator", data := .fields #[.ref a, .int 0 0] }
theorem begC (c : Bool) (a : Addr) (items : Array Value) : Begins (.ref a) (itrObj c a) fun h => SeqAtC c h a items := by
  cases c with
  | true => exact begins_list a items
  | false => exact begins_tuple a items
theorem itrObj_at {c : Bool} {h : Heap} {it a : Addr} (e : h.get? it = some (itrObj c a)) : ItrAt c h it a 0 := by
  cases c with
  | true => exact ⟨_, e, rfl, rfl⟩
  | false => exact ⟨_, e, rfl, rfl⟩
theorem vals_at {xs : List V} {its : List Value} {i : Nat} {x : Value} (rv : Vals xs its) (h : its.toArray[i]? = some x) : ∃ v, xs[i]? = some v ∧ RelV v x := by
  have h' : its[i]? = some x := by simpa using h
  have hl := rv.length
  have hi : i < its.length := (List.getElem?_eq_some_iff.mp h').1
  obtain ⟨u, hu, r⟩ := rv.get (i := i) (x := xs[i]'(by omega)) (by simp [show i < xs.length by omega])
  rw [h'] at hu
  cases hu
  exact ⟨_, by simp [show i < xs.length by omega], r⟩

/-! ### enumerate -/
def SrcE (K : PySem.W.Frag) (c : Bool) (a : Addr) : Hp → Nat → (Nat → List V) → Prop := fun H n f => ∃ xs, SqC K c H a xs ∧ n = xs.length ∧ ∀ i, i < n → ∃ x, xs[i]? = some x ∧ f i = [.int (i : Nat), x]
theorem turn_enumC {P : Program} {w : World} {K : PySem.W.Frag} {elts : List Expr} {kk : Nat} {tpos : Pos} (c : Bool) (a e it : Addr) :
    Turn P w K (.Tuple elts kk tpos) (ItT (SrcE K c a)) [e, it] e (fun i h => (∃ old, IsEnum h e it (0 + ((i : Nat) : Int)) old) ∧ ItrAt c h it a i ∧ e ≠ it) := by
  refine turn_walk (by simp) (fun i h st b hb => ?_) (fun i h h' st k => ?_) (fun X pins s σ H n m f g hK I h1 h2 => ?_) (fun X pins s σ H n f i hP hw hK hh I hs hf st => ?_) (fun A i s Q E st h => ?_)
  · obtain ⟨⟨old, he⟩, hi, _⟩ := st
    have e' : b = e ∨ b = it := by simpa using hb
    rcases e' with z | z
    · rw [z]; exact ⟨_, he, fun v q => nomatch q⟩
    · rw [z]; exact hi.obj
  · obtain ⟨⟨old, he⟩, hi, hne⟩ := st
    exact ⟨⟨old, k e (by simp) _ he⟩, hi.keep fun o q => k it (by simp) o q, hne⟩
  · obtain ⟨xs, q1, l1, f1⟩ := h1
    obtain ⟨ys, q2, l2, f2⟩ := h2
    subst hK
    have e' := Inv.sqC_inj I q1 q2
    subst e'
    refine ⟨by omega, fun i hi => ?_⟩
    obtain ⟨x, hx, ex⟩ := f1 i hi
    obtain ⟨y, hy, ey⟩ := f2 i (by omega)
    rw [hx] at hy
    cases hy
    rw [ex, ey]
  · subst hP hw hK
    obtain ⟨xs, q, l, hff⟩ := hs
    obtain ⟨its, rv, sa, hz⟩ := Inv.sqC I q
    obtain ⟨he, hi, hne⟩ := st
    obtain ⟨o, ho⟩ := sa.there
    have nm : ∀ b ∈ [e, it], a ≠ b := fun b hb z => by
      subst z
      have n0 := (hf a hb).1
      rcases c with _ | _
      · rcases (show SqT X.K H a xs from q) with (h | ⟨o, h⟩) | ⟨o, _, _, h, _⟩
        · rw [h] at n0; cases n0
        · rw [h] at n0; cases n0
        · have z := (hf a hb).2.2.2.1
          have z1 := (hf a hb).2.1
          have hk := I.kIn a o h
          have hb0 := I.ok.mod.kin a o h
          rcases z with z | z
          · exact I.ok.noex a o hb0 z
          · exact absurd (Nat.lt_of_lt_of_le (Heap.lt_size (I.ok.bs a o hb0).1) z) (Nat.lt_irrefl _)
      · rcases (show SqL X.K H a xs from q) with (h | ⟨o, h⟩) | ⟨o, _, _, h, _⟩
        · rw [h] at n0; cases n0
        · rw [h] at n0; cases n0
        · have z := (hf a hb).2.2.2.1
          have hb0 := I.ok.mod.kin a o h
          rcases z with z | z
          · exact I.ok.noex a o hb0 z
          · exact absurd (Nat.lt_of_lt_of_le (Heap.lt_size (I.ok.bs a o hb0).1) z) (Nat.lt_irrefl _)
    have nai : a ≠ it := nm it (by simp)
    have nae : a ≠ e := nm e (by simp)
    have D : Draws X.prog X.w X.A.in1 it [it, a] its.toArray.size (fun i v => its.toArray[i]? = some v) (fun i h => ItrAt c h it a i ∧ SeqAtC c h a its.toArray) := drawsC (by exact hh) c it a nai its.toArray
    have W := WalksT.enumFrom (A := X.A) 0 D e hne (by simp; exact ⟨hne, Ne.symm nae⟩) (by simp)
    have hn : its.toArray.size = n := by rw [List.size_toArray, ← rv.length, l]
    rw [hn] at W
    refine ⟨_, _, _, _, _, W, ⟨he, hi, sa⟩, fun j vals hj hp => ?_, fun b hb => hb, fun j h st => ⟨st.1, st.2.1, hne⟩⟩
    obtain ⟨t, x, hx, ev⟩ := hp
    subst ev
    obtain ⟨y, hy, ey⟩ := hff j hj
    obtain ⟨v, hv, r⟩ := vals_at rv hx
    rw [hy] at hv
    cases hv
    rw [ey]
    exact ⟨.cons ⟨t, by rw [Int.zero_add]⟩ (.cons r .nil), by show 2 ≤ sizeLine; decide⟩
  · obtain ⟨⟨_, he⟩, _⟩ := st
    exact wpAny_pyIter_enum he h
/-- enumerate(xs) -/
def iEnumC (K : PySem.W.Frag) (ta : TA) : TI := fun σ H R => ta σ H fun vs H1 => ∃ a xs c, vs = [.ref a] ∧ SqC K c H1 a xs ∧ R (ItT (SrcE K c a)) H1
theorem pi_enumC {X : Cx} {e : Expr} {ta : TA} {p pos tpos : Pos} {elts : List Expr} {kk : Nat} (hg : Gl X "enumerate") (hm : X.mg "enumerate" = none) (ha : PA X [e] ta) (hs : starEach [e] X.env = [(false, eval e X.env)] := by rfl) :
    PI X (.Tuple elts kk tpos) (.Call (.Name "enumerate" p) [e] [] pos) (iEnumC X.K ta) := by
  refine ⟨fun pins s σ H R I h => ?_⟩
  refine Call_ (ld_blt I hg hm boot_enumerate (PyProof.Rows.callWith_type1 (thn (ha.run pos pins s σ H _ I h) fun us s1 ⟨vs, H1, I1, r1, q1⟩ => ?_) hs rfl))
  obtain ⟨a, xs, c, ex, hq, q⟩ := q1
  subst ex
  cases r1 with
  | cons r rr =>
    cases rr
    cases r
    obtain ⟨its, rv, sa, hz⟩ := Inv.sqC I1 hq
    refine enum_begins1 (begC c a its.toArray) sa fun h' he hit hsz hk => wpAny_pyIter_enum he ?_
    have I2 : Inv X pins σ H1 { s1 with heap := h' } := I1.kept (t' := s1.toks) hk
    refine ⟨s1.heap.objs.size + 1, [s1.heap.objs.size + 1, s1.heap.objs.size], _, _, H1, rfl, I2, turn_enumC c a (s1.heap.objs.size + 1) s1.heap.objs.size, ⟨⟨.none, by simpa using he⟩, itrObj_at hit, Nat.succ_ne_self _⟩, fun b hb => ?_, q⟩
    have e' : b = s1.heap.objs.size + 1 ∨ b = s1.heap.objs.size := by simpa using hb
    have hle : s1.heap.objs.size ≤ b := by
      rcases e' with z | z
      · rw [z]; exact Nat.le_add_right _ _
      · rw [z]; exact Nat.le_refl _
    exact I1.fpOk hle (I1.hok.fresh hle)

/-- a source lies apart from the iterator's objects -/
theorem src_apart {X : Cx} {pins : List (Addr × Obj)} {σ : L2.St} {H : Hp} {s : Shared} {c : Bool} {a : Addr} {xs : List V} {fp : List Addr} (I : Inv X pins σ H s) (q : SqC X.K c H a xs) (hf : ∀ b ∈ fp, FpOk X pins H b) : ∀ b ∈ fp, a ≠ b := fun b hb z => by
  subst z
  have n0 := (hf a hb).1
  have kk : ∀ o, X.K.lookup a = some o → False := fun o h => by
    have z := (hf a hb).2.2.2.1
    have hb0 := I.ok.mod.kin a o h
    rcases z with z | z
    · exact I.ok.noex a o hb0 z
    · exact absurd (Nat.lt_of_lt_of_le (Heap.lt_size (I.ok.bs a o hb0).1) z) (Nat.lt_irrefl _)
  rcases c with _ | _
  · rcases (show SqT X.K H a xs from q) with (h | ⟨o, h⟩) | ⟨o, _, _, h, _⟩
    · rw [h] at n0; cases n0
    · rw [h] at n0; cases n0
    · exact kk o h
  · rcases (show SqL X.K H a xs from q) with (h | ⟨o, h⟩) | ⟨o, _, _, h, _⟩
    · rw [h] at n0; cases n0
    · rw [h] at n0; cases n0
    · exact kk o h

/-! ### zip of two -/
def SrcZ (K : PySem.W.Frag) (c c2 : Bool) (a a2 : Addr) : Hp → Nat → (Nat → List V) → Prop := fun H n f => ∃ xs ys, SqC K c H a xs ∧ SqC K c2 H a2 ys ∧ n = min xs.length ys.length ∧ ∀ i, i < n → ∃ x y, xs[i]? = some x ∧ ys[i]? = some y ∧ f i = [x, y]
theorem turn_zipC {P : Program} {w : World} {K : PySem.W.Frag} {elts : List Expr} {kk : Nat} {tpos : Pos} (c c2 : Bool) (a a2 z TI TO i1 i2 : Addr)
    (AP : TI ≠ z ∧ TO ≠ z ∧ TI ≠ TO ∧ TI ≠ i1 ∧ TI ≠ i2 ∧ z ≠ i1 ∧ z ≠ i2 ∧ TO ≠ i1 ∧ TO ≠ i2 ∧ i1 ≠ i2) :
    Turn P w K (.Tuple elts kk tpos) (ItT (SrcZ K c c2 a a2)) [z, TI, TO, i1, i2] z (fun i h => IsZip h z TI TO .none ∧ IsTupOf2 h TI (.ref i1) (.ref i2) ∧ (∃ x y, IsTupOf2 h TO x y) ∧ ItrAt c h i1 a i ∧ ItrAt c2 h i2 a2 i) := by
  refine turn_walk (by simp) (fun i h st b hb => ?_) (fun i h h' st k => ?_) (fun X pins s σ H n m f g hK I h1 h2 => ?_) (fun X pins s σ H n f i hP hw hK hh I hs hf st => ?_) (fun A i s Q E st h => ?_)
  · obtain ⟨hz, hTI, ⟨x, y, hTO⟩, h1, h2⟩ := st
    have e' : b = z ∨ b = TI ∨ b = TO ∨ b = i1 ∨ b = i2 := by simpa using hb
    rcases e' with q | q | q | q | q
    · rw [q]; exact ⟨_, hz, fun v q => nomatch q⟩
    · rw [q]; exact ⟨_, hTI, fun v q => nomatch q⟩
    · rw [q]; exact ⟨_, hTO, fun v q => nomatch q⟩
    · rw [q]; exact h1.obj
    · rw [q]; exact h2.obj
  · obtain ⟨hz, hTI, ⟨x, y, hTO⟩, h1, h2⟩ := st
    exact ⟨k z (by simp) _ hz, k TI (by simp) _ hTI, ⟨x, y, k TO (by simp) _ hTO⟩, h1.keep fun o q => k i1 (by simp) o q, h2.keep fun o q => k i2 (by simp) o q⟩
  · obtain ⟨xs, xs2, q1, q12, l1, f1⟩ := h1
    obtain ⟨ys, ys2, q2, q22, l2, f2⟩ := h2
    subst hK
    have e' := Inv.sqC_inj I q1 q2
    subst e'
    have e' := Inv.sqC_inj I q12 q22
    subst e'
    refine ⟨by omega, fun i hi => ?_⟩
    obtain ⟨x, x2, hx, hx2, ex⟩ := f1 i hi
    obtain ⟨y, y2, hy, hy2, ey⟩ := f2 i (by omega)
    rw [hx] at hy
    cases hy
    rw [hx2] at hy2
    cases hy2
    rw [ex, ey]
  · subst hP hw hK
    obtain ⟨xs, ys, q, q2, l, hff⟩ := hs
    obtain ⟨its, rv, sa, hz⟩ := Inv.sqC I q
    obtain ⟨its2, rv2, sa2, hz2⟩ := Inv.sqC I q2
    obtain ⟨he, hTI, hTO, h1, h2⟩ := st
    have nm := src_apart I q hf
    have nm2 := src_apart I q2 hf
    have D1 : Draws X.prog X.w X.A.in1 i1 [i1, a] its.toArray.size (fun i v => its.toArray[i]? = some v) (fun i h => ItrAt c h i1 a i ∧ SeqAtC c h a its.toArray) := drawsC (by exact hh) c i1 a (nm i1 (by simp)) its.toArray
    have D2 : Draws X.prog X.w X.A.in1 i2 [i2, a2] its2.toArray.size (fun i v => its2.toArray[i]? = some v) (fun i h => ItrAt c2 h i2 a2 i ∧ SeqAtC c2 h a2 its2.toArray) := drawsC (by exact hh) c2 i2 a2 (nm2 i2 (by simp)) its2.toArray
    obtain ⟨p1, p2, p3, p4, p5, p6, p7, p8, p9, p10⟩ := AP
    have S : ZipSep2 z TI TO i1 i2 [i1, a] [i2, a2] :=
      { TIz := p1, TOz := p2, TITO := p3, TIi1 := p4, mem1 := by simp, zf1 := by simp; exact ⟨p6, Ne.symm (nm z (by simp))⟩, Tf1 := by simp; exact ⟨p8, Ne.symm (nm TO (by simp))⟩,
        TIi2 := p5, mem2 := by simp, zf2 := by simp; exact ⟨p7, Ne.symm (nm2 z (by simp))⟩, Tf2 := by simp; exact ⟨p9, Ne.symm (nm2 TO (by simp))⟩,
        sep1_2 := by simp; exact ⟨p10, Ne.symm (nm2 i1 (by simp))⟩, sep2_1 := by simp; exact ⟨Ne.symm p10, Ne.symm (nm i2 (by simp))⟩ }
    have W := WalksT.zipD2 (A := X.A) S D1 D2
    have hn : min its.toArray.size its2.toArray.size = n := by rw [List.size_toArray, List.size_toArray, ← rv.length, ← rv2.length, l]
    rw [hn] at W
    refine ⟨_, _, _, _, _, W, ⟨he, hTI, hTO, ⟨h1, sa⟩, ⟨h2, sa2⟩⟩, fun j vals hj hp => ?_, fun b hb => ?_, fun j h st => ⟨st.1, st.2.1, st.2.2.1, st.2.2.2.1.1, st.2.2.2.2.1⟩⟩
    · obtain ⟨x, x2, hx, hx2, ev⟩ := hp
      subst ev
      obtain ⟨y, y2, hy, hy2, ey⟩ := hff j hj
      obtain ⟨v, hv, r⟩ := vals_at rv hx
      obtain ⟨v2, hv2, r2⟩ := vals_at rv2 hx2
      rw [hy] at hv
      cases hv
      rw [hy2] at hv2
      cases hv2
      rw [ey]
      exact ⟨.cons r (.cons r2 .nil), by show 2 ≤ sizeLine; decide⟩
    · simp at hb ⊢
      rcases hb with h | h | h | h <;> simp [h]
  · exact wpAny_pyIter_zip st.1 h
def iZipC (K : PySem.W.Frag) (ta : TA) : TI := fun σ H R => ta σ H fun vs H1 => ∃ a a2 xs ys c c2, vs = [.ref a, .ref a2] ∧ SqC K c H1 a xs ∧ SqC K c2 H1 a2 ys ∧ R (ItT (SrcZ K c c2 a a2)) H1
theorem pi_zipC {X : Cx} {e e2 : Expr} {ta : TA} {p pos tpos : Pos} {elts : List Expr} {kk : Nat} (hg : Gl X "zip") (hm : X.mg "zip" = none) (ha : PA X [e, e2] ta)
    (hs : starEach [e, e2] X.env = (false, eval e X.env) :: starEach [e2] X.env := by rfl) (hpl : (backTo pos (starEach [e2] X.env)).any (·.1) = false := by rfl) :
    PI X (.Tuple elts kk tpos) (.Call (.Name "zip" p) [e, e2] [] pos) (iZipC X.K ta) := by
  refine ⟨fun pins s σ H R I h => ?_⟩
  refine Call_ (ld_blt I hg hm PyProof.Rows.boot_zip (PyProof.Rows.callWith_type1 (thn (ha.run pos pins s σ H _ I h) fun us s1 ⟨vs, H1, I1, r1, q1⟩ => ?_) hs hpl))
  obtain ⟨a, a2, xs, ys, c, c2, ex, hq, hq2, q⟩ := q1
  subst ex
  cases r1 with
  | cons r rr =>
    cases rr with
    | cons r' rr =>
      cases rr
      cases r
      cases r'
      obtain ⟨its, rv, sa, _⟩ := Inv.sqC I1 hq
      obtain ⟨its2, rv2, sa2, _⟩ := Inv.sqC I1 hq2
      refine zip_begins2 (begC c a its.toArray) (begC c2 a2 its2.toArray) sa sa2 fun h' hz hTI hTO h1 h2 hsz hk => wpAny_pyIter_zip hz ?_
      have I2 : Inv X pins σ H1 { s1 with heap := h' } := I1.kept (t' := s1.toks) hk
      have ne : ∀ (i j : Nat), i ≠ j → (s1.heap.objs.size + i : Nat) ≠ s1.heap.objs.size + j := fun i j h => by omega
      have ne0 : ∀ (i : Nat), i ≠ 0 → (s1.heap.objs.size + i : Nat) ≠ s1.heap.objs.size := fun i h => by omega
      refine ⟨s1.heap.objs.size + 4, [s1.heap.objs.size + 4, s1.heap.objs.size + 2, s1.heap.objs.size + 3, s1.heap.objs.size, s1.heap.objs.size + 1], _, _, H1, rfl, I2,
        turn_zipC c c2 a a2 (s1.heap.objs.size + 4) (s1.heap.objs.size + 2) (s1.heap.objs.size + 3) s1.heap.objs.size (s1.heap.objs.size + 1)
          ⟨ne 2 4 (by decide), ne 3 4 (by decide), ne 2 3 (by decide), ne0 2 (by decide), ne 2 1 (by decide), ne0 4 (by decide), ne 4 1 (by decide), ne0 3 (by decide), ne 3 1 (by decide), Ne.symm (ne0 1 (by decide))⟩,
        ⟨hz, hTI, ⟨_, _, hTO⟩, itrObj_at h1, itrObj_at h2⟩, fun b hb => ?_, q⟩
      have hle : s1.heap.objs.size ≤ b := by
        have e' : b = s1.heap.objs.size + 4 ∨ b = s1.heap.objs.size + 2 ∨ b = s1.heap.objs.size + 3 ∨ b = s1.heap.objs.size ∨ b = s1.heap.objs.size + 1 := by simpa using hb
        rcases e' with z | z | z | z | z
        · rw [z]; exact Nat.le_add_right _ _
        · rw [z]; exact Nat.le_add_right _ _
        · rw [z]; exact Nat.le_add_right _ _
        · rw [z]; exact Nat.le_refl _
        · rw [z]; exact Nat.le_add_right _ _
      exact I1.fpOk hle (I1.hok.fresh hle)
end DL

set_option Elab.async false
set_option linter.all false
set_option maxRecDepth 100000
set_option maxHeartbeats 4000000
/-! Den7: targets, for, while. -/
namespace DL
open PySem L2 PySem.Spec PyProof.Rows

/-! ### targets -/
abbrev Tgt := D → Sg → Option Sg
section
variable {X : Cx} {b : B} {W : WX} {e : Expr} {es : List Expr} {pos p : Pos}
theorem pg_mono {t t' : TG} (h : PG X e t) (i : ∀ v σ H Q, t' v σ H Q → t v σ H Q) : PG X e t' := ⟨fun pins s σ H v u Q I r hw => h.run pins s σ H v u Q I r (i _ _ _ _ hw)⟩
theorem pgs_mono {t t' : TGs} (h : PGs X es t) (i : ∀ v σ H Q, t' v σ H Q → t v σ H Q) : PGs X es t' := ⟨fun pins s σ H v u Q I r hw => h.run pins s σ H v u Q I r (i _ _ _ _ hw)⟩
variable (b) in
def gD (ta : List Nat) (t : Tgt) : TG := fun v σ H Q => ∃ Fz g d g', BRel b Fz g σ H ∧ Rep b.M Fz H d v ∧ t d g = some g' ∧ ∀ σ', BRel b Fz g' σ' H → (∀ i, i ∉ ta → σ'[i]? = σ[i]?) → σ'.length = σ.length → Q σ' H
variable (b) in
def gsD (ta : List Nat) (t : List D → Sg → Option Sg) : TGs := fun vs σ H Q => ∃ Fz g ds g', BRel b Fz g σ H ∧ RepL b.M Fz H ds vs ∧ t ds g = some g' ∧ ∀ σ', BRel b Fz g' σ' H → (∀ i, i ∉ ta → σ'[i]? = σ[i]?) → σ'.length = σ.length → Q σ' H
def tgN (i : Nat) : Tgt := fun d g => some (g.set i (.v d))
theorem pg_n {i : Nat} (h : PG X e (gName i)) (hx : PxOk b i) : PG X e (gD b [i] (tgN i)) := pg_mono h fun v σ H Q ⟨Fz, g, d, g', r, rep, e, q⟩ => by
  have e' : g.set i (.v d) = g' := Option.some.inj e
  subst e'
  exact q _ (r.setV hx rep) (fun j hj => List.getElem?_set_ne fun z => hj (by simp [z])) (List.length_set ..)
def tgNil : List D → Sg → Option Sg := fun ds g => match ds with
  | [] => some g
  | _ => none
def tgCons (t : Tgt) (ts : List D → Sg → Option Sg) : List D → Sg → Option Sg := fun ds g => match ds with
  | [] => none
  | d :: ds => (t d g).bind (ts ds)
theorem pgs_nilD : PGs X [] (gsD b [] tgNil) := pgs_mono pgs_nil fun vs σ H Q ⟨Fz, g, ds, g', r, rep, e, q⟩ => by
  cases ds with
  | nil =>
    have e' : g = g' := Option.some.inj e
    subst e'
    exact ⟨RepL.nil_iff.mp rep, q σ r (fun _ _ => rfl) rfl⟩
  | cons d ds => cases e
theorem pgs_consD {a1 a2 : List Nat} {t : Tgt} {ts : List D → Sg → Option Sg} (h1 : PG X e (gD b a1 t)) (h2 : PGs X es (gsD b a2 ts))
    (hs : (assignEach (e :: es) X.env).map (·.2) = assign e X.env :: (assignEach es X.env).map (·.2) := by rfl) : PGs X (e :: es) (gsD b (a1 ++ a2) (tgCons t ts)) := pgs_mono (pgs_cons h1 h2 hs) fun vs σ H Q ⟨Fz, g, ds, g', r, rep, e, q⟩ => by
  cases ds with
  | nil => cases e
  | cons d ds =>
    obtain ⟨g1, e1, e2⟩ := Option.bind_eq_some_iff.mp e
    obtain ⟨v, vr, ev, r1, r2⟩ := RepL.cons_iff.mp rep
    refine ⟨v, vr, ev, Fz, g, d, g1, r, r1, e1, fun σ1 br h3 hl => ⟨Fz, g1, ds, g', br, r2, e2, fun σ2 br2 h4 hl2 => q σ2 br2 (fun i hi => ?_) (hl2.trans hl)⟩⟩
    exact (h4 i fun z => hi (List.mem_append_right _ z)).trans (h3 i fun z => hi (List.mem_append_left _ z))
def tgT (n : Nat) (ts : List D → Sg → Option Sg) : Tgt := fun d g => match d with
  | .tup ds => if ds.length = n then ts ds g else none
  | _ => none
theorem pg_tupD {k n : Nat} {ta : List Nat} {ts : List D → Sg → Option Sg} (hM : b.M = ⟨X.K, X.mg⟩) (hc : X.calm = true) (h : PGs X es (gsD b ta ts))
    (hn : (assignEach es X.env).length = n := by rfl) (hst : (assignEach es X.env).findIdx? (·.1) = none := by rfl) : PG X (.Tuple es k pos) (gD b ta (tgT n ts)) := pg_mono (pg_tup hc h hn hst) fun v σ H Q ⟨Fz, g, d, g', r, rep, e, q⟩ => by
  unfold tgT at e
  split at e
  · rename_i ds
    split at e
    · rename_i hl
      unfold Rep at rep
      obtain ⟨a, vs, rfl, hq, rr⟩ := rep
      rw [hM] at hq
      exact ⟨a, vs, rfl, hq, by rw [← RepL.length rr]; exact hl, Fz, g, ds, g', r, rr, e, q⟩
    · cases e
  · cases e
/-- target = value -/
def asgT (t : Tgt) (f : FE) : FS := fun g => (f g).sb fun d g1 => match t d g1 with
  | some g2 => .nx g2
  | none => .no
theorem pts_asgT {tg : Expr} {ta : List Nat} {t : Tgt} {f : FE} (he : PE X e (tE b W f)) (hg : PG X tg (gD b ta t)) (hs : swapsWithSole [tg] e pos.line X.env = pure false := by rfl) (hw : swappedStores [tg] e X.env = pure none := by rfl)
    (h1 : (assignEach [tg] X.env).map (·.2) = [assign tg X.env] := by rfl) : PS X (.Assign [tg] e pos) (tSt b W ta (asgT t f)) := ps_mono (ps_asg he hg hs hw h1) fun D σ H ⟨Fz, g, r, h⟩ =>
  tG_st r h fun d x' g1 Fz1 H1 r1 _ rep h1 => by
    cases q : t d g1 with
    | none => rw [q] at h1; exact h1.elim
    | some g2 =>
      rw [q] at h1
      exact ⟨Fz1, g1, d, g2, r1, rep, q, fun σ' r2 h3 _ => h1 σ' H1 Fz1 r2 ⟨.refl, h3⟩⟩
/-- a, b = x, y -/
def parS (i j : Nat) (fa : FA) : FS := fun g => (fa g).sb fun ds g1 => match ds with
  | [d, e] => .nx ((g1.set i (.v d)).set j (.v e))
  | _ => .no
theorem pts_par {i j : Nat} {x y : Str} {a c : Expr} {fa : FA} {px py pt : Pos} {kt k2 pt2} (hc : X.calm = true) (hN : X.N.Nodup) (hi : X.N[i]? = some x) (hj : X.N[j]? = some y) (hij : i ≠ j)
    (hx : X.env.scope.names.lookup x = some .local) (hy : X.env.scope.names.lookup y = some .local) (ha : PA X [a, c] (tAr b W fa))
    (hw : swappedStores [.Tuple [.Name x px, .Name y py] kt pt] (.Tuple [a, c] k2 pt2) X.env = pure (some [x, y]))
    (hs : swapsWithSole [.Tuple [.Name x px, .Name y py] kt pt] (.Tuple [a, c] k2 pt2) pos.line X.env = pure false := by rfl) (hx1 : PxOk b i) (hx2 : PxOk b j) :
    PS X (.Assign [.Tuple [.Name x px, .Name y py] kt pt] (.Tuple [a, c] k2 pt2) pos) (tSt b W [i, j] (parS i j fa)) := ps_mono (ps_par hc hN hi hj hij hx hy ha hw hs) fun D σ H ⟨Fz, g, r, h⟩ =>
  tG_st r h fun ds xs g1 Fz1 H1 r1 _ rep h1 => by
    have rep' : RepL b.M Fz1 H1 ds xs := rep
    split at h1
    · rename_i d e
      obtain ⟨v, vr, rfl, q1, q2⟩ := RepL.cons_iff.mp rep'
      obtain ⟨w, wr, rfl, q3, q4⟩ := RepL.cons_iff.mp q2
      have q5 := RepL.nil_iff.mp q4
      subst q5
      refine ⟨v, w, rfl, h1 _ H1 Fz1 ((r1.setV hx1 q1).setV hx2 q3) ⟨.refl, fun k hk => ?_⟩⟩
      rw [List.getElem?_set_ne (fun z => hk (by simp [z])), List.getElem?_set_ne (fun z => hk (by simp [z]))]
    · exact h1.elim
end

/-! ### what a loop walks -/
section
variable {X : Cx} {b : B} {W : WX} {e e1 e2 : Expr} {tg : Expr} {pos p : Pos} {f : FE} {fa : FA}
variable (b) in
def SrcOk (J : It) (Fz : Fzn) (H : Hp) (items : List D) : Prop := ∀ Fz' H', Ext Fz H Fz' H' → (∀ a, Fz' a → ∃ o, H' a = some o) →
  (∀ k d, items[k]? = some d → J.go k H' ∧ ∀ x H'', J.yld k H' x H'' → ∃ Fz'', GrowTo Fz' H' Fz'' H'' ∧ Rep b.M Fz'' H'' d x) ∧ J.stop items.length H'
variable (b) in
def bI : Bear (List D) It := fun _ Fz H _ items J => SrcOk b J Fz H items
abbrev FI := Sg → R (List D)
variable (b W) in
abbrev tI (f : FI) : TI := tG b W (bI b) f
theorem pi_mono {wi wi' : TI} (h : PI X tg e wi) (i : ∀ σ H R, wi' σ H R → wi σ H R) : PI X tg e wi' := ⟨fun pins s σ H R I hw => h.run pins s σ H R I (i _ _ _ hw)⟩
theorem src_list {a : Addr} {xs : List V} {ds : List D} {Fz : Fzn} {H : Hp} {K : PySem.W.Frag} (hu : ∀ {H : Hp} {xs ys : List V}, SqL K H a xs → SqL K H a ys → xs = ys) (h : LsF K Fz H a xs) (r : RepL b.M Fz H ds xs) : SrcOk b (Itl K a) Fz H ds := fun Fz' H' ex dom => by
  have h' := (ex.lsF h).sq
  refine ⟨fun k d e => ?_, ⟨xs, h', by rw [RepL.length r]; exact Nat.le_refl _⟩⟩
  obtain ⟨x, ex1, rx⟩ := r.get e
  refine ⟨⟨xs, x, h', ex1⟩, fun y H'' ⟨e2, q⟩ => ?_⟩
  subst e2
  have q2 := q xs h'
  rw [ex1] at q2
  cases q2
  exact ⟨Fz', .refl, Rep.mono ex d x rx⟩
theorem src_tup {a : Addr} {xs : List V} {ds : List D} {Fz : Fzn} {H : Hp} {K : PySem.W.Frag} (h : SqT K H a xs) (r : RepL b.M Fz H ds xs) : SrcOk b (Itt K a) Fz H ds := fun Fz' H' ex dom => by
  have h' := ex.sqT h
  refine ⟨fun k d e => ?_, ⟨xs, h', by rw [RepL.length r]; exact Nat.le_refl _⟩⟩
  obtain ⟨x, ex1, rx⟩ := r.get e
  refine ⟨⟨xs, x, h', ex1⟩, fun y H'' ⟨e2, q⟩ => ?_⟩
  subst e2
  have q2 := q xs h'
  rw [ex1] at q2
  cases q2
  exact ⟨Fz', .refl, Rep.mono ex d x rx⟩
def seqD : D → Option (List D)
  | .lst ds => some ds
  | .tup ds => some ds
  | _ => none
def itF (f : FE) : FI := fun g => (f g).bd fun d g1 => opt (seqD d) g1
theorem pi_d (hM : b.M = ⟨X.K, X.mg⟩) (h : PE X e (tE b W f)) : PI X tg e (tI b W (itF f)) := ⟨fun pins s σ H R I ⟨Fz, g, r, q⟩ => by
  unfold itF at q
  cases hf : f g with
  | no => rw [hf] at q; exact q.elim
  | ex ee g' => exact (pi_list h).run pins s σ H R I ⟨Fz, g, r, by rw [hf] at q ⊢; exact q⟩
  | ok d g' =>
    rw [hf] at q
    obtain ⟨z, ez, q⟩ := Po.opt q
    cases d with
    | lst ds =>
      have ez := Option.some.inj ez
      subst ez
      refine (pi_list h).run pins s σ H R I ⟨Fz, g, r, ?_⟩
      rw [hf]
      intro x H' Fz' r' e' rep
      have rep' : Rep b.M Fz' H' (.lst ds) x := rep
      unfold Rep at rep'
      obtain ⟨a, vs, rfl, hl, rr⟩ := rep'
      rw [hM] at hl
      refine ⟨a, rfl, ⟨vs, hl.sq⟩, q.ok r' e' ?_⟩
      intro Fz2 H2 ex dom
      have h' := (ex.lsF hl).sq
      refine ⟨fun k d e => ?_, ⟨vs, h', by rw [RepL.length rr]; exact Nat.le_refl _⟩⟩
      obtain ⟨x, ex1, rx⟩ := rr.get e
      refine ⟨⟨vs, x, h', ex1⟩, fun y H'' ⟨e2, qq⟩ => ?_⟩
      subst e2
      have q2 := qq vs h'
      rw [ex1] at q2
      cases q2
      exact ⟨Fz2, .refl, Rep.mono ex d x rx⟩
    | tup ds =>
      have ez := Option.some.inj ez
      subst ez
      refine (pi_tup h).run pins s σ H R I ⟨Fz, g, r, ?_⟩
      rw [hf]
      intro x H' Fz' r' e' rep
      have rep' : Rep b.M Fz' H' (.tup ds) x := rep
      unfold Rep at rep'
      obtain ⟨a, vs, rfl, hl, rr⟩ := rep'
      rw [hM] at hl
      exact ⟨a, rfl, ⟨vs, hl⟩, q.ok r' e' (src_tup hl rr)⟩
    | _ => cases ez⟩
/-! range -/
def rng (n : Nat) (lo : Int) : List D := (List.range n).map fun (k : Nat) => D.int (lo + (k : Int))
theorem rng_get {n k : Nat} {lo : Int} {d : D} (h : (rng n lo)[k]? = some d) : k < n ∧ d = .int (lo + (k : Int)) := by
  unfold rng at h
  rw [List.getElem?_map] at h
  obtain ⟨j, e1, e2⟩ := Option.map_eq_some_iff.mp h
  have hk : k < n := by
    have := (List.getElem?_eq_some_iff.mp e1).1
    simpa using this
  rw [List.getElem?_range hk] at e1
  cases e1
  exact ⟨hk, e2.symm⟩
theorem rng_length {n : Nat} {lo : Int} : (rng n lo).length = n := by unfold rng; simp
theorem src_rng {n : Nat} {lo : Int} {Fz : Fzn} {H : Hp} : SrcOk b (Itr lo n) Fz H (rng n lo) := fun Fz' H' ex dom => by
  refine ⟨fun k d e => ?_, by rw [rng_length]; exact Nat.le_refl _⟩
  obtain ⟨h1, h2⟩ := rng_get e
  subst h2
  refine ⟨h1, fun x H'' ⟨e2, q⟩ => ?_⟩
  subst e2; subst q
  exact ⟨Fz', .refl, rep_int⟩
def RL (j : Int) : Bool := decide (-(2 ^ 62) ≤ j) && decide (j < 2 ^ 62)
theorem RL_ok {j : Int} (h : RL j = true) : -(2 ^ 62) ≤ j ∧ j < 2 ^ 62 := by
  unfold RL at h
  rw [Bool.and_eq_true] at h
  exact ⟨of_decide_eq_true h.1, of_decide_eq_true h.2⟩
def rng1D : List D → Option (List D)
  | [.int j] => if RL j = true then some (rng j.toNat 0) else none
  | _ => none
def rng2D : List D → Option (List D)
  | [.int i, .int j] => if RL i = true ∧ RL j = true then some (rng (j - i).toNat i) else none
  | _ => none
def faF {α : Type} (o : List D → Option α) (fa : FA) : Sg → R α := fun g => (fa g).bd fun ds g1 => opt (o ds) g1
theorem rep_ints1 {M : MM} {Fz : Fzn} {H : Hp} {j : Int} {xs : List V} (h : RepL M Fz H [.int j] xs) : xs = [.int j] := by
  obtain ⟨v, r, rfl, r1, r2⟩ := RepL.cons_iff.mp h
  rw [rep_int' r1, RepL.nil_iff.mp r2]
theorem rep_ints2 {M : MM} {Fz : Fzn} {H : Hp} {i j : Int} {xs : List V} (h : RepL M Fz H [.int i, .int j] xs) : xs = [.int i, .int j] := by
  obtain ⟨v, r, rfl, r1, r2⟩ := RepL.cons_iff.mp h
  rw [rep_int' r1, rep_ints1 r2]
theorem pi_rng1 {a : Expr} (hg : Gl X "range") (hm : X.mg "range" = none) (ha : PA X [a] (tAr b W fa)) (hs : starEach [a] X.env = [(false, eval a X.env)] := by rfl) : PI X tg (.Call (.Name "range" p) [a] [] pos) (tI b W (faF rng1D fa)) :=
  pi_mono (pi_range1 hg hm ha hs) fun σ H R ⟨Fz, g, r, q⟩ => tG_seq r q fun ds xs g1 Fz1 H1 r1 e1 rep h1 => by
    obtain ⟨z, ez, h1⟩ := h1.opt
    have rep' : RepL b.M Fz1 H1 ds xs := rep
    unfold rng1D at ez
    split at ez
    · rename_i j
      split at ez
      · rename_i hj
        obtain ⟨h3, h4⟩ := RL_ok hj
        have ez := Option.some.inj ez
        subst ez
        exact ⟨j, rep_ints1 rep', h3, h4, h1.ok r1 .refl src_rng⟩
      · cases ez
    · cases ez
theorem pi_rng2 {a c : Expr} (hg : Gl X "range") (hm : X.mg "range" = none) (ha : PA X [a, c] (tAr b W fa)) (hs : starEach [a, c] X.env = [(false, eval a X.env), (false, eval c X.env)] := by rfl) (hs2 : starEach [c] X.env = [(false, eval c X.env)] := by rfl) : PI X tg (.Call (.Name "range" p) [a, c] [] pos) (tI b W (faF rng2D fa)) :=
  pi_mono (pi_range2 hg hm ha hs hs2) fun σ H R ⟨Fz, g, r, q⟩ => tG_seq r q fun ds xs g1 Fz1 H1 r1 e1 rep h1 => by
    obtain ⟨z, ez, h1⟩ := h1.opt
    have rep' : RepL b.M Fz1 H1 ds xs := rep
    unfold rng2D at ez
    split at ez
    · rename_i i j
      split at ez
      · rename_i hj
        obtain ⟨h3, h4⟩ := RL_ok hj.1
        obtain ⟨h5, h6⟩ := RL_ok hj.2
        have ez := Option.some.inj ez
        subst ez
        exact ⟨i, j, rep_ints2 rep', ⟨h3, h4, h5, h6⟩, h1.ok r1 .refl src_rng⟩
      · cases ez
    · cases ez
/-! enumerate, zip -/
def enm (ds : List D) : List D := ds.zipIdx.map fun p => D.tup [.int (p.2 : Nat), p.1]
theorem enm_length {ds : List D} : (enm ds).length = ds.length := by unfold enm; simp
theorem enm_get {ds : List D} {k : Nat} {d : D} (h : (enm ds)[k]? = some d) : ∃ c, ds[k]? = some c ∧ d = .tup [.int (k : Nat), c] := by
  unfold enm at h
  rw [List.getElem?_map] at h
  obtain ⟨j, e1, e2⟩ := Option.map_eq_some_iff.mp h
  rw [List.getElem?_zipIdx] at e1
  obtain ⟨c, e3, e4⟩ := Option.map_eq_some_iff.mp e1
  subst e4; subst e2
  exact ⟨c, e3, by simp⟩
theorem sqC_rep {Fz : Fzn} {H : Hp} {d : D} {ds : List D} {x : V} (h : Rep b.M Fz H d x) (e : seqD d = some ds) : ∃ a vs c, x = .ref a ∧ (∀ Fz' H', Ext Fz H Fz' H' → SqC b.M.K c H' a vs) ∧ RepL b.M Fz H ds vs := by
  cases d with
  | lst es =>
    have e' : es = ds := Option.some.inj e
    subst e'
    unfold Rep at h
    obtain ⟨a, vs, rfl, hl, rr⟩ := h
    exact ⟨a, vs, true, rfl, fun Fz' H' ex => (ex.lsF hl).sq, rr⟩
  | tup es =>
    have e' : es = ds := Option.some.inj e
    subst e'
    unfold Rep at h
    obtain ⟨a, vs, rfl, hl, rr⟩ := h
    exact ⟨a, vs, false, rfl, fun Fz' H' ex => ex.sqT hl, rr⟩
  | _ => cases e
theorem rep_tupN {M : MM} {Fz Fz1 : Fzn} {H H1 : Hp} {ds : List D} {vs : List V} {a : Addr} (r : RepL M Fz H ds vs) (e : Ext Fz H Fz1 H1) (h : H1 a = some (.tup vs)) : Rep M Fz1 H1 (.tup ds) (.ref a) := by
  unfold Rep
  exact ⟨a, vs, rfl, .inl (.inl h), RepL.mono e _ _ r⟩
def enmD : List D → Option (List D)
  | [d] => (seqD d).map enm
  | _ => none
theorem pi_enmD {elts : List Expr} {kk : Nat} {tpos : Pos} (hM : b.M = ⟨X.K, X.mg⟩) (hg : Gl X "enumerate") (hm : X.mg "enumerate" = none) (ha : PA X [e] (tAr b W fa)) (hs : starEach [e] X.env = [(false, eval e X.env)] := by rfl) :
    PI X (.Tuple elts kk tpos) (.Call (.Name "enumerate" p) [e] [] pos) (tI b W (faF enmD fa)) :=
  pi_mono (pi_enumC hg hm ha hs) fun σ H R ⟨Fz, g, r, q⟩ => tG_seq r q fun ds xs g1 Fz1 H1 r1 e1 rep h1 => by
    obtain ⟨z, ez, h1⟩ := h1.opt
    have rep' : RepL b.M Fz1 H1 ds xs := rep
    unfold enmD at ez
    split at ez
    · rename_i d
      obtain ⟨es, e3, e4⟩ := Option.map_eq_some_iff.mp ez
      subst e4
      obtain ⟨v, vr, rfl, q1, q2⟩ := RepL.cons_iff.mp rep'
      have q3 := RepL.nil_iff.mp q2
      subst q3
      obtain ⟨a, vs, c, rfl, hq, rr⟩ := sqC_rep q1 e3
      rw [hM] at hq
      refine ⟨a, vs, c, rfl, hq _ _ .refl, h1.ok r1 .refl ?_⟩
      intro Fz' H' ex dom
      have hq' := hq _ _ ex
      have src : ∀ n f, (n = vs.length ∧ ∀ i, i < n → ∃ x, vs[i]? = some x ∧ f i = [V.int (i : Nat), x]) → SrcE X.K c a H' n f := fun n f h => ⟨vs, hq', h.1, h.2⟩
      have hx : SrcE X.K c a H' vs.length fun i => [V.int (i : Nat), vs[i]?.getD .non] := src _ _ ⟨rfl, fun i hi => ⟨vs[i], by simp [hi], by simp [hi]⟩⟩
      refine ⟨fun k d e => ?_, ⟨_, _, hx, by rw [enm_length, RepL.length rr]⟩⟩
      obtain ⟨c1, e5, rfl⟩ := enm_get e
      obtain ⟨v, ev, rv⟩ := rr.get e5
      have hk : k < vs.length := (List.getElem?_eq_some_iff.mp ev).1
      refine ⟨⟨_, _, hx, hk⟩, fun x H'' ⟨T, ws, e6, e7, e8, e9⟩ => ?_⟩
      have e10 := e9 _ _ hx hk
      simp only [ev, Option.getD_some] at e10
      subst e10; subst e8; subst e6
      have gt : GrowTo Fz' H' Fz' (upd H' T (.tup [V.int (k : Nat), v])) := .alloc e7
      exact ⟨Fz', gt, rep_tupN (RepL.cons rep_int (RepL.cons (Rep.mono ex _ _ rv) RepL.nil)) gt.ext upd_same⟩
    · cases ez
def zipD2 (ds es : List D) : List D := List.zipWith (fun a c => D.tup [a, c]) ds es
def zipD : List D → Option (List D)
  | [d, e] => (seqD d).bind fun ds => (seqD e).map fun es => zipD2 ds es
  | _ => none
theorem pi_zipDD {elts : List Expr} {kk : Nat} {tpos : Pos} (hM : b.M = ⟨X.K, X.mg⟩) (hg : Gl X "zip") (hm : X.mg "zip" = none) (ha : PA X [e, e2] (tAr b W fa))
    (hs : starEach [e, e2] X.env = (false, eval e X.env) :: starEach [e2] X.env := by rfl) (hpl : (backTo pos (starEach [e2] X.env)).any (·.1) = false := by rfl) :
    PI X (.Tuple elts kk tpos) (.Call (.Name "zip" p) [e, e2] [] pos) (tI b W (faF zipD fa)) :=
  pi_mono (pi_zipC hg hm ha hs hpl) fun σ H R ⟨Fz, g, r, q⟩ => tG_seq r q fun ds xs g1 Fz1 H1 r1 e1 rep h1 => by
    obtain ⟨z, ez, h1⟩ := h1.opt
    have rep' : RepL b.M Fz1 H1 ds xs := rep
    unfold zipD at ez
    split at ez
    · rename_i d1 d2
      obtain ⟨es, e3, e4⟩ := Option.bind_eq_some_iff.mp ez
      obtain ⟨fs, e5, e6⟩ := Option.map_eq_some_iff.mp e4
      subst e6
      obtain ⟨v, vr, rfl, q1, q2⟩ := RepL.cons_iff.mp rep'
      obtain ⟨w, wr, rfl, q3, q4⟩ := RepL.cons_iff.mp q2
      have q5 := RepL.nil_iff.mp q4
      subst q5
      obtain ⟨a, vs, c, rfl, hq, rr⟩ := sqC_rep q1 e3
      obtain ⟨a2, ws, c2, rfl, hq2, rr2⟩ := sqC_rep q3 e5
      rw [hM] at hq hq2
      refine ⟨a, a2, vs, ws, c, c2, rfl, hq _ _ .refl, hq2 _ _ .refl, h1.ok r1 .refl ?_⟩
      intro Fz' H' ex dom
      have hx : SrcZ X.K c c2 a a2 H' (min vs.length ws.length) fun i => [vs[i]?.getD .non, ws[i]?.getD .non] := ⟨vs, ws, hq _ _ ex, hq2 _ _ ex, rfl, fun i hi => ⟨vs[i]'(by omega), ws[i]'(by omega), by simp, by simp, by
        have h1 : i < vs.length := by omega
        have h2 : i < ws.length := by omega
        simp [h1, h2]⟩⟩
      refine ⟨fun k d e => ?_, ⟨_, _, hx, by unfold zipD2; simp [RepL.length rr, RepL.length rr2]⟩⟩
      unfold zipD2 at e
      rw [List.getElem?_zipWith] at e
      split at e
      · rename_i d3 d4 e7 e8
        have e := Option.some.inj e
        subst e
        obtain ⟨v, ev, rv⟩ := rr.get e7
        obtain ⟨w, ew, rw'⟩ := rr2.get e8
        have hk : k < min vs.length ws.length := Nat.lt_min.mpr ⟨(List.getElem?_eq_some_iff.mp ev).1, (List.getElem?_eq_some_iff.mp ew).1⟩
        refine ⟨⟨_, _, hx, hk⟩, fun x H'' ⟨T, us, e6, e7, e8, e9⟩ => ?_⟩
        have e10 := e9 _ _ hx hk
        simp only [ev, ew, Option.getD_some] at e10
        subst e10; subst e8; subst e6
        have gt : GrowTo Fz' H' Fz' (upd H' T (.tup [v, w])) := .alloc e7
        exact ⟨Fz', gt, rep_tupN (RepL.cons (Rep.mono ex _ _ rv) (RepL.cons (Rep.mono ex _ _ rw') RepL.nil)) gt.ext upd_same⟩
      · cases e
    · cases ez
end

/-! ### for -/
section
variable {X : Cx} {b : B} {W : WX} {e : Expr} {tg iter : Expr} {body : List Stmt} {pos p : Pos} {s : FS} {t : Tgt} {fi : FI}
def turnS (t : Tgt) (s : FS) (d : D) : FS := fun g => match t d g with
  | some g1 => s g1
  | none => .no
def forL (f : D → FS) : List D → FS
  | [], g => .nx g
  | d :: ds, g => match f d g with
    | .nx g' => forL f ds g'
    | .ct g' => forL f ds g'
    | .bk g' => .nx g'
    | .rt d g' => .rt d g'
    | .rf d g' => .rf d g'
    | .ex e g' => .ex e g'
    | .no => .no
def forS (fi : FI) (t : Tgt) (s : FS) : FS := fun g => (fi g).sb fun items g1 => forL (turnS t s) items g1
theorem pts_for {ta as : List Nat} (hp : PassesOwn (model X.prog X.w) X.A X.env X.xe) (hc : X.calm = true) (hi : PI X tg iter (tI b W fi)) (hg : PG X tg (gD b ta t)) (hb : PSs X body (tSt b W as s))
    (hs : ∀ x, foldedSetIterable iter X.env x = pure x := by intro _; rfl) : PS X (.For tg iter body [] pos) (tSt b W (ta ++ as) (forS fi t s)) := ps_mono (ps_for hp hc hi hg hb hs) fun D σ H ⟨Fz, g, r, h⟩ => by
  refine tG_st r h fun items J g1 Fz1 H1 r1 e1 src h1 => ?_
  have src' : SrcOk b J Fz1 H1 items := src
  refine ⟨fun k m σ' H' => m = items.length - k ∧ k ≤ items.length ∧ ∃ Fz' g', BRel b Fz' g' σ' H' ∧ Ext Fz1 H1 Fz' H' ∧ PoS b W (ta ++ as) σ' Fz' H' D (forL (turnS t s) (items.drop k) g'), ⟨_, rfl, Nat.zero_le _, Fz1, g1, r1, .refl, by rw [List.drop_zero]; exact h1⟩, ?_⟩
  rintro k m σ2 H2 ⟨rfl, hk, Fz2, g2, r2, e2, h2⟩
  obtain ⟨go, stop⟩ := src' Fz2 H2 e2 r2.gr.dom
  by_cases hlt : k < items.length
  · refine .inr ?_
    have hd : items[k]? = some items[k] := by simp [hlt]
    obtain ⟨g0, yl⟩ := go k _ hd
    rw [List.drop_eq_getElem_cons hlt] at h2
    generalize hdk : items[k] = d at h2 hd yl
    refine ⟨g0, fun σ' H' => ∃ Fz' g', BRel b Fz' g' σ' H' ∧ Ext Fz1 H1 Fz' H' ∧ PoS b W (ta ++ as) σ' Fz' H' D (forL (turnS t s) (items.drop (k + 1)) g'), fun σ' H' q => ⟨_, by omega, rfl, hlt, q⟩, fun x H' y => ?_⟩
    obtain ⟨Fz3, gt, rep⟩ := yl x H' y
    have r3 := r2.grow gt
    unfold forL at h2
    unfold turnS at h2
    cases ht : t d g2 with
    | none => rw [ht] at h2; exact h2.elim
    | some g3 =>
      rw [ht] at h2
      simp only at h2
      refine ⟨Fz3, g2, d, g3, r3, rep, ht, fun σ4 r4 h4 hl => ⟨Fz3, g3, r4, ?_⟩⟩
      have go4 : Go ta σ2 Fz2 H2 σ4 Fz3 H' := ⟨gt.ext, h4⟩
      have fin : ∀ {σ' : L2.St} {H'' : Hp} {Fz' : Fzn} {g' : Sg}, BRel b Fz' g' σ' H'' → Go as σ4 Fz3 H' σ' Fz' H'' → PoS b W (ta ++ as) σ2 Fz2 H2 D (forL (turnS t s) (items.drop (k + 1)) g') → ∃ Fz' g', BRel b Fz' g' σ' H'' ∧ Ext Fz1 H1 Fz' H'' ∧ PoS b W (ta ++ as) σ' Fz' H'' D (forL (turnS t s) (items.drop (k + 1)) g') := fun {σ' H'' Fz' g'} br go5 po =>
        ⟨Fz', g', br, e2.trans (gt.ext.trans go5.ex), PoS.weak (as := ta ++ as) (PoS.sub po fun i z => by
          rcases List.mem_append.mp z with z | z <;> exact z) (go4.trans go5)⟩
      cases hs3 : s g3 with
      | nx g' => rw [hs3] at h2; exact fun σ' H'' Fz' br go5 => fin br go5 h2
      | ct g' => rw [hs3] at h2; exact fun σ' H'' Fz' br go5 => fin br go5 h2
      | bk g' => rw [hs3] at h2; exact fun σ' H'' Fz' br go5 => h2 σ' H'' Fz' br (go4.trans go5)
      | rt d' g' => rw [hs3] at h2; exact h2
      | rf d' g' => rw [hs3] at h2; exact h2
      | ex e' g' => rw [hs3] at h2; exact fun σ' cl dx H'' Fz' br go5 ok => h2 σ' cl dx H'' Fz' br (go4.trans go5) ok
      | no => rw [hs3] at h2; exact h2.elim
  · have e : k = items.length := by omega
    subst e
    rw [List.drop_length] at h2
    exact .inl ⟨stop, h2 σ2 H2 Fz2 r2 .refl⟩

/-! ### by fuel -/
open Classical in
/-- the answer of f, if some fuel is enough -/
noncomputable def byFuel (f : Nat → RS) : RS := if h : ∃ n, f n ≠ .no then f (Classical.choose h) else .no
/-- more fuel, the same answer -/
def FuelMono (f : Nat → RS) : Prop := ∀ n m, n ≤ m → f n ≠ .no → f m = f n
theorem byFuel_eq {f : Nat → RS} (hm : FuelMono f) {n : Nat} (h : f n ≠ .no) : byFuel f = f n := by
  unfold byFuel
  have hx : ∃ n, f n ≠ .no := ⟨n, h⟩
  rw [dif_pos hx]
  have q := Classical.choose_spec hx
  rcases Nat.le_total (Classical.choose hx) n with z | z
  · exact (hm _ _ z q).symm
  · exact hm _ _ z h
theorem byFuel_ex {f : Nat → RS} (h : byFuel f ≠ .no) : ∃ n, byFuel f = f n := by
  unfold byFuel at h ⊢
  split
  · exact ⟨_, rfl⟩
  · rename_i q
    rw [dif_neg q] at h
    exact absurd rfl h
/-! over an own list, as it stands at each turn -/
def forON (i : Nat) (f : D → FS) : Nat → Nat → FS
  | 0, _, _ => .no
  | n + 1, k, g => match gat g i with
    | .ow ds => match ds[k]? with
      | none => .nx g
      | some d => match f d g with
        | .nx g' => forON i f n (k + 1) g'
        | .ct g' => forON i f n (k + 1) g'
        | .bk g' => .nx g'
        | .rt d g' => .rt d g'
        | .rf d g' => .rf d g'
        | .ex e g' => .ex e g'
        | .no => .no
    | _ => .no
theorem forON_mono {i : Nat} {f : D → FS} : ∀ {n m k : Nat} {g : Sg}, n ≤ m → forON i f n k g ≠ .no → forON i f m k g = forON i f n k g
  | 0, _, _, _, _, h => absurd rfl h
  | n + 1, 0, _, _, h, _ => by omega
  | n + 1, m + 1, k, g, h, q => by
    unfold forON at q ⊢
    cases hg : gat g i with
    | ow ds =>
      rw [hg] at q
      simp only at q ⊢
      cases hd : ds[k]? with
      | none => rfl
      | some d =>
        rw [hd] at q
        simp only at q ⊢
        cases hf : f d g with
        | nx g' => rw [hf] at q; exact forON_mono (Nat.le_of_succ_le_succ h) q
        | ct g' => rw [hf] at q; exact forON_mono (Nat.le_of_succ_le_succ h) q
        | _ => rfl
    | _ => rfl
noncomputable def forO (i : Nat) (t : Tgt) (s : FS) : FS := fun g => byFuel fun n => forON i (turnS t s) n 0 g
theorem forON_list {i : Nat} {f : D → FS} {ds : List D} (Pv : Nat → Sg → Prop) (h1 : ∀ k g, Pv k g → gat g i = .ow ds) (h2 : ∀ k d g g', ds[k]? = some d → Pv k g → (f d g = .nx g' ∨ f d g = .ct g') → Pv (k + 1) g') :
    ∀ (m k : Nat) (g : Sg), k + m = ds.length → Pv k g → forON i f (m + 1) k g = forL f (ds.drop k) g
  | 0, k, g, hk, hp => by
    have hn : ds[k]? = none := List.getElem?_eq_none (by omega)
    rw [List.drop_eq_nil_of_le (by omega)]
    unfold forON forL
    rw [h1 k g hp]
    simp only [hn]
  | m + 1, k, g, hk, hp => by
    have hlt : k < ds.length := by omega
    have hd : ds[k]? = some ds[k] := by simp [hlt]
    rw [List.drop_eq_getElem_cons hlt]
    rw [forON, forL, h1 k g hp]
    simp only [hd]
    cases q : f ds[k] g with
    | nx g' => exact forON_list Pv h1 h2 m (k + 1) g' (by omega) (h2 k _ g g' hd hp (.inl q))
    | ct g' => exact forON_list Pv h1 h2 m (k + 1) g' (by omega) (h2 k _ g g' hd hp (.inr q))
    | _ => rfl
/-- the body leaves the list as it is -/
theorem forO_list {i : Nat} {t : Tgt} {s : FS} {ds : List D} {g : Sg} (Pv : Nat → Sg → Prop) (h0 : Pv 0 g) (h1 : ∀ k g, Pv k g → gat g i = .ow ds) (h2 : ∀ k d g g', ds[k]? = some d → Pv k g → (turnS t s d g = .nx g' ∨ turnS t s d g = .ct g') → Pv (k + 1) g') :
    forO i t s g = forL (turnS t s) ds g := by
  unfold forO
  have e := forON_list (f := turnS t s) Pv h1 h2 ds.length 0 g (by omega) h0
  rw [List.drop_zero] at e
  by_cases c : forL (turnS t s) ds g = .no
  · rw [c]
    refine Classical.byContradiction fun z => ?_
    obtain ⟨n, hn⟩ := byFuel_ex z
    rw [hn] at z
    rcases Nat.le_total n (ds.length + 1) with l | l
    · rw [forON_mono l z] at e; rw [c] at e; exact z e
    · rw [c] at e
      -- at n ≥ length + 1: the list's walk is the same
      have e2 : ∀ (x m k : Nat) (g : Sg), k + m = ds.length → Pv k g → forON i (turnS t s) (m + 1 + x) k g = forL (turnS t s) (ds.drop k) g := fun x m => by
        induction m with
        | zero =>
          intro k g hk hp
          have hn : ds[k]? = none := List.getElem?_eq_none (by omega)
          rw [List.drop_eq_nil_of_le (by omega)]
          rw [show 0 + 1 + x = x + 1 by omega]
          unfold forON forL
          rw [h1 k g hp]
          simp only [hn]
        | succ m ih =>
          intro k g hk hp
          have hlt : k < ds.length := by omega
          have hd : ds[k]? = some ds[k] := by simp [hlt]
          rw [List.drop_eq_getElem_cons hlt]
          rw [show m + 1 + 1 + x = (m + 1 + x) + 1 by omega]
          rw [forON, forL, h1 k g hp]
          simp only [hd]
          cases q : turnS t s ds[k] g with
          | nx g' => exact ih (k + 1) g' (by omega) (h2 k _ g g' hd hp (.inl q))
          | ct g' => exact ih (k + 1) g' (by omega) (h2 k _ g g' hd hp (.inr q))
          | _ => rfl
      have e3 := e2 (n - (ds.length + 1)) ds.length 0 g (by omega) h0
      rw [List.drop_zero, c, show ds.length + 1 + (n - (ds.length + 1)) = n by omega] at e3
      exact z e3
  · rw [byFuel_eq (fun n m l q => forON_mono l q) (n := ds.length + 1) (by rw [e]; exact c), e]
theorem pts_forO {ta as : List Nat} {i : Nat} (hM : b.M = ⟨X.K, X.mg⟩) (hp : PassesOwn (model X.prog X.w) X.A X.env X.xe) (hc : X.calm = true) (hi : PE X iter (tVar i)) (hg : PG X tg (gD b ta t)) (hb : PSs X body (tSt b W as s)) (hna : i ∉ ta ++ as)
    (hs : ∀ x, foldedSetIterable iter X.env x = pure x := by intro _; rfl) : PS X (.For tg iter body [] pos) (tSt b W (ta ++ as) (forO i t s)) := ps_mono (ps_for hp hc (pi_list hi) hg hb hs) fun D σ H ⟨Fz, g, r, h⟩ => by
  unfold forO at h
  have hne : byFuel (fun n => forON i (turnS t s) n 0 g) ≠ .no := fun z => by rw [z] at h; exact h
  obtain ⟨N, hN⟩ := byFuel_ex hne
  rw [hN] at h hne
  clear hN
  cases N with
  | zero => exact absurd rfl hne
  | succ N =>
  have h0 := h
  unfold forON at h
  cases hgi : gat g i with
  | ow ds =>
    obtain ⟨a, u, e1, nf, hu, vs, eu, rep⟩ := r.slot (gat_get hgi (by intro z; cases z))
    subst eu
    clear h
    refine ⟨.ref a, e1, a, rfl, ⟨vs, .inl (.inl hu)⟩, ?_⟩
    refine ⟨fun k m σ' H' => ∃ Fz' g', BRel b Fz' g' σ' H' ∧ Go (ta ++ as) σ Fz H σ' Fz' H' ∧ PoS b W (ta ++ as) σ' Fz' H' D (forON i (turnS t s) m k g'), ⟨N + 1, Fz, g, r, .refl, h0⟩, ?_⟩
    rintro k m σ2 H2 ⟨Fz2, g2, r2, go2, h2⟩
    cases m with
    | zero => exact h2.elim
    | succ m =>
    unfold forON at h2
    cases hg2 : gat g2 i with
    | ow ds2 =>
      rw [hg2] at h2
      simp only at h2
      obtain ⟨a2, u2, e2, nf2, hu2, vs2, eu2, rep2⟩ := r2.slot (gat_get hg2 (by intro z; cases z))
      subst eu2
      rw [go2.sl i hna, e1] at e2
      injection e2 with e2
      injection e2 with e2
      injection e2 with e2
      subst e2
      have sq2 : SqL X.K H2 a vs2 := .inl (.inl hu2)
      cases hd : ds2[k]? with
      | none =>
        rw [hd] at h2
        refine .inl ⟨⟨vs2, sq2, ?_⟩, h2 σ2 H2 Fz2 r2 .refl⟩
        rw [← RepL.length rep2]
        exact List.getElem?_eq_none_iff.mp hd
      | some d =>
        rw [hd] at h2
        simp only at h2
        obtain ⟨x, ex, rx⟩ := rep2.get hd
        refine .inr ⟨⟨vs2, x, sq2, ex⟩, fun σ' H' => ∃ Fz' g', BRel b Fz' g' σ' H' ∧ Go (ta ++ as) σ Fz H σ' Fz' H' ∧ PoS b W (ta ++ as) σ' Fz' H' D (forON i (turnS t s) m (k + 1) g'), fun σ' H' q => ⟨m, Nat.lt_succ_self m, q⟩, fun y H' ⟨e3, q3⟩ => ?_⟩
        subst e3
        have q4 := q3 vs2 sq2
        rw [ex] at q4
        cases q4
        unfold turnS at h2
        cases ht : t d g2 with
        | none => rw [ht] at h2; exact h2.elim
        | some g3 =>
          rw [ht] at h2
          simp only at h2
          refine ⟨Fz2, g2, d, g3, r2, rx, ht, fun σ4 r4 h4 hl => ⟨Fz2, g3, r4, ?_⟩⟩
          have go4 : Go ta σ2 Fz2 H' σ4 Fz2 H' := ⟨.refl, h4⟩
          have fin : ∀ {σ' : L2.St} {H'' : Hp} {Fz' : Fzn} {g' : Sg}, BRel b Fz' g' σ' H'' → Go as σ4 Fz2 H' σ' Fz' H'' → PoS b W (ta ++ as) σ2 Fz2 H' D (forON i (turnS t s) m (k + 1) g') → ∃ Fz' g', BRel b Fz' g' σ' H'' ∧ Go (ta ++ as) σ Fz H σ' Fz' H'' ∧ PoS b W (ta ++ as) σ' Fz' H'' D (forON i (turnS t s) m (k + 1) g') := fun {σ' H'' Fz' g'} br go5 po =>
            ⟨Fz', g', br, (go2.trans (go4.trans go5)).sub fun i z => by rcases List.mem_append.mp z with z | z <;> exact z, PoS.weak (as := ta ++ as) (PoS.sub po fun i z => by
              rcases List.mem_append.mp z with z | z <;> exact z) (go4.trans go5)⟩
          cases hs3 : s g3 with
          | nx g' => rw [hs3] at h2; exact fun σ' H'' Fz' br go5 => fin br go5 h2
          | ct g' => rw [hs3] at h2; exact fun σ' H'' Fz' br go5 => fin br go5 h2
          | bk g' => rw [hs3] at h2; exact fun σ' H'' Fz' br go5 => h2 σ' H'' Fz' br (go4.trans go5)
          | rt d' g' => rw [hs3] at h2; exact h2
          | rf d' g' => rw [hs3] at h2; exact h2
          | ex e' g' => rw [hs3] at h2; exact fun σ' cl dx H'' Fz' br go5 ok => h2 σ' cl dx H'' Fz' br (go4.trans go5) ok
          | no => rw [hs3] at h2; exact h2.elim
    | _ => rw [hg2] at h2; exact h2.elim
  | _ => rw [hgi] at h; exact h.elim

/-! ### while -/
def whileN (c : FB) (s : FS) : Nat → FS
  | 0, _ => .no
  | n + 1, g => (c g).sb fun k g1 => if k = true then (match s g1 with
    | .nx g' => whileN c s n g'
    | .ct g' => whileN c s n g'
    | .bk g' => .nx g'
    | .rt d g' => .rt d g'
    | .rf d g' => .rf d g'
    | .ex e g' => .ex e g'
    | .no => .no) else .nx g1
theorem whileN_mono {c : FB} {s : FS} : ∀ {n m : Nat} {g : Sg}, n ≤ m → whileN c s n g ≠ .no → whileN c s m g = whileN c s n g
  | 0, _, _, _, h => absurd rfl h
  | n + 1, 0, _, h, _ => by omega
  | n + 1, m + 1, g, h, q => by
    unfold whileN at q ⊢
    cases hc : c g with
    | no => rfl
    | ex e g1 => rfl
    | ok k g1 =>
      rw [hc] at q
      simp only [R.sb_ok] at q ⊢
      by_cases hk : k = true
      · rw [if_pos hk] at q
        rw [if_pos hk, if_pos hk]
        cases hs : s g1 with
        | nx g' => rw [hs] at q; exact whileN_mono (Nat.le_of_succ_le_succ h) q
        | ct g' => rw [hs] at q; exact whileN_mono (Nat.le_of_succ_le_succ h) q
        | _ => rfl
      · rw [if_neg hk, if_neg hk]
noncomputable def whileS (c : FB) (s : FS) : FS := fun g => byFuel fun n => whileN c s n g
theorem whileS_eq {c : FB} {s : FS} {g : Sg} {n : Nat} {r : RS} (h : whileN c s n g = r) (hr : r ≠ .no) : whileS c s g = r := by
  unfold whileS
  rw [byFuel_eq (fun n m l q => whileN_mono l q) (n := n) (by rw [h]; exact hr), h]
theorem pts_while {c : FB} {as : List Nat} (hp : PassesOwn (model X.prog X.w) X.A X.env X.xe) (hc : PT X e (tBo b W c)) (hb : PSs X body (tSt b W as s)) : PS X (.While e body [] pos) (tSt b W as (whileS c s)) := ps_mono (ps_while hp hc hb) fun D σ H ⟨Fz, g, r, h⟩ => by
  unfold whileS at h
  have hne : byFuel (fun n => whileN c s n g) ≠ .no := fun z => by rw [z] at h; exact h
  obtain ⟨N, hN⟩ := byFuel_ex hne
  rw [hN] at h
  clear hN hne
  refine ⟨fun m σ' H' => ∃ Fz' g', BRel b Fz' g' σ' H' ∧ PoS b W as σ' Fz' H' D (whileN c s m g'), ⟨N, Fz, g, r, h⟩, ?_⟩
  rintro m σ2 H2 ⟨Fz2, g2, r2, h2⟩
  cases m with
  | zero => exact h2.elim
  | succ m =>
  unfold whileN at h2
  refine tG_st r2 h2 fun k x g3 Fz3 H3 r3 e3 rep h3 => ?_
  have rep' : x = k := rep
  subst rep'
  cases x with
  | false => exact h3 σ2 H3 Fz3 r3 .refl
  | true =>
    simp only [if_true] at h3
    rw [if_pos rfl]
    refine ⟨fun σ' H' => ∃ Fz' g', BRel b Fz' g' σ' H' ∧ PoS b W as σ' Fz' H' D (whileN c s m g'), fun σ' H' q => ⟨m, Nat.lt_succ_self m, q⟩, Fz3, g3, r3, ?_⟩
    have fin : ∀ {σ' : L2.St} {H'' : Hp} {Fz' : Fzn} {g' : Sg}, BRel b Fz' g' σ' H'' → Go as σ2 Fz3 H3 σ' Fz' H'' → PoS b W as σ2 Fz3 H3 D (whileN c s m g') → ∃ Fz' g', BRel b Fz' g' σ' H'' ∧ PoS b W as σ' Fz' H'' D (whileN c s m g') := fun {σ' H'' Fz' g'} br go5 po =>
      ⟨Fz', g', br, PoS.weak (as := as) (PoS.sub po fun i z => by rcases List.mem_append.mp z with z | z <;> exact z) go5⟩
    cases hs3 : s g3 with
    | nx g' => rw [hs3] at h3; exact fun σ' H'' Fz' br go5 => fin br go5 h3
    | ct g' => rw [hs3] at h3; exact fun σ' H'' Fz' br go5 => fin br go5 h3
    | bk g' => rw [hs3] at h3; exact fun σ' H'' Fz' br go5 => h3 σ' H'' Fz' br go5
    | rt d' g' => rw [hs3] at h3; exact h3
    | rf d' g' => rw [hs3] at h3; exact h3
    | ex e' g' => rw [hs3] at h3; exact fun σ' cl dx H'' Fz' br go5 ok => h3 σ' cl dx H'' Fz' br go5 ok
    | no => rw [hs3] at h3; exact h3.elim
end
end DL

set_option Elab.async false
set_option linter.all false
set_option maxRecDepth 100000
set_option maxHeartbeats 4000000
/-! Den8: list comprehensions. -/
namespace DL
open PySem L2 PySem.Spec PyProof.Rows

section
variable {b : B} {W : WX} {Fz Fz' : Fzn} {g g' : Sg} {σ σ' : L2.St} {H H' : Hp}
/-- other slots' values where nothing is known -/
theorem BRel.congr (hx : b.px = none) (r : BRel b Fz g σ H) (hl : σ'.length = σ.length) (h : ∀ (i : Nat) (s : S), g[i]? = some s → s ≠ .un → σ'[i]? = σ[i]?) : BRel b Fz g σ' H := by
  have ow : ∀ {i a}, Own g σ' i a → Own g σ i a := fun {i a} ⟨⟨s, e, w⟩, q⟩ => ⟨⟨s, e, w⟩, by rw [← h i s e (fun z => by rw [z] at w; cases w)]; exact q⟩
  refine ⟨r.gr, ⟨by rw [hl]; exact r.rel.len, fun i s e => ?_, fun i j a p q => r.rel.apart i j a (ow p) (ow q)⟩, fun i a q => r.own i a (ow q), fun i a l q => r.pin i a l (ow q), fun i a h => by rw [hx] at h; cases h⟩
  have z := r.slot e
  by_cases c : s = .un
  · subst c; trivial
  · rw [h i s e c]; exact z
def wipeG (g : Sg) : List Nat → Sg
  | [] => g
  | v :: vs => (wipeG g vs).set v .un
theorem BRel.wipeG (r : BRel b Fz g σ H) : ∀ vs : List Nat, BRel b Fz (DL.wipeG g vs) σ H
  | [] => r
  | v :: vs => (BRel.wipeG r vs).forget v
theorem wipeG_length {g : Sg} : ∀ {vs : List Nat}, (wipeG g vs).length = g.length
  | [] => rfl
  | v :: vs => by unfold wipeG; rw [List.length_set, wipeG_length]
theorem wipeG_get {g : Sg} {i : Nat} {s : S} : ∀ {vs : List Nat}, (wipeG g vs)[i]? = some s → s ≠ .un → i ∉ vs
  | [], _, _ => by simp
  | v :: vs, h, n => by
    unfold wipeG at h
    rcases gset_get h with ⟨_, e⟩ | ⟨e, h⟩
    · exact absurd e n
    · rw [List.mem_cons, not_or]; exact ⟨e, wipeG_get h n⟩
theorem wipe_out {σ : L2.St} {i : Nat} : ∀ {vs : List Nat}, i ∉ vs → (wipe σ vs)[i]? = σ[i]?
  | [], _ => rfl
  | v :: vs, h => by
    rw [List.mem_cons, not_or] at h
    unfold wipe
    rw [List.getElem?_set_ne (fun z => h.1 z.symm)]
    exact wipe_out h.2
theorem wipe_in {σ : L2.St} {i : Nat} : ∀ {vs : List Nat}, i ∈ vs → i < σ.length → (wipe σ vs)[i]? = some none
  | v :: vs, h, hl => by
    unfold wipe
    by_cases e : v = i
    · subst e
      exact List.getElem?_set_self (by rw [wipe_length]; exact hl)
    · rw [List.getElem?_set_ne e]
      rcases List.mem_cons.mp h with q | q
      · exact absurd q.symm e
      · exact wipe_in q hl
theorem wipe_eq {σ σ' : L2.St} {vs : List Nat} (hl : σ'.length = σ.length) (h : ∀ i, i ∉ vs → σ'[i]? = σ[i]?) : wipe σ' vs = wipe σ vs := by
  apply List.ext_getElem?
  intro i
  by_cases c : i ∈ vs
  · by_cases l : i < σ.length
    · rw [wipe_in c l, wipe_in c (by omega)]
    · rw [List.getElem?_eq_none (by rw [wipe_length]; omega), List.getElem?_eq_none (by rw [wipe_length]; omega)]
  · rw [wipe_out c, wipe_out c, h i c]
theorem wipe_wipe {σ : L2.St} {vs : List Nat} : wipe (wipe σ vs) vs = wipe σ vs := wipe_eq (wipe_length ..) fun i h => wipe_out h
theorem BRel.wipe (hx : b.px = none) (r : BRel b Fz g σ H) (vs : List Nat) : BRel b Fz (DL.wipeG g vs) (L2.wipe σ vs) H := (r.wipeG vs).congr hx (wipe_length ..) fun i s e n => wipe_out (wipeG_get e n)
theorem BRel.unwipe {vs : List Nat} (hx : b.px = none) (r : BRel b Fz (DL.wipeG g vs) σ' H) (hl : σ'.length = σ.length) (h : ∀ i, i ∉ vs → σ'[i]? = σ[i]?) : BRel b Fz (DL.wipeG g vs) σ H := r.congr hx hl.symm fun i s e n => (h i (wipeG_get e n)).symm

/-! ### a new base -/
/-- the values of own slots alone -/
def maskO : Sg → L2.St → L2.St
  | s :: g, o :: σ => (if s.isOw = true then o else none) :: maskO g σ
  | _, _ => []
theorem maskO_get : ∀ {g : Sg} {σ : L2.St} {i : Nat} {x : V}, (maskO g σ)[i]? = some (some x) → (∃ s, g[i]? = some s ∧ s.isOw = true) ∧ σ[i]? = some (some x)
  | [], _, _, _, h => by simp [maskO] at h
  | _ :: _, [], _, _, h => by simp [maskO] at h
  | s :: g, o :: σ, 0, x, h => by
    unfold maskO at h
    by_cases c : s.isOw = true
    · rw [if_pos c] at h
      exact ⟨⟨s, rfl, c⟩, by simpa using h⟩
    · rw [if_neg c] at h
      simp at h
  | s :: g, o :: σ, i + 1, x, h => by
    obtain ⟨⟨t, h1, h2⟩, h3⟩ := maskO_get (g := g) (σ := σ) (i := i) (by simpa [maskO] using h)
    exact ⟨⟨t, by simpa using h1, h2⟩, by simpa using h3⟩
theorem maskO_own : ∀ {g : Sg} {σ : L2.St} {i : Nat} {a : Addr}, Own g σ i a → (maskO g σ)[i]? = some (some (.ref a))
  | [], _, _, _, ⟨⟨s, e, _⟩, _⟩ => by simp at e
  | _ :: _, [], _, _, ⟨_, e⟩ => by simp at e
  | s :: g, o :: σ, 0, a, ⟨⟨t, e, w⟩, q⟩ => by
    have e' : s = t := by simpa using e
    subst e'
    unfold maskO
    rw [if_pos w]
    simpa using q
  | s :: g, o :: σ, i + 1, a, ⟨⟨t, e, w⟩, q⟩ => by
    unfold maskO
    rw [List.getElem?_cons_succ]
    exact maskO_own ⟨⟨t, by simpa using e, w⟩, by simpa using q⟩
/-- all that stands now is the entry -/
def rebase (b : B) (Fz : Fzn) (g : Sg) (σ : L2.St) (H : Hp) : B := ⟨b.M, H, Fz, fun a => ∃ i, Own g σ i a, g.length, maskO g σ, none⟩
theorem BRel.rebase (r : BRel b Fz g σ H) : BRel (rebase b Fz g σ H) Fz g σ H where
  gr := ⟨r.gr.dom, fun _ h => h, fun _ h => .inl h, fun _ _ h _ => h, fun a ⟨i, h⟩ => by
    obtain ⟨s, u, _, nf, hu, _⟩ := r.there h
    exact ⟨⟨u, hu⟩, nf, u, hu⟩⟩
  rel := r.rel
  own := fun i a h => .inl ⟨by
    obtain ⟨⟨s, e, _⟩, _⟩ := h
    exact (List.getElem?_eq_some_iff.mp e).1, i, h⟩
  pin := fun i a _ h => maskO_own h
  px := fun _ _ h => nomatch h
theorem BRel.debase (hx : b.px = none) (r : BRel b Fz g σ H) (r2 : BRel (DL.rebase b Fz g σ H) Fz' g' σ' H') (hl : g'.length = g.length) : BRel b Fz' g' σ' H' := by
  have own2 : ∀ {i a}, Own g' σ' i a → Own g σ i a := fun {i a} o => by
    obtain ⟨⟨s, e, w⟩, q⟩ := o
    have hi : i < g.length := by rw [← hl]; exact (List.getElem?_eq_some_iff.mp e).1
    have z := r2.pin i a hi ⟨⟨s, e, w⟩, q⟩
    exact maskO_get z
  refine ⟨⟨r2.gr.dom, fun a h => r2.gr.fz a (r.gr.fz a h), fun a h => ?_, fun a o h n => ?_, fun a h => ?_⟩, r2.rel, fun i a o => r.own i a (own2 o), fun i a l o => r.pin i a l (own2 o), fun i a h => by rw [hx] at h; cases h⟩
  · rcases r2.gr.new a h with z | z
    · exact r.gr.new a z
    · exact .inr (r.new0 z)
  · refine r2.gr.fr a o (r.gr.fr a o h n) fun ⟨i, z⟩ => ?_
    rcases r.own i a z with ⟨_, y⟩ | ⟨_, y⟩
    · exact n y
    · rw [h] at y; cases y
  · obtain ⟨⟨o, z⟩, y⟩ := r.gr.oa a h
    refine ⟨?_, y⟩
    by_cases c : ∃ i, Own g σ i a
    · exact (r2.gr.oa a c).1
    · exact ⟨o, r2.gr.fr a o z c⟩
/-- a new object that no slot has is changed -/
theorem BRel.updNew (r : BRel b Fz g σ H) {p : Addr} {u u' : HO} (h0 : b.H0 p = none) (hf : ¬ Fz p) (ho : ∀ i, ¬ Own g σ i p) (hu : H p = some u) (hm : Mut (some u)) : BRel b Fz g σ (upd H p u') ∧ Ext Fz H Fz (upd H p u') := by
  have ne : ∀ x o, H x = some o → (Fz x ∨ ¬ Mut (some o)) → upd H p u' x = some o := fun x o hx q => by
    rw [upd_ne]
    · exact hx
    · intro z
      subst z
      rcases q with q | q
      · exact hf q
      · rw [hu] at hx; cases hx; exact q hm
  have ex : Ext Fz H Fz (upd H p u') := ⟨fun _ q => q, ne⟩
  have some' : ∀ x o, H x = some o → ∃ o', upd H p u' x = some o' := fun x o hx => by
    by_cases c : x = p
    · subst c; exact ⟨u', upd_same⟩
    · exact ⟨o, by rw [upd_ne c]; exact hx⟩
  refine ⟨⟨⟨fun a h => ?_, r.gr.fz, r.gr.new, fun a o h n => ?_, fun a h => ?_⟩, ⟨r.rel.len, fun i s e => ?_, r.rel.apart⟩, r.own, r.pin, r.px⟩, ex⟩
  · obtain ⟨o, z⟩ := r.gr.dom a h
    exact some' a o z
  · rw [upd_ne]
    · exact r.gr.fr a o h n
    · intro z; subst z; rw [h0] at h; cases h
  · obtain ⟨⟨o, z⟩, y⟩ := r.gr.oa a h
    exact ⟨some' a o z, y⟩
  · have z := r.slot e
    by_cases ht : s.isOw = true
    · obtain ⟨x, o, e3, n3, h3, w3⟩ := z.own ht
      have hx : x ≠ p := fun y => by subst y; exact ho i ⟨⟨s, e, ht⟩, e3⟩
      exact SlotOk.of_own e3 n3 (by rw [upd_ne hx]; exact h3) (w3.mono ex)
    · cases s with
      | un => trivial
      | v d => obtain ⟨x, e3, r3⟩ := z; exact ⟨x, e3, Rep.mono ex d x r3⟩
      | _ => exact absurd rfl ht
end

/-! ### the comprehension -/
def keep? {α : Type} (r : R α) (n : Nat) (k : α → Sg → R (List D)) : R (List D) := match r with
  | .ok a g => if g.length = n then k a g else .no
  | _ => .no
def lcL (t : Tgt) (c : FB) (e : FE) (vs : List Nat) : List D → List D → Sg → R (List D)
  | [], acc, g => .ok acc g
  | d :: ds, acc, g => match t d g with
    | none => .no
    | some g1 => keep? (c g1) g1.length fun k g2 => if k = true then keep? (e g2) g1.length fun y g3 => lcL t c e vs ds (acc ++ [y]) (wipeG g3 vs) else lcL t c e vs ds acc (wipeG g2 vs)
def lcF (fi : FI) (t : Tgt) (c : FB) (e : FE) (vs : List Nat) : FF := fun g => (fi g).bd fun items g1 => if items.length ≤ sizeLine then lcL t c e vs items [] (wipeG g1 vs) else .no
def yesB : FB := fun g => .ok true g
section
variable {X : Cx} {b : B} {W : WX} {elt tg iter : Expr} {ifs : List Expr} {scope : Scope} {own : List (Str × Nat)} {pos : Pos} {fi : FI} {t : Tgt} {fc : FB} {fe : FE} {ta : List Nat}
abbrev W0 : WX := fun _ _ _ _ => False
theorem pts_nilD {X : Cx} {b : B} {W : WX} : PTs X [] (tBo b W yesB) := ⟨fun pins s σ H Q I ⟨Fz, g, r, h⟩ => pts_nil.run pins s σ H Q I (h true H Fz r .refl rfl)⟩
theorem pts_oneD {X : Cx} {b : B} {W : WX} {c : Expr} {fb : FB} (h : PT X c (tBo b W fb)) : PTs X [c] (tBo b W fb) := pts_one h
theorem fr_len {b : B} {Fz Fz2 : Fzn} {g g2 : Sg} {σ : L2.St} {H H2 : Hp} (r : BRel b Fz g σ H) (r2 : BRel b Fz2 g2 σ H2) : g2.length = g.length := by rw [r2.rel.len, r.rel.len]
theorem lc_run (hx : b.px = none) {σ : L2.St} {H : Hp} {Q : VK} {vs : List Nat} (hta : ∀ i ∈ ta, i ∈ vs) (h : tFr b W (lcF fi t fc fe vs) σ H Q) :
    tLc (tI b W fi) (fun v σ' H' Q' => ∃ b', (b'.M = b.M ∧ b'.px = none) ∧ gD b' ta t v σ' H' Q') (fun σ' H' Q' => ∃ b', (b'.M = b.M ∧ b'.px = none) ∧ tBo b' W0 fc σ' H' Q') (fun σ' H' Q' => ∃ b', (b'.M = b.M ∧ b'.px = none) ∧ tE b' W0 fe σ' H' Q') vs σ H Q := by
  obtain ⟨Fz, g, r, h⟩ := h
  refine tG_seq r h fun items J g1 Fz1 H1 r1 e1 src h1 => ?_
  have src' : SrcOk b J Fz1 H1 items := src
  by_cases hlen : items.length ≤ sizeLine
  rotate_left
  · rw [if_neg hlen] at h1; exact h1.elim
  rw [if_pos hlen] at h1
  intro D hD
  have hD0 := r1.new0 hD
  have rA : BRel b Fz1 (DL.wipeG g1 vs) (wipe σ vs) (upd H1 D (.lst [])) := (r1.alloc hD).wipe hx vs
  have nO : ∀ {g : Sg} {σ' : L2.St}, (∀ i a, Own g σ' i a → ∃ u, H1 a = some u) → ∀ i, ¬ Own g σ' i D := fun k i o => by
    obtain ⟨u, hu⟩ := k i D o
    rw [hD] at hu; cases hu
  have rA0 : ∀ i, ¬ Own (DL.wipeG g1 vs) (wipe σ vs) i D := fun i o => by
    have r1w := r1.wipe hx vs
    obtain ⟨s, u, _, _, hu, _⟩ := r1w.there o
    rw [hD] at hu; cases hu
  refine ⟨fun k m H' => m = items.length - k ∧ k ≤ items.length ∧ ∃ Fz' g' acc av, BRel b Fz' g' (wipe σ vs) H' ∧ DL.wipeG g' vs = g' ∧ Ext Fz1 H1 Fz' H' ∧ ¬ Fz' D ∧ H' D = some (.lst av) ∧ (∀ i, ¬ Own g' (wipe σ vs) i D) ∧ RepL b.M Fz' H' acc av ∧ acc.length ≤ k ∧
    Po b W (bF b) σ Fz' H' (fun x _ _ H' _ => Q x H') (lcL t fc fe vs (items.drop k) acc g'), ⟨_, rfl, Nat.zero_le _, Fz1, _, [], [], rA, ?_, (GrowTo.alloc hD).ext, r1.notFz hD, upd_same, rA0, RepL.nil, Nat.zero_le _, by rw [List.drop_zero]; exact h1.weak (GrowTo.alloc hD).ext⟩, ?_⟩
  · have ww : ∀ (vs : List Nat) (g : Sg), (∀ i ∈ vs, ∀ s, g[i]? = some s → s = .un) → DL.wipeG g vs = g := fun vs => by
      induction vs with
      | nil => intro g _; rfl
      | cons v vs ih =>
        intro g hg
        unfold DL.wipeG
        rw [ih g fun i hi => hg i (List.mem_cons_of_mem _ hi)]
        apply List.ext_getElem?
        intro i
        by_cases c : v = i
        · subst c
          by_cases l : v < g.length
          · rw [List.getElem?_set_self l]
            have := hg v List.mem_cons_self g[v] (by simp [l])
            simp [l, this]
          · rw [List.getElem?_eq_none (by rw [List.length_set]; omega), List.getElem?_eq_none (by omega)]
        · rw [List.getElem?_set_ne c]
    refine ww vs _ fun i hi s hs => ?_
    refine Classical.byContradiction fun n => ?_
    exact wipeG_get hs n hi
  rintro k m H2 ⟨rfl, hk, Fz2, g2, acc, av, r2, w2, e2, nf2, hD2, no2, rep2, hacc, h2⟩
  obtain ⟨go, stop⟩ := src' Fz2 H2 e2 r2.gr.dom
  by_cases hlt : k < items.length
  · refine .inr ?_
    have hd : items[k]? = some items[k] := by simp [hlt]
    obtain ⟨g0, yl⟩ := go k _ hd
    rw [List.drop_eq_getElem_cons hlt] at h2
    generalize hdk : items[k] = d at h2 hd yl
    refine ⟨g0, fun H' => ∃ Fz' g' acc av, BRel b Fz' g' (wipe σ vs) H' ∧ DL.wipeG g' vs = g' ∧ Ext Fz1 H1 Fz' H' ∧ ¬ Fz' D ∧ H' D = some (.lst av) ∧ (∀ i, ¬ Own g' (wipe σ vs) i D) ∧ RepL b.M Fz' H' acc av ∧ acc.length ≤ k + 1 ∧
      Po b W (bF b) σ Fz' H' (fun x _ _ H' _ => Q x H') (lcL t fc fe vs (items.drop (k + 1)) acc g'), fun H' q => ⟨_, by omega, rfl, hlt, q⟩, fun x H' y => ?_⟩
    obtain ⟨Fz3, gt, repd⟩ := yl x H' y
    have r3 := r2.grow gt
    have nf3 : ¬ Fz3 D := fun z => by
      rcases gt.new D z with z | ⟨z, _⟩
      · exact nf2 z
      · rw [hD2] at z; cases z
    have hD3 : H' D = some (.lst av) := gt.st _ _ hD2
    unfold lcL at h2
    cases ht : t d g2 with
    | none => rw [ht] at h2; exact h2.elim
    | some g3 =>
      rw [ht] at h2
      simp only at h2
      refine ⟨DL.rebase b Fz3 g2 (wipe σ vs) H', ⟨rfl, rfl⟩, Fz3, g2, d, g3, r3.rebase, repd, ht, fun σ4 r4 h4 hl => ⟨(wipe_eq hl fun i hi => h4 i fun z => hi (hta i z)).trans wipe_wipe, ?_⟩⟩
      -- the base of this turn
      generalize hb' : DL.rebase b Fz3 g2 (wipe σ vs) H' = b' at r4
      have hM' : b'.M = b.M := by rw [← hb']; rfl
      have hpx' : b'.px = none := by rw [← hb']; rfl
      have hH0 : b'.H0 = H' := by rw [← hb']; rfl
      have hOA : ∀ a, b'.OA a → ∃ i, Own g2 (wipe σ vs) i a := fun a z => by rw [← hb'] at z; exact z
      have hnOA : ¬ b'.OA D := fun z => by obtain ⟨i, z⟩ := hOA D z; exact no2 i z
      have hnp : b'.np = g2.length := by rw [← hb']; rfl
      have lg3 : g3.length = g2.length := by rw [r4.rel.len, hl, r3.rel.len]
      have back : ∀ {Fz' : Fzn} {g' : Sg} {H'' : Hp}, BRel b' Fz' g' σ4 H'' → BRel b Fz' (DL.wipeG g' vs) (wipe σ vs) H'' ∧ H'' D = some (.lst av) ∧ ¬ Fz' D ∧ ∀ i, ¬ Own (DL.wipeG g' vs) (wipe σ vs) i D := fun {Fz' g' H''} br => by
        have lg' : g'.length = g2.length := (fr_len r4 br).trans lg3
        have rb := br
        rw [← hb'] at rb
        have rb2 := r3.debase hx rb lg'
        have kD : H'' D = some (.lst av) := br.gr.fr D _ (by rw [hH0]; exact hD3) hnOA
        have nfD : ¬ Fz' D := fun z => by
          rcases br.gr.new D z with z | z
          · have : Fz3 D := by rw [← hb'] at z; exact z
            exact nf3 this
          · rw [hH0, hD3] at z; cases z
        have bw : BRel b Fz' (DL.wipeG g' vs) (wipe σ vs) H'' := (rb2.wipeG vs).unwipe hx (hl.trans rfl) fun i hi => h4 i fun z => hi (hta i z)
        refine ⟨bw, kD, nfD, fun i o => ?_⟩
        -- an own slot of g' is an argument of the base
        obtain ⟨⟨s, e, w⟩, q⟩ := o
        have ni : i ∉ vs := wipeG_get e fun z => by rw [z] at w; cases w
        have e' : g'[i]? = some s := by
          have key : ∀ (vs : List Nat), i ∉ vs → (DL.wipeG g' vs)[i]? = g'[i]? := fun vs => by
            induction vs with
            | nil => intro _; rfl
            | cons v vs ih =>
              intro h
              rw [List.mem_cons, not_or] at h
              unfold DL.wipeG
              rw [List.getElem?_set_ne (fun z => h.1 z.symm)]
              exact ih h.2
          rw [← key vs ni]; exact e
        have q' : σ4[i]? = some (some (V.ref D)) := by rw [h4 i fun z => ni (hta i z)]; exact q
        have hi : i < b'.np := by rw [hnp, ← lg']; exact (List.getElem?_eq_some_iff.mp e').1
        rcases br.own i D ⟨⟨s, e', w⟩, q'⟩ with ⟨_, z⟩ | ⟨z, _⟩
        · exact hnOA z
        · omega
      have wipe2 : ∀ g' : Sg, DL.wipeG (DL.wipeG g' vs) vs = DL.wipeG g' vs := fun g' => by
        have ww : ∀ (us : List Nat) (g : Sg), (∀ i ∈ us, ∀ s, g[i]? = some s → s = .un) → DL.wipeG g us = g := fun us => by
          induction us with
          | nil => intro g _; rfl
          | cons v us ih =>
            intro g hg
            unfold DL.wipeG
            rw [ih g fun i hi => hg i (List.mem_cons_of_mem _ hi)]
            apply List.ext_getElem?
            intro i
            by_cases c : v = i
            · subst c
              by_cases l : v < g.length
              · rw [List.getElem?_set_self l]
                have := hg v List.mem_cons_self g[v] (by simp [l])
                simp [l, this]
              · rw [List.getElem?_eq_none (by rw [List.length_set]; omega), List.getElem?_eq_none (by omega)]
            · rw [List.getElem?_set_ne c]
        exact ww vs _ fun i hi s hs => Classical.byContradiction fun n => wipeG_get hs n hi
      refine ⟨b', ⟨hM', hpx'⟩, Fz3, g3, r4, ?_⟩
      unfold keep? at h2
      cases hc : fc g3 with
      | no => rw [hc] at h2; exact h2.elim
      | ex ee g4 => rw [hc] at h2; exact h2.elim
      | ok kk g4 =>
        rw [hc] at h2
        simp only at h2
        split at h2
        rotate_left
        · exact h2.elim
        rename_i lg4
        intro kx H4 Fz4 r5 e5 hkx
        have hkx' : kx = kk := hkx
        subst hkx'
        cases kx with
        | false =>
          simp only [Bool.false_eq_true, if_false] at h2 ⊢
          obtain ⟨b1, b2, b3, b4⟩ := back r5
          exact ⟨Fz4, _, acc, av, b1, wipe2 _, e2.trans (gt.ext.trans e5), b3, b2, b4, RepL.mono (gt.ext.trans e5) _ _ rep2, by omega, h2.weak (gt.ext.trans e5)⟩
        | true =>
          simp only [if_true] at h2 ⊢
          refine ⟨b', ⟨hM', hpx'⟩, Fz4, g4, r5, ?_⟩
          cases he : fe g4 with
          | no => rw [he] at h2; exact h2.elim
          | ex ee g5 => rw [he] at h2; exact h2.elim
          | ok yd g5 =>
            rw [he] at h2
            simp only at h2
            split at h2
            rotate_left
            · exact h2.elim
            intro yv H5 Fz5 r6 e6 repy
            have repy' : Rep b.M Fz5 H5 yd yv := by rw [← hM']; exact repy
            obtain ⟨b1, b2, b3, b4⟩ := back r6
            have exA : Ext Fz2 H2 Fz5 H5 := gt.ext.trans (e5.trans e6)
            obtain ⟨b5, b6⟩ := b1.updNew (u' := .lst (av ++ [yv])) hD0 b3 b4 b2 trivial
            have lav : acc.length = av.length := RepL.length rep2
            refine ⟨av, b2, by omega, Fz5, _, acc ++ [yd], av ++ [yv], b5, wipe2 _, e2.trans (exA.trans b6), b3, upd_same, b4, RepL.append (RepL.mono (exA.trans b6) _ _ rep2) (RepL.cons (Rep.mono b6 _ _ repy') RepL.nil), by simp; omega, h2.weak (exA.trans b6)⟩
  · have e : k = items.length := by omega
    subst e
    rw [List.drop_length] at h2
    refine .inl ⟨stop, ?_⟩
    have r5 : BRel b Fz2 g2 σ H2 := by
      have z := r2
      rw [← w2] at z ⊢
      exact z.unwipe hx (wipe_length ..) fun i hi => wipe_out hi
    refine h2.ok r5 .refl ⟨D, av, rfl, hD0, nf2, hD2, fun i o => ?_, rep2⟩
    obtain ⟨⟨s, e, w⟩, q⟩ := o
    refine no2 i ⟨⟨s, e, w⟩, ?_⟩
    rw [wipe_out]
    · exact q
    · rw [← w2] at e
      exact wipeG_get e fun z => by rw [z] at w; cases w
theorem pf_lc {vs : List Nat} (hx : b.px = none) (hc : X.calm = true) (hN : X.N.Nodup) (hi : PI X tg iter (tI b W fi)) (ok : BlkOk X.N X.env.scope scope own) (hvs : own.map (·.2) = vs) (hta : ∀ i ∈ ta, i ∈ vs)
    (hg : ∀ (s : Shared) (H : Hp) (C : Addr) (cl : List (Str × Addr)) (fp : List Addr) (b' : B), b'.M = b.M → b'.px = none → PG (X.blk s H scope (compEnvC scope cl C X.env) fp) tg (gD b' ta t))
    (ht : ∀ (s : Shared) (H : Hp) (C : Addr) (cl : List (Str × Addr)) (fp : List Addr) (b' : B), b'.M = b.M → b'.px = none → PTs (X.blk s H scope (compEnvC scope cl C X.env) fp) ifs (tBo b' W0 fc))
    (he : ∀ (s : Shared) (H : Hp) (C : Addr) (cl : List (Str × Addr)) (fp : List Addr) (b' : B), b'.M = b.M → b'.px = none → PE (X.blk s H scope (compEnvC scope cl C X.env) fp) elt (tE b' W0 fe)) (hs : ∀ x, foldedSetIterable iter X.env x = pure x := by intro _; rfl) :
    PE X (.ListComp elt [⟨tg, iter, ifs, 0⟩] scope pos) (tFr b W (lcF fi t fc fe vs)) :=
  pe_mono (pe_lc (g := fun v σ' H' Q' => ∃ b', (b'.M = b.M ∧ b'.px = none) ∧ gD b' ta t v σ' H' Q') (tt := fun σ' H' Q' => ∃ b', (b'.M = b.M ∧ b'.px = none) ∧ tBo b' W0 fc σ' H' Q') (te := fun σ' H' Q' => ∃ b', (b'.M = b.M ∧ b'.px = none) ∧ tE b' W0 fe σ' H' Q') hc hN hi ok (fun s H C cl fp => ⟨fun pins s' σ H' v u Q I r ⟨b', hb, hw⟩ => (hg s H C cl fp b' hb.1 hb.2).run pins s' σ H' v u Q I r hw⟩) (fun s H C cl fp => ⟨fun pins s' σ H' Q I ⟨b', hb, hw⟩ => (ht s H C cl fp b' hb.1 hb.2).run pins s' σ H' Q I hw⟩)
    (fun s H C cl fp => ⟨fun pins s' σ H' Q I ⟨b', hb, hw⟩ => (he s H C cl fp b' hb.1 hb.2).run pins s' σ H' Q I hw⟩) hs) fun σ H Q h => by
    subst hvs
    exact lc_run hx hta h
/-- name = [..] on one line -/
theorem pts_asgLc {vs : List Nat} {i : Nat} {y : Str} {py spos : Pos} (hx : b.px = none) (hnp : b.np ≤ i) (hc : X.calm = true) (hN : X.N.Nodup) (hy : X.N[i]? = some y) (hyl : X.env.scope.names.lookup y = some .local)
    (hsw : swapsWith (.ListComp elt [⟨tg, iter, ifs, 0⟩] scope pos) (some (.Name y py)) spos.line X.env = pure true) (hi : PI X tg iter (tI b W fi)) (ok : BlkOk X.N X.env.scope scope own) (hvs : own.map (·.2) = vs) (hta : ∀ i ∈ ta, i ∈ vs)
    (hg : ∀ (s : Shared) (H : Hp) (C : Addr) (cl : List (Str × Addr)) (fp : List Addr) (b' : B), b'.M = b.M → b'.px = none → PG (X.blk s H scope (compEnvC scope cl C X.env) fp) tg (gD b' ta t))
    (ht : ∀ (s : Shared) (H : Hp) (C : Addr) (cl : List (Str × Addr)) (fp : List Addr) (b' : B), b'.M = b.M → b'.px = none → PTs (X.blk s H scope (compEnvC scope cl C X.env) fp) ifs (tBo b' W0 fc))
    (he : ∀ (s : Shared) (H : Hp) (C : Addr) (cl : List (Str × Addr)) (fp : List Addr) (b' : B), b'.M = b.M → b'.px = none → PE (X.blk s H scope (compEnvC scope cl C X.env) fp) elt (tE b' W0 fe)) (hs : ∀ x, foldedSetIterable iter X.env x = pure x := by intro _; rfl) :
    PS X (.Assign [.Name y py] (.ListComp elt [⟨tg, iter, ifs, 0⟩] scope pos) spos) (tSt b W [i] (asgO i (lcF fi t fc fe vs))) :=
  ps_mono (ps_setLc (g := fun v σ' H' Q' => ∃ b', (b'.M = b.M ∧ b'.px = none) ∧ gD b' ta t v σ' H' Q') (tt := fun σ' H' Q' => ∃ b', (b'.M = b.M ∧ b'.px = none) ∧ tBo b' W0 fc σ' H' Q') (te := fun σ' H' Q' => ∃ b', (b'.M = b.M ∧ b'.px = none) ∧ tE b' W0 fe σ' H' Q') hc hN hy hyl hsw hi ok (fun s H C cl fp => ⟨fun pins s' σ H' v u Q I r ⟨b', hb, hw⟩ => (hg s H C cl fp b' hb.1 hb.2).run pins s' σ H' v u Q I r hw⟩) (fun s H C cl fp => ⟨fun pins s' σ H' Q I ⟨b', hb, hw⟩ => (ht s H C cl fp b' hb.1 hb.2).run pins s' σ H' Q I hw⟩)
    (fun s H C cl fp => ⟨fun pins s' σ H' Q I ⟨b', hb, hw⟩ => (he s H C cl fp b' hb.1 hb.2).run pins s' σ H' Q I hw⟩) hs) fun D σ H ⟨Fz, g, r, h⟩ => by
    subst hvs
    refine lc_run hx hta (tG_st r h fun d x' g1 Fz1 H1 r1 _ rep h1 => ?_)
    obtain ⟨p, vs, rfl, h0, nf, hu, ho, rr⟩ := rep
    exact h1 _ H1 Fz1 (r1.setO (PxOk.of hx i) hnp h0 nf hu ho ⟨vs, rfl, rr⟩) .set
end
end DL

set_option Elab.async false
set_option linter.all false
set_option maxRecDepth 100000
set_option maxHeartbeats 4000000
/-! Den9: chains, slices, constants of the module, own lists changed, calls with keywords or without arguments. -/
namespace DL
open PySem L2 PySem.Spec PyProof.Rows

section
variable {X : Cx} {b : B} {W : WX} {e e1 e2 e3 : Expr} {es : List Expr} {f f1 f2 f3 fi fv : FE} {pos p : Pos}
/-! ### chains -/
theorem tE_chain {r r' : R2} {o o' : D → D → Option D} (ho : OpT b.M r o) (ho' : OpT b.M r' o') {σ : L2.St} {H : Hp} {Q : VK} (h : tE b W (chF o o' f1 f2 f3) σ H Q) : tChain r r' (tE b W f1) (tE b W f2) (tE b W f3) σ H Q := by
  obtain ⟨Fz, g, r0, h⟩ := h
  refine tG_seq r0 h fun d x g1 Fz1 H1 r1 e1 rep1 h1 => ?_
  refine tG_seq r1 h1 fun e y g2 Fz2 H2 r2 e2 rep2 h2 => ?_
  cases hz : o d e with
  | none => rw [hz] at h2; exact h2.elim
  | some z =>
    rw [hz] at h2
    simp only [opt_some, R.bd_ok] at h2
    refine ho r2.gr.dom (Rep.mono e2 d x rep1).t rep2.t hz fun v Fz' H' gr rv => ?_
    cases z with
    | bl c =>
      refine ⟨c, rep_bl' rv, ?_⟩
      cases c with
      | false =>
        simp only [Bool.false_eq_true, if_false] at h2 ⊢
        exact h2.ok (r2.grow gr) gr.ext rep_bl
      | true =>
        simp only [if_true] at h2 ⊢
        refine tG_seq (r2.grow gr) (h2.weak gr.ext) fun k w g4 Fz4 H4 r4 e4 rep4 h4 => ?_
        obtain ⟨z', ez, h5⟩ := h4.opt
        exact ho' r4.gr.dom (Rep.mono (gr.ext.trans e4) e y rep2).t rep4.t ez fun v Fz' H' gr rv => h5.ok (r4.grow gr) gr.ext rv
    | _ => exact h2.elim
theorem pd_chain {op op' : CmpOp} {r r' : R2} {o o' : D → D → Option D} (hr : OpR X (compareOp op) r) (hr' : OpR X (compareOp op') r') (ho : OpT b.M r o) (ho' : OpT b.M r' o') (h1 : PE X e1 (tE b W f1)) (h2 : PE X e2 (tE b W f2)) (h3 : PE X e3 (tE b W f3))
    (hm : lastMarks [op, op'] [e2, e3] = false := by with_unfolding_all rfl) : PE X (.Compare e1 [op, op'] [e2, e3] pos) (tE b W (chF o o' f1 f2 f3)) :=
  pe_mono (pe_chain hr hr' h1 h2 h3 hm) fun _ _ _ h => tE_chain ho ho' h
theorem pt_chainD {op op' : CmpOp} {r r' : R2} {o o' : D → D → Option D} (hr : OpR X (compareOp op) r) (hr' : OpR X (compareOp op') r') (ho : OpT b.M r o) (ho' : OpT b.M r' o') (h1 : PE X e1 (tE b W f1)) (h2 : PE X e2 (tE b W f2)) (h3 : PE X e3 (tE b W f3))
    (hm : lastMarks [op, op'] [e2, e3] = false := by with_unfolding_all rfl) : PT X (.Compare e1 [op, op'] [e2, e3] pos) (tBo b W (tstF (chF o o' f1 f2 f3))) :=
  pt_mono (pt_chain hr hr' h1 h2 h3 hm) fun σ H Q q => by
    obtain ⟨Fz, g, r0, h⟩ := q
    have z : tE b W (chF o o' f1 f2 f3) σ H (fun x H' => ∃ k, x = V.bl k ∧ Q k H') := tG_seq r0 h fun d x g1 Fz1 H1 r1 e1 rep1 h1 => by
      cases d with
      | bl c =>
        have rep' : x = .bl c := rep_bl' rep1
        exact ⟨c, rep', h1.ok r1 .refl rfl⟩
      | _ => exact h1.elim
    exact tE_chain ho ho' z

/-! ### slices -/
def partF (f : FE) : Sg → R (Option Int) := fun g => (f g).bd fun d g1 => match d with
  | .int i => .ok (some i) g1
  | _ => .no
def noPart : Sg → R (Option Int) := fun g => .ok none g
def bO : Bear (Option Int) (Option Int) := fun _ _ _ _ c x => x = c
variable (b W) in
abbrev tO (f : Sg → R (Option Int)) : TO := tG b W bO f
theorem po_mono {e : Option Expr} {t t' : TO} (h : PO X e t) (i : ∀ σ H Q, t' σ H Q → t σ H Q) : PO X e t' := ⟨fun pins s σ H Q I hw => h.run pins s σ H Q I (i _ _ _ hw)⟩
theorem pod_none : PO X none (tO b W noPart) := po_mono po_none fun σ H Q ⟨Fz, g, r, h⟩ => h none H Fz r .refl rfl
theorem pod_some (h : PE X e (tE b W f)) : PO X (some e) (tO b W (partF f)) := po_mono (po_some h) fun σ H Q ⟨Fz, g, r, q⟩ => tG_seq r q fun d x g1 Fz1 H1 r1 e1 rep h1 => by
  cases d with
  | int i => exact ⟨i, rep_int' rep, h1.ok r1 .refl rfl⟩
  | _ => exact h1.elim
def cut (xs : List D) (lo hi : Option Int) : List D := (xs.drop (HT.sIx xs.length 0 lo)).take (HT.sIx xs.length xs.length hi - HT.sIx xs.length 0 lo)
theorem cut_rep {M : MM} {Fz : Fzn} {H : Hp} {ds : List D} {vs : List V} (r : RepL M Fz H ds vs) (lo hi : Option Int) : RepL M Fz H (cut ds lo hi) (cutV vs lo hi) := by
  unfold cut cutV
  rw [RepL.length r]
  exact (r.drop _).take _
/-- a list's slice, new -/
def slcF (fa : Sg → R AV) (lo hi : Sg → R (Option Int)) : FF := fun g => (fa g).bd fun a g1 => (lo g1).bd fun l g2 => (hi g2).bd fun u g3 => match res g3 a with
  | some (.lst ds) => .ok (cut ds l u) g3
  | _ => .no
theorem pf_slc {fa : Sg → R AV} {lo hi : Option Expr} {fl fh : Sg → R (Option Int)} {p2 : Pos} (hM : b.M = ⟨X.K, X.mg⟩) (h : PE X e (tA1 b W fa)) (hl : PO X lo (tO b W fl)) (hh : PO X hi (tO b W fh)) : PE X (.Subscript e (.Slice lo hi none p2) pos) (tFr b W (slcF fa fl fh)) :=
  pe_mono (pe_slice sl_list h hl hh) fun σ H Q ⟨Fz, g, r, q⟩ => by
    refine tG_seq r q fun a x g1 Fz1 H1 r1 e1 rep1 h1 => ?_
    refine tG_seq r1 h1 fun l l' g2 Fz2 H2 r2 e2 rep2 h2 => ?_
    refine tG_seq r2 h2 fun u u' g3 Fz3 H3 r3 e3 rep3 h3 => ?_
    have el : l' = l := rep2
    have eu : u' = u := rep3
    subst el; subst eu
    cases hr : res g3 a with
    | none => rw [hr] at h3; exact h3.elim
    | some d =>
      rw [hr] at h3
      cases d with
      | lst ds =>
        have av : AVOk b σ Fz3 H3 g3 a x := rep1.mono (e2.trans e3) (resI_ok (res_I hr))
        obtain ⟨ad, vs, rfl, hq, rr⟩ := res_ok r3 av hr
        rw [hM] at hq
        refine ⟨ad, vs, rfl, hq, fun p hp => ?_⟩
        have gr : GrowTo Fz3 H3 Fz3 (upd H3 p (.lst (cutV vs l' u'))) := .alloc hp
        refine h3.ok (r3.grow gr) gr.ext ⟨p, _, rfl, r3.new0 hp, r3.notFz hp, upd_same, fun i o => ?_, cut_rep (rr.grow gr) _ _⟩
        exact (r3.notOwn hp) i o
      | _ => exact h3.elim
/-- a tuple's slice, not the whole -/
def sltF (f : FE) (lo hi : Sg → R (Option Int)) : FE := fun g => (f g).bd fun a g1 => (lo g1).bd fun l g2 => (hi g2).bd fun u g3 => match a with
  | .tup ds => if HT.sIx ds.length 0 l = 0 ∧ HT.sIx ds.length ds.length u = ds.length then .no else .ok (.tup (cut ds l u)) g3
  | _ => .no
theorem pd_slt {lo hi : Option Expr} {fl fh : Sg → R (Option Int)} {p2 : Pos} (hM : b.M = ⟨X.K, X.mg⟩) (h : PE X e (tE b W f)) (hl : PO X lo (tO b W fl)) (hh : PO X hi (tO b W fh)) : PE X (.Subscript e (.Slice lo hi none p2) pos) (tE b W (sltF f fl fh)) :=
  pe_mono (pe_slice sl_tup h hl hh) fun σ H Q ⟨Fz, g, r, q⟩ => by
    refine tG_seq r q fun a x g1 Fz1 H1 r1 e1 rep1 h1 => ?_
    refine tG_seq r1 h1 fun l l' g2 Fz2 H2 r2 e2 rep2 h2 => ?_
    refine tG_seq r2 h2 fun u u' g3 Fz3 H3 r3 e3 rep3 h3 => ?_
    have el : l' = l := rep2
    have eu : u' = u := rep3
    subst el; subst eu
    cases a with
    | tup ds =>
      simp only at h3
      by_cases c : HT.sIx ds.length 0 l' = 0 ∧ HT.sIx ds.length ds.length u' = ds.length
      · rw [if_pos c] at h3; exact h3.elim
      rw [if_neg c] at h3
      have rep' : Rep b.M Fz1 H1 (.tup ds) x := rep1
      unfold Rep at rep'
      obtain ⟨ad, vs, rfl, hq, rr⟩ := rep'
      rw [hM] at hq
      have hq3 := (e2.trans e3).sqT hq
      rw [RepL.length rr] at c
      refine ⟨ad, vs, rfl, hq3, c, fun p hp => ?_⟩
      have gr : GrowTo Fz3 H3 Fz3 (upd H3 p (.tup (cutV vs l' u'))) := .alloc hp
      exact h3.ok (r3.grow gr) gr.ext (rep_tupN (cut_rep (RepL.mono ((e2.trans e3).trans gr.ext) _ _ rr) _ _) .refl upd_same)
    | _ => exact h3.elim

/-! ### constants of the module -/
theorem pd_glob {x : Str} {u : Value} {v : V} {d : D} (hg : Gl X x) (hm : X.mg x = some u) (r : RelV v u) (hr : ∀ Fz H, Rep b.M Fz H d v) (hd : (x == ("__debug__" : Str)) = false := by decide) : PE X (.Name x pos) (tE b W (cF d)) := pd_c (pe_glob hg hm r hd) hr
/-- a tuple of the module -/
theorem rep_ktup {M : MM} {a : Addr} {od : Option Addr} {its : Array Value} {n : Nat} {sl : Array (Option Value)} {ds : List D} {vs : List V} (h : M.K.lookup a = some ⟨.type "tuple", od, .seq its n, sl⟩) (hz : its.size ≤ sizeLine) (rv : Vals vs its.toList) (r : ∀ Fz H, RepL M Fz H ds vs) (Fz : Fzn) (H : Hp) : Rep M Fz H (.tup ds) (.ref a) := by
  unfold Rep
  exact ⟨a, vs, rfl, .inr ⟨_, its, n, h, rfl, rfl, hz, rv⟩, r Fz H⟩

/-! ### own lists -/
/-- xs[i] = v -/
def setS (i : Nat) (fi fv : FE) : FS := fun g => (fv g).sb fun d g1 => match gat g1 i with
  | .ow _ => (fi g1).sb fun k g2 => match k, gat g2 i with
    | .int k, .ow ds => match ixN ds.length k with
      | some j => .nx (g2.set i (.ow (ds.set j d)))
      | none => .no
    | _, _ => .no
  | _ => .no
theorem own_of {σ : L2.St} {Fz : Fzn} {H : Hp} {g : Sg} {i : Nat} {ds : List D} (r : BRel b Fz g σ H) (hg : gat g i = .ow ds) : ∃ a vs, σ[i]? = some (some (.ref a)) ∧ Own g σ i a ∧ ¬ Fz a ∧ H a = some (.lst vs) ∧ RepL b.M Fz H ds vs := by
  have hgi := gat_get hg (by intro z; cases z)
  obtain ⟨a, u, e1, nf, hu, vs, eu, rep⟩ := r.slot hgi
  subst eu
  exact ⟨a, vs, e1, ⟨⟨_, hgi, rfl⟩, e1⟩, nf, hu, rep⟩
theorem BRel.mutL {σ : L2.St} {Fz : Fzn} {H : Hp} {g : Sg} {i : Nat} {a : Addr} {ds : List D} {vs : List V} (r : BRel b Fz g σ H) (o : Own g σ i a) (rr : RepL b.M Fz H ds vs) (nf : ¬ Fz a) (hu : ∃ ws, H a = some (.lst ws)) :
    BRel b Fz (g.set i (.ow ds)) σ (upd H a (.lst vs)) ∧ Ext Fz H Fz (upd H a (.lst vs)) := by
  refine ⟨r.mut o ⟨vs, rfl, rr⟩, fun _ q => q, fun x o hx q => ?_⟩
  rw [upd_ne]
  · exact hx
  · intro z
    subst z
    obtain ⟨ws, hw⟩ := hu
    rcases q with q | q
    · exact nf q
    · rw [hw] at hx; cases hx; exact q trivial
theorem pts_set {i : Nat} {o : Expr} {spos : Pos} (ho : PE X o (tVar i)) (h1 : PE X e1 (tE b W fi)) (h2 : PE X e2 (tE b W fv))
    (ha : ∀ v, assign (.Subscript o e1 pos) X.env v = (do
      let ov ← holding [v] (eval o X.env)
      let iv ← holding [v, ov] (eval e1 X.env)
      standAt pos
      holding [v, ov, iv] (setItem ov iv v)
      release [v, ov, iv] []) := by intro _; rfl) (hs : swapsWithSole [.Subscript o e1 pos] e2 spos.line X.env = pure false := by rfl) (hw : swappedStores [.Subscript o e1 pos] e2 X.env = pure none := by rfl)
    (h3 : (assignEach [.Subscript o e1 pos] X.env).map (·.2) = [assign (.Subscript o e1 pos) X.env] := by rfl) : PS X (.Assign [.Subscript o e1 pos] e2 spos) (tSt b W [] (setS i fi fv)) :=
  ps_mono (ps_asg h2 (pg_sub ho h1 set_list ha) hs hw h3) fun D σ H ⟨Fz, g, r, h⟩ => by
    refine tG_st r h fun d x g1 Fz1 H1 r1 ex1 rep h1 => ?_
    cases hg1 : gat g1 i with
    | ow ds0 =>
      rw [hg1] at h1
      simp only at h1
      obtain ⟨a, vs0, ea, _, _, _, _⟩ := own_of r1 hg1
      refine ⟨.ref a, ea, ?_⟩
      refine tG_st r1 h1 fun k y g2 Fz2 H2 r2 ex2 repk h2 => ?_
      cases k with
      | int k =>
        cases hg2 : gat g2 i with
        | ow ds =>
          rw [hg2] at h2
          simp only at h2
          obtain ⟨a2, vs, ea2, ow2, nf, hu, rr⟩ := own_of r2 hg2
          rw [ea] at ea2
          cases ea2
          cases hj : ixN ds.length k with
          | none => rw [hj] at h2; exact h2.elim
          | some j =>
            rw [hj] at h2
            simp only at h2
            obtain ⟨r3, ex3⟩ := r2.mutL ow2 (rr.set j (Rep.mono ex2 d x rep)) nf ⟨_, hu⟩
            exact ⟨a, vs, k, j, rfl, rep_int' repk, hu, by rw [← RepL.length rr]; exact hj, h2 _ _ _ r3 ⟨ex3, fun _ _ => rfl⟩⟩
        | _ => rw [hg2] at h2; exact h2.elim
      | _ => exact h2.elim
    | _ => rw [hg1] at h1; exact h1.elim
/-- methods of own lists -/
def apF (i : Nat) (f : FE) : FE := fun g => match gat g i with
  | .ow _ => (f g).bd fun d g1 => match gat g1 i with
    | .ow ds => if ds.length < sizeLine then .ok .non (g1.set i (.ow (ds ++ [d]))) else .no
    | _ => .no
  | _ => .no
theorem one_ofA {α : Type} {xs : List α} {a c : α} (h : xs[0]? = some a) (h1 : xs.length = 1) : xs = [a] := by
  match xs, h1 with
  | [z], _ => simpa using h
theorem pd_append {i : Nat} {o : Expr} {apos : Pos} (ho : PE X o (tVar i)) (h1 : PE X e (tE b W f)) (hbase : attributeBase o "append" X.env (eval o X.env) = eval o X.env := by rfl)
    (hfew : ((backTo pos (starEach (e :: []) X.env)).all (fun x => !x.1) && (backToKw pos (keywordEach [] X.env)).all (fun x => x.1.isSome)
      && decide ((e :: []).length + ([] : List Keyword).length + (if ([] : List Keyword).isEmpty then 0 else 1) < 30)) = true := by rfl)
    (hline : (apos.endLine == pos.line) = true := by rfl) (hs : starEach (e :: []) X.env = (false, eval e X.env) :: starEach [] X.env := by rfl) (hplain : (backTo pos (starEach [] X.env)).any (·.1) = false := by rfl) :
    PE X (.Call (.Attribute o "append" apos) [e] [] pos) (tE b W (apF i f)) :=
  pe_mono (pe_bm PySem.F.plainAttrs_list PySem.F.slot_list_append PySem.F.type_list_append mt_append ho (pa_cons h1 pa_nil hs) hbase hfew hline hs hplain) fun σ H Q ⟨Fz, g, r, h⟩ => by
    unfold apF at h
    cases hg : gat g i with
    | ow ds0 =>
      rw [hg] at h
      simp only at h
      obtain ⟨a, vs0, ea, _, _, hu0, _⟩ := own_of r hg
      refine ⟨.ref a, ea, .inl ⟨rfl, _, .inl (.inl hu0)⟩, ?_⟩
      refine tG_seq r h fun d x g1 Fz1 H1 r1 ex1 rep h1 => ?_
      cases hg1 : gat g1 i with
      | ow ds =>
        rw [hg1] at h1
        simp only at h1
        by_cases c : ds.length < sizeLine
        · rw [if_pos c] at h1
          obtain ⟨a2, vs, ea2, ow2, nf, hu, rr⟩ := own_of r1 hg1
          rw [ea] at ea2
          cases ea2
          obtain ⟨r3, ex3⟩ := r1.mutL ow2 (rr.append (RepL.cons rep RepL.nil)) nf ⟨_, hu⟩
          exact ⟨a, vs, x, rfl, rfl, hu, by rw [← RepL.length rr]; exact c, h1.ok r3 ex3 rep_non⟩
        · rw [if_neg c] at h1; exact h1.elim
      | _ => rw [hg1] at h1; exact h1.elim
    | _ => rw [hg] at h; exact h.elim
def popF (i : Nat) : FE := fun g => match gat g i with
  | .ow ds => match ds[ds.length - 1]? with
    | some d => .ok d (g.set i (.ow ds.dropLast))
    | none => .no
  | _ => .no
theorem repL_dropLast {M : MM} {Fz : Fzn} {H : Hp} {ds : List D} {vs : List V} (r : RepL M Fz H ds vs) : RepL M Fz H ds.dropLast vs.dropLast := by
  rw [List.dropLast_eq_take, List.dropLast_eq_take, RepL.length r]
  exact r.take _
theorem pd_pop {i : Nat} {o : Expr} {apos : Pos} (ho : PE X o (tVar i)) (hbase : attributeBase o "pop" X.env (eval o X.env) = eval o X.env := by rfl) (hline : (apos.endLine == pos.line) = true := by rfl) :
    PE X (.Call (.Attribute o "pop" apos) [] [] pos) (tE b W (popF i)) :=
  pe_mono (pe_bm0 PySem.F.plainAttrs_list PySem.F.slot_list_pop PySem.F.type_list_pop mt_pop ho hbase hline) fun σ H Q ⟨Fz, g, r, h⟩ => by
    unfold popF at h
    cases hg : gat g i with
    | ow ds =>
      rw [hg] at h
      simp only at h
      obtain ⟨a, vs, ea, ow, nf, hu, rr⟩ := own_of r hg
      cases hd : ds[ds.length - 1]? with
      | none => rw [hd] at h; exact h.elim
      | some d =>
        rw [hd] at h
        obtain ⟨y, ey, ry⟩ := rr.get hd
        obtain ⟨r3, ex3⟩ := r.mutL ow (repL_dropLast rr) nf ⟨_, hu⟩
        exact ⟨.ref a, ea, .inl ⟨rfl, _, .inl (.inl hu)⟩, a, vs, y, rfl, rfl, hu, by rw [← RepL.length rr]; exact ey, h.ok r3 ex3 (Rep.mono ex3 d y ry)⟩
    | _ => rw [hg] at h; exact h.elim
/-- xs.extend(new list) -/
def exF (i : Nat) (f : FF) : FE := fun g => match gat g i with
  | .ow _ => (f g).bd fun es g1 => match gat g1 i with
    | .ow ds => if ds.length + es.length ≤ sizeLine then .ok .non (g1.set i (.ow (ds ++ es))) else .no
    | _ => .no
  | _ => .no
theorem pd_extend {i : Nat} {o : Expr} {apos : Pos} {f : FF} (ho : PE X o (tVar i)) (h1 : PE X e (tFr b W f)) (hbase : attributeBase o "extend" X.env (eval o X.env) = eval o X.env := by rfl)
    (hfew : ((backTo pos (starEach (e :: []) X.env)).all (fun x => !x.1) && (backToKw pos (keywordEach [] X.env)).all (fun x => x.1.isSome)
      && decide ((e :: []).length + ([] : List Keyword).length + (if ([] : List Keyword).isEmpty then 0 else 1) < 30)) = true := by rfl)
    (hline : (apos.endLine == pos.line) = true := by rfl) (hs : starEach (e :: []) X.env = (false, eval e X.env) :: starEach [] X.env := by rfl) (hplain : (backTo pos (starEach [] X.env)).any (·.1) = false := by rfl) :
    PE X (.Call (.Attribute o "extend" apos) [e] [] pos) (tE b W (exF i f)) :=
  pe_mono (pe_bm PySem.F.plainAttrs_list PySem.F.slot_list_extend PySem.F.type_list_extend mt_extend ho (pa_cons h1 pa_nil hs) hbase hfew hline hs hplain) fun σ H Q ⟨Fz, g, r, h⟩ => by
    unfold exF at h
    cases hg : gat g i with
    | ow ds0 =>
      rw [hg] at h
      simp only at h
      obtain ⟨a, vs0, ea, _, _, hu0, _⟩ := own_of r hg
      refine ⟨.ref a, ea, .inl ⟨rfl, _, .inl (.inl hu0)⟩, ?_⟩
      refine tG_seq r h fun es x g1 Fz1 H1 r1 ex1 rep h1 => ?_
      cases hg1 : gat g1 i with
      | ow ds =>
        rw [hg1] at h1
        simp only at h1
        by_cases c : ds.length + es.length ≤ sizeLine
        · rw [if_pos c] at h1
          obtain ⟨a2, vs, ea2, ow2, nf, hu, rr⟩ := own_of r1 hg1
          rw [ea] at ea2
          cases ea2
          obtain ⟨q, ws, rfl, _, _, hq, _, rq⟩ := rep
          obtain ⟨r3, ex3⟩ := r1.mutL ow2 (rr.append rq) nf ⟨_, hu⟩
          exact ⟨a, q, vs, ws, rfl, rfl, hu, hq, by rw [← RepL.length rr, ← RepL.length rq]; exact c, h1.ok r3 ex3 rep_non⟩
        · rw [if_neg c] at h1; exact h1.elim
      | _ => rw [hg1] at h1; exact h1.elim
    | _ => rw [hg] at h; exact h.elim

/-! ### calls without arguments, with keywords -/
variable {k n : Nat} {fA : Addr} {fd : FuncData} {ps ks : List Str} {dn : Dn} {x : Str} {dvs : List V} {ds : List Value} {dfs : List D}
theorem pe_callSD0 {CX : CXT} {sp : Sp} {E : L2.St → XK} (F : FnOk X.prog X.w X.K X.mg X.base CX k fA fd ps sp) (hr : Room k X.A) (hg : Gl X x) (hm : X.mg x = some (.ref fA)) (hk : PySem.W.keepIn X.K (.ref fA) = true) (hb : Binds X.K fd ps ds) (hd : Vals dvs ds) (hx : ∀ σ, PassesAt CX X σ (E σ))
    (hdb : (x == ("__debug__" : Str)) = false := by decide) : PE X (.Call (.Name x p) [] [] pos) (tCallSD sp dvs E tNil) := by
  refine ⟨fun pins s σ H Q I h => ?_⟩
  refine wpAny_Call_Name_kw (ld_glob I hg hm ?_ hdb)
  exact PySem.W.callWith_K0 I.kIn hk (run_fnSD (us := []) F hr hb hd (hx σ) I .nil h)
theorem pd_call0 (hM : b.M = ⟨X.K, X.mg⟩) (tk : Takes X W) (F : FnOk X.prog X.w X.K X.mg X.base (L2.CX X.prog X.w) k fA fd ps (spD ⟨X.K, X.mg⟩ n dn)) (hr : Room k X.A) (hg : Gl X x) (hm : X.mg x = some (.ref fA)) (hk : PySem.W.keepIn X.K (.ref fA) = true)
    (hb : Binds X.K fd ps ds) (hd : Vals dvs ds) (hdf : ∀ M Fz H, RepL M Fz H dfs dvs) (hdb : (x == ("__debug__" : Str)) = false := by decide) : PE X (.Call (.Name x p) [] [] pos) (tE b W (callF n dn dfs nilV)) :=
  pe_mono (pe_callSD0 F hr hg hm hk hb hd (fun σ => passAt tk σ) hdb) fun σ H Q h => by
    have z := tE_call (hdf b.M) h
    rw [hM] at z
    obtain ⟨Fz, g, r, q⟩ := z
    exact q [] H Fz r .refl rfl
theorem pf_call0 (hM : b.M = ⟨X.K, X.mg⟩) (tk : Takes X W) (F : FnOk X.prog X.w X.K X.mg X.base (L2.CX X.prog X.w) k fA fd ps (spD ⟨X.K, X.mg⟩ n dn)) (hr : Room k X.A) (hg : Gl X x) (hm : X.mg x = some (.ref fA)) (hk : PySem.W.keepIn X.K (.ref fA) = true)
    (hb : Binds X.K fd ps ds) (hd : Vals dvs ds) (hdf : ∀ M Fz H, RepL M Fz H dfs dvs) (hdb : (x == ("__debug__" : Str)) = false := by decide) : PE X (.Call (.Name x p) [] [] pos) (tFr b W (callFF n dn dfs nilV)) :=
  pe_mono (pe_callSD0 F hr hg hm hk hb hd (fun σ => passAt tk σ) hdb) fun σ H Q h => by
    have z := tF_call (hdf b.M) h
    rw [hM] at z
    obtain ⟨Fz, g, r, q⟩ := z
    exact q [] H Fz r .refl rfl

/-! keywords -/
inductive KQ where
  | p (i : Nat) | k (i : Nat) | d (i : Nat)
def KQ.get {α : Type} (us its ws : List α) : KQ → Option α
  | .p i => us[i]?
  | .k i => ws[i]?
  | .d i => its[i]?
def pickG {α : Type} (us its ws : List α) : List KQ → List α
  | [] => []
  | q :: qs => match q.get us its ws with
    | some a => a :: pickG us its ws qs
    | none => pickG us its ws qs
theorem vals_get {vs : List V} {us : List Value} (r : Vals vs us) (i : Nat) : (∃ v u, vs[i]? = some v ∧ us[i]? = some u ∧ RelV v u) ∨ (vs[i]? = none ∧ us[i]? = none) := by
  by_cases h : i < vs.length
  · have e : vs[i]? = some vs[i] := by simp [h]
    obtain ⟨u, hu, ru⟩ := r.get e
    exact .inl ⟨_, u, e, hu, ru⟩
  · exact .inr ⟨List.getElem?_eq_none (by omega), List.getElem?_eq_none (by rw [← r.length]; omega)⟩
theorem pick_rel {vs ds zs : List V} {us its ws : List Value} (r1 : Vals vs us) (r2 : Vals ds its) (r3 : Vals zs ws) : ∀ qs : List KQ, Vals (pickG vs ds zs qs) (pickG us its ws qs)
  | [] => .nil
  | q :: qs => by
    have ih := pick_rel r1 r2 r3 qs
    unfold pickG
    cases q with
    | p i => rcases vals_get r1 i with ⟨v, u, h1, h2, h3⟩ | ⟨h1, h2⟩ <;> simp only [KQ.get, h1, h2] <;> first | exact .cons h3 ih | exact ih
    | k i => rcases vals_get r3 i with ⟨v, u, h1, h2, h3⟩ | ⟨h1, h2⟩ <;> simp only [KQ.get, h1, h2] <;> first | exact .cons h3 ih | exact ih
    | d i => rcases vals_get r2 i with ⟨v, u, h1, h2, h3⟩ | ⟨h1, h2⟩ <;> simp only [KQ.get, h1, h2] <;> first | exact .cons h3 ih | exact ih
theorem FunD.kb {K : PySem.W.Frag} {x qual : Str} {params : Arguments} {body : List Stmt} {scope : Scope} {dvs : List V} {f : Addr} {fd : FuncData} {ps : List Str} (F : FunD K x qual params body scope dvs [] f fd) (n : Nat) (ks : List Str) (qs : List KQ) (hd : dvs ≠ [])
    (h : ∀ (T : Addr) (kV doc pm : Value) (an : Option Addr) (cdv ct : Value) (us its ws : List Value), us.length = n → its.length = dvs.length → ws.length = ks.length →
      ∃ k, bindArgs (PySem.W.fnOf x qual params body scope (.ref T) kV doc pm an cdv ct) ⟨us, ks.zip ws⟩ = seqItems? (.ref T) >>= k ∧ k (some its.toArray) = pure (ps.zip (pickG us its ws qs))) :
    ∃ its : List Value, KBn K fd ps n ks (fun us ws => pickG us its ws qs) (fun vs zs => pickG vs dvs zs qs) := by
  obtain ⟨oc, od, dV, kV, doc, pm, an, cdv, ct, osl, rfl, lk, hcd, hD, hK⟩ := F.ex
  rcases hD with ⟨e, _⟩ | ⟨_, T, o, its, m, rfl, lT, oT, rT⟩
  · exact absurd e hd
  · refine ⟨its, ⟨fun s us ws X l1 l2 => ?_, fun r1 r2 => pick_rel r1 rT r2 qs⟩⟩
    obtain ⟨k, e1, e2⟩ := h T kV doc pm an cdv ct us its ws l1 rT.length.symm l2
    refine BindsTo.of_looks fun M => ?_
    rw [e1]
    exact looks_items X lT oT (PySem.W.Looks.of_pure e2)
def tCallNS (n m : Nat) (sp : Sp) (gV : List V → List V → List V) (E : L2.St → XK) (t tk : TA) : TE := fun σ H Q => t σ H fun vs H1 => tk σ H1 fun zs H2 => vs.length = n ∧ zs.length = m ∧ sp (gV vs zs) H2 Q (E σ)
variable {g g0 : List Value → List Value → List Value} {gV : List V → List V → List V} {kws : List Keyword} {fk : FV} {qs : List KQ}
theorem run_fnNS {CX : CXT} {sp : Sp} {E : L2.St → XK} {pins : List (Addr × Obj)} {σ : L2.St} {H : Hp} {s : Shared} {Q : VK} {us ws : List Value} {vs zs : List V} (F : FnOk X.prog X.w X.K X.mg X.base CX k fA fd ps sp) (hr : Room k X.A) (hb : KBn X.K fd ps n ks g gV) (hx : PassesAt CX X σ (E σ))
    (I : Inv X pins σ H s) (r : Vals vs us) (rz : Vals zs ws) (l1 : vs.length = n) (l2 : zs.length = ks.length) (h : sp (gV vs zs) H Q (E σ)) : wpAny (model X.prog X.w) X.A (call (.ref fA) us (ks.zip ws)) (EP X pins σ Q) X.xe s := by
  have r2 := hb.rel r rz
  refine wpAny_call (codeAny_mono (F.run X.A X.stack s H ⟨us, ks.zip ws⟩ (g us ws) (gV vs zs) Q (E σ) hr I.env0 (hb.to s us ws I.kIn (r.length.symm.trans l1) (rz.length.symm.trans l2)) r2 h) fun r s' hq => ?_)
  cases r with
  | error e => exact hx pins H s e s' I hq
  | ok fl =>
    cases fl with
    | ret u => exact I.after hq
    | next => exact False.elim hq
    | brk => exact False.elim hq
    | cont => exact False.elim hq
theorem pe_callNS {CX : CXT} {sp : Sp} {E : L2.St → XK} {t tk : TA} (F : FnOk X.prog X.w X.K X.mg X.base CX k fA fd ps sp) (hr : Room k X.A) (hg : Gl X x) (hm : X.mg x = some (.ref fA)) (hk : PySem.W.keepIn X.K (.ref fA) = true) (hb : KBn X.K fd ps n ks g gV) (hx : ∀ σ, PassesAt CX X σ (E σ))
    (ha : PA X (e :: es) t) (hkw : PK X kws tk) (hall : (backToKw pos (keywordEach kws X.env)).all (·.1.isSome) = true := by rfl) (hks : (backToKw pos (keywordEach kws X.env)).filterMap (·.1) = ks := by rfl)
    (hdb : (x == ("__debug__" : Str)) = false := by decide) (he : starEach (e :: es) X.env = (false, eval e X.env) :: starEach es X.env := by rfl)
    (hpl : ((backTo pos (starEach (e :: es) X.env)).any (·.1) || (backToKw pos (keywordEach kws X.env)).any (·.1.isNone)) = false := by rfl) :
    PE X (.Call (.Name x p) (e :: es) kws pos) (tCallNS n ks.length sp gV E t tk) := by
  refine ⟨fun pins s σ H Q I h => ?_⟩
  refine wpAny_Call_Name_kw (ld_glob I hg hm ?_ hdb)
  refine PySem.W.callWith_KW (h₀ := X.base) I.ok.mod.kin hk hall (thn (ha.run pos pins s σ H _ I h) fun us s1 ⟨vs, H1, I1, r, q⟩ => ?_) hpl he
  refine thn (hkw.run pos pins s1 σ H1 _ I1 q) fun ws s2 ⟨zs, H2, I2, rz, l1, l2, q2⟩ => ⟨I2.kIn, ?_⟩
  rw [hks]
  exact run_fnNS F hr hb (hx σ) I2 r rz l1 l2 q2
/-- the keywords' values -/
theorem pkv_nil : PK X [] (tAv b W nilV) := ⟨fun pos pins s σ H Q I ⟨Fz, g, r, h⟩ => pk_nil.run pos pins s σ H Q I (h [] H Fz r .refl rfl)⟩
theorem pkv_cons {nm : Option Str} {kpos : Pos} {f : Sg → R AV} {fr : FV} (h1 : PE X e (tA1 b W f)) (h2 : PK X kws (tAv b W fr)) : PK X (⟨nm, e, kpos⟩ :: kws) (tAv b W (consV f fr)) :=
  ⟨fun pos pins s σ H Q I ⟨Fz, g, r, h⟩ => (pk_cons h1 h2).run pos pins s σ H Q I (tG_seq r h fun a x g1 Fz1 H1 r1 e1 av h1 => tG_seq r1 h1 fun as xs g2 Fz2 H2 r2 e2 av2 h2 => by
    by_cases c : resI g2 a = true
    · rw [if_pos c] at h2
      exact h2.ok r2 .refl ⟨x, xs, rfl, av.mono e2 (resI_ok c), av2⟩
    · rw [if_neg c] at h2; exact h2.elim)⟩
def callKF (n n1 m : Nat) (dn : Dn) (qs : List KQ) (dfs : List D) (fa fk : FV) : FE := fun g => (fa g).bd fun as g1 => (fk g1).bd fun ks g2 => if as.length = n1 ∧ ks.length = m ∧ as.all (resI g2) = true then callR n dn (pickG as (dfs.map AV.d) ks qs) g2 else .no
theorem avs_mono {σ : L2.St} {Fz Fz' : Fzn} {H H' : Hp} {g g' : Sg} (e : Ext Fz H Fz' H') : ∀ {as : List AV} {xs : List V}, AVsOk b σ Fz H g as xs → as.all (resI g') = true → AVsOk b σ Fz' H' g' as xs
  | [], _, h, _ => h
  | a :: as, xs, ⟨x, r, h1, h2, h3⟩, c => by
    rw [List.all_cons, Bool.and_eq_true] at c
    exact ⟨x, r, h1, h2.mono e (resI_ok c.1), avs_mono e h3 c.2⟩
theorem avs_at {σ : L2.St} {Fz : Fzn} {H : Hp} {g : Sg} {as : List AV} {xs : List V} (h : AVsOk b σ Fz H g as xs) (i : Nat) : (∃ a x, as[i]? = some a ∧ xs[i]? = some x ∧ AVOk b σ Fz H g a x) ∨ (as[i]? = none ∧ xs[i]? = none) := by
  by_cases hi : i < as.length
  · have e : as[i]? = some as[i] := by simp [hi]
    obtain ⟨x, ex, ox⟩ := avs_get h e
    exact .inl ⟨_, x, e, ex, ox⟩
  · exact .inr ⟨List.getElem?_eq_none (by omega), List.getElem?_eq_none (by rw [← avs_len h]; omega)⟩
theorem avs_pick {σ : L2.St} {Fz : Fzn} {H : Hp} {g : Sg} {as bs cs : List AV} {xs ys zs : List V} (r1 : AVsOk b σ Fz H g as xs) (r2 : AVsOk b σ Fz H g bs ys) (r3 : AVsOk b σ Fz H g cs zs) : ∀ qs : List KQ, AVsOk b σ Fz H g (pickG as bs cs qs) (pickG xs ys zs qs)
  | [] => rfl
  | q :: qs => by
    have ih := avs_pick r1 r2 r3 qs
    unfold pickG
    cases q with
    | p i => rcases avs_at r1 i with ⟨v, u, h1, h2, h3⟩ | ⟨h1, h2⟩ <;> simp only [KQ.get, h1, h2] <;> first | exact ⟨_, _, rfl, h3, ih⟩ | exact ih
    | k i => rcases avs_at r3 i with ⟨v, u, h1, h2, h3⟩ | ⟨h1, h2⟩ <;> simp only [KQ.get, h1, h2] <;> first | exact ⟨_, _, rfl, h3, ih⟩ | exact ih
    | d i => rcases avs_at r2 i with ⟨v, u, h1, h2, h3⟩ | ⟨h1, h2⟩ <;> simp only [KQ.get, h1, h2] <;> first | exact ⟨_, _, rfl, h3, ih⟩ | exact ih
theorem pd_callK {n1 : Nat} {fv0 : FV} (hM : b.M = ⟨X.K, X.mg⟩) (tk : Takes X W) (F : FnOk X.prog X.w X.K X.mg X.base (L2.CX X.prog X.w) k fA fd ps (spD ⟨X.K, X.mg⟩ n dn)) (hr : Room k X.A) (hg : Gl X x) (hm : X.mg x = some (.ref fA)) (hk : PySem.W.keepIn X.K (.ref fA) = true)
    (hb : KBn X.K fd ps n1 ks g (fun vs zs => pickG vs dvs zs qs)) (hdf : ∀ M Fz H, RepL M Fz H dfs dvs) (ha : PA X (e :: es) (tAv b W fv0)) (hkw : PK X kws (tAv b W fk)) (hall : (backToKw pos (keywordEach kws X.env)).all (·.1.isSome) = true := by rfl) (hks : (backToKw pos (keywordEach kws X.env)).filterMap (·.1) = ks := by rfl)
    (hdb : (x == ("__debug__" : Str)) = false := by decide) (he : starEach (e :: es) X.env = (false, eval e X.env) :: starEach es X.env := by rfl)
    (hpl : ((backTo pos (starEach (e :: es) X.env)).any (·.1) || (backToKw pos (keywordEach kws X.env)).any (·.1.isNone)) = false := by rfl) :
    PE X (.Call (.Name x p) (e :: es) kws pos) (tE b W (callKF n n1 ks.length dn qs dfs fv0 fk)) :=
  pe_mono (pe_callNS F hr hg hm hk hb (fun σ => passAt tk σ) ha hkw hall hks hdb he hpl) fun σ H Q ⟨Fz, g, r, h⟩ => by
    refine tG_seq r h fun as xs g1 Fz1 H1 r1 e1 av1 h1 => ?_
    refine tG_seq r1 h1 fun cs zs g2 Fz2 H2 r2 e2 av2 h2 => ?_
    by_cases c : as.length = n1 ∧ cs.length = ks.length ∧ as.all (resI g2) = true
    · rw [if_pos c] at h2
      refine ⟨by rw [← avs_len av1]; exact c.1, by rw [← avs_len av2]; exact c.2.1, ?_⟩
      have avd : AVsOk b σ Fz2 H2 g2 (dfs.map AV.d) dvs := by
        have z := avs_app (b := b) (σ := σ) (g := g2) (as := []) (xs := []) (dfs := dfs) (dvs := dvs) rfl (hdf b.M Fz2 H2)
        simpa using z
      have z := callR_ok r2 (avs_pick (avs_mono e2 av1 c.2.2) avd av2 qs) h2
      rw [hM] at z
      exact z
    · rw [if_neg c] at h2; exact h2.elim
end
end DL

set_option Elab.async false
set_option linter.all false
set_option maxRecDepth 100000
set_option maxHeartbeats 4000000
/-! DenX: own exceptions made, raised, caught. -/
namespace DL
open PySem L2 PySem.Spec PyProof.Rows

/-! ### Base.__init__(self, ..) of an own base -/
section
variable {X : Cx} {e : Expr} {es : List Expr} {ta : TA} {x : Str} {p p1 p2 pos : Pos} {C0 : Addr} {mc : Value}
theorem pe_cinit {pl : Sem Bool} (hg : Gl X x) (hm : X.mg x = some (.ref C0)) (rd : ClX.CRead X.K C0 mc) (vV : PySem.W.findCls X.K (.ref C0) mc "__init__" = some (.val (.builtin "ValueError.__init__"))) (ha : PA X (e :: es) ta)
    (hdb : (x == ("__debug__" : Str)) = false := by decide)
    (hc : eval (.Call (.Attribute (.Name x p1) "__init__" p2) (e :: es) [] pos) X.env = (do
      let ov ← eval (.Name x p1) X.env
      standAt p2.atName
      let (f, first) ← holding [ov] (getMethod ov "__init__" pl)
      callWith pos f first (backTo pos (starEach (e :: es) X.env)) (backToKw pos (keywordEach [] X.env))) := by rfl)
    (he : starEach (e :: es) X.env = (false, eval e X.env) :: starEach es X.env := by rfl) (hpl : (backTo pos (starEach es X.env)).any (·.1) = false := by rfl) :
    PE X (.Call (.Attribute (.Name x p1) "__init__" p2) (e :: es) [] pos) (tVeI X.K ta) := by
  refine ⟨fun pins s σ H Q I h => ?_⟩
  refine PySem.W.methodCall_KW (ld_glob I hg hm ?_ hdb) hc
  refine PySem.W.method_cls I.kIn rd.ga ?_
  refine PySem.W.cls_value I.kIn rd.rd vV (by decide +kernel) ?_
  show wpAny _ _ (callWith pos (Value.builtin "ValueError.__init__") [] (backTo pos (starEach (e :: es) X.env)) []) _ _ _
  refine PyProof.Rows.callWith_method1 (thn (ha.run pos pins _ σ H _ (I.tok _) h) fun us s1 ⟨vs, H1, I1, r1, a, C, ws, ev, hl, T, ea, q⟩ => ?_) he hpl
  subst ev
  cases r1 with
  | @cons _ u0 _ ur ra rw' =>
    obtain rfl : u0 = Value.ref a := ra
    have hlen : ur.length ≤ sizeLine := by
      rw [← Paired.length rw', sizeLine_eq]
      omega
    exact oinit_ok T I1 ea hlen fun s' J => ⟨.non, H1, J, rfl, q⟩
end

theorem passF {X : Cx} : Passes (L2.CX X.prog X.w) X (fun _ _ _ => False) := fun pins σ H s e s' I c => passAt takes0 σ pins H s e s' I c
/-! ### own exceptions made -/
/-- what __init__ of an own exception promises: fs its fields, the parameters -/
def spMk (C : Addr) (fs : List Str) : Sp := fun vs H Q _ => ∃ a ys, vs = .ref a :: ys ∧ ys.length = fs.length ∧ H a = some (exo a C none) ∧
  (fs = [] → Q .non H) ∧ (fs ≠ [] → ∀ dx, H dx = none → dx ≠ a → Q .non (upd (upd H dx (exd dx (fs.zip ys).reverse)) a (exo a C (some dx))))
/-- a statement that does nothing to the exception -/
def SkipX (K : PySem.W.Frag) (C : Addr) (t : TS) : Prop := ∀ D σ H a, σ[0]? = some (some (.ref a)) → OexC K C → H a = some (exo a C none) → D.nx σ H → t D σ H
theorem skip_none {K : PySem.W.Frag} {C : Addr} : SkipX K C tNext := fun _ _ _ _ _ _ _ h => h
theorem skip_sup {K : PySem.W.Frag} {C : Addr} {m : Str} : SkipX K C (tDrop (tVeI K (tCons (tVar 0) (tCons (tC (.str m)) tNil)))) := fun D σ H a h0 T e h =>
  ⟨.ref a, h0, a, C, [.str m], rfl, by show 1 ≤ 1000; decide, T, e, h⟩
section
variable {P : Program} {w : World} {K : PySem.W.Frag} {mg : Str → Option Value} {base : Heap} {C : Addr} {x qual : Str} {st : Stmt} {f : Addr} {fd : FuncData} {t0 : TS} {f1 f2 n1 n2 ns : Str}
theorem ok_init0 (T : OexC K C) (F : FunD K x qual (defArgs st) (defBody st) (defScope st) [] [] f fd) (S : FnScope [ns] [ns] (defScope st)) (s0 : SkipX K C t0)
    (hb : ∀ (cdv : Value) (A : Around) (outer : List Env) (s : Shared) (H : Hp) (E : XK), PSs (cxOf (L2.CX P w) P w K mg base [ns] qual (defScope st) f cdv A outer s H E) (defBody st) t0) : FnOk P w K mg base (L2.CX P w) 1 f fd [ns] (spMk C []) := by
  refine F.ok (CX := L2.CX P w) S (fun vs H Q E h => ?_) (fun cdv A outer s H vs Q E hr h => ?_)
  · obtain ⟨a, ys, rfl, hl, _⟩ := h
    simp [hl]
  · obtain ⟨a, ys, rfl, hl, ea, h1, _⟩ := h
    have hy : ys = [] := List.eq_nil_of_length_eq_zero hl
    subst hy
    exact ⟨_, hb cdv A outer s H E, s0 _ _ _ a rfl T ea (h1 rfl)⟩
theorem ok_init1 (T : OexC K C) (g1 : PySem.W.findIn K (.ref C) f1 = some none) (F : FunD K x qual (defArgs st) (defBody st) (defScope st) [] [] f fd) (S : FnScope [ns, n1] [ns, n1] (defScope st)) (s0 : SkipX K C t0)
    (hb : ∀ (cdv : Value) (A : Around) (outer : List Env) (s : Shared) (H : Hp) (E : XK), PSs (cxOf (L2.CX P w) P w K mg base [ns, n1] qual (defScope st) f cdv A outer s H E) (defBody st) (tSeq t0 (tOst K f1 (tVar 0) (tVar 1)))) : FnOk P w K mg base (L2.CX P w) 1 f fd [ns, n1] (spMk C [f1]) := by
  refine F.ok (CX := L2.CX P w) S (fun vs H Q E h => ?_) (fun cdv A outer s H vs Q E hr h => ?_)
  · obtain ⟨a, ys, rfl, hl, _⟩ := h
    simp [hl]
  · obtain ⟨a, ys, rfl, hl, ea, _, h2⟩ := h
    match ys, hl with
    | [y], _ =>
      refine ⟨_, hb cdv A outer s H E, s0 _ _ _ a rfl T ea ?_⟩
      exact ⟨y, rfl, .ref a, rfl, a, C, rfl, T, g1, .inl ⟨ea, fun dx n ne => h2 (by simp) dx n ne⟩⟩
theorem ok_init2 (T : OexC K C) (g1 : PySem.W.findIn K (.ref C) f1 = some none) (g2 : PySem.W.findIn K (.ref C) f2 = some none) (F : FunD K x qual (defArgs st) (defBody st) (defScope st) [] [] f fd) (S : FnScope [ns, n1, n2] [ns, n1, n2] (defScope st)) (s0 : SkipX K C t0)
    (hb : ∀ (cdv : Value) (A : Around) (outer : List Env) (s : Shared) (H : Hp) (E : XK), PSs (cxOf (L2.CX P w) P w K mg base [ns, n1, n2] qual (defScope st) f cdv A outer s H E) (defBody st) (tSeq t0 (tSeq (tOst K f1 (tVar 0) (tVar 1)) (tOst K f2 (tVar 0) (tVar 2))))) : FnOk P w K mg base (L2.CX P w) 1 f fd [ns, n1, n2] (spMk C [f1, f2]) := by
  refine F.ok (CX := L2.CX P w) S (fun vs H Q E h => ?_) (fun cdv A outer s H vs Q E hr h => ?_)
  · obtain ⟨a, ys, rfl, hl, _⟩ := h
    simp [hl]
  · obtain ⟨a, ys, rfl, hl, ea, _, h2⟩ := h
    match ys, hl with
    | [y, z], _ =>
      refine ⟨_, hb cdv A outer s H E, s0 _ _ _ a rfl T ea ?_⟩
      refine ⟨y, rfl, .ref a, rfl, a, C, rfl, T, g1, .inl ⟨ea, fun dx n ne => ?_⟩⟩
      refine ⟨z, rfl, .ref a, rfl, a, C, rfl, T, g2, .inr ⟨dx, [(f1, y)], upd_same, by rw [upd_ne ne]; exact upd_same, by show 1 ≤ 900; decide, ?_⟩⟩
      have e : upd (upd (upd H dx (exd dx [(f1, y)])) a (exo a C (some dx))) dx (exd dx [(f2, z), (f1, y)]) = upd (upd H dx (exd dx [(f2, z), (f1, y)])) a (exo a C (some dx)) := by
        funext c
        by_cases hc : c = dx
        · subst hc
          rw [upd_same, upd_ne ne, upd_same]
        · rw [upd_ne hc]
          by_cases ha : c = a
          · subst ha; rw [upd_same, upd_same]
          · rw [upd_ne ha, upd_ne ha, upd_ne hc, upd_ne hc]
      show Q .non _
      rw [e]
      exact h2 (by simp) dx n ne
end

/-! ### raise -/
section
variable {X : Cx} {b : B} {W : WX} {e : Expr} {es : List Expr} {fa : FA} {x : Str} {p pos rpos : Pos} {C fI : Addr} {fd : FuncData} {ps : List Str} {fs : List Str} {cn : Str}
def mkE (cn : Str) (fs : List Str) (ds : List D) : Exn := ⟨cn, fs.reverse, ds.reverse⟩
/-- raise C(e, ..) -/
def raiseS (cn : Str) (fs : List Str) (fa : FA) : FS := fun g => (fa g).sb fun ds g1 => if ds.length = fs.length then .ex (mkE cn fs ds) g1 else .no
theorem zip_rev {α β : Type} : ∀ {l : List α} {m : List β}, l.length = m.length → (l.zip m).reverse = l.reverse.zip m.reverse
  | [], [], _ => rfl
  | a :: l, c :: m, h => by
    have h' : l.length = m.length := by simpa using h
    rw [List.zip_cons_cons, List.reverse_cons, List.reverse_cons, List.reverse_cons, zip_rev h', List.zip_append (by simp [h'])]
    rfl
theorem pts_raise (hM : b.M = ⟨X.K, X.mg⟩) (hc : X.calm = true) (tk : Takes X W) (T : OexC X.K C) (iC : PySem.W.findIn X.K (.ref C) "__init__" = some (some (.ref fI))) (tI : PySem.W.typeIn X.K (.ref fI) = some (.type "function"))
    (F1 : FnOk X.prog X.w X.K X.mg X.base (L2.CX X.prog X.w) 1 fI fd ps (spMk C fs)) (hr : Room 2 X.A) (hb : Binds X.K fd ps []) (hg : Gl X x) (hm : X.mg x = some (.ref C)) (hne : fs ≠ []) (hfs : fs.length ≤ 100) (ha : PA X (e :: es) (tAr b W fa))
    (hdb : (x == ("__debug__" : Str)) = false := by decide) (he : starEach (e :: es) X.env = (false, eval e X.env) :: starEach es X.env := by rfl) (hpl : (backTo pos (starEach es X.env)).any (·.1) = false := by rfl) :
    PS X (.Raise (some (.Call (.Name x p) (e :: es) [] pos)) none rpos) (tSt b W [] (raiseS x fs fa)) := ps_mono (ps_raise hc tk (pmk_oex T iC tI F1 hr hb .nil passF hg hm ha hdb he hpl)) fun D σ H ⟨Fz, g, r, h⟩ => by
  refine tG_st r h fun ds xs g1 Fz1 H1 r1 ex1 rep h1 => ?_
  have rep' : RepL b.M Fz1 H1 ds xs := rep
  by_cases hl : ds.length = fs.length
  · rw [if_pos hl] at h1
    have hxs : xs.length = fs.length := by rw [← RepL.length rep']; exact hl
    refine ⟨by omega, fun a ha => ⟨a, xs, by rw [List.append_nil], hxs, upd_same, fun z => absurd z hne, fun _ dx hdx nda => ⟨rfl, dx, (fs.zip xs).reverse, upd_same, by rw [upd_ne nda]; exact upd_same, by rw [upd_ne nda] at hdx; exact hdx, ?_⟩⟩⟩
    rw [upd_ne nda] at hdx
    have e1 : upd (del (upd (upd (upd H1 a (exo a C none)) dx (exd dx (fs.zip xs).reverse)) a (exo a C (some dx))) a) dx (.xd (fs.zip xs).reverse) = upd H1 dx (.xd (fs.zip xs).reverse) := by
      funext c
      by_cases hc1 : c = dx
      · subst hc1; rw [upd_same, upd_same]
      · rw [upd_ne hc1, upd_ne hc1]
        by_cases hc2 : c = a
        · subst hc2; rw [del_same, ha]
        · rw [del_ne hc2, upd_ne hc2, upd_ne hc1, upd_ne hc2]
    rw [e1]
    have gr : GrowTo Fz1 H1 Fz1 (upd H1 dx (.xd (fs.zip xs).reverse)) := .alloc hdx
    refine h1 σ _ _ _ _ (r1.grow gr) ⟨gr.ext, fun _ _ => rfl⟩ ⟨C, rfl, by rw [hM]; exact hm, .inr ⟨dx, xs.reverse, rfl, ?_, by simp [mkE, hxs], ?_⟩⟩
    · rw [upd_same]
      show some (HO.xd _) = some (HO.xd (fs.reverse.zip xs.reverse))
      rw [zip_rev hxs.symm]
    · exact (rep'.grow gr).reverse
  · rw [if_neg hl] at h1; exact h1.elim
end

/-! ### an own exception without fields -/
section
variable {X : Cx} {b : B} {W : WX} {x : Str} {p pos rpos : Pos} {C fI : Addr} {fd : FuncData} {ps : List Str} {cn : Str}
theorem mk_endN {pins : List (Addr × Obj)} {σ : L2.St} {H1 H2 : Hp} {Q : XK} {hp hp2 h2 : Heap} {g1 g2 : Array GenState} {d1 d2 : Drawn} {t1 t2 : Nat} {os1 os2 : OsState} {a C : Addr} (T : Raises X (.ref C)) (I1 : Inv X pins σ H1 ⟨hp, g1, d1, t1, os1⟩)
    (ha : hp.objs.size ≤ a) (k : ∀ b o, hp.get? b = some o → hp2.get? b = some o) (un : Un (frs X.stack) [] (upd H1 a (exo a C none)) H2 hp2 h2) (hok : HOk X.prog X.w H2 h2) (ho : os2 = os1) (hb : AllBare g2)
    (ea : H2 a = some (exo a C none)) (q : Q (.ref C) none (del H2 a)) : MkP X pins σ Q (.ref a) ⟨h2, g2, d2, t2, os2⟩ := by
  obtain ⟨t0, hoe⟩ := exo_at hok ea
  have hn : H1 a = none := I1.hok.fresh ha
  obtain ⟨G, g1', g2'⟩ := restrict h2 fun b => decide (b ≠ a)
  have gk : ∀ b, b ≠ a → G.get? b = h2.get? b := fun b hb => g1' b (decide_eq_true hb)
  have ge : G.get? a = none := g2' a (by simp)
  have nha : ∀ {b : Addr} {o : Obj}, hp.get? b = some o → b ≠ a := fun {b o} z => Nat.ne_of_lt (Nat.lt_of_lt_of_le (Heap.lt_size z) ha)
  have up : ∀ {b : Addr}, b ≠ a → H1 b = none → upd H1 a (exo a C none) b = none := fun {b} hb n => by rw [upd_ne hb]; exact n
  have U : Un (frs X.stack) [] H1 (del H2 a) hp G := {
    keep := fun b o z n hf hx => by
      rw [gk b (nha z)]
      exact un.keep b o (k b o z) (up (nha z) n) hf hx
    slot := fun b o z n hf hx => by
      rw [gk b (nha z)]
      exact un.slot b o (k b o z) (up (nha z) n) hf hx
    free := fun b o z n hx => by
      rw [del_ne (nha z)]
      exact un.free b o (k b o z) (up (nha z) n) hx
    there := fun b o z hx => by
      rw [gk b (nha z)]
      exact un.there b o (k b o z) hx
    tups := fun b xs z => by
      rw [del_ne (ne_of_none z hn)]
      exact un.tups b xs (by rw [upd_ne (ne_of_none z hn)]; exact z)
    frzs := fun b o v z => by
      rw [del_ne (ne_of_none z hn)]
      exact un.frzs b o v (by rw [upd_ne (ne_of_none z hn)]; exact z)
    tbls := fun b ps z => by
      rw [del_ne (ne_of_none z hn)]
      exact un.tbls b ps (by rw [upd_ne (ne_of_none z hn)]; exact z) }
  have hok3 : HOk X.prog X.w (del H2 a) G := fun b o z => by
    have hba : b ≠ a := fun e => by
      rw [e, del_same] at z
      cases z
    rw [del_ne hba] at z
    have noa : ∀ {c : Addr}, H2 c = some (.own b) → c ≠ a := fun {c} hc => at_ne ea hc exo_own
    exact (hok b o z).stay (fun c v hc y => by
        have hca : c ≠ a := by
          rcases hc with hc | hc
          · rw [hc]
            exact hba
          · exact noa hc
        rw [gk c hca]
        exact y)
      (fun c hc => by rw [del_ne (noa hc)]; exact hc) (fun c xs hc => by rw [del_ne (at_ne ea hc exo_tup)]; exact hc)
  have J : Inv X pins σ (del H2 a) ⟨G, g2, d2, t2, os2⟩ := I1.call' (ch := []) ho U hok3 hb (fun b z => absurd z (by simp))
  refine ⟨a, _, _, ⟨G, g2, d2, t2, os2⟩, _, .ref C, none, rfl, J, fun b o z => ?_, ge, hoe, ⟨rfl, rfl⟩, rfl, rfl, del_same, rfl, hb, T, q⟩
  by_cases hba : b = a
  · rw [hba, ge] at z
    cases z
  · exact (gk b hba).symm.trans z
def tMkO0 (C : Addr) (sp : Sp) : L2.St → Hp → XK → Prop := fun σ H1 Q => ∀ a, H1 a = none → sp [.ref a] (upd H1 a (exo a C none))
  (fun v H2 => v = .non ∧ H2 a = some (exo a C none) ∧ Q (.ref C) none (del H2 a)) (fun _ _ _ => False)
theorem pmk_oex0 {CX : CXT} {k : Nat} {sp : Sp} (T : OexC X.K C) (iC : PySem.W.findIn X.K (.ref C) "__init__" = some (some (.ref fI))) (tI : PySem.W.typeIn X.K (.ref fI) = some (.type "function"))
    (F1 : FnOk X.prog X.w X.K X.mg X.base CX k fI fd ps sp) (hr : Room (k + 1) X.A) (hb : Binds X.K fd ps []) (hx : Passes CX X (fun _ _ _ => False)) (hg : Gl X x) (hm : X.mg x = some (.ref C))
    (hdb : (x == ("__debug__" : Str)) = false := by decide) :
    PMk X (.Call (.Name x p) [] [] pos) (tMkO0 C sp) := by
  intro pins s σ H Q I q1
  obtain ⟨nm, q, N, bs, bm, sn, sub, ab, col, dd, k0, k1, k2, k3, k5, hC, hbm⟩ := T.cls
  refine wpAny_Call_Name_kw (ld_glob I hg hm ?_ hdb)
  refine PySem.W.callWith_K0 I.kIn T.kC ?_
  have I1 := I
  obtain ⟨hp, g, dr, tk, os⟩ := s
  have hsz : hp.objs.size ≤ hp.objs.size + 1 := Nat.le_succ _
  have hn : H (hp.objs.size + 1) = none := I1.hok.fresh hsz
  have hq := q1 (hp.objs.size + 1) hn
  have kk : ∀ b o, hp.get? b = some o → ((hp.push (PySem.W.kdv_tup [])).push (PySem.HandSPX.excO C hp.objs.size)).get? b = some o := fun b o e => Heap.get?_push_of_some _ (Heap.get?_push_of_some _ e)
  have hget : ((hp.push (PySem.W.kdv_tup [])).push (PySem.HandSPX.excO C hp.objs.size)).get? (hp.objs.size + 1) = some (PySem.HandSPX.excO C hp.objs.size) := by heap_get
  have I2 : Inv X pins σ (upd H (hp.objs.size + 1) (exo (hp.objs.size + 1) C none)) ⟨(hp.push (PySem.W.kdv_tup [])).push (PySem.HandSPX.excO C hp.objs.size), g, dr, tk, os⟩ :=
    I1.laid (t' := tk) (a := hp.objs.size + 1) (o := exo (hp.objs.size + 1) C none) (h' := (hp.push (PySem.W.kdv_tup [])).push (PySem.HandSPX.excO C hp.objs.size)) kk hsz (exo_ok hget)
  have r2 : Vals [V.ref (hp.objs.size + 1)] ([Value.ref (hp.objs.size + 1)] ++ []) := .cons rfl .nil
  have hl : ([Value.ref (hp.objs.size + 1)] ++ []).length = ps.length := by
    have e := r2.length
    rw [F1.len _ _ _ _ hq] at e
    exact e.symm
  refine wpAny_call (PySem.HandSPX.call_own F.excBase_ValueError (fun Y => PySem.HandSPX.refsVE_contains Y bm hbm) (I1.kIn _ _ hC) (PySem.W.looks_findIn I1.kIn iC) (fun self => PySem.W.bind_fn I1.kIn self tI) (by show 0 ≤ sizeLine; decide)
    (codeAny_mono (F1.run _ X.stack _ _ ⟨[Value.ref (hp.objs.size + 1)], []⟩ ([Value.ref (hp.objs.size + 1)] ++ []) _ _ (fun _ _ _ => False) (hr.make C [] []) (I2.env0.make C [] []) (hb _ [Value.ref (hp.objs.size + 1)] I2.kIn hl) r2 hq) fun r s' hq' => ?_))
  cases r with
  | error er => exact hx pins σ _ _ er s' I2 hq'
  | ok fl =>
    cases fl with
    | ret u =>
      obtain ⟨v, H2, os2, bare2, un2, hok2, rv, ev, ea, q2⟩ := hq'
      subst ev
      obtain ⟨h2, g2, d2, t2, os'⟩ := s'
      exact ⟨rv, mk_endN (raises_own T.exC T.tyC) I1 hsz kk un2 hok2 os2 bare2 ea q2⟩
    | next => exact False.elim hq'
    | brk => exact False.elim hq'
    | cont => exact False.elim hq'
def raise0S (cn : Str) : FS := fun g => .ex ⟨cn, [], []⟩ g
theorem pts_raise0 (hM : b.M = ⟨X.K, X.mg⟩) (hc : X.calm = true) (tk : Takes X W) (T : OexC X.K C) (iC : PySem.W.findIn X.K (.ref C) "__init__" = some (some (.ref fI))) (tI : PySem.W.typeIn X.K (.ref fI) = some (.type "function"))
    (F1 : FnOk X.prog X.w X.K X.mg X.base (L2.CX X.prog X.w) 1 fI fd ps (spMk C [])) (hr : Room 2 X.A) (hb : Binds X.K fd ps []) (hg : Gl X x) (hm : X.mg x = some (.ref C))
    (hdb : (x == ("__debug__" : Str)) = false := by decide) :
    PS X (.Raise (some (.Call (.Name x p) [] [] pos)) none rpos) (tSt b W [] (raise0S x)) := ps_mono (ps_raise hc tk (pmk_oex0 T iC tI F1 hr hb passF hg hm hdb)) fun D σ H ⟨Fz, g, r, h⟩ => fun a ha => by
  refine ⟨a, [], rfl, rfl, upd_same, fun _ => ⟨rfl, upd_same, ?_⟩, fun z => absurd rfl z⟩
  have e1 : del (upd H a (exo a C none)) a = H := by
    funext c
    by_cases hc2 : c = a
    · subst hc2; rw [del_same, ha]
    · rw [del_ne hc2, upd_ne hc2]
  rw [e1]
  exact h σ _ _ H Fz r .refl ⟨C, rfl, by rw [hM]; exact hm, .inl ⟨rfl, rfl, rfl⟩⟩
end
end DL

set_option Elab.async false
set_option linter.all false
set_option maxRecDepth 100000
set_option maxHeartbeats 4000000
/-! DenY: try. -/
namespace DL
open PySem L2 PySem.Spec PyProof.Rows

section
variable {X : Cx} {b : B} {W : WX} {i : Nat}
/-- the caught exception ex, of class cls, its dict d, as the suite's entry b holds it -/
structure XHeld (b : B) (ex : Exn) (cls : Value) (d : Option Addr) : Prop where
  cl : ∃ C, cls = .ref C ∧ b.M.mg ex.cls = some (.ref C)
  fl : (ex.ns = [] ∧ ex.ds = [] ∧ d = none) ∨ ∃ dd vs, d = some dd ∧ b.H0 dd = some (.xd (ex.ns.zip vs)) ∧ ex.ns.length = vs.length ∧ RepL b.M b.Fz0 b.H0 ex.ds vs
  oa : ∀ a, b.OA a → ¬ b.Fz0 a ∧ Mut (b.H0 a)
theorem XHeld.ext {ex : Exn} {cls : Value} {d : Option Addr} {Fz : Fzn} {g : Sg} {σ : L2.St} {H : Hp} (h : XHeld b ex cls d) (r : BRel b Fz g σ H) : Ext b.Fz0 b.H0 Fz H := ⟨r.gr.fz, fun a o e q => r.gr.fr a o e fun z => by
  obtain ⟨h1, h2⟩ := h.oa a z
  rcases q with q | q
  · exact h1 q
  · rw [e] at h2; exact q h2⟩
/-- the entry of a suite -/
def suiteB (b : B) (Fz : Fzn) (g : Sg) (σ : L2.St) (H : Hp) (i : Nat) (a : Addr) : B := { rebase b Fz g σ H with px := some (i, a) }
theorem BRel.setRaw (hx : b.px = none) {Fz : Fzn} {g : Sg} {σ : L2.St} {H : Hp} (r : BRel b Fz g σ H) (i : Nat) (v : Option V) : BRel b Fz (g.set i .un) (σ.set i v) H :=
  (r.forget i).congr hx (List.length_set ..) fun j s e n => by
    rcases gset_get e with ⟨_, z⟩ | ⟨z, _⟩
    · exact absurd z n
    · exact List.getElem?_set_ne (Ne.symm z)
theorem suite_rel (hx : b.px = none) {Fz : Fzn} {g : Sg} {σ : L2.St} {H : Hp} {a : Addr} (r : BRel b Fz g σ H) (hi : i < g.length) :
    BRel (suiteB b Fz (g.set i .un) (σ.set i (some (.ref a))) H i a) Fz (g.set i .un) (σ.set i (some (.ref a))) H := by
  have r1 := (r.setRaw hx i (some (.ref a))).rebase
  exact ⟨⟨r1.gr.dom, r1.gr.fz, r1.gr.new, r1.gr.fr, r1.gr.oa⟩, r1.rel, r1.own, r1.pin, fun j c h => by
    have h' : some (i, a) = some (j, c) := h
    cases h'
    exact List.getElem?_set_self (by rw [← r.rel.len]; exact hi)⟩
theorem suite_back (hx : b.px = none) {Fz Fz' : Fzn} {g g' : Sg} {σ σ' : L2.St} {H H' : Hp} {a : Addr} (r : BRel b Fz g σ H) (r2 : BRel (suiteB b Fz (g.set i .un) (σ.set i (some (.ref a))) H i a) Fz' g' σ' H') (hl : g'.length = g.length) : BRel b Fz' g' σ' H' := by
  refine (r.setRaw hx i (some (.ref a))).debase hx ⟨⟨r2.gr.dom, r2.gr.fz, r2.gr.new, r2.gr.fr, r2.gr.oa⟩, r2.rel, r2.own, r2.pin, fun _ _ h => nomatch h⟩ (by rw [hl, List.length_set])

/-! ### the reading -/
/-- the suite's end: slot i is gone -/
def endX (i n : Nat) : RS → RS
  | .nx g => if g.length = n then .nx (g.set i .un) else .no
  | .bk g => if g.length = n then .bk (g.set i .un) else .no
  | .ct g => if g.length = n then .ct (g.set i .un) else .no
  | .rt d g => if g.length = n then .rt d (g.set i .un) else .no
  | .rf ds g => if g.length = n then .rf ds (g.set i .un) else .no
  | _ => .no
/-- try: body, except c as (slot i): sx; hd tells which class the clause takes -/
def tryF (i : Nat) (hd : Str → Option Bool) (body : FS) (sx : Exn → FS) : FS := fun g => match body g with
  | .ex e g' => match hd e.cls with
    | some true => if i < g'.length then endX i g'.length (sx e (g'.set i .un)) else .no
    | some false => .ex e g'
    | none => .no
  | r => r
theorem pts_try {body suite : List Stmt} {b₀ : Stmt} {n x : Str} {c : Value} {np pos pos' : Pos} {as as2 : List Nat} {f : FS} {sx : Exn → FS} {hd : Str → Option Bool} (hx : b.px = none) (hs : X.stack = X.env :: X.outer) (hf : X.env.frame = some X.env.locals) (hN : X.N.Nodup) (hi : X.N[i]? = some n) (hln : X.env.kindOf n = some .local) (hc : Names X x c) (tk : Takes X W)
    (hM : b.M = ⟨X.K, X.mg⟩) (hcl : ∀ nm r C, hd nm = some r → X.mg nm = some (.ref C) → PySem.W.exmOne X.K (.ref C) c = some r)
    (hb : ∀ (W : WX) (pn : List (Addr × Obj)) (xe : Value → Shared → Prop), Takes (X.tr pn xe) W → PassesOwn (model X.prog X.w) X.A X.env xe → PSs (X.tr pn xe) body (tSt b W as f))
    (hsu : ∀ (a : Addr) (oe : Obj) (cls : Value) (d : Option Addr) (pn : List (Addr × Obj)) (ex : Exn) (b' : B), Zc cls d oe → (∃ vs, oe.data = .fields vs) → b'.M = ⟨X.K, X.mg⟩ → b'.px = some (i, a) → XHeld b' ex cls d → PSs (X.suite a ((a, oe) :: pn)) (b₀ :: suite) (tSt b' W0 as2 (sx ex))) :
    PS X (.Try body [.ExceptHandler (some (.Name x np)) (some n) (b₀ :: suite) pos'] [] [] pos) (tSt b W (as ++ i :: as2) (tryF i hd f sx)) := by
  refine ps_mono (ps_try_as (tb := fun W => tSt b W as f) (ts := fun a cls d D σ H => ∃ ex b', b'.M = ⟨X.K, X.mg⟩ ∧ b'.px = some (i, a) ∧ XHeld b' ex cls d ∧ tSt b' W0 as2 (sx ex) D σ H) hs hf hN hi hln hc tk hb
    (fun a oe cls d pn hz hv => ⟨fun pins s σ H D I ⟨ex, b', h1, h2, h3, h4⟩ => (hsu a oe cls d pn ex b' hz hv h1 h2 h3).run pins s σ H D I h4⟩)) fun D σ H ⟨Fz, g, r, h⟩ => ⟨Fz, g, r, ?_⟩
  unfold tryF at h
  cases hfg : f g with
  | nx g' => rw [hfg] at h; exact fun σ' H' Fz' br go => h σ' H' Fz' br (go.sub fun i z => List.mem_append_left _ z)
  | bk g' => rw [hfg] at h; exact fun σ' H' Fz' br go => h σ' H' Fz' br (go.sub fun i z => List.mem_append_left _ z)
  | ct g' => rw [hfg] at h; exact fun σ' H' Fz' br go => h σ' H' Fz' br (go.sub fun i z => List.mem_append_left _ z)
  | rt d g' => rw [hfg] at h; exact h
  | rf d g' => rw [hfg] at h; exact h
  | no => rw [hfg] at h; exact h
  | ex e g' =>
    rw [hfg] at h
    simp only at h
    intro σ1 cl dx H1 Fz1 r1 go1 ok
    obtain ⟨C, rfl, hmg, hfl⟩ := ok
    cases hh : hd e.cls with
    | none => rw [hh] at h; exact h.elim
    | some q =>
      rw [hh] at h
      have hmg' : X.mg e.cls = some (.ref C) := by rw [hM] at hmg; exact hmg
      refine ⟨q, hcl _ _ _ hh hmg', fun hq a ha => ?_, fun hq => ?_⟩
      · subst hq
        simp only at h
        by_cases hil : i < g'.length
        · rw [if_pos hil] at h
          have r2 := suite_rel (i := i) (a := a) hx r1 hil
          have r1' := r1.setRaw hx i (some (.ref a))
          refine ⟨e, _, (by exact hM : (suiteB b Fz1 (g'.set i .un) (σ1.set i (some (.ref a))) H1 i a).M = _), rfl, ⟨⟨C, rfl, hmg⟩, hfl, fun c ⟨j, o⟩ => ?_⟩, Fz1, _, r2, ?_⟩
          · obtain ⟨s, u, _, nf, hu, w⟩ := r1'.there o
            exact ⟨nf, by show Mut (H1 c); rw [hu]; exact w.mut⟩
          · have go2 : Go [i] σ1 Fz1 H1 (σ1.set i (some (V.ref a))) Fz1 H1 := .set
            have fin : ∀ {σ' : L2.St} {H' : Hp} {Fz' : Fzn} {g3 : Sg}, BRel (suiteB b Fz1 (g'.set i .un) (σ1.set i (some (.ref a))) H1 i a) Fz' g3 σ' H' → g3.length = g'.length → BRel b Fz' (g3.set i .un) (σ'.set i none) H' := fun br hl => (suite_back hx r1 br hl).setRaw hx i none
            have fgo : ∀ {σ' : L2.St} {H' : Hp} {Fz' : Fzn}, Go as2 (σ1.set i (some (.ref a))) Fz1 H1 σ' Fz' H' → Go (as ++ i :: as2) σ Fz H (σ'.set i none) Fz' H' := fun go3 => by
              have z := (go1.trans (go2.trans go3)).trans (Go.set (i := i) (v := none))
              exact z.sub fun j hj => by
                rcases List.mem_append.mp hj with hj | hj
                · rcases List.mem_append.mp hj with hj | hj
                  · exact List.mem_append_left _ hj
                  · exact List.mem_append_right _ hj
                · exact List.mem_append_right _ (List.mem_append_left (bs := as2) (as := [i]) hj)
            cases hsx : sx e (g'.set i .un) with
            | nx g3 =>
              rw [hsx] at h
              dsimp only [endX] at h
              by_cases hl : g3.length = g'.length
              · rw [if_pos hl] at h; exact fun σ' H' Fz' br go3 => h _ H' Fz' (fin br hl) (fgo go3)
              · rw [if_neg hl] at h; exact h.elim
            | bk g3 =>
              rw [hsx] at h
              dsimp only [endX] at h
              by_cases hl : g3.length = g'.length
              · rw [if_pos hl] at h; exact fun σ' H' Fz' br go3 => h _ H' Fz' (fin br hl) (fgo go3)
              · rw [if_neg hl] at h; exact h.elim
            | ct g3 =>
              rw [hsx] at h
              dsimp only [endX] at h
              by_cases hl : g3.length = g'.length
              · rw [if_pos hl] at h; exact fun σ' H' Fz' br go3 => h _ H' Fz' (fin br hl) (fgo go3)
              · rw [if_neg hl] at h; exact h.elim
            | rt d g3 =>
              rw [hsx] at h
              dsimp only [endX] at h
              by_cases hl : g3.length = g'.length
              · rw [if_pos hl] at h; exact fun x σ' H' Fz' br rep => h x _ H' Fz' (fin br hl) rep
              · rw [if_neg hl] at h; exact h.elim
            | rf d g3 =>
              rw [hsx] at h
              dsimp only [endX] at h
              by_cases hl : g3.length = g'.length
              · rw [if_pos hl] at h
                refine fun x σ' H' Fz' br rep => h x _ H' Fz' (fin br hl) ?_
                obtain ⟨p, vs, rfl, h0, nf, hu, no, rr⟩ := rep
                refine ⟨p, vs, rfl, r1.new0 h0, nf, hu, fun j o => ?_, rr⟩
                obtain ⟨⟨s, es, ws⟩, qq⟩ := o
                rcases gset_get es with ⟨_, z⟩ | ⟨z, es⟩
                · rw [z] at ws; cases ws
                · rw [List.getElem?_set_ne (Ne.symm z)] at qq
                  exact no j ⟨⟨s, es, ws⟩, qq⟩
              · rw [if_neg hl] at h; exact h.elim
            | ex d g3 => rw [hsx] at h; exact h.elim
            | no => rw [hsx] at h; exact h.elim
        · rw [if_neg hil] at h; exact h.elim
      · subst hq
        exact h σ1 _ dx H1 Fz1 r1 (go1.sub fun i z => List.mem_append_left _ z) ⟨C, rfl, hmg, hfl⟩

/-! ### except c: without a name -/
def noEx : RS → RS
  | .ex _ _ => .no
  | r => r
def tryO (hd : Str → Option Bool) (body s : FS) : FS := fun g => match body g with
  | .ex e g' => match hd e.cls with
    | some true => noEx (s g')
    | some false => .ex e g'
    | none => .no
  | r => r
theorem pts_tryO {body suite : List Stmt} {b₀ : Stmt} {x : Str} {c : Value} {np pos pos' : Pos} {as as2 : List Nat} {f s : FS} {hd : Str → Option Bool} (hs : X.stack = X.env :: X.outer) (hf : X.env.frame = some X.env.locals) (hc : Names X x c) (tk : Takes X W)
    (hM : b.M = ⟨X.K, X.mg⟩) (hcl : ∀ nm r C, hd nm = some r → X.mg nm = some (.ref C) → PySem.W.exmOne X.K (.ref C) c = some r)
    (hb : ∀ (W : WX) (pn : List (Addr × Obj)) (xe : Value → Shared → Prop), Takes (X.tr pn xe) W → PassesOwn (model X.prog X.w) X.A X.env xe → PSs (X.tr pn xe) body (tSt b W as f))
    (hsu : ∀ (a : Addr) (oe : Obj) (pn : List (Addr × Obj)), PSs (X.suite a ((a, oe) :: pn)) (b₀ :: suite) (tSt b W0 as2 s)) :
    PS X (.Try body [.ExceptHandler (some (.Name x np)) none (b₀ :: suite) pos'] [] [] pos) (tSt b W (as ++ as2) (tryO hd f s)) := by
  refine ps_mono (ps_try_only (tb := fun W => tSt b W as f) (ts := fun a cls d => tSt b W0 as2 s) hs hf hc tk hb (fun a oe cls d pn hz hv => hsu a oe pn)) fun D σ H ⟨Fz, g, r, h⟩ => ⟨Fz, g, r, ?_⟩
  unfold tryO at h
  cases hfg : f g with
  | nx g' => rw [hfg] at h; exact fun σ' H' Fz' br go => h σ' H' Fz' br (go.sub fun i z => List.mem_append_left _ z)
  | bk g' => rw [hfg] at h; exact fun σ' H' Fz' br go => h σ' H' Fz' br (go.sub fun i z => List.mem_append_left _ z)
  | ct g' => rw [hfg] at h; exact fun σ' H' Fz' br go => h σ' H' Fz' br (go.sub fun i z => List.mem_append_left _ z)
  | rt d g' => rw [hfg] at h; exact h
  | rf d g' => rw [hfg] at h; exact h
  | no => rw [hfg] at h; exact h
  | ex e g' =>
    rw [hfg] at h
    simp only at h
    intro σ1 cl dx H1 Fz1 r1 go1 ok
    obtain ⟨C, rfl, hmg, hfl⟩ := ok
    cases hh : hd e.cls with
    | none => rw [hh] at h; exact h.elim
    | some q =>
      rw [hh] at h
      have hmg' : X.mg e.cls = some (.ref C) := by rw [hM] at hmg; exact hmg
      refine ⟨q, hcl _ _ _ hh hmg', fun hq a ha => ?_, fun hq => ?_⟩
      · subst hq
        refine ⟨Fz1, g', r1, ?_⟩
        have h' : PoS b W (as ++ as2) σ Fz H D (noEx (s g')) := h
        cases hs3 : s g' with
        | nx g3 => rw [hs3] at h'; exact fun σ' H' Fz' br go => h' σ' H' Fz' br (go1.trans go)
        | bk g3 => rw [hs3] at h'; exact fun σ' H' Fz' br go => h' σ' H' Fz' br (go1.trans go)
        | ct g3 => rw [hs3] at h'; exact fun σ' H' Fz' br go => h' σ' H' Fz' br (go1.trans go)
        | rt d g3 => rw [hs3] at h'; exact h'
        | rf d g3 => rw [hs3] at h'; exact h'
        | no => rw [hs3] at h'; exact h'
        | ex e3 g3 => rw [hs3] at h'; exact h'.elim
      · subst hq
        exact h σ1 _ dx H1 Fz1 r1 (go1.sub fun i z => List.mem_append_left _ z) ⟨C, rfl, hmg, hfl⟩
end

/-! ### in the suite -/
section
variable {X : Cx} {b : B} {i : Nat} {a : Addr} {oe : Obj} {cls : Value} {d : Option Addr} {pn : List (Addr × Obj)} {ex : Exn} {e : Expr} {pos p : Pos}
def lookD (n : Str) : List Str → List D → Option D
  | m :: ns, d :: ds => if n = m then some d else lookD n ns ds
  | _, _ => none
theorem lookD_ok {M : MM} {Fz : Fzn} {H : Hp} {n : Str} {z : D} : ∀ {ns : List Str} {ds : List D} {vs : List V}, lookD n ns ds = some z → RepL M Fz H ds vs → ∃ v, (ns.zip vs).lookup n = some v ∧ Rep M Fz H z v
  | [], _, _, h, _ => by simp [lookD] at h
  | _ :: _, [], _, h, _ => by simp [lookD] at h
  | m :: ns, d :: ds, vs, h, r => by
    obtain ⟨v, vr, rfl, r1, r2⟩ := RepL.cons_iff.mp r
    unfold lookD at h
    rw [List.zip_cons_cons, lookup_put]
    by_cases c : n = m
    · rw [if_pos c] at h ⊢
      cases h
      exact ⟨v, rfl, r1⟩
    · rw [if_neg c] at h ⊢
      exact lookD_ok h r2
/-- e.n -/
def xfF (cs : List Str) (n : Str) (ex : Exn) : FE := fun g => if ex.cls ∈ cs then opt (lookD n ex.ns ex.ds) g else .no
theorem pd_xf {cs : List Str} {n : Str} (hM : b.M = ⟨X.K, X.mg⟩) (hp : b.px = some (i, a)) (hh : XHeld b ex cls d) (hz : Zc cls d oe) (hf : ∃ vs, oe.data = .fields vs) (hcs : ∀ c ∈ cs, ∀ C, X.mg c = some (.ref C) → XfC X.K C ∧ PySem.W.findIn X.K (.ref C) n = some none)
    (he : PE (X.suite a ((a, oe) :: pn)) e (tVar i)) (hb : attributeBase e n X.env (eval e X.env) = eval e X.env := by rfl) :
    PE (X.suite a ((a, oe) :: pn)) (.Attribute e n pos) (tE b W0 (xfF cs n ex)) := ⟨fun pins s σ H Q I ⟨Fz, g, r, h⟩ => by
  unfold xfF at h
  by_cases c : ex.cls ∈ cs
  · rw [if_pos c] at h
    obtain ⟨C, rfl, hmg⟩ := hh.cl
    rw [hM] at hmg
    obtain ⟨k1, k2⟩ := hcs _ c C hmg
    obtain ⟨z, ez, h1⟩ := Po.opt h
    have ext := hh.ext r
    rcases hh.fl with ⟨q1, q2, q3⟩ | ⟨dd, vs, rfl, hdd, hl, rr⟩
    · rw [q1, q2] at ez
      cases ez
    · obtain ⟨v, ev, rv⟩ := lookD_ok ez (RepL.mono ext _ _ rr)
      refine (pe_xf k1 k2 hz hf he hb).run pins s σ H Q I ⟨.ref a, r.px i a hp, rfl, rfl, dd, _, v, rfl, ext.st _ _ hdd (.inr fun z => z), ev, h1.ok r .refl rv⟩
  · rw [if_neg c] at h; exact h.elim⟩

/-! isinstance(e, c) -/
end
end DL
namespace PySem.W
open PySem PySem.Spec PySem.Calls PyProof.Rows
section
variable {prog : Program} {w : World} {A : Around} {E : Value → Shared → Prop} {s : Shared} {K : Frag} {x D : Addr} {ox : Obj} {od : Option Obj}
theorem findObj_dataD {C : Addr} {name : Str} {a g : Value} (hc : (clsIn K C).isSome = true) (ha : findIn K (.ref C) name = some (some a)) (hg : specialIn K a "__get__" = some (some g)) (ht : takesIn K a = some true) : findObj K C od name = some (.bind g a) := by
  obtain ⟨cd, hc⟩ := Option.isSome_iff_exists.mp hc
  unfold findObj
  rw [hc, Option.bind_some, ha, Option.bind_some]
  simp [hg, ht]
theorem kin_classD {Q : Option Value → Shared → Prop} (hga : findIn K (.ref D) "__getattribute__" = some (some (.builtin "BaseException.__getattribute__"))) (hgt : findIn K (.ref D) "__getattr__" = some none) (hsub : subIn K (.ref D) (.type "BaseException") = some true)
    (hdct : hasDictIn K D = true) (ha : findIn K (.ref D) "__class__" = some (some (.builtin "object.__class__")))
    (hn : specialIn K (.builtin "object.__class__") "__get__" = some (some (.builtin "getset_descriptor.__get__"))) (htk : takesIn K (.builtin "object.__class__") = some true) (hm : mroIn K D (.type "object") = some true)
    (X : K.In s.heap) (I : InstAt s.heap x ox D od) (h : Q (some (.ref D)) { s with toks := s.toks + 1 }) : wpAny (model prog w) A (getAttr? (.ref x) "__class__") Q E s := by
  have hf : findObj K D od "__class__" = some (.bind (.builtin "getset_descriptor.__get__") (.builtin "object.__class__")) := findObj_dataD (by obtain ⟨cd, hc, _⟩ := any_some hdct; rw [hc]; rfl) ha hn htk
  obtain ⟨hp, g, d, t, os⟩ := s
  have L0 := I.type (M := model prog w)
  have L1 := looks_findIn (M := model prog w) X hga
  have L2 := looks_findIn (M := model prog w) X hgt
  have L3 := looks_find (M := model prog w) X I hf
  have sub : Looks (model prog w) hp (isInstance (.ref x) (.type "BaseException")) true := L0.andThen (looks_subIn X hsub)
  have hx0 : (false && onTheHeap (Value.builtin "BaseException.__getattribute__")) = false := rfl
  have hx2 : (Value.builtin "BaseException.__getattribute__" == Value.builtin "object.__getattribute__") = false := by decide +kernel
  have hx1 : (onTheHeap (Value.ref D) && Value.builtin "BaseException.__getattribute__" == Value.builtin "object.__getattribute__") = false := by rw [hx2]; rfl
  unfold getAttr? getAttrBy? getAttrBy
  refine wpAny_bind (wpAny_mkText (wpAny_bind (wpAny_attempt (wpAny_holding (wpAny_bind (L0.at (wpAny_bind (L1.at ?_))))))))
  show wpAny _ _ (if (onTheHeap (Value.ref D) && Value.builtin "BaseException.__getattribute__" == Value.builtin "object.__getattribute__") = true then _ else _) _ _ _
  rw [hx1, if_neg Bool.false_ne_true]
  unfold getAttrByItsOwn hookBefore
  refine wpAny_bind ?_
  rw [if_pos (show onTheHeap (Value.ref D) = true from rfl)]
  refine L2.at ?_
  refine wpAny_bind (wpAny_attempt (wpAny_holding ?_))
  unfold callGetattribute
  rw [hx0, if_neg Bool.false_ne_true]
  unfold boundAndCalled
  rw [PySem.F.excAttr_ValueError.ga.bind (.ref x)]
  refine wpAny_bind (wpAny_pure ?_)
  show wpAny _ _ (call (.builtin "BaseException.__getattribute__") [.ref x, .str "__class__" t]) _ _ _
  refine wpAny_call (codeAny_call_builtin PySem.F.excAttr_ValueError.ga.plain PySem.F.entry_bexc_ga ?_)
  refine @check_slot (model prog w) _ _ ⟨hp, g, d, t + 1, os⟩ "BaseException.__getattribute__" "BaseException" "__getattribute__" (.ref x) [.str "__class__" t] [] _ (by decide +kernel) (by decide +kernel) sub (PySem.F.args_bexc_ga (.ref x) (.str "__class__" t)) ?_
  unfold Builtin.«object.__getattribute__»
  refine wpAny_bind (wpAny_of_eq (a := ((Value.ref x : Value), [Value.str "__class__" t])) (by first | rfl | (simp only [slotArgs]; rfl)) ?_)
  refine wpAny_bind (wpAny_pure (wpAny_bind (L0.at (wpAny_bind (L3.at ?_)))))
  show wpAny _ _ (holding [Value.builtin "object.__class__"] (call (.builtin "getset_descriptor.__get__") [.builtin "object.__class__", .ref x, .ref D]) >>= ret) _ _ _
  refine wpAny_bind (wpAny_holding (wpAny_call (class_get (s := ⟨hp, g, d, t + 1, os⟩) (ox := ox) (od := od) X I hm ?_)))
  refine wpAny_pure ?_
  show wpAny _ _ (handedOut (.ref D)) _ _ _
  rw [handedOut_of (v := .ref D) rfl]
  first
    | exact wpAny_pure (wpAny_pure h)
    | exact wpAny_pure h
    | exact wpAny_pure (wpAny_bind (wpAny_pure (wpAny_pure h)))
theorem kitx_excD (hga : findIn K (.ref D) "__getattribute__" = some (some (.builtin "BaseException.__getattribute__"))) (hgt : findIn K (.ref D) "__getattr__" = some none) (hsub : subIn K (.ref D) (.type "BaseException") = some true) (hdct : hasDictIn K D = true) (ha : findIn K (.ref D) "__class__" = some (some (.builtin "object.__class__")))
    (hn : specialIn K (.builtin "object.__class__") "__get__" = some (some (.builtin "getset_descriptor.__get__"))) (htk : takesIn K (.builtin "object.__class__") = some true) (hm : mroIn K D (.type "object") = some true) :
    KitX K (.ref x) (.ref D) (fun h => InstAt h x ox D od) where
  ty := fun _ _ _ I => I.type
  it := fun _ _ X _ => by
    obtain ⟨cdD, hcD, _⟩ := any_some hdct
    unfold clsIn at hcD
    split at hcD
    · rename_i c' d' cd' sl' ho
      intro A' Q' E' s' k q
      unfold isType loadHead
      exact wpAny_bind (wpAny_loadPart (k _ _ (X _ _ ho)) (wpAny_pure q))
    · cases hcD
  ne := fun h tp dd its n sl X htp => by
    obtain ⟨cdD, hcD, _⟩ := any_some hdct
    refine Bool.eq_false_iff.mpr fun q => ?_
    have e : D = tp := Value.ref.inj (beq_iff_eq.mp q)
    subst e
    unfold clsIn at hcD
    split at hcD
    · rename_i c' d' cd' sl' ho
      have z := (X _ _ ho).symm.trans htp
      cases z
    · cases hcD
  ca := fun X I k => kin_classD hga hgt hsub hdct ha hn htk hm X I k
end
end PySem.W
namespace DL
open PySem L2 PySem.Spec PyProof.Rows
section
variable {X : Cx} {b : B} {i : Nat} {a : Addr} {oe : Obj} {cls : Value} {d : Option Addr} {pn : List (Addr × Obj)} {ex : Exn} {e e2 : Expr} {pos p : Pos}
def rIsD (K : PySem.W.Frag) (D a : Addr) (d : Option Addr) : List V → Hp → VK → Prop := fun xs H Q => ∃ (c : V) (cv : Value) (r : Bool), xs = [.ref a, c] ∧ (∀ u, RelV c u → u = cv) ∧ PySem.W.kitOne K (.ref D) cv = some r ∧ (∀ dd, d = some dd → ∃ fs, H dd = some (.xd fs)) ∧ Q (.bl r) H
theorem call_isD {D : Addr} (C : ExcC X.K D) (hz : Zc (.ref D) d oe) (hf : ∃ vs, oe.data = .fields vs) : CallR (X.suite a ((a, oe) :: pn)) (.builtin "isinstance") (rIsD X.K D a d) := by
  intro pins s σ H xs us Q I r h
  obtain ⟨c, cv, b, rfl, hcv, e, hd, q⟩ := h
  cases r with
  | cons rx rr =>
    cases rr with
    | cons rt rr =>
      cases rr
      cases rx
      have ec := hcv _ rt
      subst ec
      obtain ⟨hget, _⟩ := I.pin (a, oe) (List.mem_append.mpr (.inl List.mem_cons_self))
      obtain ⟨vs, hv⟩ := hf
      have J : ∃ od, PySem.W.InstAt s.heap a oe D od := by
        cases d with
        | none => exact ⟨none, hget, hz.1, by unfold PySem.W.notCls; rw [hv] <;> rfl, by rw [hz.2]; trivial⟩
        | some dd =>
          obtain ⟨fs, hx⟩ := hd dd rfl
          have ho : ObjOk X.prog X.w H s.heap dd (.xd fs) := I.hok dd _ hx
          obtain ⟨mA, hns, hr⟩ := ho
          obtain ⟨od, ho, hl⟩ := lookIn_ns hns
          exact ⟨some od, hget, hz.1, by unfold PySem.W.notCls; rw [hv] <;> rfl, by rw [hz.2]; exact ho⟩
      obtain ⟨od, J⟩ := J
      exact PySem.W.kia_one (PySem.W.kitx_excD C.hg C.hk C.hs C.hd C.ha C.hn C.ht C.hm) I.kIn J e (fun z => nomatch z) fun tk => ⟨.bl b, H, I.kept (t' := tk) fun _ _ z => z, rfl, q⟩
/-- isinstance(e, c): by the class's name -/
def isxF (tb : List (Str × Bool)) (ex : Exn) : FE := fun g => opt ((tb.lookup ex.cls).map D.bl) g
theorem pd_isx {tb : List (Str × Bool)} {c : V} {cv : Value} (hM : b.M = ⟨X.K, X.mg⟩) (hp : b.px = some (i, a)) (hh : XHeld b ex cls d) (hz : Zc cls d oe) (hf : ∃ vs, oe.data = .fields vs)
    (htb : ∀ q ∈ tb, ∀ C, X.mg q.1 = some (.ref C) → ExcC X.K C ∧ PySem.W.kitOne X.K (.ref C) cv = some q.2) (hcv : ∀ u, RelV c u → u = cv)
    (hg : Gl X "isinstance") (hm : X.mg "isinstance" = none) (h1 : PE (X.suite a ((a, oe) :: pn)) e (tVar i)) (h2 : PE (X.suite a ((a, oe) :: pn)) e2 (tC c))
    (hs1 : starEach (e2 :: []) X.env = (false, eval e2 X.env) :: starEach [] X.env := by rfl) (he : starEach (e :: [e2]) X.env = (false, eval e X.env) :: starEach [e2] X.env := by rfl) (hpl : (backTo pos (starEach [e2] X.env)).any (·.1) = false := by rfl) :
    PE (X.suite a ((a, oe) :: pn)) (.Call (.Name "isinstance" p) [e, e2] [] pos) (tE b W0 (isxF tb ex)) := ⟨fun pins s σ H Q I ⟨Fz, g, r, h⟩ => by
  unfold isxF at h
  obtain ⟨z, ez, h1'⟩ := Po.opt h
  obtain ⟨r', er, rfl⟩ := Option.map_eq_some_iff.mp ez
  obtain ⟨C, rfl, hmg⟩ := hh.cl
  rw [hM] at hmg
  have mem : (ex.cls, r') ∈ tb := PySem.mem_of_lookup er
  obtain ⟨k1, k2⟩ := htb _ mem C hmg
  have ext := hh.ext r
  refine (pe_callB (X := X.suite a ((a, oe) :: pn)) (call_isD k1 hz hf) hg hm (by decide +kernel) (pa_cons h1 (pa_cons h2 pa_nil hs1) he) (by decide) (by decide) he hpl).run pins s σ H Q I ⟨.ref a, r.px i a hp, c, cv, r', rfl, hcv, k2, fun dd hd => ?_, h1'.ok r .refl rep_bl⟩
  rcases hh.fl with ⟨q1, q2, q3⟩ | ⟨dd', vs, e1, hdd, hl, rr⟩
  · rw [q3] at hd; cases hd
  · rw [hd] at e1
    cases e1
    exact ⟨_, ext.st _ _ hdd (.inr fun z => z)⟩⟩
end
end DL
namespace DL
open PySem L2 PySem.Spec PyProof.Rows
/-- a clause's table, by the classes' names -/
def hdT (l : List (Str × Bool)) (nm : Str) : Option Bool := l.lookup nm
theorem hdT_ok {K : PySem.W.Frag} {mg : Str → Option Value} {c : Value} {l : List (Str × Bool)} (h : ∀ q ∈ l, ∀ C, mg q.1 = some (.ref C) → PySem.W.exmOne K (.ref C) c = some q.2) : ∀ nm r C, hdT l nm = some r → mg nm = some (.ref C) → PySem.W.exmOne K (.ref C) c = some r := fun nm r C e hm => h (nm, r) (PySem.mem_of_lookup e) C hm
theorem pxne {b : B} {i j : Nat} {a : Addr} (h : b.px = some (i, a)) (n : j ≠ i) : PxOk b j := fun c z => by
  rw [h] at z
  cases z
  exact n rfl
theorem skip_pss {X : Cx} {sts : List Stmt} {t : TS} (h : PSs X sts t) : PSs X sts (tSeq tNext t) := pss_mono h fun _ _ _ q => q
end DL

set_option Elab.async false
set_option linter.all false
set_option maxRecDepth 100000
set_option maxHeartbeats 4000000
/-! DenZ: shorthands (printed by mkz.py). -/
namespace DL
open PySem L2 PySem.Spec PyProof.Rows
section
variable {X : Cx} {b : B} {W : WX} {e1 e2 e3 : Expr} {f1 f2 f3 : FE} {g1 g2 : Sg → R AV} {pos : Pos} {k : Nat}
theorem castO {M M' : MM} {r : R2} {o : D → D → Option D} (h : M = M') (q : OpT M' r o) : OpT M r o := by rw [h]; exact q
theorem q_add (hM : b.M = ⟨X.K, X.mg⟩) (h1 : PE X e1 (tE b W f1)) (h2 : PE X e2 (tE b W f2)) : PE X (.BinOp e1 .Add e2 pos) (tE b W (op2F addD f1 f2)) := pd_op op_addA (castO hM opt_add) h1 h2
theorem v_add (hM : b.M = ⟨X.K, X.mg⟩) (h1 : PE X e1 (tA1 b W g1)) (h2 : PE X e2 (tA1 b W g2)) : PE X (.BinOp e1 .Add e2 pos) (tE b W (op2V addD g1 g2)) := pd_opV op_addA (castO hM opt_add) h1 h2
theorem q_sub (hM : b.M = ⟨X.K, X.mg⟩) (h1 : PE X e1 (tE b W f1)) (h2 : PE X e2 (tE b W f2)) : PE X (.BinOp e1 .Sub e2 pos) (tE b W (op2F subD f1 f2)) := pd_op op_sub (castO hM opt_sub) h1 h2
theorem v_sub (hM : b.M = ⟨X.K, X.mg⟩) (h1 : PE X e1 (tA1 b W g1)) (h2 : PE X e2 (tA1 b W g2)) : PE X (.BinOp e1 .Sub e2 pos) (tE b W (op2V subD g1 g2)) := pd_opV op_sub (castO hM opt_sub) h1 h2
theorem q_mul (hM : b.M = ⟨X.K, X.mg⟩) (h1 : PE X e1 (tE b W f1)) (h2 : PE X e2 (tE b W f2)) : PE X (.BinOp e1 .Mult e2 pos) (tE b W (op2F mulD f1 f2)) := pd_op op_mulA (castO hM opt_mul) h1 h2
theorem v_mul (hM : b.M = ⟨X.K, X.mg⟩) (h1 : PE X e1 (tA1 b W g1)) (h2 : PE X e2 (tA1 b W g2)) : PE X (.BinOp e1 .Mult e2 pos) (tE b W (op2V mulD g1 g2)) := pd_opV op_mulA (castO hM opt_mul) h1 h2
theorem q_fdiv (hM : b.M = ⟨X.K, X.mg⟩) (h1 : PE X e1 (tE b W f1)) (h2 : PE X e2 (tE b W f2)) : PE X (.BinOp e1 .FloorDiv e2 pos) (tE b W (op2F fdivD f1 f2)) := pd_op op_fdivL (castO hM opt_fdiv) h1 h2
theorem v_fdiv (hM : b.M = ⟨X.K, X.mg⟩) (h1 : PE X e1 (tA1 b W g1)) (h2 : PE X e2 (tA1 b W g2)) : PE X (.BinOp e1 .FloorDiv e2 pos) (tE b W (op2V fdivD g1 g2)) := pd_opV op_fdivL (castO hM opt_fdiv) h1 h2
theorem q_mod (hM : b.M = ⟨X.K, X.mg⟩) (h1 : PE X e1 (tE b W f1)) (h2 : PE X e2 (tE b W f2)) : PE X (.BinOp e1 .Mod e2 pos) (tE b W (op2F modD f1 f2)) := pd_op op_modN (castO hM opt_mod) h1 h2
theorem v_mod (hM : b.M = ⟨X.K, X.mg⟩) (h1 : PE X e1 (tA1 b W g1)) (h2 : PE X e2 (tA1 b W g2)) : PE X (.BinOp e1 .Mod e2 pos) (tE b W (op2V modD g1 g2)) := pd_opV op_modN (castO hM opt_mod) h1 h2
theorem q_pow (hM : b.M = ⟨X.K, X.mg⟩) (h1 : PE X e1 (tE b W f1)) (h2 : PE X e2 (tE b W f2)) : PE X (.BinOp e1 .Pow e2 pos) (tE b W (op2F powD f1 f2)) := pd_op op_pow (castO hM opt_pow) h1 h2
theorem v_pow (hM : b.M = ⟨X.K, X.mg⟩) (h1 : PE X e1 (tA1 b W g1)) (h2 : PE X e2 (tA1 b W g2)) : PE X (.BinOp e1 .Pow e2 pos) (tE b W (op2V powD g1 g2)) := pd_opV op_pow (castO hM opt_pow) h1 h2
theorem q_shl (hM : b.M = ⟨X.K, X.mg⟩) (h1 : PE X e1 (tE b W f1)) (h2 : PE X e2 (tE b W f2)) : PE X (.BinOp e1 .LShift e2 pos) (tE b W (op2F shlD f1 f2)) := pd_op op_shl (castO hM opt_shl) h1 h2
theorem v_shl (hM : b.M = ⟨X.K, X.mg⟩) (h1 : PE X e1 (tA1 b W g1)) (h2 : PE X e2 (tA1 b W g2)) : PE X (.BinOp e1 .LShift e2 pos) (tE b W (op2V shlD g1 g2)) := pd_opV op_shl (castO hM opt_shl) h1 h2
theorem q_shr (hM : b.M = ⟨X.K, X.mg⟩) (h1 : PE X e1 (tE b W f1)) (h2 : PE X e2 (tE b W f2)) : PE X (.BinOp e1 .RShift e2 pos) (tE b W (op2F shrD f1 f2)) := pd_op op_shr (castO hM opt_shr) h1 h2
theorem v_shr (hM : b.M = ⟨X.K, X.mg⟩) (h1 : PE X e1 (tA1 b W g1)) (h2 : PE X e2 (tA1 b W g2)) : PE X (.BinOp e1 .RShift e2 pos) (tE b W (op2V shrD g1 g2)) := pd_opV op_shr (castO hM opt_shr) h1 h2
theorem q_band (hM : b.M = ⟨X.K, X.mg⟩) (h1 : PE X e1 (tE b W f1)) (h2 : PE X e2 (tE b W f2)) : PE X (.BinOp e1 .BitAnd e2 pos) (tE b W (op2F andD f1 f2)) := pd_op op_and (castO hM opt_and) h1 h2
theorem v_band (hM : b.M = ⟨X.K, X.mg⟩) (h1 : PE X e1 (tA1 b W g1)) (h2 : PE X e2 (tA1 b W g2)) : PE X (.BinOp e1 .BitAnd e2 pos) (tE b W (op2V andD g1 g2)) := pd_opV op_and (castO hM opt_and) h1 h2
theorem q_bor (hM : b.M = ⟨X.K, X.mg⟩) (h1 : PE X e1 (tE b W f1)) (h2 : PE X e2 (tE b W f2)) : PE X (.BinOp e1 .BitOr e2 pos) (tE b W (op2F orD f1 f2)) := pd_op op_or (castO hM opt_or) h1 h2
theorem v_bor (hM : b.M = ⟨X.K, X.mg⟩) (h1 : PE X e1 (tA1 b W g1)) (h2 : PE X e2 (tA1 b W g2)) : PE X (.BinOp e1 .BitOr e2 pos) (tE b W (op2V orD g1 g2)) := pd_opV op_or (castO hM opt_or) h1 h2
theorem q_bxor (hM : b.M = ⟨X.K, X.mg⟩) (h1 : PE X e1 (tE b W f1)) (h2 : PE X e2 (tE b W f2)) : PE X (.BinOp e1 .BitXor e2 pos) (tE b W (op2F xorD f1 f2)) := pd_op op_xor (castO hM opt_xor) h1 h2
theorem v_bxor (hM : b.M = ⟨X.K, X.mg⟩) (h1 : PE X e1 (tA1 b W g1)) (h2 : PE X e2 (tA1 b W g2)) : PE X (.BinOp e1 .BitXor e2 pos) (tE b W (op2V xorD g1 g2)) := pd_opV op_xor (castO hM opt_xor) h1 h2
theorem q_lt (hM : b.M = ⟨X.K, X.mg⟩) (h1 : PE X e1 (tE b W f1)) (h2 : PE X e2 (tE b W f2)) (hm : behindInMarks .Lt e2 = false := by first | exact nobehind _ (by decide) (by decide) | rfl) : PE X (.Compare e1 [.Lt] [e2] pos) (tE b W (op2F ltD f1 f2)) := pd_cmp (op_lt) (castO hM opt_lt) h1 h2 hm
theorem v_lt (hM : b.M = ⟨X.K, X.mg⟩) (h1 : PE X e1 (tA1 b W g1)) (h2 : PE X e2 (tA1 b W g2)) (hm : behindInMarks .Lt e2 = false := by first | exact nobehind _ (by decide) (by decide) | rfl) : PE X (.Compare e1 [.Lt] [e2] pos) (tE b W (op2V ltD g1 g2)) := pd_cmpV (op_lt) (castO hM opt_lt) h1 h2 hm
theorem qt_lt (hM : b.M = ⟨X.K, X.mg⟩) (h1 : PE X e1 (tE b W f1)) (h2 : PE X e2 (tE b W f2)) (hm : behindInMarks .Lt e2 = false := by first | exact nobehind _ (by decide) (by decide) | rfl) : PT X (.Compare e1 [.Lt] [e2] pos) (tBo b W (tstF (op2F ltD f1 f2))) := pt_cmpD (op_lt) (castO hM opt_lt) h1 h2 hm
theorem vt_lt (hM : b.M = ⟨X.K, X.mg⟩) (h1 : PE X e1 (tA1 b W g1)) (h2 : PE X e2 (tA1 b W g2)) (hm : behindInMarks .Lt e2 = false := by first | exact nobehind _ (by decide) (by decide) | rfl) : PT X (.Compare e1 [.Lt] [e2] pos) (tBo b W (tstF (op2V ltD g1 g2))) := pt_cmpDV (op_lt) (castO hM opt_lt) h1 h2 hm
theorem q_le (hM : b.M = ⟨X.K, X.mg⟩) (h1 : PE X e1 (tE b W f1)) (h2 : PE X e2 (tE b W f2)) (hm : behindInMarks .LtE e2 = false := by first | exact nobehind _ (by decide) (by decide) | rfl) : PE X (.Compare e1 [.LtE] [e2] pos) (tE b W (op2F leD f1 f2)) := pd_cmp (op_le) (castO hM opt_le) h1 h2 hm
theorem v_le (hM : b.M = ⟨X.K, X.mg⟩) (h1 : PE X e1 (tA1 b W g1)) (h2 : PE X e2 (tA1 b W g2)) (hm : behindInMarks .LtE e2 = false := by first | exact nobehind _ (by decide) (by decide) | rfl) : PE X (.Compare e1 [.LtE] [e2] pos) (tE b W (op2V leD g1 g2)) := pd_cmpV (op_le) (castO hM opt_le) h1 h2 hm
theorem qt_le (hM : b.M = ⟨X.K, X.mg⟩) (h1 : PE X e1 (tE b W f1)) (h2 : PE X e2 (tE b W f2)) (hm : behindInMarks .LtE e2 = false := by first | exact nobehind _ (by decide) (by decide) | rfl) : PT X (.Compare e1 [.LtE] [e2] pos) (tBo b W (tstF (op2F leD f1 f2))) := pt_cmpD (op_le) (castO hM opt_le) h1 h2 hm
theorem vt_le (hM : b.M = ⟨X.K, X.mg⟩) (h1 : PE X e1 (tA1 b W g1)) (h2 : PE X e2 (tA1 b W g2)) (hm : behindInMarks .LtE e2 = false := by first | exact nobehind _ (by decide) (by decide) | rfl) : PT X (.Compare e1 [.LtE] [e2] pos) (tBo b W (tstF (op2V leD g1 g2))) := pt_cmpDV (op_le) (castO hM opt_le) h1 h2 hm
theorem q_gt (hM : b.M = ⟨X.K, X.mg⟩) (h1 : PE X e1 (tE b W f1)) (h2 : PE X e2 (tE b W f2)) (hm : behindInMarks .Gt e2 = false := by first | exact nobehind _ (by decide) (by decide) | rfl) : PE X (.Compare e1 [.Gt] [e2] pos) (tE b W (op2F gtD f1 f2)) := pd_cmp (op_gt) (castO hM opt_gt) h1 h2 hm
theorem v_gt (hM : b.M = ⟨X.K, X.mg⟩) (h1 : PE X e1 (tA1 b W g1)) (h2 : PE X e2 (tA1 b W g2)) (hm : behindInMarks .Gt e2 = false := by first | exact nobehind _ (by decide) (by decide) | rfl) : PE X (.Compare e1 [.Gt] [e2] pos) (tE b W (op2V gtD g1 g2)) := pd_cmpV (op_gt) (castO hM opt_gt) h1 h2 hm
theorem qt_gt (hM : b.M = ⟨X.K, X.mg⟩) (h1 : PE X e1 (tE b W f1)) (h2 : PE X e2 (tE b W f2)) (hm : behindInMarks .Gt e2 = false := by first | exact nobehind _ (by decide) (by decide) | rfl) : PT X (.Compare e1 [.Gt] [e2] pos) (tBo b W (tstF (op2F gtD f1 f2))) := pt_cmpD (op_gt) (castO hM opt_gt) h1 h2 hm
theorem vt_gt (hM : b.M = ⟨X.K, X.mg⟩) (h1 : PE X e1 (tA1 b W g1)) (h2 : PE X e2 (tA1 b W g2)) (hm : behindInMarks .Gt e2 = false := by first | exact nobehind _ (by decide) (by decide) | rfl) : PT X (.Compare e1 [.Gt] [e2] pos) (tBo b W (tstF (op2V gtD g1 g2))) := pt_cmpDV (op_gt) (castO hM opt_gt) h1 h2 hm
theorem q_ge (hM : b.M = ⟨X.K, X.mg⟩) (h1 : PE X e1 (tE b W f1)) (h2 : PE X e2 (tE b W f2)) (hm : behindInMarks .GtE e2 = false := by first | exact nobehind _ (by decide) (by decide) | rfl) : PE X (.Compare e1 [.GtE] [e2] pos) (tE b W (op2F geD f1 f2)) := pd_cmp (op_ge) (castO hM opt_ge) h1 h2 hm
theorem v_ge (hM : b.M = ⟨X.K, X.mg⟩) (h1 : PE X e1 (tA1 b W g1)) (h2 : PE X e2 (tA1 b W g2)) (hm : behindInMarks .GtE e2 = false := by first | exact nobehind _ (by decide) (by decide) | rfl) : PE X (.Compare e1 [.GtE] [e2] pos) (tE b W (op2V geD g1 g2)) := pd_cmpV (op_ge) (castO hM opt_ge) h1 h2 hm
theorem qt_ge (hM : b.M = ⟨X.K, X.mg⟩) (h1 : PE X e1 (tE b W f1)) (h2 : PE X e2 (tE b W f2)) (hm : behindInMarks .GtE e2 = false := by first | exact nobehind _ (by decide) (by decide) | rfl) : PT X (.Compare e1 [.GtE] [e2] pos) (tBo b W (tstF (op2F geD f1 f2))) := pt_cmpD (op_ge) (castO hM opt_ge) h1 h2 hm
theorem vt_ge (hM : b.M = ⟨X.K, X.mg⟩) (h1 : PE X e1 (tA1 b W g1)) (h2 : PE X e2 (tA1 b W g2)) (hm : behindInMarks .GtE e2 = false := by first | exact nobehind _ (by decide) (by decide) | rfl) : PT X (.Compare e1 [.GtE] [e2] pos) (tBo b W (tstF (op2V geD g1 g2))) := pt_cmpDV (op_ge) (castO hM opt_ge) h1 h2 hm
theorem q_eq (hM : b.M = ⟨X.K, X.mg⟩) (hr : Room k X.A) (h1 : PE X e1 (tE b W f1)) (h2 : PE X e2 (tE b W f2)) (hm : behindInMarks .Eq e2 = false := by first | exact nobehind _ (by decide) (by decide) | rfl) : PE X (.Compare e1 [.Eq] [e2] pos) (tE b W (op2F eqD f1 f2)) := pd_cmp (op_eqR hr) (castO hM opt_eq) h1 h2 hm
theorem v_eq (hM : b.M = ⟨X.K, X.mg⟩) (hr : Room k X.A) (h1 : PE X e1 (tA1 b W g1)) (h2 : PE X e2 (tA1 b W g2)) (hm : behindInMarks .Eq e2 = false := by first | exact nobehind _ (by decide) (by decide) | rfl) : PE X (.Compare e1 [.Eq] [e2] pos) (tE b W (op2V eqD g1 g2)) := pd_cmpV (op_eqR hr) (castO hM opt_eq) h1 h2 hm
theorem qt_eq (hM : b.M = ⟨X.K, X.mg⟩) (hr : Room k X.A) (h1 : PE X e1 (tE b W f1)) (h2 : PE X e2 (tE b W f2)) (hm : behindInMarks .Eq e2 = false := by first | exact nobehind _ (by decide) (by decide) | rfl) : PT X (.Compare e1 [.Eq] [e2] pos) (tBo b W (tstF (op2F eqD f1 f2))) := pt_cmpD (op_eqR hr) (castO hM opt_eq) h1 h2 hm
theorem vt_eq (hM : b.M = ⟨X.K, X.mg⟩) (hr : Room k X.A) (h1 : PE X e1 (tA1 b W g1)) (h2 : PE X e2 (tA1 b W g2)) (hm : behindInMarks .Eq e2 = false := by first | exact nobehind _ (by decide) (by decide) | rfl) : PT X (.Compare e1 [.Eq] [e2] pos) (tBo b W (tstF (op2V eqD g1 g2))) := pt_cmpDV (op_eqR hr) (castO hM opt_eq) h1 h2 hm
theorem q_ne (hM : b.M = ⟨X.K, X.mg⟩) (hr : Room k X.A) (h1 : PE X e1 (tE b W f1)) (h2 : PE X e2 (tE b W f2)) (hm : behindInMarks .NotEq e2 = false := by first | exact nobehind _ (by decide) (by decide) | rfl) : PE X (.Compare e1 [.NotEq] [e2] pos) (tE b W (op2F neD f1 f2)) := pd_cmp (op_neR hr) (castO hM opt_ne) h1 h2 hm
theorem v_ne (hM : b.M = ⟨X.K, X.mg⟩) (hr : Room k X.A) (h1 : PE X e1 (tA1 b W g1)) (h2 : PE X e2 (tA1 b W g2)) (hm : behindInMarks .NotEq e2 = false := by first | exact nobehind _ (by decide) (by decide) | rfl) : PE X (.Compare e1 [.NotEq] [e2] pos) (tE b W (op2V neD g1 g2)) := pd_cmpV (op_neR hr) (castO hM opt_ne) h1 h2 hm
theorem qt_ne (hM : b.M = ⟨X.K, X.mg⟩) (hr : Room k X.A) (h1 : PE X e1 (tE b W f1)) (h2 : PE X e2 (tE b W f2)) (hm : behindInMarks .NotEq e2 = false := by first | exact nobehind _ (by decide) (by decide) | rfl) : PT X (.Compare e1 [.NotEq] [e2] pos) (tBo b W (tstF (op2F neD f1 f2))) := pt_cmpD (op_neR hr) (castO hM opt_ne) h1 h2 hm
theorem vt_ne (hM : b.M = ⟨X.K, X.mg⟩) (hr : Room k X.A) (h1 : PE X e1 (tA1 b W g1)) (h2 : PE X e2 (tA1 b W g2)) (hm : behindInMarks .NotEq e2 = false := by first | exact nobehind _ (by decide) (by decide) | rfl) : PT X (.Compare e1 [.NotEq] [e2] pos) (tBo b W (tstF (op2V neD g1 g2))) := pt_cmpDV (op_neR hr) (castO hM opt_ne) h1 h2 hm
theorem q_in (hM : b.M = ⟨X.K, X.mg⟩) (hr : Room k X.A) (h1 : PE X e1 (tE b W f1)) (h2 : PE X e2 (tE b W f2)) (hm : behindInMarks .In e2 = false := by first | exact nobehind _ (by decide) (by decide) | rfl) : PE X (.Compare e1 [.In] [e2] pos) (tE b W (op2F inD f1 f2)) := pd_cmp (op_inR hr) (castO hM opt_in) h1 h2 hm
theorem v_in (hM : b.M = ⟨X.K, X.mg⟩) (hr : Room k X.A) (h1 : PE X e1 (tA1 b W g1)) (h2 : PE X e2 (tA1 b W g2)) (hm : behindInMarks .In e2 = false := by first | exact nobehind _ (by decide) (by decide) | rfl) : PE X (.Compare e1 [.In] [e2] pos) (tE b W (op2V inD g1 g2)) := pd_cmpV (op_inR hr) (castO hM opt_in) h1 h2 hm
theorem qt_in (hM : b.M = ⟨X.K, X.mg⟩) (hr : Room k X.A) (h1 : PE X e1 (tE b W f1)) (h2 : PE X e2 (tE b W f2)) (hm : behindInMarks .In e2 = false := by first | exact nobehind _ (by decide) (by decide) | rfl) : PT X (.Compare e1 [.In] [e2] pos) (tBo b W (tstF (op2F inD f1 f2))) := pt_cmpD (op_inR hr) (castO hM opt_in) h1 h2 hm
theorem vt_in (hM : b.M = ⟨X.K, X.mg⟩) (hr : Room k X.A) (h1 : PE X e1 (tA1 b W g1)) (h2 : PE X e2 (tA1 b W g2)) (hm : behindInMarks .In e2 = false := by first | exact nobehind _ (by decide) (by decide) | rfl) : PT X (.Compare e1 [.In] [e2] pos) (tBo b W (tstF (op2V inD g1 g2))) := pt_cmpDV (op_inR hr) (castO hM opt_in) h1 h2 hm
theorem q_notin (hM : b.M = ⟨X.K, X.mg⟩) (hr : Room k X.A) (h1 : PE X e1 (tE b W f1)) (h2 : PE X e2 (tE b W f2)) (hm : behindInMarks .NotIn e2 = false := by first | exact nobehind _ (by decide) (by decide) | rfl) : PE X (.Compare e1 [.NotIn] [e2] pos) (tE b W (op2F notInD f1 f2)) := pd_cmp (op_notInR hr) (castO hM opt_notIn) h1 h2 hm
theorem v_notin (hM : b.M = ⟨X.K, X.mg⟩) (hr : Room k X.A) (h1 : PE X e1 (tA1 b W g1)) (h2 : PE X e2 (tA1 b W g2)) (hm : behindInMarks .NotIn e2 = false := by first | exact nobehind _ (by decide) (by decide) | rfl) : PE X (.Compare e1 [.NotIn] [e2] pos) (tE b W (op2V notInD g1 g2)) := pd_cmpV (op_notInR hr) (castO hM opt_notIn) h1 h2 hm
theorem qt_notin (hM : b.M = ⟨X.K, X.mg⟩) (hr : Room k X.A) (h1 : PE X e1 (tE b W f1)) (h2 : PE X e2 (tE b W f2)) (hm : behindInMarks .NotIn e2 = false := by first | exact nobehind _ (by decide) (by decide) | rfl) : PT X (.Compare e1 [.NotIn] [e2] pos) (tBo b W (tstF (op2F notInD f1 f2))) := pt_cmpD (op_notInR hr) (castO hM opt_notIn) h1 h2 hm
theorem vt_notin (hM : b.M = ⟨X.K, X.mg⟩) (hr : Room k X.A) (h1 : PE X e1 (tA1 b W g1)) (h2 : PE X e2 (tA1 b W g2)) (hm : behindInMarks .NotIn e2 = false := by first | exact nobehind _ (by decide) (by decide) | rfl) : PT X (.Compare e1 [.NotIn] [e2] pos) (tBo b W (tstF (op2V notInD g1 g2))) := pt_cmpDV (op_notInR hr) (castO hM opt_notIn) h1 h2 hm
theorem q_is (hM : b.M = ⟨X.K, X.mg⟩) (h1 : PE X e1 (tE b W f1)) (h2 : PE X e2 (tE b W f2)) (hm : behindInMarks .Is e2 = false := by first | exact nobehind _ (by decide) (by decide) | rfl) : PE X (.Compare e1 [.Is] [e2] pos) (tE b W (op2F isD f1 f2)) := pd_cmp (op_isN) (castO hM opt_is) h1 h2 hm
theorem v_is (hM : b.M = ⟨X.K, X.mg⟩) (h1 : PE X e1 (tA1 b W g1)) (h2 : PE X e2 (tA1 b W g2)) (hm : behindInMarks .Is e2 = false := by first | exact nobehind _ (by decide) (by decide) | rfl) : PE X (.Compare e1 [.Is] [e2] pos) (tE b W (op2V isD g1 g2)) := pd_cmpV (op_isN) (castO hM opt_is) h1 h2 hm
theorem qt_is (hM : b.M = ⟨X.K, X.mg⟩) (h1 : PE X e1 (tE b W f1)) (h2 : PE X e2 (tE b W f2)) (hm : behindInMarks .Is e2 = false := by first | exact nobehind _ (by decide) (by decide) | rfl) : PT X (.Compare e1 [.Is] [e2] pos) (tBo b W (tstF (op2F isD f1 f2))) := pt_cmpD (op_isN) (castO hM opt_is) h1 h2 hm
theorem vt_is (hM : b.M = ⟨X.K, X.mg⟩) (h1 : PE X e1 (tA1 b W g1)) (h2 : PE X e2 (tA1 b W g2)) (hm : behindInMarks .Is e2 = false := by first | exact nobehind _ (by decide) (by decide) | rfl) : PT X (.Compare e1 [.Is] [e2] pos) (tBo b W (tstF (op2V isD g1 g2))) := pt_cmpDV (op_isN) (castO hM opt_is) h1 h2 hm
theorem q_isnot (hM : b.M = ⟨X.K, X.mg⟩) (h1 : PE X e1 (tE b W f1)) (h2 : PE X e2 (tE b W f2)) (hm : behindInMarks .IsNot e2 = false := by first | exact nobehind _ (by decide) (by decide) | rfl) : PE X (.Compare e1 [.IsNot] [e2] pos) (tE b W (op2F isNotD f1 f2)) := pd_cmp (op_notN) (castO hM opt_isNot) h1 h2 hm
theorem v_isnot (hM : b.M = ⟨X.K, X.mg⟩) (h1 : PE X e1 (tA1 b W g1)) (h2 : PE X e2 (tA1 b W g2)) (hm : behindInMarks .IsNot e2 = false := by first | exact nobehind _ (by decide) (by decide) | rfl) : PE X (.Compare e1 [.IsNot] [e2] pos) (tE b W (op2V isNotD g1 g2)) := pd_cmpV (op_notN) (castO hM opt_isNot) h1 h2 hm
theorem qt_isnot (hM : b.M = ⟨X.K, X.mg⟩) (h1 : PE X e1 (tE b W f1)) (h2 : PE X e2 (tE b W f2)) (hm : behindInMarks .IsNot e2 = false := by first | exact nobehind _ (by decide) (by decide) | rfl) : PT X (.Compare e1 [.IsNot] [e2] pos) (tBo b W (tstF (op2F isNotD f1 f2))) := pt_cmpD (op_notN) (castO hM opt_isNot) h1 h2 hm
theorem vt_isnot (hM : b.M = ⟨X.K, X.mg⟩) (h1 : PE X e1 (tA1 b W g1)) (h2 : PE X e2 (tA1 b W g2)) (hm : behindInMarks .IsNot e2 = false := by first | exact nobehind _ (by decide) (by decide) | rfl) : PT X (.Compare e1 [.IsNot] [e2] pos) (tBo b W (tstF (op2V isNotD g1 g2))) := pt_cmpDV (op_notN) (castO hM opt_isNot) h1 h2 hm
theorem q_lt_lt (hM : b.M = ⟨X.K, X.mg⟩) (h1 : PE X e1 (tE b W f1)) (h2 : PE X e2 (tE b W f2)) (h3 : PE X e3 (tE b W f3)) (hm : lastMarks [.Lt, .Lt] [e2, e3] = false := by with_unfolding_all rfl) : PE X (.Compare e1 [.Lt, .Lt] [e2, e3] pos) (tE b W (chF ltD ltD f1 f2 f3)) := pd_chain (op_lt) (op_lt) (castO hM opt_lt) (castO hM opt_lt) h1 h2 h3 hm
theorem qt_lt_lt (hM : b.M = ⟨X.K, X.mg⟩) (h1 : PE X e1 (tE b W f1)) (h2 : PE X e2 (tE b W f2)) (h3 : PE X e3 (tE b W f3)) (hm : lastMarks [.Lt, .Lt] [e2, e3] = false := by with_unfolding_all rfl) : PT X (.Compare e1 [.Lt, .Lt] [e2, e3] pos) (tBo b W (tstF (chF ltD ltD f1 f2 f3))) := pt_chainD (op_lt) (op_lt) (castO hM opt_lt) (castO hM opt_lt) h1 h2 h3 hm
theorem q_lt_le (hM : b.M = ⟨X.K, X.mg⟩) (h1 : PE X e1 (tE b W f1)) (h2 : PE X e2 (tE b W f2)) (h3 : PE X e3 (tE b W f3)) (hm : lastMarks [.Lt, .LtE] [e2, e3] = false := by with_unfolding_all rfl) : PE X (.Compare e1 [.Lt, .LtE] [e2, e3] pos) (tE b W (chF ltD leD f1 f2 f3)) := pd_chain (op_lt) (op_le) (castO hM opt_lt) (castO hM opt_le) h1 h2 h3 hm
theorem qt_lt_le (hM : b.M = ⟨X.K, X.mg⟩) (h1 : PE X e1 (tE b W f1)) (h2 : PE X e2 (tE b W f2)) (h3 : PE X e3 (tE b W f3)) (hm : lastMarks [.Lt, .LtE] [e2, e3] = false := by with_unfolding_all rfl) : PT X (.Compare e1 [.Lt, .LtE] [e2, e3] pos) (tBo b W (tstF (chF ltD leD f1 f2 f3))) := pt_chainD (op_lt) (op_le) (castO hM opt_lt) (castO hM opt_le) h1 h2 h3 hm
theorem q_lt_gt (hM : b.M = ⟨X.K, X.mg⟩) (h1 : PE X e1 (tE b W f1)) (h2 : PE X e2 (tE b W f2)) (h3 : PE X e3 (tE b W f3)) (hm : lastMarks [.Lt, .Gt] [e2, e3] = false := by with_unfolding_all rfl) : PE X (.Compare e1 [.Lt, .Gt] [e2, e3] pos) (tE b W (chF ltD gtD f1 f2 f3)) := pd_chain (op_lt) (op_gt) (castO hM opt_lt) (castO hM opt_gt) h1 h2 h3 hm
theorem qt_lt_gt (hM : b.M = ⟨X.K, X.mg⟩) (h1 : PE X e1 (tE b W f1)) (h2 : PE X e2 (tE b W f2)) (h3 : PE X e3 (tE b W f3)) (hm : lastMarks [.Lt, .Gt] [e2, e3] = false := by with_unfolding_all rfl) : PT X (.Compare e1 [.Lt, .Gt] [e2, e3] pos) (tBo b W (tstF (chF ltD gtD f1 f2 f3))) := pt_chainD (op_lt) (op_gt) (castO hM opt_lt) (castO hM opt_gt) h1 h2 h3 hm
theorem q_lt_ge (hM : b.M = ⟨X.K, X.mg⟩) (h1 : PE X e1 (tE b W f1)) (h2 : PE X e2 (tE b W f2)) (h3 : PE X e3 (tE b W f3)) (hm : lastMarks [.Lt, .GtE] [e2, e3] = false := by with_unfolding_all rfl) : PE X (.Compare e1 [.Lt, .GtE] [e2, e3] pos) (tE b W (chF ltD geD f1 f2 f3)) := pd_chain (op_lt) (op_ge) (castO hM opt_lt) (castO hM opt_ge) h1 h2 h3 hm
theorem qt_lt_ge (hM : b.M = ⟨X.K, X.mg⟩) (h1 : PE X e1 (tE b W f1)) (h2 : PE X e2 (tE b W f2)) (h3 : PE X e3 (tE b W f3)) (hm : lastMarks [.Lt, .GtE] [e2, e3] = false := by with_unfolding_all rfl) : PT X (.Compare e1 [.Lt, .GtE] [e2, e3] pos) (tBo b W (tstF (chF ltD geD f1 f2 f3))) := pt_chainD (op_lt) (op_ge) (castO hM opt_lt) (castO hM opt_ge) h1 h2 h3 hm
theorem q_lt_eq (hM : b.M = ⟨X.K, X.mg⟩) (hr : Room k X.A) (h1 : PE X e1 (tE b W f1)) (h2 : PE X e2 (tE b W f2)) (h3 : PE X e3 (tE b W f3)) (hm : lastMarks [.Lt, .Eq] [e2, e3] = false := by with_unfolding_all rfl) : PE X (.Compare e1 [.Lt, .Eq] [e2, e3] pos) (tE b W (chF ltD eqD f1 f2 f3)) := pd_chain (op_lt) (op_eqR hr) (castO hM opt_lt) (castO hM opt_eq) h1 h2 h3 hm
theorem qt_lt_eq (hM : b.M = ⟨X.K, X.mg⟩) (hr : Room k X.A) (h1 : PE X e1 (tE b W f1)) (h2 : PE X e2 (tE b W f2)) (h3 : PE X e3 (tE b W f3)) (hm : lastMarks [.Lt, .Eq] [e2, e3] = false := by with_unfolding_all rfl) : PT X (.Compare e1 [.Lt, .Eq] [e2, e3] pos) (tBo b W (tstF (chF ltD eqD f1 f2 f3))) := pt_chainD (op_lt) (op_eqR hr) (castO hM opt_lt) (castO hM opt_eq) h1 h2 h3 hm
theorem q_lt_ne (hM : b.M = ⟨X.K, X.mg⟩) (hr : Room k X.A) (h1 : PE X e1 (tE b W f1)) (h2 : PE X e2 (tE b W f2)) (h3 : PE X e3 (tE b W f3)) (hm : lastMarks [.Lt, .NotEq] [e2, e3] = false := by with_unfolding_all rfl) : PE X (.Compare e1 [.Lt, .NotEq] [e2, e3] pos) (tE b W (chF ltD neD f1 f2 f3)) := pd_chain (op_lt) (op_neR hr) (castO hM opt_lt) (castO hM opt_ne) h1 h2 h3 hm
theorem qt_lt_ne (hM : b.M = ⟨X.K, X.mg⟩) (hr : Room k X.A) (h1 : PE X e1 (tE b W f1)) (h2 : PE X e2 (tE b W f2)) (h3 : PE X e3 (tE b W f3)) (hm : lastMarks [.Lt, .NotEq] [e2, e3] = false := by with_unfolding_all rfl) : PT X (.Compare e1 [.Lt, .NotEq] [e2, e3] pos) (tBo b W (tstF (chF ltD neD f1 f2 f3))) := pt_chainD (op_lt) (op_neR hr) (castO hM opt_lt) (castO hM opt_ne) h1 h2 h3 hm
theorem q_le_lt (hM : b.M = ⟨X.K, X.mg⟩) (h1 : PE X e1 (tE b W f1)) (h2 : PE X e2 (tE b W f2)) (h3 : PE X e3 (tE b W f3)) (hm : lastMarks [.LtE, .Lt] [e2, e3] = false := by with_unfolding_all rfl) : PE X (.Compare e1 [.LtE, .Lt] [e2, e3] pos) (tE b W (chF leD ltD f1 f2 f3)) := pd_chain (op_le) (op_lt) (castO hM opt_le) (castO hM opt_lt) h1 h2 h3 hm
theorem qt_le_lt (hM : b.M = ⟨X.K, X.mg⟩) (h1 : PE X e1 (tE b W f1)) (h2 : PE X e2 (tE b W f2)) (h3 : PE X e3 (tE b W f3)) (hm : lastMarks [.LtE, .Lt] [e2, e3] = false := by with_unfolding_all rfl) : PT X (.Compare e1 [.LtE, .Lt] [e2, e3] pos) (tBo b W (tstF (chF leD ltD f1 f2 f3))) := pt_chainD (op_le) (op_lt) (castO hM opt_le) (castO hM opt_lt) h1 h2 h3 hm
theorem q_le_le (hM : b.M = ⟨X.K, X.mg⟩) (h1 : PE X e1 (tE b W f1)) (h2 : PE X e2 (tE b W f2)) (h3 : PE X e3 (tE b W f3)) (hm : lastMarks [.LtE, .LtE] [e2, e3] = false := by with_unfolding_all rfl) : PE X (.Compare e1 [.LtE, .LtE] [e2, e3] pos) (tE b W (chF leD leD f1 f2 f3)) := pd_chain (op_le) (op_le) (castO hM opt_le) (castO hM opt_le) h1 h2 h3 hm
theorem qt_le_le (hM : b.M = ⟨X.K, X.mg⟩) (h1 : PE X e1 (tE b W f1)) (h2 : PE X e2 (tE b W f2)) (h3 : PE X e3 (tE b W f3)) (hm : lastMarks [.LtE, .LtE] [e2, e3] = false := by with_unfolding_all rfl) : PT X (.Compare e1 [.LtE, .LtE] [e2, e3] pos) (tBo b W (tstF (chF leD leD f1 f2 f3))) := pt_chainD (op_le) (op_le) (castO hM opt_le) (castO hM opt_le) h1 h2 h3 hm
theorem q_le_gt (hM : b.M = ⟨X.K, X.mg⟩) (h1 : PE X e1 (tE b W f1)) (h2 : PE X e2 (tE b W f2)) (h3 : PE X e3 (tE b W f3)) (hm : lastMarks [.LtE, .Gt] [e2, e3] = false := by with_unfolding_all rfl) : PE X (.Compare e1 [.LtE, .Gt] [e2, e3] pos) (tE b W (chF leD gtD f1 f2 f3)) := pd_chain (op_le) (op_gt) (castO hM opt_le) (castO hM opt_gt) h1 h2 h3 hm
theorem qt_le_gt (hM : b.M = ⟨X.K, X.mg⟩) (h1 : PE X e1 (tE b W f1)) (h2 : PE X e2 (tE b W f2)) (h3 : PE X e3 (tE b W f3)) (hm : lastMarks [.LtE, .Gt] [e2, e3] = false := by with_unfolding_all rfl) : PT X (.Compare e1 [.LtE, .Gt] [e2, e3] pos) (tBo b W (tstF (chF leD gtD f1 f2 f3))) := pt_chainD (op_le) (op_gt) (castO hM opt_le) (castO hM opt_gt) h1 h2 h3 hm
theorem q_le_ge (hM : b.M = ⟨X.K, X.mg⟩) (h1 : PE X e1 (tE b W f1)) (h2 : PE X e2 (tE b W f2)) (h3 : PE X e3 (tE b W f3)) (hm : lastMarks [.LtE, .GtE] [e2, e3] = false := by with_unfolding_all rfl) : PE X (.Compare e1 [.LtE, .GtE] [e2, e3] pos) (tE b W (chF leD geD f1 f2 f3)) := pd_chain (op_le) (op_ge) (castO hM opt_le) (castO hM opt_ge) h1 h2 h3 hm
theorem qt_le_ge (hM : b.M = ⟨X.K, X.mg⟩) (h1 : PE X e1 (tE b W f1)) (h2 : PE X e2 (tE b W f2)) (h3 : PE X e3 (tE b W f3)) (hm : lastMarks [.LtE, .GtE] [e2, e3] = false := by with_unfolding_all rfl) : PT X (.Compare e1 [.LtE, .GtE] [e2, e3] pos) (tBo b W (tstF (chF leD geD f1 f2 f3))) := pt_chainD (op_le) (op_ge) (castO hM opt_le) (castO hM opt_ge) h1 h2 h3 hm
theorem q_le_eq (hM : b.M = ⟨X.K, X.mg⟩) (hr : Room k X.A) (h1 : PE X e1 (tE b W f1)) (h2 : PE X e2 (tE b W f2)) (h3 : PE X e3 (tE b W f3)) (hm : lastMarks [.LtE, .Eq] [e2, e3] = false := by with_unfolding_all rfl) : PE X (.Compare e1 [.LtE, .Eq] [e2, e3] pos) (tE b W (chF leD eqD f1 f2 f3)) := pd_chain (op_le) (op_eqR hr) (castO hM opt_le) (castO hM opt_eq) h1 h2 h3 hm
theorem qt_le_eq (hM : b.M = ⟨X.K, X.mg⟩) (hr : Room k X.A) (h1 : PE X e1 (tE b W f1)) (h2 : PE X e2 (tE b W f2)) (h3 : PE X e3 (tE b W f3)) (hm : lastMarks [.LtE, .Eq] [e2, e3] = false := by with_unfolding_all rfl) : PT X (.Compare e1 [.LtE, .Eq] [e2, e3] pos) (tBo b W (tstF (chF leD eqD f1 f2 f3))) := pt_chainD (op_le) (op_eqR hr) (castO hM opt_le) (castO hM opt_eq) h1 h2 h3 hm
theorem q_le_ne (hM : b.M = ⟨X.K, X.mg⟩) (hr : Room k X.A) (h1 : PE X e1 (tE b W f1)) (h2 : PE X e2 (tE b W f2)) (h3 : PE X e3 (tE b W f3)) (hm : lastMarks [.LtE, .NotEq] [e2, e3] = false := by with_unfolding_all rfl) : PE X (.Compare e1 [.LtE, .NotEq] [e2, e3] pos) (tE b W (chF leD neD f1 f2 f3)) := pd_chain (op_le) (op_neR hr) (castO hM opt_le) (castO hM opt_ne) h1 h2 h3 hm
theorem qt_le_ne (hM : b.M = ⟨X.K, X.mg⟩) (hr : Room k X.A) (h1 : PE X e1 (tE b W f1)) (h2 : PE X e2 (tE b W f2)) (h3 : PE X e3 (tE b W f3)) (hm : lastMarks [.LtE, .NotEq] [e2, e3] = false := by with_unfolding_all rfl) : PT X (.Compare e1 [.LtE, .NotEq] [e2, e3] pos) (tBo b W (tstF (chF leD neD f1 f2 f3))) := pt_chainD (op_le) (op_neR hr) (castO hM opt_le) (castO hM opt_ne) h1 h2 h3 hm
theorem q_gt_lt (hM : b.M = ⟨X.K, X.mg⟩) (h1 : PE X e1 (tE b W f1)) (h2 : PE X e2 (tE b W f2)) (h3 : PE X e3 (tE b W f3)) (hm : lastMarks [.Gt, .Lt] [e2, e3] = false := by with_unfolding_all rfl) : PE X (.Compare e1 [.Gt, .Lt] [e2, e3] pos) (tE b W (chF gtD ltD f1 f2 f3)) := pd_chain (op_gt) (op_lt) (castO hM opt_gt) (castO hM opt_lt) h1 h2 h3 hm
theorem qt_gt_lt (hM : b.M = ⟨X.K, X.mg⟩) (h1 : PE X e1 (tE b W f1)) (h2 : PE X e2 (tE b W f2)) (h3 : PE X e3 (tE b W f3)) (hm : lastMarks [.Gt, .Lt] [e2, e3] = false := by with_unfolding_all rfl) : PT X (.Compare e1 [.Gt, .Lt] [e2, e3] pos) (tBo b W (tstF (chF gtD ltD f1 f2 f3))) := pt_chainD (op_gt) (op_lt) (castO hM opt_gt) (castO hM opt_lt) h1 h2 h3 hm
theorem q_gt_le (hM : b.M = ⟨X.K, X.mg⟩) (h1 : PE X e1 (tE b W f1)) (h2 : PE X e2 (tE b W f2)) (h3 : PE X e3 (tE b W f3)) (hm : lastMarks [.Gt, .LtE] [e2, e3] = false := by with_unfolding_all rfl) : PE X (.Compare e1 [.Gt, .LtE] [e2, e3] pos) (tE b W (chF gtD leD f1 f2 f3)) := pd_chain (op_gt) (op_le) (castO hM opt_gt) (castO hM opt_le) h1 h2 h3 hm
theorem qt_gt_le (hM : b.M = ⟨X.K, X.mg⟩) (h1 : PE X e1 (tE b W f1)) (h2 : PE X e2 (tE b W f2)) (h3 : PE X e3 (tE b W f3)) (hm : lastMarks [.Gt, .LtE] [e2, e3] = false := by with_unfolding_all rfl) : PT X (.Compare e1 [.Gt, .LtE] [e2, e3] pos) (tBo b W (tstF (chF gtD leD f1 f2 f3))) := pt_chainD (op_gt) (op_le) (castO hM opt_gt) (castO hM opt_le) h1 h2 h3 hm
theorem q_gt_gt (hM : b.M = ⟨X.K, X.mg⟩) (h1 : PE X e1 (tE b W f1)) (h2 : PE X e2 (tE b W f2)) (h3 : PE X e3 (tE b W f3)) (hm : lastMarks [.Gt, .Gt] [e2, e3] = false := by with_unfolding_all rfl) : PE X (.Compare e1 [.Gt, .Gt] [e2, e3] pos) (tE b W (chF gtD gtD f1 f2 f3)) := pd_chain (op_gt) (op_gt) (castO hM opt_gt) (castO hM opt_gt) h1 h2 h3 hm
theorem qt_gt_gt (hM : b.M = ⟨X.K, X.mg⟩) (h1 : PE X e1 (tE b W f1)) (h2 : PE X e2 (tE b W f2)) (h3 : PE X e3 (tE b W f3)) (hm : lastMarks [.Gt, .Gt] [e2, e3] = false := by with_unfolding_all rfl) : PT X (.Compare e1 [.Gt, .Gt] [e2, e3] pos) (tBo b W (tstF (chF gtD gtD f1 f2 f3))) := pt_chainD (op_gt) (op_gt) (castO hM opt_gt) (castO hM opt_gt) h1 h2 h3 hm
theorem q_gt_ge (hM : b.M = ⟨X.K, X.mg⟩) (h1 : PE X e1 (tE b W f1)) (h2 : PE X e2 (tE b W f2)) (h3 : PE X e3 (tE b W f3)) (hm : lastMarks [.Gt, .GtE] [e2, e3] = false := by with_unfolding_all rfl) : PE X (.Compare e1 [.Gt, .GtE] [e2, e3] pos) (tE b W (chF gtD geD f1 f2 f3)) := pd_chain (op_gt) (op_ge) (castO hM opt_gt) (castO hM opt_ge) h1 h2 h3 hm
theorem qt_gt_ge (hM : b.M = ⟨X.K, X.mg⟩) (h1 : PE X e1 (tE b W f1)) (h2 : PE X e2 (tE b W f2)) (h3 : PE X e3 (tE b W f3)) (hm : lastMarks [.Gt, .GtE] [e2, e3] = false := by with_unfolding_all rfl) : PT X (.Compare e1 [.Gt, .GtE] [e2, e3] pos) (tBo b W (tstF (chF gtD geD f1 f2 f3))) := pt_chainD (op_gt) (op_ge) (castO hM opt_gt) (castO hM opt_ge) h1 h2 h3 hm
theorem q_gt_eq (hM : b.M = ⟨X.K, X.mg⟩) (hr : Room k X.A) (h1 : PE X e1 (tE b W f1)) (h2 : PE X e2 (tE b W f2)) (h3 : PE X e3 (tE b W f3)) (hm : lastMarks [.Gt, .Eq] [e2, e3] = false := by with_unfolding_all rfl) : PE X (.Compare e1 [.Gt, .Eq] [e2, e3] pos) (tE b W (chF gtD eqD f1 f2 f3)) := pd_chain (op_gt) (op_eqR hr) (castO hM opt_gt) (castO hM opt_eq) h1 h2 h3 hm
theorem qt_gt_eq (hM : b.M = ⟨X.K, X.mg⟩) (hr : Room k X.A) (h1 : PE X e1 (tE b W f1)) (h2 : PE X e2 (tE b W f2)) (h3 : PE X e3 (tE b W f3)) (hm : lastMarks [.Gt, .Eq] [e2, e3] = false := by with_unfolding_all rfl) : PT X (.Compare e1 [.Gt, .Eq] [e2, e3] pos) (tBo b W (tstF (chF gtD eqD f1 f2 f3))) := pt_chainD (op_gt) (op_eqR hr) (castO hM opt_gt) (castO hM opt_eq) h1 h2 h3 hm
theorem q_gt_ne (hM : b.M = ⟨X.K, X.mg⟩) (hr : Room k X.A) (h1 : PE X e1 (tE b W f1)) (h2 : PE X e2 (tE b W f2)) (h3 : PE X e3 (tE b W f3)) (hm : lastMarks [.Gt, .NotEq] [e2, e3] = false := by with_unfolding_all rfl) : PE X (.Compare e1 [.Gt, .NotEq] [e2, e3] pos) (tE b W (chF gtD neD f1 f2 f3)) := pd_chain (op_gt) (op_neR hr) (castO hM opt_gt) (castO hM opt_ne) h1 h2 h3 hm
theorem qt_gt_ne (hM : b.M = ⟨X.K, X.mg⟩) (hr : Room k X.A) (h1 : PE X e1 (tE b W f1)) (h2 : PE X e2 (tE b W f2)) (h3 : PE X e3 (tE b W f3)) (hm : lastMarks [.Gt, .NotEq] [e2, e3] = false := by with_unfolding_all rfl) : PT X (.Compare e1 [.Gt, .NotEq] [e2, e3] pos) (tBo b W (tstF (chF gtD neD f1 f2 f3))) := pt_chainD (op_gt) (op_neR hr) (castO hM opt_gt) (castO hM opt_ne) h1 h2 h3 hm
theorem q_ge_lt (hM : b.M = ⟨X.K, X.mg⟩) (h1 : PE X e1 (tE b W f1)) (h2 : PE X e2 (tE b W f2)) (h3 : PE X e3 (tE b W f3)) (hm : lastMarks [.GtE, .Lt] [e2, e3] = false := by with_unfolding_all rfl) : PE X (.Compare e1 [.GtE, .Lt] [e2, e3] pos) (tE b W (chF geD ltD f1 f2 f3)) := pd_chain (op_ge) (op_lt) (castO hM opt_ge) (castO hM opt_lt) h1 h2 h3 hm
theorem qt_ge_lt (hM : b.M = ⟨X.K, X.mg⟩) (h1 : PE X e1 (tE b W f1)) (h2 : PE X e2 (tE b W f2)) (h3 : PE X e3 (tE b W f3)) (hm : lastMarks [.GtE, .Lt] [e2, e3] = false := by with_unfolding_all rfl) : PT X (.Compare e1 [.GtE, .Lt] [e2, e3] pos) (tBo b W (tstF (chF geD ltD f1 f2 f3))) := pt_chainD (op_ge) (op_lt) (castO hM opt_ge) (castO hM opt_lt) h1 h2 h3 hm
theorem q_ge_le (hM : b.M = ⟨X.K, X.mg⟩) (h1 : PE X e1 (tE b W f1)) (h2 : PE X e2 (tE b W f2)) (h3 : PE X e3 (tE b W f3)) (hm : lastMarks [.GtE, .LtE] [e2, e3] = false := by with_unfolding_all rfl) : PE X (.Compare e1 [.GtE, .LtE] [e2, e3] pos) (tE b W (chF geD leD f1 f2 f3)) := pd_chain (op_ge) (op_le) (castO hM opt_ge) (castO hM opt_le) h1 h2 h3 hm
theorem qt_ge_le (hM : b.M = ⟨X.K, X.mg⟩) (h1 : PE X e1 (tE b W f1)) (h2 : PE X e2 (tE b W f2)) (h3 : PE X e3 (tE b W f3)) (hm : lastMarks [.GtE, .LtE] [e2, e3] = false := by with_unfolding_all rfl) : PT X (.Compare e1 [.GtE, .LtE] [e2, e3] pos) (tBo b W (tstF (chF geD leD f1 f2 f3))) := pt_chainD (op_ge) (op_le) (castO hM opt_ge) (castO hM opt_le) h1 h2 h3 hm
theorem q_ge_gt (hM : b.M = ⟨X.K, X.mg⟩) (h1 : PE X e1 (tE b W f1)) (h2 : PE X e2 (tE b W f2)) (h3 : PE X e3 (tE b W f3)) (hm : lastMarks [.GtE, .Gt] [e2, e3] = false := by with_unfolding_all rfl) : PE X (.Compare e1 [.GtE, .Gt] [e2, e3] pos) (tE b W (chF geD gtD f1 f2 f3)) := pd_chain (op_ge) (op_gt) (castO hM opt_ge) (castO hM opt_gt) h1 h2 h3 hm
theorem qt_ge_gt (hM : b.M = ⟨X.K, X.mg⟩) (h1 : PE X e1 (tE b W f1)) (h2 : PE X e2 (tE b W f2)) (h3 : PE X e3 (tE b W f3)) (hm : lastMarks [.GtE, .Gt] [e2, e3] = false := by with_unfolding_all rfl) : PT X (.Compare e1 [.GtE, .Gt] [e2, e3] pos) (tBo b W (tstF (chF geD gtD f1 f2 f3))) := pt_chainD (op_ge) (op_gt) (castO hM opt_ge) (castO hM opt_gt) h1 h2 h3 hm
theorem q_ge_ge (hM : b.M = ⟨X.K, X.mg⟩) (h1 : PE X e1 (tE b W f1)) (h2 : PE X e2 (tE b W f2)) (h3 : PE X e3 (tE b W f3)) (hm : lastMarks [.GtE, .GtE] [e2, e3] = false := by with_unfolding_all rfl) : PE X (.Compare e1 [.GtE, .GtE] [e2, e3] pos) (tE b W (chF geD geD f1 f2 f3)) := pd_chain (op_ge) (op_ge) (castO hM opt_ge) (castO hM opt_ge) h1 h2 h3 hm
theorem qt_ge_ge (hM : b.M = ⟨X.K, X.mg⟩) (h1 : PE X e1 (tE b W f1)) (h2 : PE X e2 (tE b W f2)) (h3 : PE X e3 (tE b W f3)) (hm : lastMarks [.GtE, .GtE] [e2, e3] = false := by with_unfolding_all rfl) : PT X (.Compare e1 [.GtE, .GtE] [e2, e3] pos) (tBo b W (tstF (chF geD geD f1 f2 f3))) := pt_chainD (op_ge) (op_ge) (castO hM opt_ge) (castO hM opt_ge) h1 h2 h3 hm
theorem q_ge_eq (hM : b.M = ⟨X.K, X.mg⟩) (hr : Room k X.A) (h1 : PE X e1 (tE b W f1)) (h2 : PE X e2 (tE b W f2)) (h3 : PE X e3 (tE b W f3)) (hm : lastMarks [.GtE, .Eq] [e2, e3] = false := by with_unfolding_all rfl) : PE X (.Compare e1 [.GtE, .Eq] [e2, e3] pos) (tE b W (chF geD eqD f1 f2 f3)) := pd_chain (op_ge) (op_eqR hr) (castO hM opt_ge) (castO hM opt_eq) h1 h2 h3 hm
theorem qt_ge_eq (hM : b.M = ⟨X.K, X.mg⟩) (hr : Room k X.A) (h1 : PE X e1 (tE b W f1)) (h2 : PE X e2 (tE b W f2)) (h3 : PE X e3 (tE b W f3)) (hm : lastMarks [.GtE, .Eq] [e2, e3] = false := by with_unfolding_all rfl) : PT X (.Compare e1 [.GtE, .Eq] [e2, e3] pos) (tBo b W (tstF (chF geD eqD f1 f2 f3))) := pt_chainD (op_ge) (op_eqR hr) (castO hM opt_ge) (castO hM opt_eq) h1 h2 h3 hm
theorem q_ge_ne (hM : b.M = ⟨X.K, X.mg⟩) (hr : Room k X.A) (h1 : PE X e1 (tE b W f1)) (h2 : PE X e2 (tE b W f2)) (h3 : PE X e3 (tE b W f3)) (hm : lastMarks [.GtE, .NotEq] [e2, e3] = false := by with_unfolding_all rfl) : PE X (.Compare e1 [.GtE, .NotEq] [e2, e3] pos) (tE b W (chF geD neD f1 f2 f3)) := pd_chain (op_ge) (op_neR hr) (castO hM opt_ge) (castO hM opt_ne) h1 h2 h3 hm
theorem qt_ge_ne (hM : b.M = ⟨X.K, X.mg⟩) (hr : Room k X.A) (h1 : PE X e1 (tE b W f1)) (h2 : PE X e2 (tE b W f2)) (h3 : PE X e3 (tE b W f3)) (hm : lastMarks [.GtE, .NotEq] [e2, e3] = false := by with_unfolding_all rfl) : PT X (.Compare e1 [.GtE, .NotEq] [e2, e3] pos) (tBo b W (tstF (chF geD neD f1 f2 f3))) := pt_chainD (op_ge) (op_neR hr) (castO hM opt_ge) (castO hM opt_ne) h1 h2 h3 hm
theorem q_eq_lt (hM : b.M = ⟨X.K, X.mg⟩) (hr : Room k X.A) (h1 : PE X e1 (tE b W f1)) (h2 : PE X e2 (tE b W f2)) (h3 : PE X e3 (tE b W f3)) (hm : lastMarks [.Eq, .Lt] [e2, e3] = false := by with_unfolding_all rfl) : PE X (.Compare e1 [.Eq, .Lt] [e2, e3] pos) (tE b W (chF eqD ltD f1 f2 f3)) := pd_chain (op_eqR hr) (op_lt) (castO hM opt_eq) (castO hM opt_lt) h1 h2 h3 hm
theorem qt_eq_lt (hM : b.M = ⟨X.K, X.mg⟩) (hr : Room k X.A) (h1 : PE X e1 (tE b W f1)) (h2 : PE X e2 (tE b W f2)) (h3 : PE X e3 (tE b W f3)) (hm : lastMarks [.Eq, .Lt] [e2, e3] = false := by with_unfolding_all rfl) : PT X (.Compare e1 [.Eq, .Lt] [e2, e3] pos) (tBo b W (tstF (chF eqD ltD f1 f2 f3))) := pt_chainD (op_eqR hr) (op_lt) (castO hM opt_eq) (castO hM opt_lt) h1 h2 h3 hm
theorem q_eq_le (hM : b.M = ⟨X.K, X.mg⟩) (hr : Room k X.A) (h1 : PE X e1 (tE b W f1)) (h2 : PE X e2 (tE b W f2)) (h3 : PE X e3 (tE b W f3)) (hm : lastMarks [.Eq, .LtE] [e2, e3] = false := by with_unfolding_all rfl) : PE X (.Compare e1 [.Eq, .LtE] [e2, e3] pos) (tE b W (chF eqD leD f1 f2 f3)) := pd_chain (op_eqR hr) (op_le) (castO hM opt_eq) (castO hM opt_le) h1 h2 h3 hm
theorem qt_eq_le (hM : b.M = ⟨X.K, X.mg⟩) (hr : Room k X.A) (h1 : PE X e1 (tE b W f1)) (h2 : PE X e2 (tE b W f2)) (h3 : PE X e3 (tE b W f3)) (hm : lastMarks [.Eq, .LtE] [e2, e3] = false := by with_unfolding_all rfl) : PT X (.Compare e1 [.Eq, .LtE] [e2, e3] pos) (tBo b W (tstF (chF eqD leD f1 f2 f3))) := pt_chainD (op_eqR hr) (op_le) (castO hM opt_eq) (castO hM opt_le) h1 h2 h3 hm
theorem q_eq_gt (hM : b.M = ⟨X.K, X.mg⟩) (hr : Room k X.A) (h1 : PE X e1 (tE b W f1)) (h2 : PE X e2 (tE b W f2)) (h3 : PE X e3 (tE b W f3)) (hm : lastMarks [.Eq, .Gt] [e2, e3] = false := by with_unfolding_all rfl) : PE X (.Compare e1 [.Eq, .Gt] [e2, e3] pos) (tE b W (chF eqD gtD f1 f2 f3)) := pd_chain (op_eqR hr) (op_gt) (castO hM opt_eq) (castO hM opt_gt) h1 h2 h3 hm
theorem qt_eq_gt (hM : b.M = ⟨X.K, X.mg⟩) (hr : Room k X.A) (h1 : PE X e1 (tE b W f1)) (h2 : PE X e2 (tE b W f2)) (h3 : PE X e3 (tE b W f3)) (hm : lastMarks [.Eq, .Gt] [e2, e3] = false := by with_unfolding_all rfl) : PT X (.Compare e1 [.Eq, .Gt] [e2, e3] pos) (tBo b W (tstF (chF eqD gtD f1 f2 f3))) := pt_chainD (op_eqR hr) (op_gt) (castO hM opt_eq) (castO hM opt_gt) h1 h2 h3 hm
theorem q_eq_ge (hM : b.M = ⟨X.K, X.mg⟩) (hr : Room k X.A) (h1 : PE X e1 (tE b W f1)) (h2 : PE X e2 (tE b W f2)) (h3 : PE X e3 (tE b W f3)) (hm : lastMarks [.Eq, .GtE] [e2, e3] = false := by with_unfolding_all rfl) : PE X (.Compare e1 [.Eq, .GtE] [e2, e3] pos) (tE b W (chF eqD geD f1 f2 f3)) := pd_chain (op_eqR hr) (op_ge) (castO hM opt_eq) (castO hM opt_ge) h1 h2 h3 hm
theorem qt_eq_ge (hM : b.M = ⟨X.K, X.mg⟩) (hr : Room k X.A) (h1 : PE X e1 (tE b W f1)) (h2 : PE X e2 (tE b W f2)) (h3 : PE X e3 (tE b W f3)) (hm : lastMarks [.Eq, .GtE] [e2, e3] = false := by with_unfolding_all rfl) : PT X (.Compare e1 [.Eq, .GtE] [e2, e3] pos) (tBo b W (tstF (chF eqD geD f1 f2 f3))) := pt_chainD (op_eqR hr) (op_ge) (castO hM opt_eq) (castO hM opt_ge) h1 h2 h3 hm
theorem q_eq_eq (hM : b.M = ⟨X.K, X.mg⟩) (hr : Room k X.A) (h1 : PE X e1 (tE b W f1)) (h2 : PE X e2 (tE b W f2)) (h3 : PE X e3 (tE b W f3)) (hm : lastMarks [.Eq, .Eq] [e2, e3] = false := by with_unfolding_all rfl) : PE X (.Compare e1 [.Eq, .Eq] [e2, e3] pos) (tE b W (chF eqD eqD f1 f2 f3)) := pd_chain (op_eqR hr) (op_eqR hr) (castO hM opt_eq) (castO hM opt_eq) h1 h2 h3 hm
theorem qt_eq_eq (hM : b.M = ⟨X.K, X.mg⟩) (hr : Room k X.A) (h1 : PE X e1 (tE b W f1)) (h2 : PE X e2 (tE b W f2)) (h3 : PE X e3 (tE b W f3)) (hm : lastMarks [.Eq, .Eq] [e2, e3] = false := by with_unfolding_all rfl) : PT X (.Compare e1 [.Eq, .Eq] [e2, e3] pos) (tBo b W (tstF (chF eqD eqD f1 f2 f3))) := pt_chainD (op_eqR hr) (op_eqR hr) (castO hM opt_eq) (castO hM opt_eq) h1 h2 h3 hm
theorem q_eq_ne (hM : b.M = ⟨X.K, X.mg⟩) (hr : Room k X.A) (h1 : PE X e1 (tE b W f1)) (h2 : PE X e2 (tE b W f2)) (h3 : PE X e3 (tE b W f3)) (hm : lastMarks [.Eq, .NotEq] [e2, e3] = false := by with_unfolding_all rfl) : PE X (.Compare e1 [.Eq, .NotEq] [e2, e3] pos) (tE b W (chF eqD neD f1 f2 f3)) := pd_chain (op_eqR hr) (op_neR hr) (castO hM opt_eq) (castO hM opt_ne) h1 h2 h3 hm
theorem qt_eq_ne (hM : b.M = ⟨X.K, X.mg⟩) (hr : Room k X.A) (h1 : PE X e1 (tE b W f1)) (h2 : PE X e2 (tE b W f2)) (h3 : PE X e3 (tE b W f3)) (hm : lastMarks [.Eq, .NotEq] [e2, e3] = false := by with_unfolding_all rfl) : PT X (.Compare e1 [.Eq, .NotEq] [e2, e3] pos) (tBo b W (tstF (chF eqD neD f1 f2 f3))) := pt_chainD (op_eqR hr) (op_neR hr) (castO hM opt_eq) (castO hM opt_ne) h1 h2 h3 hm
theorem q_ne_lt (hM : b.M = ⟨X.K, X.mg⟩) (hr : Room k X.A) (h1 : PE X e1 (tE b W f1)) (h2 : PE X e2 (tE b W f2)) (h3 : PE X e3 (tE b W f3)) (hm : lastMarks [.NotEq, .Lt] [e2, e3] = false := by with_unfolding_all rfl) : PE X (.Compare e1 [.NotEq, .Lt] [e2, e3] pos) (tE b W (chF neD ltD f1 f2 f3)) := pd_chain (op_neR hr) (op_lt) (castO hM opt_ne) (castO hM opt_lt) h1 h2 h3 hm
theorem qt_ne_lt (hM : b.M = ⟨X.K, X.mg⟩) (hr : Room k X.A) (h1 : PE X e1 (tE b W f1)) (h2 : PE X e2 (tE b W f2)) (h3 : PE X e3 (tE b W f3)) (hm : lastMarks [.NotEq, .Lt] [e2, e3] = false := by with_unfolding_all rfl) : PT X (.Compare e1 [.NotEq, .Lt] [e2, e3] pos) (tBo b W (tstF (chF neD ltD f1 f2 f3))) := pt_chainD (op_neR hr) (op_lt) (castO hM opt_ne) (castO hM opt_lt) h1 h2 h3 hm
theorem q_ne_le (hM : b.M = ⟨X.K, X.mg⟩) (hr : Room k X.A) (h1 : PE X e1 (tE b W f1)) (h2 : PE X e2 (tE b W f2)) (h3 : PE X e3 (tE b W f3)) (hm : lastMarks [.NotEq, .LtE] [e2, e3] = false := by with_unfolding_all rfl) : PE X (.Compare e1 [.NotEq, .LtE] [e2, e3] pos) (tE b W (chF neD leD f1 f2 f3)) := pd_chain (op_neR hr) (op_le) (castO hM opt_ne) (castO hM opt_le) h1 h2 h3 hm
theorem qt_ne_le (hM : b.M = ⟨X.K, X.mg⟩) (hr : Room k X.A) (h1 : PE X e1 (tE b W f1)) (h2 : PE X e2 (tE b W f2)) (h3 : PE X e3 (tE b W f3)) (hm : lastMarks [.NotEq, .LtE] [e2, e3] = false := by with_unfolding_all rfl) : PT X (.Compare e1 [.NotEq, .LtE] [e2, e3] pos) (tBo b W (tstF (chF neD leD f1 f2 f3))) := pt_chainD (op_neR hr) (op_le) (castO hM opt_ne) (castO hM opt_le) h1 h2 h3 hm
theorem q_ne_gt (hM : b.M = ⟨X.K, X.mg⟩) (hr : Room k X.A) (h1 : PE X e1 (tE b W f1)) (h2 : PE X e2 (tE b W f2)) (h3 : PE X e3 (tE b W f3)) (hm : lastMarks [.NotEq, .Gt] [e2, e3] = false := by with_unfolding_all rfl) : PE X (.Compare e1 [.NotEq, .Gt] [e2, e3] pos) (tE b W (chF neD gtD f1 f2 f3)) := pd_chain (op_neR hr) (op_gt) (castO hM opt_ne) (castO hM opt_gt) h1 h2 h3 hm
theorem qt_ne_gt (hM : b.M = ⟨X.K, X.mg⟩) (hr : Room k X.A) (h1 : PE X e1 (tE b W f1)) (h2 : PE X e2 (tE b W f2)) (h3 : PE X e3 (tE b W f3)) (hm : lastMarks [.NotEq, .Gt] [e2, e3] = false := by with_unfolding_all rfl) : PT X (.Compare e1 [.NotEq, .Gt] [e2, e3] pos) (tBo b W (tstF (chF neD gtD f1 f2 f3))) := pt_chainD (op_neR hr) (op_gt) (castO hM opt_ne) (castO hM opt_gt) h1 h2 h3 hm
theorem q_ne_ge (hM : b.M = ⟨X.K, X.mg⟩) (hr : Room k X.A) (h1 : PE X e1 (tE b W f1)) (h2 : PE X e2 (tE b W f2)) (h3 : PE X e3 (tE b W f3)) (hm : lastMarks [.NotEq, .GtE] [e2, e3] = false := by with_unfolding_all rfl) : PE X (.Compare e1 [.NotEq, .GtE] [e2, e3] pos) (tE b W (chF neD geD f1 f2 f3)) := pd_chain (op_neR hr) (op_ge) (castO hM opt_ne) (castO hM opt_ge) h1 h2 h3 hm
theorem qt_ne_ge (hM : b.M = ⟨X.K, X.mg⟩) (hr : Room k X.A) (h1 : PE X e1 (tE b W f1)) (h2 : PE X e2 (tE b W f2)) (h3 : PE X e3 (tE b W f3)) (hm : lastMarks [.NotEq, .GtE] [e2, e3] = false := by with_unfolding_all rfl) : PT X (.Compare e1 [.NotEq, .GtE] [e2, e3] pos) (tBo b W (tstF (chF neD geD f1 f2 f3))) := pt_chainD (op_neR hr) (op_ge) (castO hM opt_ne) (castO hM opt_ge) h1 h2 h3 hm
theorem q_ne_eq (hM : b.M = ⟨X.K, X.mg⟩) (hr : Room k X.A) (h1 : PE X e1 (tE b W f1)) (h2 : PE X e2 (tE b W f2)) (h3 : PE X e3 (tE b W f3)) (hm : lastMarks [.NotEq, .Eq] [e2, e3] = false := by with_unfolding_all rfl) : PE X (.Compare e1 [.NotEq, .Eq] [e2, e3] pos) (tE b W (chF neD eqD f1 f2 f3)) := pd_chain (op_neR hr) (op_eqR hr) (castO hM opt_ne) (castO hM opt_eq) h1 h2 h3 hm
theorem qt_ne_eq (hM : b.M = ⟨X.K, X.mg⟩) (hr : Room k X.A) (h1 : PE X e1 (tE b W f1)) (h2 : PE X e2 (tE b W f2)) (h3 : PE X e3 (tE b W f3)) (hm : lastMarks [.NotEq, .Eq] [e2, e3] = false := by with_unfolding_all rfl) : PT X (.Compare e1 [.NotEq, .Eq] [e2, e3] pos) (tBo b W (tstF (chF neD eqD f1 f2 f3))) := pt_chainD (op_neR hr) (op_eqR hr) (castO hM opt_ne) (castO hM opt_eq) h1 h2 h3 hm
theorem q_ne_ne (hM : b.M = ⟨X.K, X.mg⟩) (hr : Room k X.A) (h1 : PE X e1 (tE b W f1)) (h2 : PE X e2 (tE b W f2)) (h3 : PE X e3 (tE b W f3)) (hm : lastMarks [.NotEq, .NotEq] [e2, e3] = false := by with_unfolding_all rfl) : PE X (.Compare e1 [.NotEq, .NotEq] [e2, e3] pos) (tE b W (chF neD neD f1 f2 f3)) := pd_chain (op_neR hr) (op_neR hr) (castO hM opt_ne) (castO hM opt_ne) h1 h2 h3 hm
theorem qt_ne_ne (hM : b.M = ⟨X.K, X.mg⟩) (hr : Room k X.A) (h1 : PE X e1 (tE b W f1)) (h2 : PE X e2 (tE b W f2)) (h3 : PE X e3 (tE b W f3)) (hm : lastMarks [.NotEq, .NotEq] [e2, e3] = false := by with_unfolding_all rfl) : PT X (.Compare e1 [.NotEq, .NotEq] [e2, e3] pos) (tBo b W (tstF (chF neD neD f1 f2 f3))) := pt_chainD (op_neR hr) (op_neR hr) (castO hM opt_ne) (castO hM opt_ne) h1 h2 h3 hm
theorem q_ix (hM : b.M = ⟨X.K, X.mg⟩) (h1 : PE X e1 (tE b W f1)) (h2 : PE X e2 (tE b W f2)) (hs : PlainIx e2) : PE X (.Subscript e1 e2 pos) (tE b W (op2F ixD f1 f2)) := pd_ix ix_A (castO hM opt_ix) h1 h2 hs
theorem v_ix (hM : b.M = ⟨X.K, X.mg⟩) (h1 : PE X e1 (tA1 b W g1)) (h2 : PE X e2 (tA1 b W g2)) (hs : PlainIx e2) : PE X (.Subscript e1 e2 pos) (tE b W (op2V ixD g1 g2)) := pd_ixV ix_A (castO hM opt_ix) h1 h2 hs
theorem q_neg (h1 : PE X e1 (tE b W f1)) : PE X (.UnaryOp .USub e1 pos) (tE b W (op1F negD f1)) := pd_un un_neg unt_neg h1
end
section
variable {X : Cx} {b : B} {W : WX} {e : Expr} {es : List Expr} {fa : FV} {p pos : Pos} {r : List V → Hp → VK → Prop} {M M' : MM}
theorem castC {o : List D → Option D} (h : M = M') (q : CallT M' r o) : CallT M r o := by rw [h]; exact q
theorem castCF {o : List D → Option (List D)} (h : M = M') (q : CallTF M' r o) : CallTF M r o := by rw [h]; exact q
theorem c_len (hM : b.M = ⟨X.K, X.mg⟩) (hg : Gl X "len") (hm : X.mg "len" = none) (ha : PA X (e :: es) (tAv b W fa)) (he : starEach (e :: es) X.env = (false, eval e X.env) :: starEach es X.env := by rfl) (hpl : (backTo pos (starEach es X.env)).any (·.1) = false := by rfl) : PE X (.Call (.Name "len" p) (e :: es) [] pos) (tE b W (bltF lenD fa)) := pd_blt (call_lenA) (castC hM callT_len) hg hm (by decide +kernel) ha (by decide) (by decide) he hpl
theorem c_abs (hM : b.M = ⟨X.K, X.mg⟩) (hg : Gl X "abs") (hm : X.mg "abs" = none) (ha : PA X (e :: es) (tAv b W fa)) (he : starEach (e :: es) X.env = (false, eval e X.env) :: starEach es X.env := by rfl) (hpl : (backTo pos (starEach es X.env)).any (·.1) = false := by rfl) : PE X (.Call (.Name "abs" p) (e :: es) [] pos) (tE b W (bltF absD fa)) := pd_blt (call_abs) (castC hM callT_abs) hg hm (by decide +kernel) ha (by decide) (by decide) he hpl
theorem c_sum (hM : b.M = ⟨X.K, X.mg⟩) (hc : X.calm = true) (hg : Gl X "sum") (hm : X.mg "sum" = none) (ha : PA X (e :: es) (tAv b W fa)) (he : starEach (e :: es) X.env = (false, eval e X.env) :: starEach es X.env := by rfl) (hpl : (backTo pos (starEach es X.env)).any (·.1) = false := by rfl) : PE X (.Call (.Name "sum" p) (e :: es) [] pos) (tE b W (bltF sumD fa)) := pd_blt (cr_sum hc) (castC hM callT_sum) hg hm (by decide +kernel) ha (by decide) (by decide) he hpl
theorem c_min (hM : b.M = ⟨X.K, X.mg⟩) (hc : X.calm = true) (hg : Gl X "min") (hm : X.mg "min" = none) (ha : PA X (e :: es) (tAv b W fa)) (he : starEach (e :: es) X.env = (false, eval e X.env) :: starEach es X.env := by rfl) (hpl : (backTo pos (starEach es X.env)).any (·.1) = false := by rfl) : PE X (.Call (.Name "min" p) (e :: es) [] pos) (tE b W (bltF minD fa)) := pd_blt (cr_min hc) (castC hM callT_min) hg hm (by decide +kernel) ha (by decide) (by decide) he hpl
theorem c_max (hM : b.M = ⟨X.K, X.mg⟩) (hc : X.calm = true) (hg : Gl X "max") (hm : X.mg "max" = none) (ha : PA X (e :: es) (tAv b W fa)) (he : starEach (e :: es) X.env = (false, eval e X.env) :: starEach es X.env := by rfl) (hpl : (backTo pos (starEach es X.env)).any (·.1) = false := by rfl) : PE X (.Call (.Name "max" p) (e :: es) [] pos) (tE b W (bltF maxD fa)) := pd_blt (cr_max hc) (castC hM callT_max) hg hm (by decide +kernel) ha (by decide) (by decide) he hpl
theorem c_any (hM : b.M = ⟨X.K, X.mg⟩) (hc : X.calm = true) (hg : Gl X "any") (hm : X.mg "any" = none) (ha : PA X (e :: es) (tAv b W fa)) (he : starEach (e :: es) X.env = (false, eval e X.env) :: starEach es X.env := by rfl) (hpl : (backTo pos (starEach es X.env)).any (·.1) = false := by rfl) : PE X (.Call (.Name "any" p) (e :: es) [] pos) (tE b W (bltF anyD fa)) := pd_blt (cr_any hc) (castC hM callT_any) hg hm (by decide +kernel) ha (by decide) (by decide) he hpl
theorem c_all (hM : b.M = ⟨X.K, X.mg⟩) (hc : X.calm = true) (hg : Gl X "all") (hm : X.mg "all" = none) (ha : PA X (e :: es) (tAv b W fa)) (he : starEach (e :: es) X.env = (false, eval e X.env) :: starEach es X.env := by rfl) (hpl : (backTo pos (starEach es X.env)).any (·.1) = false := by rfl) : PE X (.Call (.Name "all" p) (e :: es) [] pos) (tE b W (bltF allD fa)) := pd_blt (cr_all hc) (castC hM callT_all) hg hm (by decide +kernel) ha (by decide) (by decide) he hpl
theorem c_int (hM : b.M = ⟨X.K, X.mg⟩) (hg : Gl X "int") (hm : X.mg "int" = none) (ha : PA X (e :: es) (tAv b W fa)) (he : starEach (e :: es) X.env = (false, eval e X.env) :: starEach es X.env := by rfl) (hpl : (backTo pos (starEach es X.env)).any (·.1) = false := by rfl) : PE X (.Call (.Name "int" p) (e :: es) [] pos) (tE b W (bltF intF fa)) := pd_ty (call_int1) (castC hM callT_int) hg hm (by decide +kernel) ha (by decide) (by decide) he hpl
theorem c_tuple (hM : b.M = ⟨X.K, X.mg⟩) (hg : Gl X "tuple") (hm : X.mg "tuple" = none) (ha : PA X (e :: es) (tAv b W fa)) (he : starEach (e :: es) X.env = (false, eval e X.env) :: starEach es X.env := by rfl) (hpl : (backTo pos (starEach es X.env)).any (·.1) = false := by rfl) : PE X (.Call (.Name "tuple" p) (e :: es) [] pos) (tE b W (bltF tupleD fa)) := pd_ty (call_tuple_of) (castC hM callT_tuple) hg hm (by decide +kernel) ha (by decide) (by decide) he hpl
theorem c_list (hM : b.M = ⟨X.K, X.mg⟩) (hg : Gl X "list") (hm : X.mg "list" = none) (ha : PA X (e :: es) (tAv b W fa)) (he : starEach (e :: es) X.env = (false, eval e X.env) :: starEach es X.env := by rfl) (hpl : (backTo pos (starEach es X.env)).any (·.1) = false := by rfl) : PE X (.Call (.Name "list" p) (e :: es) [] pos) (tFr b W (bltFF listD fa)) := pf_ty (call_list_of) (castCF hM callTF_list) hg hm (by decide +kernel) ha (by decide) (by decide) he hpl
theorem c_max2 (hM : b.M = ⟨X.K, X.mg⟩) (hc : X.calm = true) (hg : Gl X "max") (hm : X.mg "max" = none) (ha : PA X (e :: es) (tAv b W fa)) (he : starEach (e :: es) X.env = (false, eval e X.env) :: starEach es X.env := by rfl) (hpl : (backTo pos (starEach es X.env)).any (·.1) = false := by rfl) : PE X (.Call (.Name "max" p) (e :: es) [] pos) (tE b W (bltF max2D fa)) := pd_blt (call_max2 hc) (castC hM callT_max2) hg hm (by decide +kernel) ha (by decide) (by decide) he hpl
theorem c_min2 (hM : b.M = ⟨X.K, X.mg⟩) (hc : X.calm = true) (hg : Gl X "min") (hm : X.mg "min" = none) (ha : PA X (e :: es) (tAv b W fa)) (he : starEach (e :: es) X.env = (false, eval e X.env) :: starEach es X.env := by rfl) (hpl : (backTo pos (starEach es X.env)).any (·.1) = false := by rfl) : PE X (.Call (.Name "min" p) (e :: es) [] pos) (tE b W (bltF min2D fa)) := pd_blt (call_min2 hc) (castC hM callT_min2) hg hm (by decide +kernel) ha (by decide) (by decide) he hpl
end
section
variable {X : Cx} {b : B} {W : WX} {e : Expr} {es : List Expr} {fa fk : FV} {p pos : Pos} {k n n1 : Nat} {fA : Addr} {fd : FuncData} {ps ks : List Str} {dn : Dn} {x : Str} {dvs : List V} {dfs : List D} {kws : List Keyword} {qs : List KQ}
theorem q_call (hM : b.M = ⟨X.K, X.mg⟩) (tk : Takes X W) (F : FnOk X.prog X.w X.K X.mg X.base (L2.CX X.prog X.w) k fA fd ps (spD ⟨X.K, X.mg⟩ n dn)) (hr : Room k X.A) (hg : Gl X x) (hm : X.mg x = some (.ref fA)) (hk : PySem.W.keepIn X.K (.ref fA) = true)
    (hb : ∃ ds, Vals dvs ds ∧ Binds X.K fd ps ds) (hdf : ∀ M Fz H, RepL M Fz H dfs dvs) (ha : PA X (e :: es) (tAv b W fa)) (hdb : (x == ("__debug__" : Str)) = false := by decide)
    (he : starEach (e :: es) X.env = (false, eval e X.env) :: starEach es X.env := by rfl) (hpl : (backTo pos (starEach es X.env)).any (·.1) = false := by rfl) : PE X (.Call (.Name x p) (e :: es) [] pos) (tE b W (callF n dn dfs fa)) :=
  let ⟨_, hd, hb⟩ := hb
  pd_call hM tk F hr hg hm hk hb hd hdf ha hdb he hpl
theorem f_call (hM : b.M = ⟨X.K, X.mg⟩) (tk : Takes X W) (F : FnOk X.prog X.w X.K X.mg X.base (L2.CX X.prog X.w) k fA fd ps (spD ⟨X.K, X.mg⟩ n dn)) (hr : Room k X.A) (hg : Gl X x) (hm : X.mg x = some (.ref fA)) (hk : PySem.W.keepIn X.K (.ref fA) = true)
    (hb : ∃ ds, Vals dvs ds ∧ Binds X.K fd ps ds) (hdf : ∀ M Fz H, RepL M Fz H dfs dvs) (ha : PA X (e :: es) (tAv b W fa)) (hdb : (x == ("__debug__" : Str)) = false := by decide)
    (he : starEach (e :: es) X.env = (false, eval e X.env) :: starEach es X.env := by rfl) (hpl : (backTo pos (starEach es X.env)).any (·.1) = false := by rfl) : PE X (.Call (.Name x p) (e :: es) [] pos) (tFr b W (callFF n dn dfs fa)) :=
  let ⟨_, hd, hb⟩ := hb
  pf_call hM tk F hr hg hm hk hb hd hdf ha hdb he hpl
theorem q_call0 (hM : b.M = ⟨X.K, X.mg⟩) (tk : Takes X W) (F : FnOk X.prog X.w X.K X.mg X.base (L2.CX X.prog X.w) k fA fd ps (spD ⟨X.K, X.mg⟩ n dn)) (hr : Room k X.A) (hg : Gl X x) (hm : X.mg x = some (.ref fA)) (hk : PySem.W.keepIn X.K (.ref fA) = true)
    (hb : ∃ ds, Vals dvs ds ∧ Binds X.K fd ps ds) (hdf : ∀ M Fz H, RepL M Fz H dfs dvs) (hdb : (x == ("__debug__" : Str)) = false := by decide) : PE X (.Call (.Name x p) [] [] pos) (tE b W (callF n dn dfs nilV)) :=
  let ⟨_, hd, hb⟩ := hb
  pd_call0 hM tk F hr hg hm hk hb hd hdf hdb
theorem f_call0 (hM : b.M = ⟨X.K, X.mg⟩) (tk : Takes X W) (F : FnOk X.prog X.w X.K X.mg X.base (L2.CX X.prog X.w) k fA fd ps (spD ⟨X.K, X.mg⟩ n dn)) (hr : Room k X.A) (hg : Gl X x) (hm : X.mg x = some (.ref fA)) (hk : PySem.W.keepIn X.K (.ref fA) = true)
    (hb : ∃ ds, Vals dvs ds ∧ Binds X.K fd ps ds) (hdf : ∀ M Fz H, RepL M Fz H dfs dvs) (hdb : (x == ("__debug__" : Str)) = false := by decide) : PE X (.Call (.Name x p) [] [] pos) (tFr b W (callFF n dn dfs nilV)) :=
  let ⟨_, hd, hb⟩ := hb
  pf_call0 hM tk F hr hg hm hk hb hd hdf hdb
theorem q_callK (hM : b.M = ⟨X.K, X.mg⟩) (tk : Takes X W) (F : FnOk X.prog X.w X.K X.mg X.base (L2.CX X.prog X.w) k fA fd ps (spD ⟨X.K, X.mg⟩ n dn)) (hr : Room k X.A) (hg : Gl X x) (hm : X.mg x = some (.ref fA)) (hk : PySem.W.keepIn X.K (.ref fA) = true)
    (hb : ∃ its, KBn X.K fd ps n1 ks (fun us ws => pickG us its ws qs) (fun vs zs => pickG vs dvs zs qs)) (hdf : ∀ M Fz H, RepL M Fz H dfs dvs) (ha : PA X (e :: es) (tAv b W fa)) (hkw : PK X kws (tAv b W fk)) (hall : (backToKw pos (keywordEach kws X.env)).all (·.1.isSome) = true := by rfl) (hks : (backToKw pos (keywordEach kws X.env)).filterMap (·.1) = ks := by rfl)
    (hdb : (x == ("__debug__" : Str)) = false := by decide) (he : starEach (e :: es) X.env = (false, eval e X.env) :: starEach es X.env := by rfl)
    (hpl : ((backTo pos (starEach (e :: es) X.env)).any (·.1) || (backToKw pos (keywordEach kws X.env)).any (·.1.isNone)) = false := by rfl) :
    PE X (.Call (.Name x p) (e :: es) kws pos) (tE b W (callKF n n1 ks.length dn qs dfs fa fk)) :=
  let ⟨_, hb⟩ := hb
  pd_callK hM tk F hr hg hm hk hb hdf ha hkw hall hks hdb he hpl
theorem tyN {T : String} {x : Str} (hg : Gl X x) (hm : X.mg x = none) (hv : bootBuiltins x = some (.type T)) (hn : x ≠ "__name__" := by decide) (hd : (x == ("__debug__" : Str)) = false := by decide) : PE X (.Name x p) (tC (.ty T)) := pe_bltn hg hm hv rfl hn hd
end
theorem npl {b : B} {n i : Nat} (h : b.np = n) (q : n ≤ i) : b.np ≤ i := by rw [h]; exact q
end DL

set_option Elab.async false
set_option linter.all false
set_option maxRecDepth 100000
set_option maxHeartbeats 4000000
/-! DenE: the law's head. -/
namespace DL
open PySem L2 PySem.Spec PyProof.Rows

/-- the law's promise: true at every script -/
def spLaw (K : PySem.W.Frag) : Sp := fun vs H Q _ => ∃ (a : Addr) (ns : List Int), vs = [.ref a] ∧ SqL K H a (ns.map V.int) ∧ ns.length ≤ 63 ∧ (∀ z ∈ ns, Builtin.Int.intBits z ≤ 1048576) ∧ ∀ H', Q (.bl true) H'
/-- what the mathematics has to show -/
def LawOk (dn : Dn) : Prop := ∀ ns : List Int, ns.length ≤ 63 → (∀ z ∈ ns, Builtin.Int.intBits z ≤ 1048576) → ∃ as, dn [.v (.lst (ns.map D.int))] = .ok (.bl true) as
theorem repL_ints {M : MM} {Fz : Fzn} {H : Hp} : ∀ ns : List Int, RepL M Fz H (ns.map D.int) (ns.map V.int)
  | [] => RepL.nil
  | n :: ns => RepL.cons rep_int (repL_ints ns)
theorem law_imp {P : Program} {w : World} {K : PySem.W.Frag} {mg : Str → Option Value} {base : Heap} {CX : CXT} {k : Nat} {f : Addr} {fd : FuncData} {ps : List Str} {dn : Dn} (F : FnOk P w K mg base CX k f fd ps (spD ⟨K, mg⟩ 1 dn)) (h : LawOk dn) : FnOk P w K mg base CX k f fd ps (spLaw K) :=
  F.imp fun vs H Q E ⟨a, ns, hv, hS, hl, hb, hQ⟩ => by
    subst hv
    obtain ⟨as, e⟩ := h ns hl hb
    refine ⟨rfl, fun x => x = a ∧ H x = some (.lst (ns.map V.int)), [.v (.lst (ns.map D.int))], fun x hx => ⟨_, hx.2⟩, ⟨rfl, fun i s e => ?_, fun i j x p q => ?_⟩, ?_⟩
    · match i, e with
      | 0, e =>
        have e' : S.v (.lst (ns.map D.int)) = s := by simpa using e
        subst e'
        refine ⟨.ref a, rfl, ?_⟩
        unfold Rep
        refine ⟨a, _, rfl, ?_, repL_ints ns⟩
        rcases hS with (hS | ⟨o, hS⟩) | hS
        · exact .inl ⟨⟨rfl, hS⟩, hS⟩
        · exact .inr (.inl ⟨o, hS⟩)
        · exact .inr (.inr hS)
      | i + 1, e => simp at e
    · obtain ⟨⟨s, e, w⟩, _⟩ := p
      match i, e with
      | 0, e =>
        have e' : S.v (.lst (ns.map D.int)) = s := by simpa using e
        subst e'
        cases w
      | i + 1, e => simp at e
    · rw [e]
      intro x H' Fz' _ rep
      rw [rep_bl' rep]
      exact hQ H'
theorem cx_false {P : Program} {w : World} {H : Hp} {s : Shared} {e : Value} {s' : Shared} (h : L2.CX P w [] H s (fun _ _ _ => False) e s') : False := by
  obtain ⟨a, B, H', cls, d, _, _, _, _, _, _, _, z⟩ := h
  exact z
theorem walk {l : PySem.W.OpenLaw} {q : Program} {loose : List Str} {XP : (Str → Option Value) → Heap → Prop} {YP : World → Heap → Prop} {d : DefRec} {K : Params → PySem.W.Frag} {k : Nat} {x : Str} (hn : l.most = some 63) (hdf : d.params.defaults = []) (hr : Room k callerA)
    (hY : ∀ (w : World) (h : Heap), YP w h → (K w.params).In h)
    (F : ∀ (w : World) (mg : Str → Option Value) (fa : Addr) (h : Heap), (K w.params).In h → h.Ns mainGlobals mg → mg d.name = some (.ref fa) →
      ∃ fd : FuncData, (∀ (s : Shared) (u : Value), BindsTo s fd ⟨[u], []⟩ [(x, u)]) ∧ ∀ base : Heap, (K w.params).In base → base.Ns mainGlobals mg → FnOk l.prog w (K w.params) mg base (L2.CX l.prog w) k fa fd [x] (spLaw (K w.params))) :
    PySem.W.WalkO q loose XP YP l.row.toRowW d [] (fun f vs => PySem.call f vs) :=
  L2.walk_ofB (n := 63) (k := k) (x := x) (CX := fun w => L2.CX l.prog w) (sp := fun w => spLaw (K w.params)) hn (by decide) hdf hr hY F (fun _ _ a ns hl hb _ hS => ⟨a, ns, rfl, hS, hl, hb, fun _ => rfl⟩) fun _ _ _ _ _ z => cx_false z
end DL
namespace DL
open PySem
theorem exm_tyT {K : PySem.W.Frag} {cls : Value} {T : String} {b : Bool} (h0 : PySem.W.subIn K (.type T) (.type "BaseException") = some true) (h1 : PySem.W.kitMeta T = true) (h : PySem.W.subIn K cls (.type T) = some b) : PySem.W.exmOne K cls (.type T) = some b := by
  unfold PySem.W.exmOne
  rw [h0, if_pos (by decide)]
  show (if PySem.W.kitMeta T = true then _ else _) = _
  rw [if_pos h1]
  exact h
theorem kit_tyT {K : PySem.W.Frag} {C : Addr} {T : String} {b : Bool} (h1 : PySem.W.kitMeta T = true) (h : PySem.W.subIn K (.ref C) (.type T) = some b) : PySem.W.kitOne K (.ref C) (.type T) = some b := by
  unfold PySem.W.kitOne
  rw [if_neg (by intro z; cases beq_iff_eq.mp z)]
  show (if PySem.W.kitMeta T = true then _ else _) = _
  rw [if_pos h1]
  exact h
theorem kit_refT {K : PySem.W.Frag} {C1 C : Addr} {b : Bool} (hd : PySem.W.hasDictIn K C = true) (ht : PySem.W.typeIn K (.ref C) = some (.type "type")) (hs : PySem.W.subIn K (.ref C) (.ref C) = some true) (h : PySem.W.subIn K (.ref C1) (.ref C) = some b) : PySem.W.kitOne K (.ref C1) (.ref C) = some b := by
  unfold PySem.W.kitOne
  by_cases c : (Value.ref C1 == Value.ref C) = true
  · rw [if_pos c]
    have e : C1 = C := Value.ref.inj (beq_iff_eq.mp c)
    subst e
    rw [h] at hs
    exact hs.symm
  · rw [if_neg c]
    unfold PySem.W.kitCls
    obtain ⟨cd, hc, _⟩ := PySem.W.any_some hd
    have e2 : ((PySem.W.clsIn K C).isSome && PySem.W.typeIn K (.ref C) == some (.type "type")) = true := by rw [hc, ht] <;> rfl
    show (if ((PySem.W.clsIn K C).isSome && PySem.W.typeIn K (.ref C) == some (.type "type")) = true then _ else _) = _
    rw [if_pos e2]
    exact h
end DL

set_option Elab.async false
set_option linter.all false
set_option maxRecDepth 100000
set_option maxHeartbeats 4000000
/-! DenS: the combinators, applied, for simp. -/
namespace DL
open PySem L2

section
variable {α β : Type} {c : Prop} [Decidable c] {g : Sg} {f f1 f2 f3 : FE} {fa : FA} {fv fv2 : FV} {ff : FF} {a1 a2 : Sg → R AV} {fb fb1 fb2 : FB} {s s1 s2 : FS} {i j : Nat} {d : D}
@[simp] theorem s_gat0 {x : S} : gat (x :: g) 0 = x := rfl
@[simp] theorem s_gatS {x : S} : gat (x :: g) (i + 1) = gat g i := rfl
@[simp] theorem s_bdI {r1 r2 : R α} {k : α → Sg → R β} : (if c then r1 else r2).bd k = if c then r1.bd k else r2.bd k := by split <;> rfl
@[simp] theorem s_sbI {r1 r2 : R α} {k : α → Sg → RS} : (if c then r1 else r2).sb k = if c then r1.sb k else r2.sb k := by split <;> rfl
@[simp] theorem s_rsI {r1 r2 : RS} {k : Sg → RS} : (if c then r1 else r2).bd k = if c then r1.bd k else r2.bd k := by split <;> rfl
@[simp] theorem s_optI {x y : Option α} : opt (if c then x else y) g = if c then opt x g else opt y g := by split <;> rfl
@[simp] theorem s_var : varF i g = match gat g i with | .v d => .ok d g | _ => .no := rfl
@[simp] theorem s_frz : frzF i g = match gat g i with | .v d => .ok d g | .ow ds => .ok (.lst ds) (g.set i (.v (.lst ds))) | _ => .no := rfl
@[simp] theorem s_nm : nmF i g = match gat g i with | .v d => .ok (.d d) g | .un => .no | _ => .ok (.o i) g := by unfold nmF; cases gat g i <;> rfl
@[simp] theorem s_dF : dF f g = (f g).bd fun d g1 => .ok (.d d) g1 := rfl
@[simp] theorem s_c : cF d g = .ok d g := rfl
@[simp] theorem s_op2 {o : D → D → Option D} : op2F o f1 f2 g = (f1 g).bd fun d g1 => (f2 g1).bd fun e g2 => opt (o d e) g2 := rfl
@[simp] theorem s_op2V {o : D → D → Option D} : op2V o a1 a2 g = (a1 g).bd fun a g1 => (a2 g1).bd fun c g2 => opt ((res g2 a).bind fun d => (res g2 c).bind fun e => o d e) g2 := rfl
@[simp] theorem s_op1 {o : D → Option D} : op1F o f g = (f g).bd fun d g1 => opt (o d) g1 := rfl
@[simp] theorem s_resd : res g (.d d) = some d := rfl
@[simp] theorem s_reso : res g (.o i) = match gat g i with | .ow ds => some (.lst ds) | _ => none := rfl
@[simp] theorem s_resId : resI g (.d d) = true := rfl
@[simp] theorem s_resIo : resI g (.o i) = (gat g i).isOw := rfl
@[simp] theorem s_ress0 : ress g [] = some [] := rfl
@[simp] theorem s_tst : tstF f g = (f g).bd fun d g1 => match d with | .bl c => .ok c g1 | _ => .no := rfl
@[simp] theorem s_and : andB fb1 fb2 g = (fb1 g).bd fun c g1 => if c = true then fb2 g1 else .ok false g1 := rfl
@[simp] theorem s_or : orB fb1 fb2 g = (fb1 g).bd fun c g1 => if c = true then .ok true g1 else fb2 g1 := rfl
@[simp] theorem s_not : notB fb g = (fb g).bd fun c g1 => .ok (!c) g1 := rfl
@[simp] theorem s_andV : andV f1 f2 g = (f1 g).bd fun d g1 => match d with | .bl c => if c = true then f2 g1 else .ok (.bl false) g1 | _ => .no := rfl
@[simp] theorem s_orV : orV f1 f2 g = (f1 g).bd fun d g1 => match d with | .bl c => if c = true then .ok (.bl true) g1 else f2 g1 | _ => .no := rfl
@[simp] theorem s_notV : notV f g = (f g).bd fun d g1 => match d with | .bl c => .ok (.bl (!c)) g1 | _ => .no := rfl
@[simp] theorem s_if : ifF fb f1 f2 g = (fb g).bd fun c g1 => if c = true then f1 g1 else f2 g1 := rfl
@[simp] theorem s_ch {o o' : D → D → Option D} : chF o o' f1 f2 f3 g = (f1 g).bd fun d g1 => (f2 g1).bd fun e g2 => (opt (o d e) g2).bd fun z g3 => match z with | .bl c => if c = true then (f3 g3).bd fun k g4 => opt (o' e k) g4 else .ok (.bl false) g3 | _ => .no := rfl
@[simp] theorem s_nilA : nilA g = .ok [] g := rfl
@[simp] theorem s_consA : consA f fa g = (f g).bd fun d g1 => (fa g1).bd fun ds g2 => .ok (d :: ds) g2 := rfl
@[simp] theorem s_nilV : nilV g = .ok [] g := rfl
@[simp] theorem s_consV : consV a1 fv g = (a1 g).bd fun a g1 => (fv g1).bd fun as g2 => if resI g2 a = true then .ok (a :: as) g2 else .no := rfl
@[simp] theorem s_tup : tupF fa g = (fa g).bd fun ds g1 => if szOk ds.length = true then .ok (.tup ds) g1 else .no := rfl
@[simp] theorem s_lst : lstF fa g = (fa g).bd fun ds g1 => if szOk ds.length = true then .ok ds g1 else .no := rfl
@[simp] theorem s_fr : frF ff g = (ff g).bd fun ds g1 => .ok (.lst ds) g1 := rfl
@[simp] theorem s_blt {o : List D → Option D} : bltF o fv g = (fv g).bd fun as g1 => opt ((ress g1 as).bind o) g1 := rfl
@[simp] theorem s_bltF {o : List D → Option (List D)} : bltFF o fv g = (fv g).bd fun as g1 => opt ((ress g1 as).bind o) g1 := rfl
@[simp] theorem s_isi {o : D → Option Bool} : isiF o a1 g = (a1 g).bd fun a g1 => opt ((res g1 a).bind fun d => (o d).bind fun c => some (.bl c)) g1 := rfl
@[simp] theorem s_skip : skipS g = .nx g := rfl
@[simp] theorem s_seq : seqS s1 s2 g = (s1 g).bd s2 := rfl
@[simp] theorem s_expr : exprS f g = (f g).sb fun _ g1 => .nx g1 := rfl
@[simp] theorem s_brk : brkS g = .bk g := rfl
@[simp] theorem s_cnt : cntS g = .ct g := rfl
@[simp] theorem s_ret : retS f g = (f g).sb fun d g1 => .rt d g1 := rfl
@[simp] theorem s_retN : retN g = .rt .non g := rfl
@[simp] theorem s_retF : retF ff g = (ff g).sb fun d g1 => .rf d g1 := rfl
@[simp] theorem s_take : takeF i g = match gat g i with | .ow ds => .ok ds (g.set i .un) | _ => .no := rfl
@[simp] theorem s_ifS : ifS fb s1 s2 g = (fb g).sb fun v g1 => if v = true then s1 g1 else s2 g1 := rfl
@[simp] theorem s_asg : asgS i f g = (f g).sb fun d g1 => .nx (g1.set i (.v d)) := rfl
@[simp] theorem s_asgO : asgO i ff g = (ff g).sb fun d g1 => .nx (g1.set i (.ow d)) := rfl
@[simp] theorem s_tgN : tgN i d g = some (g.set i (.v d)) := rfl
@[simp] theorem s_tgNil : tgNil [] g = some g := rfl
@[simp] theorem s_tgCons {t : Tgt} {ts : List D → Sg → Option Sg} {ds : List D} : tgCons t ts (d :: ds) g = (t d g).bind (ts ds) := rfl
@[simp] theorem s_tgT {n : Nat} {ts : List D → Sg → Option Sg} {ds : List D} : tgT n ts (.tup ds) g = if ds.length = n then ts ds g else none := rfl
@[simp] theorem s_asgT {t : Tgt} : asgT t f g = (f g).sb fun d g1 => match t d g1 with | some g2 => .nx g2 | none => .no := rfl
@[simp] theorem s_par : parS i j fa g = (fa g).sb fun ds g1 => match ds with | [d, e] => .nx ((g1.set i (.v d)).set j (.v e)) | _ => .no := rfl
@[simp] theorem s_it : itF f g = (f g).bd fun d g1 => opt (seqD d) g1 := rfl
@[simp] theorem s_fa {o : List D → Option α} : faF o fa g = (fa g).bd fun ds g1 => opt (o ds) g1 := rfl
@[simp] theorem s_turn {t : Tgt} : turnS t s d g = match t d g with | some g1 => s g1 | none => .no := rfl
@[simp] theorem s_for {fi : FI} {t : Tgt} : forS fi t s g = (fi g).sb fun items g1 => forL (turnS t s) items g1 := rfl
@[simp] theorem s_forNil {h : D → FS} : forL h [] g = .nx g := rfl
theorem s_forCons {h : D → FS} {ds : List D} : forL h (d :: ds) g = match h d g with | .nx g' => forL h ds g' | .ct g' => forL h ds g' | .bk g' => .nx g' | .rt d g' => .rt d g' | .rf d g' => .rf d g' | .ex e g' => .ex e g' | .no => .no := rfl
@[simp] theorem s_yes : yesB g = .ok true g := rfl
@[simp] theorem s_lc {fi : FI} {t : Tgt} {vs : List Nat} : lcF fi t fb f vs g = (fi g).bd fun items g1 => if items.length ≤ sizeLine then lcL t fb f vs items [] (wipeG g1 vs) else .no := rfl
@[simp] theorem s_part : partF f g = (f g).bd fun d g1 => match d with | .int i => .ok (some i) g1 | _ => .no := rfl
@[simp] theorem s_noPart : noPart g = .ok none g := rfl
@[simp] theorem s_slc {lo hi : Sg → R (Option Int)} : slcF a1 lo hi g = (a1 g).bd fun a g1 => (lo g1).bd fun l g2 => (hi g2).bd fun u g3 => match res g3 a with | some (.lst ds) => .ok (cut ds l u) g3 | _ => .no := rfl
@[simp] theorem s_set {fi fw : FE} : setS i fi fw g = (fw g).sb fun d g1 => match gat g1 i with
  | .ow _ => (fi g1).sb fun k g2 => match k, gat g2 i with
    | .int k, .ow ds => match ixN ds.length k with
      | some j => .nx (g2.set i (.ow (ds.set j d)))
      | none => .no
    | _, _ => .no
  | _ => .no := rfl
@[simp] theorem s_ap : apF i f g = match gat g i with
  | .ow _ => (f g).bd fun d g1 => match gat g1 i with
    | .ow ds => if ds.length < sizeLine then .ok .non (g1.set i (.ow (ds ++ [d]))) else .no
    | _ => .no
  | _ => .no := rfl
@[simp] theorem s_raise {cn : Str} {fs : List Str} : raiseS cn fs fa g = (fa g).sb fun ds g1 => if ds.length = fs.length then .ex (mkE cn fs ds) g1 else .no := rfl
@[simp] theorem s_raise0 {cn : Str} : raise0S cn g = .ex ⟨cn, [], []⟩ g := rfl
@[simp] theorem s_try {h : Str → Option Bool} {sx : Exn → FS} : tryF i h s sx g = match s g with
  | .ex e g' => match h e.cls with
    | some true => if i < g'.length then endX i g'.length (sx e (g'.set i .un)) else .no
    | some false => .ex e g'
    | none => .no
  | r => r := by unfold tryF; cases s g <;> rfl
@[simp] theorem s_call {n : Nat} {dn : Dn} {dfs : List D} : callF n dn dfs fv g = (fv g).bd fun as g1 => callR n dn (as ++ dfs.map AV.d) g1 := rfl
@[simp] theorem s_callFF {n : Nat} {dn : Dn} {dfs : List D} : callFF n dn dfs fv g = (fv g).bd fun as g1 => callRF n dn (as ++ dfs.map AV.d) g1 := rfl
@[simp] theorem s_callK {n n1 m : Nat} {dn : Dn} {qs : List KQ} {dfs : List D} : callKF n n1 m dn qs dfs fv fv2 g = (fv g).bd fun as g1 => (fv2 g1).bd fun ks g2 => if as.length = n1 ∧ ks.length = m ∧ as.all (resI g2) = true then callR n dn (pickG as (dfs.map AV.d) ks qs) g2 else .no := rfl
@[simp] theorem s_toSd : toS g (.d d) = .v d := rfl
@[simp] theorem s_toSo : toS g (.o i) = gat g i := rfl
@[simp] theorem s_own0 : ownIx [] = [] := rfl
@[simp] theorem s_ownD {as : List AV} : ownIx (.d d :: as) = ownIx as := rfl
@[simp] theorem s_ownO {as : List AV} : ownIx (.o i :: as) = i :: ownIx as := rfl
@[simp] theorem s_nod0 : nodupB [] = true := rfl
@[simp] theorem s_nodS {is : List Nat} : nodupB (i :: is) = (!is.contains i && nodupB is) := rfl
@[simp] theorem s_mD {as : List AV} {x : S} {ss : Sg} : merge g (.d d :: as) (x :: ss) = merge g as ss := rfl
@[simp] theorem s_mO {as : List AV} {x : S} {ss : Sg} : merge g (.o i :: as) (x :: ss) = merge (g.set i x) as ss := rfl
@[simp] theorem s_m0 {ss : Sg} : merge g [] ss = g := by unfold merge; rfl
theorem s_mV {ss : Sg} : ∀ {as : List AV}, ownIx as = [] → merge g as ss = g := by
  intro as
  induction as generalizing ss with
  | nil => intro _; exact s_m0
  | cons a as ih =>
    cases a with
    | d d =>
      intro h
      cases ss with
      | nil => rfl
      | cons x ss => exact ih h
    | o i => intro h; cases h
/-- the callee's answer told -/
theorem callR_ok' {n : Nat} {dn : Dn} {as : List AV} {ss : Sg} (h : dn (as.map (toS g)) = .ok d ss) (hl : as.length = n) (hd : nodupB (ownIx as) = true) : callR n dn as g = .ok d (merge g as ss) := by
  unfold callR
  rw [if_pos ⟨hl, hd⟩, h]
theorem callR_ex' {n : Nat} {dn : Dn} {as : List AV} {ss : Sg} {e : Exn} (h : dn (as.map (toS g)) = .ex e ss) (hl : as.length = n) (hd : nodupB (ownIx as) = true) : callR n dn as g = .ex e (merge g as ss) := by
  unfold callR
  rw [if_pos ⟨hl, hd⟩, h]
theorem s_callR {n : Nat} {dn : Dn} {as : List AV} : callR n dn as g = if as.length = n ∧ nodupB (ownIx as) = true then match dn (as.map (toS g)) with
    | .ok d ss => .ok d (merge g as ss)
    | .okf ds ss => .ok (.lst ds) (merge g as ss)
    | .ex e ss => .ex e (merge g as ss)
    | .no => .no
  else .no := rfl
theorem s_callRF {n : Nat} {dn : Dn} {as : List AV} : callRF n dn as g = if as.length = n ∧ nodupB (ownIx as) = true then match dn (as.map (toS g)) with
    | .okf ds ss => .ok ds (merge g as ss)
    | .ex e ss => .ex e (merge g as ss)
    | _ => .no
  else .no := by unfold callRF; split <;> first | rfl | (cases dn (as.map (toS g)) <;> rfl)
@[simp] theorem s_end_rt {as : Sg} : endC as (.rt d g) = if okOut as g = true then .ok d (g.take as.length) else .no := rfl
@[simp] theorem s_end_rf {as : Sg} {ds : List D} : endC as (.rf ds g) = if okOut as g = true then .okf ds (g.take as.length) else .no := rfl
@[simp] theorem s_end_nx {as : Sg} : endC as (.nx g) = if okOut as g = true then .ok .non (g.take as.length) else .no := rfl
@[simp] theorem s_end_ex {as : Sg} {e : Exn} : endC as (.ex e g) = if okOut as g = true then .ex e (g.take as.length) else .no := rfl
@[simp] theorem s_endI {as : Sg} {r1 r2 : RS} : endC as (if c then r1 else r2) = if c then endC as r1 else endC as r2 := by split <;> rfl
@[simp] theorem s_okO0 : okOut [] g = true := rfl
@[simp] theorem s_okOS {x y : S} {as : Sg} : okOut (x :: as) (y :: g) = ((!x.isOw || y.isOw) && okOut as g) := rfl
@[simp] theorem s_isOwV : (S.v d).isOw = false := rfl
@[simp] theorem s_isOwO {ds : List D} : (S.ow ds).isOw = true := rfl
@[simp] theorem s_isOwU : S.un.isOw = false := rfl
theorem s_def {N : Nat} {body : FS} {as : Sg} : defF N body as = endC as (body (as ++ List.replicate (N - as.length) .un)) := rfl
@[simp] theorem s_whileUn {n : Nat} : whileN fb s (n + 1) g = (fb g).sb fun k g1 => if k = true then (match s g1 with
    | .nx g' => whileN fb s n g'
    | .ct g' => whileN fb s n g'
    | .bk g' => .nx g'
    | .rt d g' => .rt d g'
    | .rf d g' => .rf d g'
    | .ex e g' => .ex e g'
    | .no => .no) else .nx g1 := rfl
end
@[simp] theorem s_ress1 {g : Sg} {a : AV} {as : List AV} : ress g (a :: as) = (res g a).bind fun d => (ress g as).bind fun ds => some (d :: ds) := by first | rfl | (unfold ress; cases res g a <;> rfl)
end DL
namespace DL
open PySem L2
section
variable {i j : Int} {a b c : Bool} {xs ys : List D} {d e x y : D} {s t : Str}
@[simp] theorem d_addI : addD (.int i) (.int j) = some (.int (i + j)) := rfl
@[simp] theorem d_subI : subD (.int i) (.int j) = some (.int (i - j)) := rfl
theorem d_mulI : mulD (.int i) (.int j) = if (i * j).natAbs < LIM then some (.int (i * j)) else none := rfl
@[simp] theorem d_fdiv : fdivD (.int i) (.int j) = if j ≠ 0 ∧ j.natAbs < LID then some (.int (i.fdiv j)) else none := rfl
@[simp] theorem d_mod : modD (.int i) (.int j) = if j ≠ 0 then some (.int (i.fmod j)) else none := rfl
@[simp] theorem d_neg : negD (.int i) = some (.int (-i)) := rfl
@[simp] theorem d_lt : ltD (.int i) (.int j) = some (.bl (decide (i < j))) := rfl
@[simp] theorem d_le : leD (.int i) (.int j) = some (.bl (decide (i ≤ j))) := rfl
@[simp] theorem d_gt : gtD (.int i) (.int j) = some (.bl (decide (j < i))) := rfl
@[simp] theorem d_ge : geD (.int i) (.int j) = some (.bl (decide (j ≤ i))) := rfl
@[simp] theorem d_eq : eqD d e = if (okN 20 d && okN 20 e) = true then some (.bl (D.eqb d e)) else none := rfl
@[simp] theorem d_ne : neD d e = if (okN 20 d && okN 20 e) = true then some (.bl (!D.eqb d e)) else none := rfl
@[simp] theorem d_is : isD d .non = some (.bl d.isNon) := rfl
@[simp] theorem d_isnot : isNotD d .non = some (.bl (!d.isNon)) := rfl
@[simp] theorem n_non : D.isNon .non = true := rfl
@[simp] theorem n_int : D.isNon (.int i) = false := rfl
@[simp] theorem n_bl : D.isNon (.bl a) = false := rfl
@[simp] theorem n_str : D.isNon (.str s) = false := rfl
@[simp] theorem n_tup : D.isNon (.tup xs) = false := rfl
@[simp] theorem n_lst : D.isNon (.lst xs) = false := rfl
@[simp] theorem q_int : D.eqb (.int i) (.int j) = (i == j) := by unfold D.eqb; rfl
@[simp] theorem q_bl : D.eqb (.bl a) (.bl b) = (a == b) := by unfold D.eqb; rfl
@[simp] theorem q_str : D.eqb (.str s) (.str t) = (s == t) := by unfold D.eqb; rfl
@[simp] theorem q_non : D.eqb .non .non = true := by unfold D.eqb; rfl
@[simp] theorem q_nonS : D.eqb .non (.str t) = false := by unfold D.eqb; rfl
@[simp] theorem q_nonT : D.eqb .non (.tup xs) = false := by unfold D.eqb; rfl
@[simp] theorem q_tup : D.eqb (.tup xs) (.tup ys) = D.eqbs xs ys := by conv => lhs; unfold D.eqb
@[simp] theorem q_lst : D.eqb (.lst xs) (.lst ys) = D.eqbs xs ys := by conv => lhs; unfold D.eqb
@[simp] theorem q_nil : D.eqbs [] [] = true := by unfold D.eqbs; rfl
@[simp] theorem q_cons : D.eqbs (x :: xs) (y :: ys) = (D.eqb x y && D.eqbs xs ys) := by conv => lhs; unfold D.eqbs
@[simp] theorem k_int {n : Nat} : okN n (.int i) = true := by cases n <;> rfl
@[simp] theorem k_bl {n : Nat} : okN n (.bl a) = true := by cases n <;> rfl
@[simp] theorem k_non {n : Nat} : okN n .non = true := by cases n <;> rfl
theorem k_str {n : Nat} : okN n (.str s) = s.cps.all (· < 0x110000) := by cases n <;> rfl
@[simp] theorem k_tup {n : Nat} : okN (n + 1) (.tup xs) = xs.all (okN n) := rfl
@[simp] theorem k_lst {n : Nat} : okN (n + 1) (.lst xs) = xs.all (okN n) := rfl
@[simp] theorem i_int1 : isInt (.int i) = some true := rfl
@[simp] theorem i_int2 : isInt (.bl a) = some true := rfl
@[simp] theorem i_int3 : isInt .non = some false := rfl
@[simp] theorem i_int4 : isInt (.str s) = some false := rfl
@[simp] theorem i_int5 : isInt (.tup xs) = some false := rfl
@[simp] theorem i_int6 : isInt (.lst xs) = some false := rfl
@[simp] theorem i_bl1 : isBool (.int i) = some false := rfl
@[simp] theorem i_bl2 : isBool (.bl a) = some true := rfl
@[simp] theorem i_bl3 : isBool .non = some false := rfl
@[simp] theorem i_bl4 : isBool (.str s) = some false := rfl
@[simp] theorem i_bl5 : isBool (.tup xs) = some false := rfl
@[simp] theorem i_bl6 : isBool (.lst xs) = some false := rfl
@[simp] theorem i_tp1 : isTup (.int i) = some false := rfl
@[simp] theorem i_tp2 : isTup (.bl a) = some false := rfl
@[simp] theorem i_tp3 : isTup .non = some false := rfl
@[simp] theorem i_tp4 : isTup (.str s) = some false := rfl
@[simp] theorem i_tp5 : isTup (.tup xs) = some true := rfl
@[simp] theorem i_tp6 : isTup (.lst xs) = some false := rfl
@[simp] theorem i_lt1 : isLstTup (.int i) = some false := rfl
@[simp] theorem i_lt2 : isLstTup (.bl a) = some false := rfl
@[simp] theorem i_lt3 : isLstTup .non = some false := rfl
@[simp] theorem i_lt4 : isLstTup (.str s) = some false := rfl
@[simp] theorem i_lt5 : isLstTup (.tup xs) = some true := rfl
@[simp] theorem i_lt6 : isLstTup (.lst xs) = some true := rfl
@[simp] theorem l_lst : lenD [.lst xs] = some (.int xs.length) := rfl
@[simp] theorem l_tup : lenD [.tup xs] = some (.int xs.length) := rfl
@[simp] theorem l_abs : absD [.int i] = some (.int i.natAbs) := rfl
@[simp] theorem l_int : intF [.int i] = some (.int i) := rfl
@[simp] theorem l_intB : intF [.bl a] = some (.int (if a then 1 else 0)) := rfl
@[simp] theorem l_list : listD [.lst xs] = some xs := rfl
@[simp] theorem l_all : allD [.lst xs] = (boolsD xs).bind fun ns => some (.bl (ns.all id)) := rfl
@[simp] theorem l_bools0 : boolsD [] = some [] := rfl
@[simp] theorem l_boolsS : boolsD (.bl a :: xs) = (boolsD xs).bind fun is => some (a :: is) := rfl
@[simp] theorem l_seqL : seqD (.lst xs) = some xs := rfl
@[simp] theorem l_seqT : seqD (.tup xs) = some xs := rfl
@[simp] theorem x_0 : ixD (.tup (x :: xs)) (.int 0) = some x := by show atI (x :: xs) 0 = some x; unfold atI ixN; simp
@[simp] theorem x_1 : ixD (.tup (x :: y :: xs)) (.int 1) = some y := by show atI (x :: y :: xs) 1 = some y; unfold atI ixN; simp; rw [if_pos (by omega)]; rfl
@[simp] theorem x_L0 : ixD (.lst (x :: xs)) (.int 0) = some x := x_0 (xs := xs)
@[simp] theorem x_L1 : ixD (.lst (x :: y :: xs)) (.int 1) = some y := x_1 (xs := xs)
theorem szOk_of {n : Nat} (h : n ≤ 16777216) : szOk n = true := szOk_iff.mpr h
/-- bits -/
def BB (k : Nat) (i : Int) : Prop := i.natAbs < 2 ^ k
theorem BB.mul {k l : Nat} (h : BB k i) (q : BB l j) : BB (k + l) (i * j) := by
  unfold BB at *
  rw [Int.natAbs_mul, Nat.pow_add]
  by_cases hj : j.natAbs = 0
  · rw [hj, Nat.mul_zero]; exact Nat.mul_pos (Nat.two_pow_pos _) (Nat.two_pow_pos _)
  · exact Nat.mul_lt_mul_of_lt_of_lt h q
theorem BB.mono {k l : Nat} (h : BB k i) (hl : k ≤ l) : BB l i := Nat.lt_of_lt_of_le h (Nat.pow_le_pow_right (by decide) hl)
theorem BB.add {k l : Nat} (h : BB k i) (q : BB l j) : BB (max k l + 1) (i + j) := by
  have h1 := h.mono (Nat.le_max_left k l)
  have h2 := q.mono (Nat.le_max_right k l)
  unfold BB at *
  rw [Nat.pow_succ]
  omega
theorem BB.sub {k l : Nat} (h : BB k i) (q : BB l j) : BB (max k l + 1) (i - j) := by
  have h1 := h.mono (Nat.le_max_left k l)
  have h2 := q.mono (Nat.le_max_right k l)
  unfold BB at *
  rw [Nat.pow_succ]
  omega
theorem BB.lim {k : Nat} (h : BB k i) (hk : k ≤ 2000000) : i.natAbs < LIM := lt_LIM (n := i.natAbs) (k := k) h hk
theorem BB.lid {k : Nat} (h : BB k i) (hk : k ≤ 8000) : i.natAbs < LID := lt_LID (n := i.natAbs) (k := k) h hk
theorem d_mul' {k : Nat} (h : BB k (i * j)) (hk : k ≤ 2000000 := by decide) : mulD (.int i) (.int j) = some (.int (i * j)) := by rw [d_mulI, if_pos (h.lim hk)]
theorem d_fdiv' {k : Nat} (h : BB k j) (h0 : j ≠ 0) (hk : k ≤ 8000 := by decide) : fdivD (.int i) (.int j) = some (.int (i.fdiv j)) := by rw [d_fdiv, if_pos ⟨h0, h.lid hk⟩]
end
end DL

set_option Elab.async false
set_option linter.all false
set_option maxRecDepth 100000
set_option maxHeartbeats 0
/-! the walk (printed by gen.py) -/
namespace K00
open PySem L2 PySem.Spec PyProof.Rows DL
def top (i : Nat) : Stmt := PySem.Challenge.pw_letbychecks_k00_whole_ratios_reckoned.main.body.getD i (.Pass ⟨0, 0, 0, 0⟩)
abbrev s__law_hand : Stmt := top 23
abbrev s__law_stir : Stmt := top 22
abbrev s__law_draw : Stmt := top 24
abbrev s__law_number : Stmt := top 33
abbrev s_common_divisor : Stmt := top 10
abbrev s__law_part : Stmt := top 27
abbrev s__law_ratio : Stmt := top 28
abbrev s__law_plus : Stmt := top 29
abbrev s__law_things : Stmt := top 38
abbrev s__law_truth : Stmt := top 32
abbrev s_is_whole : Stmt := top 8
abbrev s_is_sequence : Stmt := top 9
abbrev s_is_ratio : Stmt := top 11
abbrev s_is_share : Stmt := top 12
abbrev s__law_things_hold : Stmt := top 39
abbrev s__law_bounds_hold : Stmt := top 40
abbrev s__law_whole : Stmt := top 25
abbrev s__law_wholes : Stmt := top 26
abbrev s__law_same : Stmt := top 35
abbrev s_lowest_terms : Stmt := top 13
abbrev s_make_ratio : Stmt := top 14
abbrev s__law_making_holds : Stmt := top 37
abbrev s__law_bottom : Stmt := top 34
abbrev s_ratio_compare : Stmt := top 19
abbrev s_ratio_over : Stmt := top 18
abbrev s_ratio_plus : Stmt := top 15
abbrev s_ratio_minus : Stmt := top 16
abbrev s__law_less_by : Stmt := top 30
abbrev s_ratio_times : Stmt := top 17
abbrev s__law_times : Stmt := top 31
abbrev s__law_pair_holds : Stmt := top 36
abbrev s_ratio_sum : Stmt := top 20
abbrev s_law : Stmt := top 41
abbrev sx_BadRatio : Stmt := inClass (top 2) 0
abbrev sx_DividedByNought : Stmt := inClass (top 3) 0
/-! addresses -/
structure Ad where
  f__law_hand : Addr
  fd__law_hand : FuncData
  f__law_stir : Addr
  fd__law_stir : FuncData
  f__law_draw : Addr
  fd__law_draw : FuncData
  f__law_number : Addr
  fd__law_number : FuncData
  f_common_divisor : Addr
  fd_common_divisor : FuncData
  f__law_part : Addr
  fd__law_part : FuncData
  f__law_ratio : Addr
  fd__law_ratio : FuncData
  f__law_plus : Addr
  fd__law_plus : FuncData
  f__law_things : Addr
  fd__law_things : FuncData
  f__law_truth : Addr
  fd__law_truth : FuncData
  f_is_whole : Addr
  fd_is_whole : FuncData
  f_is_sequence : Addr
  fd_is_sequence : FuncData
  f_is_ratio : Addr
  fd_is_ratio : FuncData
  f_is_share : Addr
  fd_is_share : FuncData
  f__law_things_hold : Addr
  fd__law_things_hold : FuncData
  f__law_bounds_hold : Addr
  fd__law_bounds_hold : FuncData
  f__law_whole : Addr
  fd__law_whole : FuncData
  f__law_wholes : Addr
  fd__law_wholes : FuncData
  f__law_same : Addr
  fd__law_same : FuncData
  f_lowest_terms : Addr
  fd_lowest_terms : FuncData
  f_make_ratio : Addr
  fd_make_ratio : FuncData
  f__law_making_holds : Addr
  fd__law_making_holds : FuncData
  f__law_bottom : Addr
  fd__law_bottom : FuncData
  f_ratio_compare : Addr
  fd_ratio_compare : FuncData
  f_ratio_over : Addr
  fd_ratio_over : FuncData
  f_ratio_plus : Addr
  fd_ratio_plus : FuncData
  f_ratio_minus : Addr
  fd_ratio_minus : FuncData
  f__law_less_by : Addr
  fd__law_less_by : FuncData
  f_ratio_times : Addr
  fd_ratio_times : FuncData
  f__law_times : Addr
  fd__law_times : FuncData
  f__law_pair_holds : Addr
  fd__law_pair_holds : FuncData
  f_ratio_sum : Addr
  fd_ratio_sum : FuncData
  f_law : Addr
  fd_law : FuncData
  c_CodeError : Addr
  c_BadRatio : Addr
  fi_BadRatio : Addr
  fdi_BadRatio : FuncData
  c_DividedByNought : Addr
  fi_DividedByNought : Addr
  fdi_DividedByNought : FuncData
  a_ZERO : Value
  a_ONE : Value
  a_HALF : Value
  dummy : Unit := ()
abbrev k_ZERO : D := (.tup [(.int 0), (.int 1)])
abbrev k_ONE : D := (.tup [(.int 1), (.int 1)])
abbrev k_HALF : D := (.tup [(.int 1), (.int 2)])
/-! what the top has written -/
structure Tx (K : PySem.W.Frag) (mg : Str → Option Value) (A : Ad) : Prop where
  m__law_hand : mg "_law_hand" = some (.ref A.f__law_hand)
  k__law_hand : PySem.W.keepIn K (.ref A.f__law_hand) = true
  F__law_hand : FunD K "_law_hand" "_law_hand" (defArgs s__law_hand) (defBody s__law_hand) (defScope s__law_hand) [] [] A.f__law_hand A.fd__law_hand
  m__law_stir : mg "_law_stir" = some (.ref A.f__law_stir)
  k__law_stir : PySem.W.keepIn K (.ref A.f__law_stir) = true
  F__law_stir : FunD K "_law_stir" "_law_stir" (defArgs s__law_stir) (defBody s__law_stir) (defScope s__law_stir) [] [] A.f__law_stir A.fd__law_stir
  m__law_draw : mg "_law_draw" = some (.ref A.f__law_draw)
  k__law_draw : PySem.W.keepIn K (.ref A.f__law_draw) = true
  F__law_draw : FunD K "_law_draw" "_law_draw" (defArgs s__law_draw) (defBody s__law_draw) (defScope s__law_draw) [] [] A.f__law_draw A.fd__law_draw
  m__law_number : mg "_law_number" = some (.ref A.f__law_number)
  k__law_number : PySem.W.keepIn K (.ref A.f__law_number) = true
  F__law_number : FunD K "_law_number" "_law_number" (defArgs s__law_number) (defBody s__law_number) (defScope s__law_number) [] [] A.f__law_number A.fd__law_number
  m_common_divisor : mg "common_divisor" = some (.ref A.f_common_divisor)
  k_common_divisor : PySem.W.keepIn K (.ref A.f_common_divisor) = true
  F_common_divisor : FunD K "common_divisor" "common_divisor" (defArgs s_common_divisor) (defBody s_common_divisor) (defScope s_common_divisor) [] [] A.f_common_divisor A.fd_common_divisor
  m__law_part : mg "_law_part" = some (.ref A.f__law_part)
  k__law_part : PySem.W.keepIn K (.ref A.f__law_part) = true
  F__law_part : FunD K "_law_part" "_law_part" (defArgs s__law_part) (defBody s__law_part) (defScope s__law_part) [] [] A.f__law_part A.fd__law_part
  m__law_ratio : mg "_law_ratio" = some (.ref A.f__law_ratio)
  k__law_ratio : PySem.W.keepIn K (.ref A.f__law_ratio) = true
  F__law_ratio : FunD K "_law_ratio" "_law_ratio" (defArgs s__law_ratio) (defBody s__law_ratio) (defScope s__law_ratio) [] [] A.f__law_ratio A.fd__law_ratio
  m__law_plus : mg "_law_plus" = some (.ref A.f__law_plus)
  k__law_plus : PySem.W.keepIn K (.ref A.f__law_plus) = true
  F__law_plus : FunD K "_law_plus" "_law_plus" (defArgs s__law_plus) (defBody s__law_plus) (defScope s__law_plus) [] [] A.f__law_plus A.fd__law_plus
  m__law_things : mg "_law_things" = some (.ref A.f__law_things)
  k__law_things : PySem.W.keepIn K (.ref A.f__law_things) = true
  F__law_things : FunD K "_law_things" "_law_things" (defArgs s__law_things) (defBody s__law_things) (defScope s__law_things) [] [] A.f__law_things A.fd__law_things
  m__law_truth : mg "_law_truth" = some (.ref A.f__law_truth)
  k__law_truth : PySem.W.keepIn K (.ref A.f__law_truth) = true
  F__law_truth : FunD K "_law_truth" "_law_truth" (defArgs s__law_truth) (defBody s__law_truth) (defScope s__law_truth) [] [] A.f__law_truth A.fd__law_truth
  m_is_whole : mg "is_whole" = some (.ref A.f_is_whole)
  k_is_whole : PySem.W.keepIn K (.ref A.f_is_whole) = true
  F_is_whole : FunD K "is_whole" "is_whole" (defArgs s_is_whole) (defBody s_is_whole) (defScope s_is_whole) [.non, .non] [] A.f_is_whole A.fd_is_whole
  m_is_sequence : mg "is_sequence" = some (.ref A.f_is_sequence)
  k_is_sequence : PySem.W.keepIn K (.ref A.f_is_sequence) = true
  F_is_sequence : FunD K "is_sequence" "is_sequence" (defArgs s_is_sequence) (defBody s_is_sequence) (defScope s_is_sequence) [] [] A.f_is_sequence A.fd_is_sequence
  m_is_ratio : mg "is_ratio" = some (.ref A.f_is_ratio)
  k_is_ratio : PySem.W.keepIn K (.ref A.f_is_ratio) = true
  F_is_ratio : FunD K "is_ratio" "is_ratio" (defArgs s_is_ratio) (defBody s_is_ratio) (defScope s_is_ratio) [] [] A.f_is_ratio A.fd_is_ratio
  m_is_share : mg "is_share" = some (.ref A.f_is_share)
  k_is_share : PySem.W.keepIn K (.ref A.f_is_share) = true
  F_is_share : FunD K "is_share" "is_share" (defArgs s_is_share) (defBody s_is_share) (defScope s_is_share) [] [] A.f_is_share A.fd_is_share
  m__law_things_hold : mg "_law_things_hold" = some (.ref A.f__law_things_hold)
  k__law_things_hold : PySem.W.keepIn K (.ref A.f__law_things_hold) = true
  F__law_things_hold : FunD K "_law_things_hold" "_law_things_hold" (defArgs s__law_things_hold) (defBody s__law_things_hold) (defScope s__law_things_hold) [] [] A.f__law_things_hold A.fd__law_things_hold
  m__law_bounds_hold : mg "_law_bounds_hold" = some (.ref A.f__law_bounds_hold)
  k__law_bounds_hold : PySem.W.keepIn K (.ref A.f__law_bounds_hold) = true
  F__law_bounds_hold : FunD K "_law_bounds_hold" "_law_bounds_hold" (defArgs s__law_bounds_hold) (defBody s__law_bounds_hold) (defScope s__law_bounds_hold) [] [] A.f__law_bounds_hold A.fd__law_bounds_hold
  m__law_whole : mg "_law_whole" = some (.ref A.f__law_whole)
  k__law_whole : PySem.W.keepIn K (.ref A.f__law_whole) = true
  F__law_whole : FunD K "_law_whole" "_law_whole" (defArgs s__law_whole) (defBody s__law_whole) (defScope s__law_whole) [] [] A.f__law_whole A.fd__law_whole
  m__law_wholes : mg "_law_wholes" = some (.ref A.f__law_wholes)
  k__law_wholes : PySem.W.keepIn K (.ref A.f__law_wholes) = true
  F__law_wholes : FunD K "_law_wholes" "_law_wholes" (defArgs s__law_wholes) (defBody s__law_wholes) (defScope s__law_wholes) [] [] A.f__law_wholes A.fd__law_wholes
  m__law_same : mg "_law_same" = some (.ref A.f__law_same)
  k__law_same : PySem.W.keepIn K (.ref A.f__law_same) = true
  F__law_same : FunD K "_law_same" "_law_same" (defArgs s__law_same) (defBody s__law_same) (defScope s__law_same) [] [] A.f__law_same A.fd__law_same
  m_lowest_terms : mg "lowest_terms" = some (.ref A.f_lowest_terms)
  k_lowest_terms : PySem.W.keepIn K (.ref A.f_lowest_terms) = true
  F_lowest_terms : FunD K "lowest_terms" "lowest_terms" (defArgs s_lowest_terms) (defBody s_lowest_terms) (defScope s_lowest_terms) [] [] A.f_lowest_terms A.fd_lowest_terms
  m_make_ratio : mg "make_ratio" = some (.ref A.f_make_ratio)
  k_make_ratio : PySem.W.keepIn K (.ref A.f_make_ratio) = true
  F_make_ratio : FunD K "make_ratio" "make_ratio" (defArgs s_make_ratio) (defBody s_make_ratio) (defScope s_make_ratio) [(.int 1)] [] A.f_make_ratio A.fd_make_ratio
  m__law_making_holds : mg "_law_making_holds" = some (.ref A.f__law_making_holds)
  k__law_making_holds : PySem.W.keepIn K (.ref A.f__law_making_holds) = true
  F__law_making_holds : FunD K "_law_making_holds" "_law_making_holds" (defArgs s__law_making_holds) (defBody s__law_making_holds) (defScope s__law_making_holds) [] [] A.f__law_making_holds A.fd__law_making_holds
  m__law_bottom : mg "_law_bottom" = some (.ref A.f__law_bottom)
  k__law_bottom : PySem.W.keepIn K (.ref A.f__law_bottom) = true
  F__law_bottom : FunD K "_law_bottom" "_law_bottom" (defArgs s__law_bottom) (defBody s__law_bottom) (defScope s__law_bottom) [] [] A.f__law_bottom A.fd__law_bottom
  m_ratio_compare : mg "ratio_compare" = some (.ref A.f_ratio_compare)
  k_ratio_compare : PySem.W.keepIn K (.ref A.f_ratio_compare) = true
  F_ratio_compare : FunD K "ratio_compare" "ratio_compare" (defArgs s_ratio_compare) (defBody s_ratio_compare) (defScope s_ratio_compare) [] [] A.f_ratio_compare A.fd_ratio_compare
  m_ratio_over : mg "ratio_over" = some (.ref A.f_ratio_over)
  k_ratio_over : PySem.W.keepIn K (.ref A.f_ratio_over) = true
  F_ratio_over : FunD K "ratio_over" "ratio_over" (defArgs s_ratio_over) (defBody s_ratio_over) (defScope s_ratio_over) [] [] A.f_ratio_over A.fd_ratio_over
  m_ratio_plus : mg "ratio_plus" = some (.ref A.f_ratio_plus)
  k_ratio_plus : PySem.W.keepIn K (.ref A.f_ratio_plus) = true
  F_ratio_plus : FunD K "ratio_plus" "ratio_plus" (defArgs s_ratio_plus) (defBody s_ratio_plus) (defScope s_ratio_plus) [] [] A.f_ratio_plus A.fd_ratio_plus
  m_ratio_minus : mg "ratio_minus" = some (.ref A.f_ratio_minus)
  k_ratio_minus : PySem.W.keepIn K (.ref A.f_ratio_minus) = true
  F_ratio_minus : FunD K "ratio_minus" "ratio_minus" (defArgs s_ratio_minus) (defBody s_ratio_minus) (defScope s_ratio_minus) [] [] A.f_ratio_minus A.fd_ratio_minus
  m__law_less_by : mg "_law_less_by" = some (.ref A.f__law_less_by)
  k__law_less_by : PySem.W.keepIn K (.ref A.f__law_less_by) = true
  F__law_less_by : FunD K "_law_less_by" "_law_less_by" (defArgs s__law_less_by) (defBody s__law_less_by) (defScope s__law_less_by) [] [] A.f__law_less_by A.fd__law_less_by
  m_ratio_times : mg "ratio_times" = some (.ref A.f_ratio_times)
  k_ratio_times : PySem.W.keepIn K (.ref A.f_ratio_times) = true
  F_ratio_times : FunD K "ratio_times" "ratio_times" (defArgs s_ratio_times) (defBody s_ratio_times) (defScope s_ratio_times) [] [] A.f_ratio_times A.fd_ratio_times
  m__law_times : mg "_law_times" = some (.ref A.f__law_times)
  k__law_times : PySem.W.keepIn K (.ref A.f__law_times) = true
  F__law_times : FunD K "_law_times" "_law_times" (defArgs s__law_times) (defBody s__law_times) (defScope s__law_times) [] [] A.f__law_times A.fd__law_times
  m__law_pair_holds : mg "_law_pair_holds" = some (.ref A.f__law_pair_holds)
  k__law_pair_holds : PySem.W.keepIn K (.ref A.f__law_pair_holds) = true
  F__law_pair_holds : FunD K "_law_pair_holds" "_law_pair_holds" (defArgs s__law_pair_holds) (defBody s__law_pair_holds) (defScope s__law_pair_holds) [] [] A.f__law_pair_holds A.fd__law_pair_holds
  m_ratio_sum : mg "ratio_sum" = some (.ref A.f_ratio_sum)
  k_ratio_sum : PySem.W.keepIn K (.ref A.f_ratio_sum) = true
  F_ratio_sum : FunD K "ratio_sum" "ratio_sum" (defArgs s_ratio_sum) (defBody s_ratio_sum) (defScope s_ratio_sum) [] [] A.f_ratio_sum A.fd_ratio_sum
  m_law : mg "law" = some (.ref A.f_law)
  k_law : PySem.W.keepIn K (.ref A.f_law) = true
  F_law : FunD K "law" "law" (defArgs s_law) (defBody s_law) (defScope s_law) [] [] A.f_law A.fd_law
  z_ValueError : mg "ValueError" = none
  z_abs : mg "abs" = none
  z_all : mg "all" = none
  z_bool : mg "bool" = none
  z_enumerate : mg "enumerate" = none
  z_int : mg "int" = none
  z_isinstance : mg "isinstance" = none
  z_len : mg "len" = none
  z_list : mg "list" = none
  z_range : mg "range" = none
  z_tuple : mg "tuple" = none
  m_ZERO : mg "ZERO" = some A.a_ZERO
  r_ZERO : ∃ v, RelV v A.a_ZERO ∧ ∀ Fz H, Rep ⟨K, mg⟩ Fz H k_ZERO v
  m_ONE : mg "ONE" = some A.a_ONE
  r_ONE : ∃ v, RelV v A.a_ONE ∧ ∀ Fz H, Rep ⟨K, mg⟩ Fz H k_ONE v
  m_HALF : mg "HALF" = some A.a_HALF
  r_HALF : ∃ v, RelV v A.a_HALF ∧ ∀ Fz H, Rep ⟨K, mg⟩ Fz H k_HALF v
  m_CodeError : mg "CodeError" = some (.ref A.c_CodeError)
  m_BadRatio : mg "BadRatio" = some (.ref A.c_BadRatio)
  o_BadRatio : OexC K A.c_BadRatio
  i_BadRatio : PySem.W.findIn K (.ref A.c_BadRatio) "__init__" = some (some (.ref A.fi_BadRatio))
  t_BadRatio : PySem.W.typeIn K (.ref A.fi_BadRatio) = some (.type "function")
  F_BadRatio : FunD K "__init__" "BadRatio.__init__" (defArgs sx_BadRatio) (defBody sx_BadRatio) (defScope sx_BadRatio) [] [] A.fi_BadRatio A.fdi_BadRatio
  n_BadRatio_what : PySem.W.findIn K (.ref A.c_BadRatio) "what" = some none
  m_DividedByNought : mg "DividedByNought" = some (.ref A.c_DividedByNought)
  o_DividedByNought : OexC K A.c_DividedByNought
  i_DividedByNought : PySem.W.findIn K (.ref A.c_DividedByNought) "__init__" = some (some (.ref A.fi_DividedByNought))
  t_DividedByNought : PySem.W.typeIn K (.ref A.fi_DividedByNought) = some (.type "function")
  F_DividedByNought : FunD K "__init__" "DividedByNought.__init__" (defArgs sx_DividedByNought) (defBody sx_DividedByNought) (defScope sx_DividedByNought) [] [] A.fi_DividedByNought A.fdi_DividedByNought
  rd_CodeError : ClX.CRead K A.c_CodeError (.type "type")
  vi_CodeError : PySem.W.findCls K (.ref A.c_CodeError) (.type "type") "__init__" = some (.val (.builtin "ValueError.__init__"))
  e_BadRatio_BadRatio : PySem.W.exmOne K (.ref A.c_BadRatio) (.ref A.c_BadRatio) = some true
  e_DividedByNought_CodeError : PySem.W.exmOne K (.ref A.c_DividedByNought) (.ref A.c_CodeError) = some true
  j_DividedByNought_BadRatio : PySem.W.kitOne K (.ref A.c_DividedByNought) (.ref A.c_BadRatio) = some false
  j_DividedByNought_DividedByNought : PySem.W.kitOne K (.ref A.c_DividedByNought) (.ref A.c_DividedByNought) = some true
  j_DividedByNought_ValueError : PySem.W.kitOne K (.ref A.c_DividedByNought) (.type "ValueError") = some true
  x_DividedByNought : ExcC K A.c_DividedByNought
  y_BadRatio : XfC K A.c_BadRatio
  dummy : True := trivial
section
variable {P : Program} {w : World} {K : PySem.W.Frag} {mg : Str → Option Value} {base : Heap} {A : Ad}
theorem scx_BadRatio : FnScope ["self", "what"] ["self", "what"] (defScope sx_BadRatio) := ⟨rfl, rfl, rfl, by decide +kernel, rfl, by decide +kernel, by decide +kernel⟩
theorem bdx_BadRatio (T : Tx K mg A) : Binds K A.fdi_BadRatio ["self", "what"] [] := T.F_BadRatio.bindsN fun _ _ _ _ _ _ us hl => match us, hl with | [_, _], _ => rfl
theorem okx_BadRatio (T : Tx K mg A) : FnOk P w K mg base (L2.CX P w) 1 A.fi_BadRatio A.fdi_BadRatio ["self", "what"] (spMk A.c_BadRatio ["what"]) := ok_init1 T.o_BadRatio T.n_BadRatio_what T.F_BadRatio scx_BadRatio (skip_sup (m := "the top or the bottom of the ratio is wrong")) fun cdv Ar outer s H E => (pss_cons (ps_expr (pe_cinit (by rfl) T.m_CodeError T.rd_CodeError T.vi_CodeError (pa_cons (pv 0) (pa_cons pe_str pa_nil)))) (pss_one (ps_ost (pv 0) (pv 1))))
theorem scx_DividedByNought : FnScope ["self"] ["self"] (defScope sx_DividedByNought) := ⟨rfl, rfl, rfl, by decide +kernel, rfl, by decide +kernel, by decide +kernel⟩
theorem bdx_DividedByNought (T : Tx K mg A) : Binds K A.fdi_DividedByNought ["self"] [] := T.F_DividedByNought.bindsN fun _ _ _ _ _ _ us hl => match us, hl with | [_], _ => rfl
theorem okx_DividedByNought (T : Tx K mg A) : FnOk P w K mg base (L2.CX P w) 1 A.fi_DividedByNought A.fdi_DividedByNought ["self"] (spMk A.c_DividedByNought []) := ok_init0 T.o_DividedByNought  T.F_DividedByNought scx_DividedByNought (skip_sup (m := "the divisor is zero")) fun cdv Ar outer s H E => (pss_one (ps_expr (pe_cinit (by rfl) T.m_CodeError T.rd_CodeError T.vi_CodeError (pa_cons (pv 0) (pa_cons pe_str pa_nil)))))
theorem rk_ZERO (T : Tx K mg A) {b : B} (hM : b.M = ⟨K, mg⟩) : ∀ Fz H, Rep b.M Fz H k_ZERO (Classical.choose T.r_ZERO) := by rw [hM]; exact (Classical.choose_spec T.r_ZERO).2
theorem rk_ONE (T : Tx K mg A) {b : B} (hM : b.M = ⟨K, mg⟩) : ∀ Fz H, Rep b.M Fz H k_ONE (Classical.choose T.r_ONE) := by rw [hM]; exact (Classical.choose_spec T.r_ONE).2
theorem rk_HALF (T : Tx K mg A) {b : B} (hM : b.M = ⟨K, mg⟩) : ∀ Fz H, Rep b.M Fz H k_HALF (Classical.choose T.r_HALF) := by rw [hM]; exact (Classical.choose_spec T.r_HALF).2
theorem hd_BadRatio_0 (T : Tx K mg A) : ∀ nm r C, hdT [("BadRatio", true)] nm = some r → mg nm = some (.ref C) → PySem.W.exmOne K (.ref C) (.ref A.c_BadRatio) = some r := hdT_ok (List.forall_mem_cons.mpr ⟨fun C h => by rw [show mg "BadRatio" = some (.ref A.c_BadRatio) from T.m_BadRatio] at h; cases h; exact T.e_BadRatio_BadRatio, fun _ h => nomatch h⟩)
theorem hd_CodeError_1 (T : Tx K mg A) : ∀ nm r C, hdT [("DividedByNought", true)] nm = some r → mg nm = some (.ref C) → PySem.W.exmOne K (.ref C) (.ref A.c_CodeError) = some r := hdT_ok (List.forall_mem_cons.mpr ⟨fun C h => by rw [show mg "DividedByNought" = some (.ref A.c_DividedByNought) from T.m_DividedByNought] at h; cases h; exact T.e_DividedByNought_CodeError, fun _ h => nomatch h⟩)
theorem isx_BadRatio_0 (T : Tx K mg A) : ∀ q ∈ ([("DividedByNought", false)] : List (Str × Bool)), ∀ C, mg q.1 = some (.ref C) → ExcC K C ∧ PySem.W.kitOne K (.ref C) (.ref A.c_BadRatio) = some q.2 := List.forall_mem_cons.mpr ⟨fun C h => by rw [show mg "DividedByNought" = some (.ref A.c_DividedByNought) from T.m_DividedByNought] at h; cases h; exact ⟨T.x_DividedByNought, T.j_DividedByNought_BadRatio⟩, fun _ h => nomatch h⟩
theorem isx_ValueError_1 (T : Tx K mg A) : ∀ q ∈ ([("DividedByNought", true)] : List (Str × Bool)), ∀ C, mg q.1 = some (.ref C) → ExcC K C ∧ PySem.W.kitOne K (.ref C) (.type "ValueError") = some q.2 := List.forall_mem_cons.mpr ⟨fun C h => by rw [show mg "DividedByNought" = some (.ref A.c_DividedByNought) from T.m_DividedByNought] at h; cases h; exact ⟨T.x_DividedByNought, T.j_DividedByNought_ValueError⟩, fun _ h => nomatch h⟩
theorem isx_DividedByNought_2 (T : Tx K mg A) : ∀ q ∈ ([("DividedByNought", true)] : List (Str × Bool)), ∀ C, mg q.1 = some (.ref C) → ExcC K C ∧ PySem.W.kitOne K (.ref C) (.ref A.c_DividedByNought) = some q.2 := List.forall_mem_cons.mpr ⟨fun C h => by rw [show mg "DividedByNought" = some (.ref A.c_DividedByNought) from T.m_DividedByNought] at h; cases h; exact ⟨T.x_DividedByNought, T.j_DividedByNought_DividedByNought⟩, fun _ h => nomatch h⟩
theorem xf_what_0 (T : Tx K mg A) : ∀ c ∈ (["BadRatio"] : List Str), ∀ C, mg c = some (.ref C) → XfC K C ∧ PySem.W.findIn K (.ref C) "what" = some none := List.forall_mem_cons.mpr ⟨fun C h => by rw [show mg "BadRatio" = some (.ref A.c_BadRatio) from T.m_BadRatio] at h; cases h; exact ⟨T.y_BadRatio, T.n_BadRatio_what⟩, fun _ h => nomatch h⟩
theorem bd__law_stir_2 (T : Tx K mg A) : ∃ ds, Vals [] ds ∧ Binds K A.fd__law_stir ["_law_number_here", "_law_turn"] ds := ⟨[], .nil, T.F__law_stir.bindsN fun _ _ _ _ _ _ us hl => match us, hl with | [_, _], _ => rfl⟩
theorem bd__law_draw_2 (T : Tx K mg A) : ∃ ds, Vals [] ds ∧ Binds K A.fd__law_draw ["_law_hand_here", "_law_many"] ds := ⟨[], .nil, T.F__law_draw.bindsN fun _ _ _ _ _ _ us hl => match us, hl with | [_, _], _ => rfl⟩
theorem bd__law_part_2 (T : Tx K mg A) : ∃ ds, Vals [] ds ∧ Binds K A.fd__law_part ["_law_a", "_law_b"] ds := ⟨[], .nil, T.F__law_part.bindsN fun _ _ _ _ _ _ us hl => match us, hl with | [_, _], _ => rfl⟩
theorem bd__law_ratio_2 (T : Tx K mg A) : ∃ ds, Vals [] ds ∧ Binds K A.fd__law_ratio ["_law_top", "_law_bottom_here"] ds := ⟨[], .nil, T.F__law_ratio.bindsN fun _ _ _ _ _ _ us hl => match us, hl with | [_, _], _ => rfl⟩
theorem bd_common_divisor_2 (T : Tx K mg A) : ∃ ds, Vals [] ds ∧ Binds K A.fd_common_divisor ["one", "other"] ds := ⟨[], .nil, T.F_common_divisor.bindsN fun _ _ _ _ _ _ us hl => match us, hl with | [_, _], _ => rfl⟩
theorem bd_is_whole_2 (T : Tx K mg A) : ∃ ds, Vals [.non] ds ∧ Binds K A.fd_is_whole ["thing", "low", "high"] ds := T.F_is_whole.binds1 2 1 (by simp) rfl fun _ _ _ _ _ _ _ us its hu hi => match us, its, hu, hi with | [_, _], [_, _], _, _ => ⟨_, rfl, rfl⟩
theorem bd_is_whole_1 (T : Tx K mg A) : ∃ ds, Vals [.non, .non] ds ∧ Binds K A.fd_is_whole ["thing", "low", "high"] ds := T.F_is_whole.binds1 1 0 (by simp) rfl fun _ _ _ _ _ _ _ us its hu hi => match us, its, hu, hi with | [_], [_, _], _, _ => ⟨_, rfl, rfl⟩
theorem bd_is_ratio_1 (T : Tx K mg A) : ∃ ds, Vals [] ds ∧ Binds K A.fd_is_ratio ["thing"] ds := ⟨[], .nil, T.F_is_ratio.bindsN fun _ _ _ _ _ _ us hl => match us, hl with | [_], _ => rfl⟩
theorem bd__law_things_0 (T : Tx K mg A) : ∃ ds, Vals [] ds ∧ Binds K A.fd__law_things [] ds := ⟨[], .nil, T.F__law_things.bindsN fun _ _ _ _ _ _ us hl => match us, hl with | [], _ => rfl⟩
theorem bd__law_truth_2 (T : Tx K mg A) : ∃ ds, Vals [] ds ∧ Binds K A.fd__law_truth ["_law_told", "_law_due"] ds := ⟨[], .nil, T.F__law_truth.bindsN fun _ _ _ _ _ _ us hl => match us, hl with | [_, _], _ => rfl⟩
theorem bd_is_share_1 (T : Tx K mg A) : ∃ ds, Vals [] ds ∧ Binds K A.fd_is_share ["thing"] ds := ⟨[], .nil, T.F_is_share.bindsN fun _ _ _ _ _ _ us hl => match us, hl with | [_], _ => rfl⟩
theorem bd_is_sequence_1 (T : Tx K mg A) : ∃ ds, Vals [] ds ∧ Binds K A.fd_is_sequence ["thing"] ds := ⟨[], .nil, T.F_is_sequence.bindsN fun _ _ _ _ _ _ us hl => match us, hl with | [_], _ => rfl⟩
theorem bd_is_whole_3 (T : Tx K mg A) : ∃ ds, Vals [] ds ∧ Binds K A.fd_is_whole ["thing", "low", "high"] ds := T.F_is_whole.binds1 3 2 (by simp) rfl fun _ _ _ _ _ _ _ us its hu hi => match us, its, hu, hi with | [_, _, _], [_, _], _, _ => ⟨_, rfl, rfl⟩
theorem bd_is_whole_1_high (T : Tx K mg A) : ∃ its, KBn K A.fd_is_whole ["thing", "low", "high"] 1 ["high"] (fun us ws => pickG us its ws [.p 0, .d 0, .k 0]) (fun vs zs => pickG vs [.non, .non] zs [.p 0, .d 0, .k 0]) := FunD.kb T.F_is_whole 1 ["high"] [.p 0, .d 0, .k 0] (by simp) fun _ _ _ _ _ _ _ us its ws hu hi hw => match us, its, ws, hu, hi, hw with | [_], [_, _], [_], _, _, _ => ⟨_, rfl, rfl⟩
theorem bd__law_whole_1 (T : Tx K mg A) : ∃ ds, Vals [] ds ∧ Binds K A.fd__law_whole ["_law_thing"] ds := ⟨[], .nil, T.F__law_whole.bindsN fun _ _ _ _ _ _ us hl => match us, hl with | [_], _ => rfl⟩
theorem bd__law_wholes_2 (T : Tx K mg A) : ∃ ds, Vals [] ds ∧ Binds K A.fd__law_wholes ["_law_thing", "_law_many"] ds := ⟨[], .nil, T.F__law_wholes.bindsN fun _ _ _ _ _ _ us hl => match us, hl with | [_, _], _ => rfl⟩
theorem bd_lowest_terms_2 (T : Tx K mg A) : ∃ ds, Vals [] ds ∧ Binds K A.fd_lowest_terms ["top", "bottom"] ds := ⟨[], .nil, T.F_lowest_terms.bindsN fun _ _ _ _ _ _ us hl => match us, hl with | [_, _], _ => rfl⟩
theorem bd__law_same_2 (T : Tx K mg A) : ∃ ds, Vals [] ds ∧ Binds K A.fd__law_same ["_law_told", "_law_due"] ds := ⟨[], .nil, T.F__law_same.bindsN fun _ _ _ _ _ _ us hl => match us, hl with | [_, _], _ => rfl⟩
theorem bd_make_ratio_2 (T : Tx K mg A) : ∃ ds, Vals [] ds ∧ Binds K A.fd_make_ratio ["top", "bottom"] ds := T.F_make_ratio.binds1 2 1 (by simp) rfl fun _ _ _ _ _ _ _ us its hu hi => match us, its, hu, hi with | [_, _], [_], _, _ => ⟨_, rfl, rfl⟩
theorem bd_ratio_over_2 (T : Tx K mg A) : ∃ ds, Vals [] ds ∧ Binds K A.fd_ratio_over ["one", "other"] ds := ⟨[], .nil, T.F_ratio_over.bindsN fun _ _ _ _ _ _ us hl => match us, hl with | [_, _], _ => rfl⟩
theorem bd_ratio_compare_2 (T : Tx K mg A) : ∃ ds, Vals [] ds ∧ Binds K A.fd_ratio_compare ["one", "other"] ds := ⟨[], .nil, T.F_ratio_compare.bindsN fun _ _ _ _ _ _ us hl => match us, hl with | [_, _], _ => rfl⟩
theorem bd__law_times_2 (T : Tx K mg A) : ∃ ds, Vals [] ds ∧ Binds K A.fd__law_times ["_law_a", "_law_b"] ds := ⟨[], .nil, T.F__law_times.bindsN fun _ _ _ _ _ _ us hl => match us, hl with | [_, _], _ => rfl⟩
theorem bd_ratio_times_2 (T : Tx K mg A) : ∃ ds, Vals [] ds ∧ Binds K A.fd_ratio_times ["one", "other"] ds := ⟨[], .nil, T.F_ratio_times.bindsN fun _ _ _ _ _ _ us hl => match us, hl with | [_, _], _ => rfl⟩
theorem bd__law_less_by_2 (T : Tx K mg A) : ∃ ds, Vals [] ds ∧ Binds K A.fd__law_less_by ["_law_a", "_law_b"] ds := ⟨[], .nil, T.F__law_less_by.bindsN fun _ _ _ _ _ _ us hl => match us, hl with | [_, _], _ => rfl⟩
theorem bd_ratio_minus_2 (T : Tx K mg A) : ∃ ds, Vals [] ds ∧ Binds K A.fd_ratio_minus ["one", "other"] ds := ⟨[], .nil, T.F_ratio_minus.bindsN fun _ _ _ _ _ _ us hl => match us, hl with | [_, _], _ => rfl⟩
theorem bd__law_plus_2 (T : Tx K mg A) : ∃ ds, Vals [] ds ∧ Binds K A.fd__law_plus ["_law_a", "_law_b"] ds := ⟨[], .nil, T.F__law_plus.bindsN fun _ _ _ _ _ _ us hl => match us, hl with | [_, _], _ => rfl⟩
theorem bd_ratio_plus_2 (T : Tx K mg A) : ∃ ds, Vals [] ds ∧ Binds K A.fd_ratio_plus ["one", "other"] ds := ⟨[], .nil, T.F_ratio_plus.bindsN fun _ _ _ _ _ _ us hl => match us, hl with | [_, _], _ => rfl⟩
theorem bd__law_bounds_hold_3 (T : Tx K mg A) : ∃ ds, Vals [] ds ∧ Binds K A.fd__law_bounds_hold ["_law_number_here", "_law_lower", "_law_upper"] ds := ⟨[], .nil, T.F__law_bounds_hold.bindsN fun _ _ _ _ _ _ us hl => match us, hl with | [_, _, _], _ => rfl⟩
theorem bd__law_number_1 (T : Tx K mg A) : ∃ ds, Vals [] ds ∧ Binds K A.fd__law_number ["_law_hand_here"] ds := ⟨[], .nil, T.F__law_number.bindsN fun _ _ _ _ _ _ us hl => match us, hl with | [_], _ => rfl⟩
theorem bd__law_things_hold_0 (T : Tx K mg A) : ∃ ds, Vals [] ds ∧ Binds K A.fd__law_things_hold [] ds := ⟨[], .nil, T.F__law_things_hold.bindsN fun _ _ _ _ _ _ us hl => match us, hl with | [], _ => rfl⟩
theorem bd_make_ratio_1 (T : Tx K mg A) : ∃ ds, Vals [(.int 1)] ds ∧ Binds K A.fd_make_ratio ["top", "bottom"] ds := T.F_make_ratio.binds1 1 0 (by simp) rfl fun _ _ _ _ _ _ _ us its hu hi => match us, its, hu, hi with | [_], [_], _, _ => ⟨_, rfl, rfl⟩
theorem bd__law_making_holds_2 (T : Tx K mg A) : ∃ ds, Vals [] ds ∧ Binds K A.fd__law_making_holds ["_law_top", "_law_bottom_here"] ds := ⟨[], .nil, T.F__law_making_holds.bindsN fun _ _ _ _ _ _ us hl => match us, hl with | [_, _], _ => rfl⟩
theorem bd_ratio_sum_1 (T : Tx K mg A) : ∃ ds, Vals [] ds ∧ Binds K A.fd_ratio_sum ["ratios"] ds := ⟨[], .nil, T.F_ratio_sum.bindsN fun _ _ _ _ _ _ us hl => match us, hl with | [_], _ => rfl⟩
theorem bd__law_pair_holds_2 (T : Tx K mg A) : ∃ ds, Vals [] ds ∧ Binds K A.fd__law_pair_holds ["_law_a", "_law_b"] ds := ⟨[], .nil, T.F__law_pair_holds.bindsN fun _ _ _ _ _ _ us hl => match us, hl with | [_, _], _ => rfl⟩
theorem bd__law_bottom_1 (T : Tx K mg A) : ∃ ds, Vals [] ds ∧ Binds K A.fd__law_bottom ["_law_hand_here"] ds := ⟨[], .nil, T.F__law_bottom.bindsN fun _ _ _ _ _ _ us hl => match us, hl with | [_], _ => rfl⟩
theorem bd__law_hand_1 (T : Tx K mg A) : ∃ ds, Vals [] ds ∧ Binds K A.fd__law_hand ["_law_script"] ds := ⟨[], .nil, T.F__law_hand.bindsN fun _ _ _ _ _ _ us hl => match us, hl with | [_], _ => rfl⟩
theorem sc__law_hand : FnScope ["_law_script", "_law_state", "_law_place", "_law_cell"] ["_law_script"] (defScope s__law_hand) := ⟨rfl, rfl, rfl, by decide +kernel, rfl, by decide +kernel, by decide +kernel⟩
/-- slots: 0 _law_script 1 _law_state 2 _law_place 3 _law_cell -/
noncomputable def d__law_hand : Dn := defF 4
 (seqS (asgS 1 (cF (.int 7)))
 (seqS (forS (faF enmD (consA (varF 0) nilA)) (tgT 2 (tgCons (tgN 2) (tgCons (tgN 3) tgNil)))
 (asgS 1 (op2F modD (bltF intF (consV (dF (op2F addD (op2F addD (op2F mulD (varF 1) (cF (.int 37))) (op2F mulD (bltF intF (consV (dF (varF 3)) nilV)) (op2F addD (op2F mulD (cF (.int 2)) (varF 2)) (cF (.int 5))))) (cF (.int 3)))) nilV)) (cF (.int 2147483629)))))
 (retF (lstF (consA (frF (lcF (itF (varF 0)) (tgN 3) yesB (bltF absD (consV (dF (bltF intF (consV (dF (varF 3)) nilV))) nilV)) [3])) (consA (cF (.int 0)) (consA (cF (.int 0)) (consA (varF 1) nilA))))))))
theorem ok__law_hand (T : Tx K mg A) : FnOk P w K mg base (L2.CX P w) 1 A.f__law_hand A.fd__law_hand ["_law_script"] (spD ⟨K, mg⟩ 1 d__law_hand) :=
 ok_def (N := ["_law_script", "_law_state", "_law_place", "_law_cell"]) rfl (by decide) T.F__law_hand sc__law_hand fun cdv Ar outer s H E b hr hM hnp hpx =>
 (pts_cons (pts_asg sc__law_hand.nd (i := 1) rfl (by first | exact Or.inl rfl | exact Or.inr rfl) pd_int rfl (by first | exact Or.inl rfl | exact Or.inr rfl) (PxOk.of hpx _))
 (pts_cons (pts_for (passes_of rfl) rfl (pi_enmD hM (by rfl) T.z_enumerate (pda_cons (pd_var (pv 0)) pda_nil)) (pg_tupD hM rfl (pgs_consD (pg_n (pg_name (i := 2) sc__law_hand.nd rfl (by first | exact Or.inl rfl | exact Or.inr rfl)) (PxOk.of hpx _)) (pgs_consD (pg_n (pg_name (i := 3) sc__law_hand.nd rfl (by first | exact Or.inl rfl | exact Or.inr rfl)) (PxOk.of hpx _)) pgs_nilD)))
 (pts_one' (pts_asg sc__law_hand.nd (i := 1) rfl (by first | exact Or.inl rfl | exact Or.inr rfl) (q_mod hM (c_int hM (by rfl) T.z_int (pva_cons (p1_d (q_add hM (q_add hM (q_mul hM (pd_var (pv 1)) pd_int) (q_mul hM (c_int hM (by rfl) T.z_int (pva_cons (p1_d (pd_var (pv 3))) pva_nil)) (q_add hM (q_mul hM pd_int (pd_var (pv 2))) pd_int))) pd_int)) pva_nil)) pd_int) rfl (by first | exact Or.inl rfl | exact Or.inr rfl) (PxOk.of hpx _))))
 (pts_one' (pts_retF (pf_lst (pda_cons (pd_fr (pf_lc hpx rfl sc__law_hand.nd (pi_d hM (pd_var (pv 0))) (blkOk_by (own := [("_law_cell", 3)]) (by show blkC ["_law_script", "_law_state", "_law_place", "_law_cell"] (defScope s__law_hand) _ [("_law_cell", 3)] = true; decide +kernel)) rfl (by decide) (fun _ _ _ _ _ b' hM'' hpx' => have hM' := hM''.trans hM; (pg_n (pg_name (i := 3) sc__law_hand.nd rfl (by first | exact Or.inl rfl | exact Or.inr rfl)) (PxOk.of hpx' _))) (fun _ _ _ _ _ b' hM'' hpx' => have hM' := hM''.trans hM; pts_nilD) (fun _ _ _ _ _ b' hM'' hpx' => have hM' := hM''.trans hM; (c_abs hM' (by rfl) T.z_abs (pva_cons (p1_d (c_int hM' (by rfl) T.z_int (pva_cons (p1_d (pd_var (pv 3))) pva_nil))) pva_nil))))) (pda_cons pd_int (pda_cons pd_int (pda_cons (pd_var (pv 1)) pda_nil)))))))))
theorem sc__law_stir : FnScope ["_law_number_here", "_law_turn", "_law_once", "_law_twice"] ["_law_number_here", "_law_turn"] (defScope s__law_stir) := ⟨rfl, rfl, rfl, by decide +kernel, rfl, by decide +kernel, by decide +kernel⟩
/-- slots: 0 _law_number_here 1 _law_turn 2 _law_once 3 _law_twice -/
noncomputable def d__law_stir : Dn := defF 4
 (seqS (asgS 2 (op2F modD (bltF intF (consV (dF (op2F addD (op2F addD (op2F mulD (varF 0) (cF (.int 69621))) (op2F mulD (varF 1) (cF (.int 40014)))) (cF (.int 101)))) nilV)) (cF (.int 2147483563))))
 (seqS (asgS 3 (op2F modD (bltF intF (consV (dF (op2F addD (op2F addD (op2F mulD (varF 2) (varF 2)) (op2F mulD (varF 1) (cF (.int 16807)))) (op2F fdivD (varF 2) (cF (.int 211))))) nilV)) (cF (.int 2147483629))))
 (retS (op2F fdivD (op2F modD (bltF intF (consV (dF (op2F addD (op2F mulD (varF 3) (cF (.int 48271))) (op2F fdivD (varF 2) (cF (.int 1013))))) nilV)) (cF (.int 2147483647))) (cF (.int 8))))))
theorem ok__law_stir (T : Tx K mg A) : FnOk P w K mg base (L2.CX P w) 1 A.f__law_stir A.fd__law_stir ["_law_number_here", "_law_turn"] (spD ⟨K, mg⟩ 2 d__law_stir) :=
 ok_def (N := ["_law_number_here", "_law_turn", "_law_once", "_law_twice"]) rfl (by decide) T.F__law_stir sc__law_stir fun cdv Ar outer s H E b hr hM hnp hpx =>
 (pts_cons (pts_asg sc__law_stir.nd (i := 2) rfl (by first | exact Or.inl rfl | exact Or.inr rfl) (q_mod hM (c_int hM (by rfl) T.z_int (pva_cons (p1_d (q_add hM (q_add hM (q_mul hM (pd_var (pv 0)) pd_int) (q_mul hM (pd_var (pv 1)) pd_int)) pd_int)) pva_nil)) pd_int) rfl (by first | exact Or.inl rfl | exact Or.inr rfl) (PxOk.of hpx _))
 (pts_cons (pts_asg sc__law_stir.nd (i := 3) rfl (by first | exact Or.inl rfl | exact Or.inr rfl) (q_mod hM (c_int hM (by rfl) T.z_int (pva_cons (p1_d (q_add hM (q_add hM (q_mul hM (pd_var (pv 2)) (pd_var (pv 2))) (q_mul hM (pd_var (pv 1)) pd_int)) (q_fdiv hM (pd_var (pv 2)) pd_int))) pva_nil)) pd_int) rfl (by first | exact Or.inl rfl | exact Or.inr rfl) (PxOk.of hpx _))
 (pts_one' (pts_ret (q_fdiv hM (q_mod hM (c_int hM (by rfl) T.z_int (pva_cons (p1_d (q_add hM (q_mul hM (pd_var (pv 3)) pd_int) (q_fdiv hM (pd_var (pv 2)) pd_int))) pva_nil)) pd_int) pd_int)))))
theorem sc__law_draw : FnScope ["_law_hand_here", "_law_many", "_law_cell", "_law_rest"] ["_law_hand_here", "_law_many"] (defScope s__law_draw) := ⟨rfl, rfl, rfl, by decide +kernel, rfl, by decide +kernel, by decide +kernel⟩
/-- slots: 0 _law_hand_here 1 _law_many 2 _law_cell 3 _law_rest -/
noncomputable def d__law_draw : Dn := defF 4
 (seqS (ifS (andB (tstF (op2F eqD (op2V ixD (nmF 0) (dF (cF (.int 2)))) (cF (.int 0)))) (tstF (op2F ltD (op2V ixD (nmF 0) (dF (cF (.int 1)))) (bltF lenD (consV (dF (op2V ixD (nmF 0) (dF (cF (.int 0))))) nilV)))))
 (seqS (asgS 2 (op2F ixD (op2V ixD (nmF 0) (dF (cF (.int 0)))) (op2V ixD (nmF 0) (dF (cF (.int 1))))))
 (seqS (setS 0 (cF (.int 1)) (op2F addD (op2V ixD (nmF 0) (dF (cF (.int 1)))) (cF (.int 1))))
 (seqS (ifS (tstF (op2F ltD (varF 2) (op2F powD (cF (.int 10)) (cF (.int 18)))))
 (retS (op2F modD (bltF intF (consV (dF (callF 2 d__law_stir [] (consV (dF (varF 2)) (consV (dF (op2V ixD (nmF 0) (dF (cF (.int 1))))) nilV)))) nilV)) (varF 1)))
 skipS)
 (setS 0 (cF (.int 2)) (varF 2)))))
 skipS)
 (seqS (ifS (tstF (op2F gtD (op2V ixD (nmF 0) (dF (cF (.int 2)))) (cF (.int 0))))
 (seqS (asgS 3 (op2V ixD (nmF 0) (dF (cF (.int 2)))))
 (seqS (setS 0 (cF (.int 2)) (op2F fdivD (varF 3) (varF 1)))
 (retS (op2F modD (bltF intF (consV (dF (varF 3)) nilV)) (varF 1)))))
 skipS)
 (seqS (setS 0 (cF (.int 3)) (op2F modD (bltF intF (consV (dF (op2F addD (op2V ixD (nmF 0) (dF (cF (.int 3)))) (cF (.int 1)))) nilV)) (cF (.int 2147483629))))
 (retS (op2F modD (bltF intF (consV (dF (callF 2 d__law_stir [] (consV (dF (op2V ixD (nmF 0) (dF (cF (.int 3))))) (consV (dF (op2V ixD (nmF 0) (dF (cF (.int 1))))) nilV)))) nilV)) (varF 1))))))
theorem ok__law_draw (T : Tx K mg A) : FnOk P w K mg base (L2.CX P w) 2 A.f__law_draw A.fd__law_draw ["_law_hand_here", "_law_many"] (spD ⟨K, mg⟩ 2 d__law_draw) :=
 ok_def (N := ["_law_hand_here", "_law_many", "_law_cell", "_law_rest"]) rfl (by decide) T.F__law_draw sc__law_draw fun cdv Ar outer s H E b hr hM hnp hpx =>
 (pts_cons (pts_if (PW.pt (pwb_and (qt_eq hM hr (v_ix hM (p1_nm (pv 0)) (p1_d pd_int) (fun _ _ => rfl)) pd_int) (pwb_and1 (qt_lt hM (v_ix hM (p1_nm (pv 0)) (p1_d pd_int) (fun _ _ => rfl)) (c_len hM (by rfl) T.z_len (pva_cons (p1_d (v_ix hM (p1_nm (pv 0)) (p1_d pd_int) (fun _ _ => rfl))) pva_nil))))))
 (pts_cons (pts_asg sc__law_draw.nd (i := 2) rfl (by first | exact Or.inl rfl | exact Or.inr rfl) (q_ix hM (v_ix hM (p1_nm (pv 0)) (p1_d pd_int) (fun _ _ => rfl)) (v_ix hM (p1_nm (pv 0)) (p1_d pd_int) (fun _ _ => rfl)) (fun _ _ => rfl)) rfl (by first | exact Or.inl rfl | exact Or.inr rfl) (PxOk.of hpx _))
 (pts_cons (pts_set (pv 0) pd_int (q_add hM (v_ix hM (p1_nm (pv 0)) (p1_d pd_int) (fun _ _ => rfl)) pd_int))
 (pts_cons (pts_if (qt_lt hM (pd_var (pv 2)) (q_pow hM pd_int pd_int))
 (pts_one' (pts_ret (q_mod hM (c_int hM (by rfl) T.z_int (pva_cons (p1_d (q_call hM (takes_of rfl rfl rfl rfl) (ok__law_stir T) (hr.mono (by decide)) (by rfl) T.m__law_stir T.k__law_stir (bd__law_stir_2 T) (fun _ _ _ => RepL.nil) (pva_cons (p1_d (pd_var (pv 2))) (pva_cons (p1_d (v_ix hM (p1_nm (pv 0)) (p1_d pd_int) (fun _ _ => rfl))) pva_nil)))) pva_nil)) (pd_var (pv 1)))))
 pts_nil')
 (pts_one' (pts_set (pv 0) pd_int (pd_var (pv 2)))))))
 pts_nil')
 (pts_cons (pts_if (qt_gt hM (v_ix hM (p1_nm (pv 0)) (p1_d pd_int) (fun _ _ => rfl)) pd_int)
 (pts_cons (pts_asg sc__law_draw.nd (i := 3) rfl (by first | exact Or.inl rfl | exact Or.inr rfl) (v_ix hM (p1_nm (pv 0)) (p1_d pd_int) (fun _ _ => rfl)) rfl (by first | exact Or.inl rfl | exact Or.inr rfl) (PxOk.of hpx _))
 (pts_cons (pts_set (pv 0) pd_int (q_fdiv hM (pd_var (pv 3)) (pd_var (pv 1))))
 (pts_one' (pts_ret (q_mod hM (c_int hM (by rfl) T.z_int (pva_cons (p1_d (pd_var (pv 3))) pva_nil)) (pd_var (pv 1)))))))
 pts_nil')
 (pts_cons (pts_set (pv 0) pd_int (q_mod hM (c_int hM (by rfl) T.z_int (pva_cons (p1_d (q_add hM (v_ix hM (p1_nm (pv 0)) (p1_d pd_int) (fun _ _ => rfl)) pd_int)) pva_nil)) pd_int))
 (pts_one' (pts_ret (q_mod hM (c_int hM (by rfl) T.z_int (pva_cons (p1_d (q_call hM (takes_of rfl rfl rfl rfl) (ok__law_stir T) (hr.mono (by decide)) (by rfl) T.m__law_stir T.k__law_stir (bd__law_stir_2 T) (fun _ _ _ => RepL.nil) (pva_cons (p1_d (v_ix hM (p1_nm (pv 0)) (p1_d pd_int) (fun _ _ => rfl))) (pva_cons (p1_d (v_ix hM (p1_nm (pv 0)) (p1_d pd_int) (fun _ _ => rfl))) pva_nil)))) pva_nil)) (pd_var (pv 1))))))))
theorem sc__law_number : FnScope ["_law_hand_here", "_law_pick"] ["_law_hand_here"] (defScope s__law_number) := ⟨rfl, rfl, rfl, by decide +kernel, rfl, by decide +kernel, by decide +kernel⟩
/-- slots: 0 _law_hand_here 1 _law_pick -/
noncomputable def d__law_number : Dn := defF 2
 (seqS (asgS 1 (callF 2 d__law_draw [] (consV (nmF 0) (consV (dF (cF (.int 4))) nilV))))
 (seqS (ifS (tstF (op2F eqD (varF 1) (cF (.int 0))))
 (retS (op2F addD (op2F mulD (callF 2 d__law_draw [] (consV (nmF 0) (consV (dF (op2F powD (cF (.int 10)) (cF (.int 9)))) nilV))) (op2F powD (cF (.int 10)) (cF (.int 9)))) (callF 2 d__law_draw [] (consV (nmF 0) (consV (dF (op2F powD (cF (.int 10)) (cF (.int 9)))) nilV)))))
 skipS)
 (seqS (ifS (tstF (op2F eqD (varF 1) (cF (.int 1))))
 (retS (op2F subD (op2F mulD (op1F negD (callF 2 d__law_draw [] (consV (nmF 0) (consV (dF (op2F powD (cF (.int 10)) (cF (.int 9)))) nilV)))) (op2F powD (cF (.int 10)) (cF (.int 9)))) (callF 2 d__law_draw [] (consV (nmF 0) (consV (dF (op2F powD (cF (.int 10)) (cF (.int 9)))) nilV)))))
 skipS)
 (retS (op2F subD (callF 2 d__law_draw [] (consV (nmF 0) (consV (dF (cF (.int 13))) nilV))) (cF (.int 6)))))))
theorem ok__law_number (T : Tx K mg A) : FnOk P w K mg base (L2.CX P w) 3 A.f__law_number A.fd__law_number ["_law_hand_here"] (spD ⟨K, mg⟩ 1 d__law_number) :=
 ok_def (N := ["_law_hand_here", "_law_pick"]) rfl (by decide) T.F__law_number sc__law_number fun cdv Ar outer s H E b hr hM hnp hpx =>
 (pts_cons (pts_asg sc__law_number.nd (i := 1) rfl (by first | exact Or.inl rfl | exact Or.inr rfl) (q_call hM (takes_of rfl rfl rfl rfl) (ok__law_draw T) (hr.mono (by decide)) (by rfl) T.m__law_draw T.k__law_draw (bd__law_draw_2 T) (fun _ _ _ => RepL.nil) (pva_cons (p1_nm (pv 0)) (pva_cons (p1_d pd_int) pva_nil))) rfl (by first | exact Or.inl rfl | exact Or.inr rfl) (PxOk.of hpx _))
 (pts_cons (pts_if (qt_eq hM hr (pd_var (pv 1)) pd_int)
 (pts_one' (pts_ret (q_add hM (q_mul hM (q_call hM (takes_of rfl rfl rfl rfl) (ok__law_draw T) (hr.mono (by decide)) (by rfl) T.m__law_draw T.k__law_draw (bd__law_draw_2 T) (fun _ _ _ => RepL.nil) (pva_cons (p1_nm (pv 0)) (pva_cons (p1_d (q_pow hM pd_int pd_int)) pva_nil))) (q_pow hM pd_int pd_int)) (q_call hM (takes_of rfl rfl rfl rfl) (ok__law_draw T) (hr.mono (by decide)) (by rfl) T.m__law_draw T.k__law_draw (bd__law_draw_2 T) (fun _ _ _ => RepL.nil) (pva_cons (p1_nm (pv 0)) (pva_cons (p1_d (q_pow hM pd_int pd_int)) pva_nil))))))
 pts_nil')
 (pts_cons (pts_if (qt_eq hM hr (pd_var (pv 1)) pd_int)
 (pts_one' (pts_ret (q_sub hM (q_mul hM (q_neg (q_call hM (takes_of rfl rfl rfl rfl) (ok__law_draw T) (hr.mono (by decide)) (by rfl) T.m__law_draw T.k__law_draw (bd__law_draw_2 T) (fun _ _ _ => RepL.nil) (pva_cons (p1_nm (pv 0)) (pva_cons (p1_d (q_pow hM pd_int pd_int)) pva_nil)))) (q_pow hM pd_int pd_int)) (q_call hM (takes_of rfl rfl rfl rfl) (ok__law_draw T) (hr.mono (by decide)) (by rfl) T.m__law_draw T.k__law_draw (bd__law_draw_2 T) (fun _ _ _ => RepL.nil) (pva_cons (p1_nm (pv 0)) (pva_cons (p1_d (q_pow hM pd_int pd_int)) pva_nil))))))
 pts_nil')
 (pts_one' (pts_ret (q_sub hM (q_call hM (takes_of rfl rfl rfl rfl) (ok__law_draw T) (hr.mono (by decide)) (by rfl) T.m__law_draw T.k__law_draw (bd__law_draw_2 T) (fun _ _ _ => RepL.nil) (pva_cons (p1_nm (pv 0)) (pva_cons (p1_d pd_int) pva_nil))) pd_int))))))
theorem sc_common_divisor : FnScope ["one", "other", "first", "second"] ["one", "other"] (defScope s_common_divisor) := ⟨rfl, rfl, rfl, by decide +kernel, rfl, by decide +kernel, by decide +kernel⟩
/-- slots: 0 one 1 other 2 first 3 second -/
noncomputable def d_common_divisor : Dn := defF 4
 (seqS (asgS 2 (bltF absD (consV (dF (varF 0)) nilV)))
 (seqS (asgS 3 (bltF absD (consV (dF (varF 1)) nilV)))
 (seqS (whileS (tstF (op2F gtD (varF 3) (cF (.int 0))))
 (parS 2 3 (consA (varF 3) (consA (op2F modD (varF 2) (varF 3)) nilA))))
 (retS (varF 2)))))
theorem ok_common_divisor (T : Tx K mg A) : FnOk P w K mg base (L2.CX P w) 1 A.f_common_divisor A.fd_common_divisor ["one", "other"] (spD ⟨K, mg⟩ 2 d_common_divisor) :=
 ok_def (N := ["one", "other", "first", "second"]) rfl (by decide) T.F_common_divisor sc_common_divisor fun cdv Ar outer s H E b hr hM hnp hpx =>
 (pts_cons (pts_asg sc_common_divisor.nd (i := 2) rfl (by first | exact Or.inl rfl | exact Or.inr rfl) (c_abs hM (by rfl) T.z_abs (pva_cons (p1_d (pd_var (pv 0))) pva_nil)) rfl (by first | exact Or.inl rfl | exact Or.inr rfl) (PxOk.of hpx _))
 (pts_cons (pts_asg sc_common_divisor.nd (i := 3) rfl (by first | exact Or.inl rfl | exact Or.inr rfl) (c_abs hM (by rfl) T.z_abs (pva_cons (p1_d (pd_var (pv 1))) pva_nil)) rfl (by first | exact Or.inl rfl | exact Or.inr rfl) (PxOk.of hpx _))
 (pts_cons (pts_while (passes_of rfl) (qt_gt hM (pd_var (pv 3)) pd_int)
 (pts_one' (pts_par rfl sc_common_divisor.nd (i := 2) (j := 3) rfl rfl (by decide) rfl rfl (pda_cons (pd_var (pv 3)) (pda_cons (q_mod hM (pd_var (pv 2)) (pd_var (pv 3))) pda_nil)) rfl rfl (PxOk.of hpx _) (PxOk.of hpx _))))
 (pts_one' (pts_ret (pd_var (pv 2)))))))
theorem sc__law_part : FnScope ["_law_a", "_law_b", "_law_step"] ["_law_a", "_law_b"] (defScope s__law_part) := ⟨rfl, rfl, rfl, by decide +kernel, rfl, by decide +kernel, by decide +kernel⟩
/-- slots: 0 _law_a 1 _law_b 2 _law_step -/
noncomputable def d__law_part : Dn := defF 3
 (seqS (asgS 0 (bltF absD (consV (dF (varF 0)) nilV)))
 (seqS (asgS 1 (bltF absD (consV (dF (varF 1)) nilV)))
 (seqS (forS (faF rng1D (consA (cF (.int 900)) nilA)) (tgN 2)
 (seqS (ifS (tstF (op2F eqD (varF 1) (cF (.int 0))))
 brkS
 skipS)
 (parS 0 1 (consA (varF 1) (consA (op2F modD (bltF intF (consV (dF (varF 0)) nilV)) (varF 1)) nilA)))))
 (retS (varF 0)))))
theorem ok__law_part (T : Tx K mg A) : FnOk P w K mg base (L2.CX P w) 1 A.f__law_part A.fd__law_part ["_law_a", "_law_b"] (spD ⟨K, mg⟩ 2 d__law_part) :=
 ok_def (N := ["_law_a", "_law_b", "_law_step"]) rfl (by decide) T.F__law_part sc__law_part fun cdv Ar outer s H E b hr hM hnp hpx =>
 (pts_cons (pts_asg sc__law_part.nd (i := 0) rfl (by first | exact Or.inl rfl | exact Or.inr rfl) (c_abs hM (by rfl) T.z_abs (pva_cons (p1_d (pd_var (pv 0))) pva_nil)) rfl (by first | exact Or.inl rfl | exact Or.inr rfl) (PxOk.of hpx _))
 (pts_cons (pts_asg sc__law_part.nd (i := 1) rfl (by first | exact Or.inl rfl | exact Or.inr rfl) (c_abs hM (by rfl) T.z_abs (pva_cons (p1_d (pd_var (pv 1))) pva_nil)) rfl (by first | exact Or.inl rfl | exact Or.inr rfl) (PxOk.of hpx _))
 (pts_cons (pts_for (passes_of rfl) rfl (pi_rng1 (by rfl) T.z_range (pda_cons pd_int pda_nil)) (pg_n (pg_name (i := 2) sc__law_part.nd rfl (by first | exact Or.inl rfl | exact Or.inr rfl)) (PxOk.of hpx _))
 (pts_cons (pts_if (qt_eq hM hr (pd_var (pv 1)) pd_int)
 (pts_one' pts_break)
 pts_nil')
 (pts_one' (pts_par rfl sc__law_part.nd (i := 0) (j := 1) rfl rfl (by decide) rfl rfl (pda_cons (pd_var (pv 1)) (pda_cons (q_mod hM (c_int hM (by rfl) T.z_int (pva_cons (p1_d (pd_var (pv 0))) pva_nil)) (pd_var (pv 1))) pda_nil)) rfl rfl (PxOk.of hpx _) (PxOk.of hpx _)))))
 (pts_one' (pts_ret (pd_var (pv 0)))))))
theorem sc__law_ratio : FnScope ["_law_top", "_law_bottom_here", "_law_part_here"] ["_law_top", "_law_bottom_here"] (defScope s__law_ratio) := ⟨rfl, rfl, rfl, by decide +kernel, rfl, by decide +kernel, by decide +kernel⟩
/-- slots: 0 _law_top 1 _law_bottom_here 2 _law_part_here -/
noncomputable def d__law_ratio : Dn := defF 3
 (seqS (ifS (tstF (op2F ltD (varF 1) (cF (.int 0))))
 (seqS (asgS 0 (op1F negD (varF 0)))
 (asgS 1 (op1F negD (varF 1))))
 skipS)
 (seqS (asgS 2 (callF 2 d__law_part [] (consV (dF (varF 0)) (consV (dF (varF 1)) nilV))))
 (retS (tupF (consA (op2F fdivD (varF 0) (varF 2)) (consA (op2F fdivD (varF 1) (varF 2)) nilA))))))
theorem ok__law_ratio (T : Tx K mg A) : FnOk P w K mg base (L2.CX P w) 2 A.f__law_ratio A.fd__law_ratio ["_law_top", "_law_bottom_here"] (spD ⟨K, mg⟩ 2 d__law_ratio) :=
 ok_def (N := ["_law_top", "_law_bottom_here", "_law_part_here"]) rfl (by decide) T.F__law_ratio sc__law_ratio fun cdv Ar outer s H E b hr hM hnp hpx =>
 (pts_cons (pts_if (qt_lt hM (pd_var (pv 1)) pd_int)
 (pts_cons (pts_asg sc__law_ratio.nd (i := 0) rfl (by first | exact Or.inl rfl | exact Or.inr rfl) (q_neg (pd_var (pv 0))) rfl (by first | exact Or.inl rfl | exact Or.inr rfl) (PxOk.of hpx _))
 (pts_one' (pts_asg sc__law_ratio.nd (i := 1) rfl (by first | exact Or.inl rfl | exact Or.inr rfl) (q_neg (pd_var (pv 1))) rfl (by first | exact Or.inl rfl | exact Or.inr rfl) (PxOk.of hpx _))))
 pts_nil')
 (pts_cons (pts_asg sc__law_ratio.nd (i := 2) rfl (by first | exact Or.inl rfl | exact Or.inr rfl) (q_call hM (takes_of rfl rfl rfl rfl) (ok__law_part T) (hr.mono (by decide)) (by rfl) T.m__law_part T.k__law_part (bd__law_part_2 T) (fun _ _ _ => RepL.nil) (pva_cons (p1_d (pd_var (pv 0))) (pva_cons (p1_d (pd_var (pv 1))) pva_nil))) rfl (by first | exact Or.inl rfl | exact Or.inr rfl) (PxOk.of hpx _))
 (pts_one' (pts_ret (pd_tup (pda_cons (q_fdiv hM (pd_var (pv 0)) (pd_var (pv 2))) (pda_cons (q_fdiv hM (pd_var (pv 1)) (pd_var (pv 2))) pda_nil)))))))
theorem sc__law_plus : FnScope ["_law_a", "_law_b"] ["_law_a", "_law_b"] (defScope s__law_plus) := ⟨rfl, rfl, rfl, by decide +kernel, rfl, by decide +kernel, by decide +kernel⟩
/-- slots: 0 _law_a 1 _law_b -/
noncomputable def d__law_plus : Dn := defF 2
 (retS (callF 2 d__law_ratio [] (consV (dF (op2F addD (op2F mulD (op2F ixD (varF 0) (cF (.int 0))) (op2F ixD (varF 1) (cF (.int 1)))) (op2F mulD (op2F ixD (varF 1) (cF (.int 0))) (op2F ixD (varF 0) (cF (.int 1)))))) (consV (dF (op2F mulD (op2F ixD (varF 0) (cF (.int 1))) (op2F ixD (varF 1) (cF (.int 1))))) nilV))))
theorem ok__law_plus (T : Tx K mg A) : FnOk P w K mg base (L2.CX P w) 3 A.f__law_plus A.fd__law_plus ["_law_a", "_law_b"] (spD ⟨K, mg⟩ 2 d__law_plus) :=
 ok_def (N := ["_law_a", "_law_b"]) rfl (by decide) T.F__law_plus sc__law_plus fun cdv Ar outer s H E b hr hM hnp hpx =>
 (pts_one' (pts_ret (q_call hM (takes_of rfl rfl rfl rfl) (ok__law_ratio T) (hr.mono (by decide)) (by rfl) T.m__law_ratio T.k__law_ratio (bd__law_ratio_2 T) (fun _ _ _ => RepL.nil) (pva_cons (p1_d (q_add hM (q_mul hM (q_ix hM (pd_var (pv 0)) pd_int (fun _ _ => rfl)) (q_ix hM (pd_var (pv 1)) pd_int (fun _ _ => rfl))) (q_mul hM (q_ix hM (pd_var (pv 1)) pd_int (fun _ _ => rfl)) (q_ix hM (pd_var (pv 0)) pd_int (fun _ _ => rfl))))) (pva_cons (p1_d (q_mul hM (q_ix hM (pd_var (pv 0)) pd_int (fun _ _ => rfl)) (q_ix hM (pd_var (pv 1)) pd_int (fun _ _ => rfl)))) pva_nil)))))
theorem sc__law_things : FnScope [] [] (defScope s__law_things) := ⟨rfl, rfl, rfl, by decide +kernel, rfl, by decide +kernel, by decide +kernel⟩
/-- slots:  -/
noncomputable def d__law_things : Dn := defF 0
 (retF (lstF (consA (tupF (consA (cF (.int 0)) (consA (cF (.bl true)) (consA (cF (.bl false)) (consA (cF (.bl false)) (consA (cF (.bl false)) nilA)))))) (consA (tupF (consA (cF (.bl true)) (consA (cF (.bl false)) (consA (cF (.bl false)) (consA (cF (.bl false)) (consA (cF (.bl false)) nilA)))))) (consA (tupF (consA (cF (.str "1")) (consA (cF (.bl false)) (consA (cF (.bl false)) (consA (cF (.bl false)) (consA (cF (.bl false)) nilA)))))) (consA (tupF (consA (cF .non) (consA (cF (.bl false)) (consA (cF (.bl false)) (consA (cF (.bl false)) (consA (cF (.bl false)) nilA)))))) (consA (tupF (consA (frF (lstF (consA (cF (.int 1)) (consA (cF (.int 2)) nilA)))) (consA (cF (.bl false)) (consA (cF (.bl true)) (consA (cF (.bl false)) (consA (cF (.bl false)) nilA)))))) (consA (tupF (consA (tupF (consA (cF (.int 1)) (consA (cF (.int 2)) nilA))) (consA (cF (.bl false)) (consA (cF (.bl true)) (consA (cF (.bl true)) (consA (cF (.bl true)) nilA)))))) (consA (tupF (consA (tupF (consA (cF (.int 2)) (consA (cF (.int 4)) nilA))) (consA (cF (.bl false)) (consA (cF (.bl true)) (consA (cF (.bl false)) (consA (cF (.bl false)) nilA)))))) (consA (tupF (consA (tupF (consA (op1F negD (cF (.int 1))) (consA (cF (.int 2)) nilA))) (consA (cF (.bl false)) (consA (cF (.bl true)) (consA (cF (.bl true)) (consA (cF (.bl false)) nilA)))))) (consA (tupF (consA (tupF (consA (cF (.int 3)) (consA (cF (.int 2)) nilA))) (consA (cF (.bl false)) (consA (cF (.bl true)) (consA (cF (.bl true)) (consA (cF (.bl false)) nilA)))))) (consA (tupF (consA (tupF (consA (cF (.int 1)) (consA (cF (.int 0)) nilA))) (consA (cF (.bl false)) (consA (cF (.bl true)) (consA (cF (.bl false)) (consA (cF (.bl false)) nilA)))))) (consA (tupF (consA (tupF (consA (cF (.int 1)) (consA (cF (.int 1)) nilA))) (consA (cF (.bl false)) (consA (cF (.bl true)) (consA (cF (.bl true)) (consA (cF (.bl true)) nilA)))))) (consA (tupF (consA (tupF (consA (cF (.int 0)) (consA (cF (.int 1)) nilA))) (consA (cF (.bl false)) (consA (cF (.bl true)) (consA (cF (.bl true)) (consA (cF (.bl true)) nilA)))))) (consA (tupF (consA (tupF (consA (cF (.int 0)) (consA (cF (.int 2)) nilA))) (consA (cF (.bl false)) (consA (cF (.bl true)) (consA (cF (.bl false)) (consA (cF (.bl false)) nilA)))))) (consA (tupF (consA (tupF (consA (cF (.int 1)) nilA)) (consA (cF (.bl false)) (consA (cF (.bl true)) (consA (cF (.bl false)) (consA (cF (.bl false)) nilA)))))) (consA (tupF (consA (tupF (consA (cF (.bl true)) (consA (cF (.int 2)) nilA))) (consA (cF (.bl false)) (consA (cF (.bl true)) (consA (cF (.bl false)) (consA (cF (.bl false)) nilA)))))) (consA (tupF (consA (tupF (consA (cF (.int 1)) (consA (cF (.bl true)) nilA))) (consA (cF (.bl false)) (consA (cF (.bl true)) (consA (cF (.bl false)) (consA (cF (.bl false)) nilA)))))) (consA (tupF (consA (tupF (consA (cF (.int 1)) (consA (op1F negD (cF (.int 2))) nilA))) (consA (cF (.bl false)) (consA (cF (.bl true)) (consA (cF (.bl false)) (consA (cF (.bl false)) nilA)))))) (consA (tupF (consA (tupF nilA) (consA (cF (.bl false)) (consA (cF (.bl true)) (consA (cF (.bl false)) (consA (cF (.bl false)) nilA)))))) nilA))))))))))))))))))))
theorem ok__law_things (T : Tx K mg A) : FnOk P w K mg base (L2.CX P w) 1 A.f__law_things A.fd__law_things [] (spD ⟨K, mg⟩ 0 d__law_things) :=
 ok_def (N := []) rfl (by decide) T.F__law_things sc__law_things fun cdv Ar outer s H E b hr hM hnp hpx =>
 (pts_one' (pts_retF (pf_lst (pda_cons (pd_tup (pda_cons pd_int (pda_cons pd_bl (pda_cons pd_bl (pda_cons pd_bl (pda_cons pd_bl pda_nil)))))) (pda_cons (pd_tup (pda_cons pd_bl (pda_cons pd_bl (pda_cons pd_bl (pda_cons pd_bl (pda_cons pd_bl pda_nil)))))) (pda_cons (pd_tup (pda_cons pd_str (pda_cons pd_bl (pda_cons pd_bl (pda_cons pd_bl (pda_cons pd_bl pda_nil)))))) (pda_cons (pd_tup (pda_cons pd_non (pda_cons pd_bl (pda_cons pd_bl (pda_cons pd_bl (pda_cons pd_bl pda_nil)))))) (pda_cons (pd_tup (pda_cons (pd_fr (pf_lst (pda_cons pd_int (pda_cons pd_int pda_nil)))) (pda_cons pd_bl (pda_cons pd_bl (pda_cons pd_bl (pda_cons pd_bl pda_nil)))))) (pda_cons (pd_tup (pda_cons (pd_tup (pda_cons pd_int (pda_cons pd_int pda_nil))) (pda_cons pd_bl (pda_cons pd_bl (pda_cons pd_bl (pda_cons pd_bl pda_nil)))))) (pda_cons (pd_tup (pda_cons (pd_tup (pda_cons pd_int (pda_cons pd_int pda_nil))) (pda_cons pd_bl (pda_cons pd_bl (pda_cons pd_bl (pda_cons pd_bl pda_nil)))))) (pda_cons (pd_tup (pda_cons (pd_tup (pda_cons (q_neg pd_int) (pda_cons pd_int pda_nil))) (pda_cons pd_bl (pda_cons pd_bl (pda_cons pd_bl (pda_cons pd_bl pda_nil)))))) (pda_cons (pd_tup (pda_cons (pd_tup (pda_cons pd_int (pda_cons pd_int pda_nil))) (pda_cons pd_bl (pda_cons pd_bl (pda_cons pd_bl (pda_cons pd_bl pda_nil)))))) (pda_cons (pd_tup (pda_cons (pd_tup (pda_cons pd_int (pda_cons pd_int pda_nil))) (pda_cons pd_bl (pda_cons pd_bl (pda_cons pd_bl (pda_cons pd_bl pda_nil)))))) (pda_cons (pd_tup (pda_cons (pd_tup (pda_cons pd_int (pda_cons pd_int pda_nil))) (pda_cons pd_bl (pda_cons pd_bl (pda_cons pd_bl (pda_cons pd_bl pda_nil)))))) (pda_cons (pd_tup (pda_cons (pd_tup (pda_cons pd_int (pda_cons pd_int pda_nil))) (pda_cons pd_bl (pda_cons pd_bl (pda_cons pd_bl (pda_cons pd_bl pda_nil)))))) (pda_cons (pd_tup (pda_cons (pd_tup (pda_cons pd_int (pda_cons pd_int pda_nil))) (pda_cons pd_bl (pda_cons pd_bl (pda_cons pd_bl (pda_cons pd_bl pda_nil)))))) (pda_cons (pd_tup (pda_cons (pd_tup (pda_cons pd_int pda_nil)) (pda_cons pd_bl (pda_cons pd_bl (pda_cons pd_bl (pda_cons pd_bl pda_nil)))))) (pda_cons (pd_tup (pda_cons (pd_tup (pda_cons pd_bl (pda_cons pd_int pda_nil))) (pda_cons pd_bl (pda_cons pd_bl (pda_cons pd_bl (pda_cons pd_bl pda_nil)))))) (pda_cons (pd_tup (pda_cons (pd_tup (pda_cons pd_int (pda_cons pd_bl pda_nil))) (pda_cons pd_bl (pda_cons pd_bl (pda_cons pd_bl (pda_cons pd_bl pda_nil)))))) (pda_cons (pd_tup (pda_cons (pd_tup (pda_cons pd_int (pda_cons (q_neg pd_int) pda_nil))) (pda_cons pd_bl (pda_cons pd_bl (pda_cons pd_bl (pda_cons pd_bl pda_nil)))))) (pda_cons (pd_tup (pda_cons (pd_tup pda_nil) (pda_cons pd_bl (pda_cons pd_bl (pda_cons pd_bl (pda_cons pd_bl pda_nil)))))) pda_nil)))))))))))))))))))))
theorem sc__law_truth : FnScope ["_law_told", "_law_due"] ["_law_told", "_law_due"] (defScope s__law_truth) := ⟨rfl, rfl, rfl, by decide +kernel, rfl, by decide +kernel, by decide +kernel⟩
/-- slots: 0 _law_told 1 _law_due -/
noncomputable def d__law_truth : Dn := defF 2
 (retS (andV (isiF isBool (dF (varF 0))) (op2F eqD (varF 0) (varF 1))))
theorem ok__law_truth (T : Tx K mg A) : FnOk P w K mg base (L2.CX P w) 1 A.f__law_truth A.fd__law_truth ["_law_told", "_law_due"] (spD ⟨K, mg⟩ 2 d__law_truth) :=
 ok_def (N := ["_law_told", "_law_due"]) rfl (by decide) T.F__law_truth sc__law_truth fun cdv Ar outer s H E b hr hM hnp hpx =>
 (pts_one' (pts_ret (pd_and (pd_isi hM kit_bool (by rfl) T.z_isinstance (p1_d (pd_var (pv 0))) (tyN (by rfl) T.z_bool (by decide +kernel))) (pd_one (q_eq hM hr (pd_var (pv 0)) (pd_var (pv 1)))))))
theorem sc_is_whole : FnScope ["thing", "low", "high"] ["thing", "low", "high"] (defScope s_is_whole) := ⟨rfl, rfl, rfl, by decide +kernel, rfl, by decide +kernel, by decide +kernel⟩
/-- slots: 0 thing 1 low 2 high -/
noncomputable def d_is_whole : Dn := defF 3
 (seqS (ifS (orB (notB (tstF (isiF isInt (dF (varF 0))))) (tstF (isiF isBool (dF (varF 0)))))
 (retS (cF (.bl false)))
 skipS)
 (seqS (ifS (andB (tstF (op2F isNotD (varF 1) (cF .non))) (tstF (op2F ltD (varF 0) (varF 1))))
 (retS (cF (.bl false)))
 skipS)
 (retS (orV (op2F isD (varF 2) (cF .non)) (op2F leD (varF 0) (varF 2))))))
theorem ok_is_whole (T : Tx K mg A) : FnOk P w K mg base (L2.CX P w) 1 A.f_is_whole A.fd_is_whole ["thing", "low", "high"] (spD ⟨K, mg⟩ 3 d_is_whole) :=
 ok_def (N := ["thing", "low", "high"]) rfl (by decide) T.F_is_whole sc_is_whole fun cdv Ar outer s H E b hr hM hnp hpx =>
 (pts_cons (pts_if (PW.pt (pwb_or (ptb_not (pt_of (pd_isi hM kit_int (by rfl) T.z_isinstance (p1_d (pd_var (pv 0))) (tyN (by rfl) T.z_int (by decide +kernel))))) (pwb_or1 (pt_of (pd_isi hM kit_bool (by rfl) T.z_isinstance (p1_d (pd_var (pv 0))) (tyN (by rfl) T.z_bool (by decide +kernel)))))))
 (pts_one' (pts_ret pd_bl))
 pts_nil')
 (pts_cons (pts_if (PW.pt (pwb_and (qt_isnot hM (pd_var (pv 1)) pd_non) (pwb_and1 (qt_lt hM (pd_var (pv 0)) (pd_var (pv 1))))))
 (pts_one' (pts_ret pd_bl))
 pts_nil')
 (pts_one' (pts_ret (pd_or (q_is hM (pd_var (pv 2)) pd_non) (pd_one (q_le hM (pd_var (pv 0)) (pd_var (pv 2)))))))))
theorem sc_is_sequence : FnScope ["thing"] ["thing"] (defScope s_is_sequence) := ⟨rfl, rfl, rfl, by decide +kernel, rfl, by decide +kernel, by decide +kernel⟩
/-- slots: 0 thing -/
noncomputable def d_is_sequence : Dn := defF 1
 (retS (isiF isLstTup (dF (varF 0))))
theorem ok_is_sequence (T : Tx K mg A) : FnOk P w K mg base (L2.CX P w) 1 A.f_is_sequence A.fd_is_sequence ["thing"] (spD ⟨K, mg⟩ 1 d_is_sequence) :=
 ok_def (N := ["thing"]) rfl (by decide) T.F_is_sequence sc_is_sequence fun cdv Ar outer s H E b hr hM hnp hpx =>
 (pts_one' (pts_ret (pd_isiLT hM (by rfl) T.z_isinstance (p1_d (pd_var (pv 0))) (tyN (by rfl) T.z_list (by decide +kernel)) (tyN (by rfl) T.z_tuple (by decide +kernel)))))
theorem sc_is_ratio : FnScope ["thing"] ["thing"] (defScope s_is_ratio) := ⟨rfl, rfl, rfl, by decide +kernel, rfl, by decide +kernel, by decide +kernel⟩
/-- slots: 0 thing -/
noncomputable def d_is_ratio : Dn := defF 1
 (seqS (ifS (orB (notB (tstF (isiF isTup (dF (varF 0))))) (tstF (op2F neD (bltF lenD (consV (dF (varF 0)) nilV)) (cF (.int 2)))))
 (retS (cF (.bl false)))
 skipS)
 (seqS (ifS (orB (notB (tstF (callF 3 d_is_whole [.non, .non] (consV (dF (op2F ixD (varF 0) (cF (.int 0)))) nilV)))) (notB (tstF (callF 3 d_is_whole [.non] (consV (dF (op2F ixD (varF 0) (cF (.int 1)))) (consV (dF (cF (.int 1))) nilV))))))
 (retS (cF (.bl false)))
 skipS)
 (retS (op2F eqD (callF 2 d_common_divisor [] (consV (dF (op2F ixD (varF 0) (cF (.int 0)))) (consV (dF (op2F ixD (varF 0) (cF (.int 1)))) nilV))) (cF (.int 1))))))
theorem ok_is_ratio (T : Tx K mg A) : FnOk P w K mg base (L2.CX P w) 2 A.f_is_ratio A.fd_is_ratio ["thing"] (spD ⟨K, mg⟩ 1 d_is_ratio) :=
 ok_def (N := ["thing"]) rfl (by decide) T.F_is_ratio sc_is_ratio fun cdv Ar outer s H E b hr hM hnp hpx =>
 (pts_cons (pts_if (PW.pt (pwb_or (ptb_not (pt_of (pd_isi hM kit_tuple (by rfl) T.z_isinstance (p1_d (pd_var (pv 0))) (tyN (by rfl) T.z_tuple (by decide +kernel))))) (pwb_or1 (qt_ne hM hr (c_len hM (by rfl) T.z_len (pva_cons (p1_d (pd_var (pv 0))) pva_nil)) pd_int))))
 (pts_one' (pts_ret pd_bl))
 pts_nil')
 (pts_cons (pts_if (PW.pt (pwb_or (ptb_not (pt_of (q_call hM (takes_of rfl rfl rfl rfl) (ok_is_whole T) (hr.mono (by decide)) (by rfl) T.m_is_whole T.k_is_whole (bd_is_whole_1 T) (fun _ _ _ => (RepL.cons rep_non (RepL.cons rep_non RepL.nil))) (pva_cons (p1_d (q_ix hM (pd_var (pv 0)) pd_int (fun _ _ => rfl))) pva_nil)))) (pwb_or1 (ptb_not (pt_of (q_call hM (takes_of rfl rfl rfl rfl) (ok_is_whole T) (hr.mono (by decide)) (by rfl) T.m_is_whole T.k_is_whole (bd_is_whole_2 T) (fun _ _ _ => (RepL.cons rep_non RepL.nil)) (pva_cons (p1_d (q_ix hM (pd_var (pv 0)) pd_int (fun _ _ => rfl))) (pva_cons (p1_d pd_int) pva_nil))))))))
 (pts_one' (pts_ret pd_bl))
 pts_nil')
 (pts_one' (pts_ret (q_eq hM hr (q_call hM (takes_of rfl rfl rfl rfl) (ok_common_divisor T) (hr.mono (by decide)) (by rfl) T.m_common_divisor T.k_common_divisor (bd_common_divisor_2 T) (fun _ _ _ => RepL.nil) (pva_cons (p1_d (q_ix hM (pd_var (pv 0)) pd_int (fun _ _ => rfl))) (pva_cons (p1_d (q_ix hM (pd_var (pv 0)) pd_int (fun _ _ => rfl))) pva_nil))) pd_int)))))
theorem sc_is_share : FnScope ["thing"] ["thing"] (defScope s_is_share) := ⟨rfl, rfl, rfl, by decide +kernel, rfl, by decide +kernel, by decide +kernel⟩
/-- slots: 0 thing -/
noncomputable def d_is_share : Dn := defF 1
 (retS (andV (callF 1 d_is_ratio [] (consV (dF (varF 0)) nilV)) (chF leD leD (cF (.int 0)) (op2F ixD (varF 0) (cF (.int 0))) (op2F ixD (varF 0) (cF (.int 1))))))
theorem ok_is_share (T : Tx K mg A) : FnOk P w K mg base (L2.CX P w) 3 A.f_is_share A.fd_is_share ["thing"] (spD ⟨K, mg⟩ 1 d_is_share) :=
 ok_def (N := ["thing"]) rfl (by decide) T.F_is_share sc_is_share fun cdv Ar outer s H E b hr hM hnp hpx =>
 (pts_one' (pts_ret (pd_and (q_call hM (takes_of rfl rfl rfl rfl) (ok_is_ratio T) (hr.mono (by decide)) (by rfl) T.m_is_ratio T.k_is_ratio (bd_is_ratio_1 T) (fun _ _ _ => RepL.nil) (pva_cons (p1_d (pd_var (pv 0))) pva_nil)) (pd_one (q_le_le hM pd_int (q_ix hM (pd_var (pv 0)) pd_int (fun _ _ => rfl)) (q_ix hM (pd_var (pv 0)) pd_int (fun _ _ => rfl)))))))
theorem sc__law_things_hold : FnScope ["_law_thing", "_law_whole_here", "_law_row", "_law_ratio_here", "_law_share"] [] (defScope s__law_things_hold) := ⟨rfl, rfl, rfl, by decide +kernel, rfl, by decide +kernel, by decide +kernel⟩
/-- slots: 0 _law_thing 1 _law_whole_here 2 _law_row 3 _law_ratio_here 4 _law_share -/
noncomputable def d__law_things_hold : Dn := defF 5
 (seqS (forS (itF (frF (callFF 0 d__law_things [] nilV))) (tgT 5 (tgCons (tgN 0) (tgCons (tgN 1) (tgCons (tgN 2) (tgCons (tgN 3) (tgCons (tgN 4) tgNil))))))
 (seqS (ifS (orB (notB (tstF (callF 2 d__law_truth [] (consV (dF (callF 3 d_is_whole [.non, .non] (consV (dF (varF 0)) nilV))) (consV (dF (varF 1)) nilV))))) (notB (tstF (callF 2 d__law_truth [] (consV (dF (callF 1 d_is_sequence [] (consV (dF (varF 0)) nilV))) (consV (dF (varF 2)) nilV))))))
 (retS (cF (.bl false)))
 skipS)
 (ifS (orB (notB (tstF (callF 2 d__law_truth [] (consV (dF (callF 1 d_is_ratio [] (consV (dF (varF 0)) nilV))) (consV (dF (varF 3)) nilV))))) (notB (tstF (callF 2 d__law_truth [] (consV (dF (callF 1 d_is_share [] (consV (dF (varF 0)) nilV))) (consV (dF (varF 4)) nilV))))))
 (retS (cF (.bl false)))
 skipS)))
 (retS (cF (.bl true))))
theorem ok__law_things_hold (T : Tx K mg A) : FnOk P w K mg base (L2.CX P w) 4 A.f__law_things_hold A.fd__law_things_hold [] (spD ⟨K, mg⟩ 0 d__law_things_hold) :=
 ok_def (N := ["_law_thing", "_law_whole_here", "_law_row", "_law_ratio_here", "_law_share"]) rfl (by decide) T.F__law_things_hold sc__law_things_hold fun cdv Ar outer s H E b hr hM hnp hpx =>
 (pts_cons (pts_for (passes_of rfl) rfl (pi_d hM (pd_fr (f_call0 hM (takes_of rfl rfl rfl rfl) (ok__law_things T) (hr.mono (by decide)) (by rfl) T.m__law_things T.k__law_things (bd__law_things_0 T) (fun _ _ _ => RepL.nil)))) (pg_tupD hM rfl (pgs_consD (pg_n (pg_name (i := 0) sc__law_things_hold.nd rfl (by first | exact Or.inl rfl | exact Or.inr rfl)) (PxOk.of hpx _)) (pgs_consD (pg_n (pg_name (i := 1) sc__law_things_hold.nd rfl (by first | exact Or.inl rfl | exact Or.inr rfl)) (PxOk.of hpx _)) (pgs_consD (pg_n (pg_name (i := 2) sc__law_things_hold.nd rfl (by first | exact Or.inl rfl | exact Or.inr rfl)) (PxOk.of hpx _)) (pgs_consD (pg_n (pg_name (i := 3) sc__law_things_hold.nd rfl (by first | exact Or.inl rfl | exact Or.inr rfl)) (PxOk.of hpx _)) (pgs_consD (pg_n (pg_name (i := 4) sc__law_things_hold.nd rfl (by first | exact Or.inl rfl | exact Or.inr rfl)) (PxOk.of hpx _)) pgs_nilD))))))
 (pts_cons (pts_if (PW.pt (pwb_or (ptb_not (pt_of (q_call hM (takes_of rfl rfl rfl rfl) (ok__law_truth T) (hr.mono (by decide)) (by rfl) T.m__law_truth T.k__law_truth (bd__law_truth_2 T) (fun _ _ _ => RepL.nil) (pva_cons (p1_d (q_call hM (takes_of rfl rfl rfl rfl) (ok_is_whole T) (hr.mono (by decide)) (by rfl) T.m_is_whole T.k_is_whole (bd_is_whole_1 T) (fun _ _ _ => (RepL.cons rep_non (RepL.cons rep_non RepL.nil))) (pva_cons (p1_d (pd_var (pv 0))) pva_nil))) (pva_cons (p1_d (pd_var (pv 1))) pva_nil))))) (pwb_or1 (ptb_not (pt_of (q_call hM (takes_of rfl rfl rfl rfl) (ok__law_truth T) (hr.mono (by decide)) (by rfl) T.m__law_truth T.k__law_truth (bd__law_truth_2 T) (fun _ _ _ => RepL.nil) (pva_cons (p1_d (q_call hM (takes_of rfl rfl rfl rfl) (ok_is_sequence T) (hr.mono (by decide)) (by rfl) T.m_is_sequence T.k_is_sequence (bd_is_sequence_1 T) (fun _ _ _ => RepL.nil) (pva_cons (p1_d (pd_var (pv 0))) pva_nil))) (pva_cons (p1_d (pd_var (pv 2))) pva_nil))))))))
 (pts_one' (pts_ret pd_bl))
 pts_nil')
 (pts_one' (pts_if (PW.pt (pwb_or (ptb_not (pt_of (q_call hM (takes_of rfl rfl rfl rfl) (ok__law_truth T) (hr.mono (by decide)) (by rfl) T.m__law_truth T.k__law_truth (bd__law_truth_2 T) (fun _ _ _ => RepL.nil) (pva_cons (p1_d (q_call hM (takes_of rfl rfl rfl rfl) (ok_is_ratio T) (hr.mono (by decide)) (by rfl) T.m_is_ratio T.k_is_ratio (bd_is_ratio_1 T) (fun _ _ _ => RepL.nil) (pva_cons (p1_d (pd_var (pv 0))) pva_nil))) (pva_cons (p1_d (pd_var (pv 3))) pva_nil))))) (pwb_or1 (ptb_not (pt_of (q_call hM (takes_of rfl rfl rfl rfl) (ok__law_truth T) (hr.mono (by decide)) (by rfl) T.m__law_truth T.k__law_truth (bd__law_truth_2 T) (fun _ _ _ => RepL.nil) (pva_cons (p1_d (q_call hM (takes_of rfl rfl rfl rfl) (ok_is_share T) (hr.mono (by decide)) (by rfl) T.m_is_share T.k_is_share (bd_is_share_1 T) (fun _ _ _ => RepL.nil) (pva_cons (p1_d (pd_var (pv 0))) pva_nil))) (pva_cons (p1_d (pd_var (pv 4))) pva_nil))))))))
 (pts_one' (pts_ret pd_bl))
 pts_nil'))))
 (pts_one' (pts_ret pd_bl)))
theorem sc__law_bounds_hold : FnScope ["_law_number_here", "_law_lower", "_law_upper"] ["_law_number_here", "_law_lower", "_law_upper"] (defScope s__law_bounds_hold) := ⟨rfl, rfl, rfl, by decide +kernel, rfl, by decide +kernel, by decide +kernel⟩
/-- slots: 0 _law_number_here 1 _law_lower 2 _law_upper -/
noncomputable def d__law_bounds_hold : Dn := defF 3
 (seqS (ifS (notB (tstF (callF 2 d__law_truth [] (consV (dF (callF 3 d_is_whole [] (consV (dF (varF 0)) (consV (dF (varF 1)) (consV (dF (varF 2)) nilV))))) (consV (dF (chF leD leD (varF 1) (varF 0) (varF 2))) nilV)))))
 (retS (cF (.bl false)))
 skipS)
 (seqS (ifS (orB (notB (tstF (callF 2 d__law_truth [] (consV (dF (callF 3 d_is_whole [.non] (consV (dF (varF 0)) (consV (dF (varF 1)) nilV)))) (consV (dF (op2F leD (varF 1) (varF 0))) nilV))))) (notB (tstF (callF 2 d__law_truth [] (consV (dF (callKF 3 1 1 d_is_whole [.p 0, .d 0, .k 0] [.non, .non] (consV (dF (varF 0)) nilV) (consV (dF (varF 2)) nilV))) (consV (dF (op2F leD (varF 0) (varF 2))) nilV))))))
 (retS (cF (.bl false)))
 skipS)
 (retS (callF 2 d__law_truth [] (consV (dF (callF 3 d_is_whole [] (consV (dF (cF (.bl true))) (consV (dF (varF 1)) (consV (dF (varF 2)) nilV))))) (consV (dF (cF (.bl false))) nilV))))))
theorem ok__law_bounds_hold (T : Tx K mg A) : FnOk P w K mg base (L2.CX P w) 2 A.f__law_bounds_hold A.fd__law_bounds_hold ["_law_number_here", "_law_lower", "_law_upper"] (spD ⟨K, mg⟩ 3 d__law_bounds_hold) :=
 ok_def (N := ["_law_number_here", "_law_lower", "_law_upper"]) rfl (by decide) T.F__law_bounds_hold sc__law_bounds_hold fun cdv Ar outer s H E b hr hM hnp hpx =>
 (pts_cons (pts_if (ptb_not (pt_of (q_call hM (takes_of rfl rfl rfl rfl) (ok__law_truth T) (hr.mono (by decide)) (by rfl) T.m__law_truth T.k__law_truth (bd__law_truth_2 T) (fun _ _ _ => RepL.nil) (pva_cons (p1_d (q_call hM (takes_of rfl rfl rfl rfl) (ok_is_whole T) (hr.mono (by decide)) (by rfl) T.m_is_whole T.k_is_whole (bd_is_whole_3 T) (fun _ _ _ => RepL.nil) (pva_cons (p1_d (pd_var (pv 0))) (pva_cons (p1_d (pd_var (pv 1))) (pva_cons (p1_d (pd_var (pv 2))) pva_nil))))) (pva_cons (p1_d (q_le_le hM (pd_var (pv 1)) (pd_var (pv 0)) (pd_var (pv 2)))) pva_nil)))))
 (pts_one' (pts_ret pd_bl))
 pts_nil')
 (pts_cons (pts_if (PW.pt (pwb_or (ptb_not (pt_of (q_call hM (takes_of rfl rfl rfl rfl) (ok__law_truth T) (hr.mono (by decide)) (by rfl) T.m__law_truth T.k__law_truth (bd__law_truth_2 T) (fun _ _ _ => RepL.nil) (pva_cons (p1_d (q_call hM (takes_of rfl rfl rfl rfl) (ok_is_whole T) (hr.mono (by decide)) (by rfl) T.m_is_whole T.k_is_whole (bd_is_whole_2 T) (fun _ _ _ => (RepL.cons rep_non RepL.nil)) (pva_cons (p1_d (pd_var (pv 0))) (pva_cons (p1_d (pd_var (pv 1))) pva_nil)))) (pva_cons (p1_d (q_le hM (pd_var (pv 1)) (pd_var (pv 0)))) pva_nil))))) (pwb_or1 (ptb_not (pt_of (q_call hM (takes_of rfl rfl rfl rfl) (ok__law_truth T) (hr.mono (by decide)) (by rfl) T.m__law_truth T.k__law_truth (bd__law_truth_2 T) (fun _ _ _ => RepL.nil) (pva_cons (p1_d (q_callK hM (takes_of rfl rfl rfl rfl) (ok_is_whole T) (hr.mono (by decide)) (by rfl) T.m_is_whole T.k_is_whole (bd_is_whole_1_high T) (fun _ _ _ => (RepL.cons rep_non (RepL.cons rep_non RepL.nil))) (pva_cons (p1_d (pd_var (pv 0))) pva_nil) (pkv_cons (p1_d (pd_var (pv 2))) pkv_nil))) (pva_cons (p1_d (q_le hM (pd_var (pv 0)) (pd_var (pv 2)))) pva_nil))))))))
 (pts_one' (pts_ret pd_bl))
 pts_nil')
 (pts_one' (pts_ret (q_call hM (takes_of rfl rfl rfl rfl) (ok__law_truth T) (hr.mono (by decide)) (by rfl) T.m__law_truth T.k__law_truth (bd__law_truth_2 T) (fun _ _ _ => RepL.nil) (pva_cons (p1_d (q_call hM (takes_of rfl rfl rfl rfl) (ok_is_whole T) (hr.mono (by decide)) (by rfl) T.m_is_whole T.k_is_whole (bd_is_whole_3 T) (fun _ _ _ => RepL.nil) (pva_cons (p1_d pd_bl) (pva_cons (p1_d (pd_var (pv 1))) (pva_cons (p1_d (pd_var (pv 2))) pva_nil))))) (pva_cons (p1_d pd_bl) pva_nil)))))))
theorem sc__law_whole : FnScope ["_law_thing"] ["_law_thing"] (defScope s__law_whole) := ⟨rfl, rfl, rfl, by decide +kernel, rfl, by decide +kernel, by decide +kernel⟩
/-- slots: 0 _law_thing -/
noncomputable def d__law_whole : Dn := defF 1
 (retS (andV (isiF isInt (dF (varF 0))) (notV (isiF isBool (dF (varF 0))))))
theorem ok__law_whole (T : Tx K mg A) : FnOk P w K mg base (L2.CX P w) 1 A.f__law_whole A.fd__law_whole ["_law_thing"] (spD ⟨K, mg⟩ 1 d__law_whole) :=
 ok_def (N := ["_law_thing"]) rfl (by decide) T.F__law_whole sc__law_whole fun cdv Ar outer s H E b hr hM hnp hpx =>
 (pts_one' (pts_ret (pd_and (pd_isi hM kit_int (by rfl) T.z_isinstance (p1_d (pd_var (pv 0))) (tyN (by rfl) T.z_int (by decide +kernel))) (pd_one (pd_not (pd_isi hM kit_bool (by rfl) T.z_isinstance (p1_d (pd_var (pv 0))) (tyN (by rfl) T.z_bool (by decide +kernel))))))))
theorem sc__law_wholes : FnScope ["_law_thing", "_law_many", "_law_part_here"] ["_law_thing", "_law_many"] (defScope s__law_wholes) := ⟨rfl, rfl, rfl, by decide +kernel, rfl, by decide +kernel, by decide +kernel⟩
/-- slots: 0 _law_thing 1 _law_many 2 _law_part_here -/
noncomputable def d__law_wholes : Dn := defF 3
 (seqS (ifS (orB (notB (tstF (isiF isTup (dF (varF 0))))) (tstF (op2F neD (bltF lenD (consV (dF (varF 0)) nilV)) (varF 1))))
 (retS (cF (.bl false)))
 skipS)
 (retS (bltF allD (consV (dF (frF (lcF (itF (varF 0)) (tgN 2) yesB (callF 1 d__law_whole [] (consV (dF (varF 2)) nilV)) [2]))) nilV))))
theorem ok__law_wholes (T : Tx K mg A) : FnOk P w K mg base (L2.CX P w) 2 A.f__law_wholes A.fd__law_wholes ["_law_thing", "_law_many"] (spD ⟨K, mg⟩ 2 d__law_wholes) :=
 ok_def (N := ["_law_thing", "_law_many", "_law_part_here"]) rfl (by decide) T.F__law_wholes sc__law_wholes fun cdv Ar outer s H E b hr hM hnp hpx =>
 (pts_cons (pts_if (PW.pt (pwb_or (ptb_not (pt_of (pd_isi hM kit_tuple (by rfl) T.z_isinstance (p1_d (pd_var (pv 0))) (tyN (by rfl) T.z_tuple (by decide +kernel))))) (pwb_or1 (qt_ne hM hr (c_len hM (by rfl) T.z_len (pva_cons (p1_d (pd_var (pv 0))) pva_nil)) (pd_var (pv 1))))))
 (pts_one' (pts_ret pd_bl))
 pts_nil')
 (pts_one' (pts_ret (c_all hM rfl (by rfl) T.z_all (pva_cons (p1_d (pd_fr (pf_lc hpx rfl sc__law_wholes.nd (pi_d hM (pd_var (pv 0))) (blkOk_by (own := [("_law_part_here", 2)]) (by show blkC ["_law_thing", "_law_many", "_law_part_here"] (defScope s__law_wholes) _ [("_law_part_here", 2)] = true; decide +kernel)) rfl (by decide) (fun _ _ _ _ _ b' hM'' hpx' => have hM' := hM''.trans hM; (pg_n (pg_name (i := 2) sc__law_wholes.nd rfl (by first | exact Or.inl rfl | exact Or.inr rfl)) (PxOk.of hpx' _))) (fun _ _ _ _ _ b' hM'' hpx' => have hM' := hM''.trans hM; pts_nilD) (fun _ _ _ _ _ b' hM'' hpx' => have hM' := hM''.trans hM; (q_call hM' takes0 (ok__law_whole T) (hr.mono (by decide)) (by rfl) T.m__law_whole T.k__law_whole (bd__law_whole_1 T) (fun _ _ _ => RepL.nil) (pva_cons (p1_d (pd_var (pv 2))) pva_nil)))))) pva_nil)))))
theorem sc__law_same : FnScope ["_law_told", "_law_due"] ["_law_told", "_law_due"] (defScope s__law_same) := ⟨rfl, rfl, rfl, by decide +kernel, rfl, by decide +kernel, by decide +kernel⟩
/-- slots: 0 _law_told 1 _law_due -/
noncomputable def d__law_same : Dn := defF 2
 (retS (andV (callF 2 d__law_wholes [] (consV (dF (varF 0)) (consV (dF (cF (.int 2))) nilV))) (op2F eqD (varF 0) (varF 1))))
theorem ok__law_same (T : Tx K mg A) : FnOk P w K mg base (L2.CX P w) 3 A.f__law_same A.fd__law_same ["_law_told", "_law_due"] (spD ⟨K, mg⟩ 2 d__law_same) :=
 ok_def (N := ["_law_told", "_law_due"]) rfl (by decide) T.F__law_same sc__law_same fun cdv Ar outer s H E b hr hM hnp hpx =>
 (pts_one' (pts_ret (pd_and (q_call hM (takes_of rfl rfl rfl rfl) (ok__law_wholes T) (hr.mono (by decide)) (by rfl) T.m__law_wholes T.k__law_wholes (bd__law_wholes_2 T) (fun _ _ _ => RepL.nil) (pva_cons (p1_d (pd_var (pv 0))) (pva_cons (p1_d pd_int) pva_nil))) (pd_one (q_eq hM hr (pd_var (pv 0)) (pd_var (pv 1)))))))
theorem sc_lowest_terms : FnScope ["top", "bottom", "common"] ["top", "bottom"] (defScope s_lowest_terms) := ⟨rfl, rfl, rfl, by decide +kernel, rfl, by decide +kernel, by decide +kernel⟩
/-- slots: 0 top 1 bottom 2 common -/
noncomputable def d_lowest_terms : Dn := defF 3
 (seqS (asgS 2 (callF 2 d_common_divisor [] (consV (dF (varF 0)) (consV (dF (varF 1)) nilV))))
 (seqS (ifS (tstF (op2F ltD (varF 1) (cF (.int 0))))
 (asgS 2 (op1F negD (varF 2)))
 skipS)
 (retS (tupF (consA (op2F fdivD (varF 0) (varF 2)) (consA (op2F fdivD (varF 1) (varF 2)) nilA))))))
theorem ok_lowest_terms (T : Tx K mg A) : FnOk P w K mg base (L2.CX P w) 2 A.f_lowest_terms A.fd_lowest_terms ["top", "bottom"] (spD ⟨K, mg⟩ 2 d_lowest_terms) :=
 ok_def (N := ["top", "bottom", "common"]) rfl (by decide) T.F_lowest_terms sc_lowest_terms fun cdv Ar outer s H E b hr hM hnp hpx =>
 (pts_cons (pts_asg sc_lowest_terms.nd (i := 2) rfl (by first | exact Or.inl rfl | exact Or.inr rfl) (q_call hM (takes_of rfl rfl rfl rfl) (ok_common_divisor T) (hr.mono (by decide)) (by rfl) T.m_common_divisor T.k_common_divisor (bd_common_divisor_2 T) (fun _ _ _ => RepL.nil) (pva_cons (p1_d (pd_var (pv 0))) (pva_cons (p1_d (pd_var (pv 1))) pva_nil))) rfl (by first | exact Or.inl rfl | exact Or.inr rfl) (PxOk.of hpx _))
 (pts_cons (pts_if (qt_lt hM (pd_var (pv 1)) pd_int)
 (pts_one' (pts_asg sc_lowest_terms.nd (i := 2) rfl (by first | exact Or.inl rfl | exact Or.inr rfl) (q_neg (pd_var (pv 2))) rfl (by first | exact Or.inl rfl | exact Or.inr rfl) (PxOk.of hpx _)))
 pts_nil')
 (pts_one' (pts_ret (pd_tup (pda_cons (q_fdiv hM (pd_var (pv 0)) (pd_var (pv 2))) (pda_cons (q_fdiv hM (pd_var (pv 1)) (pd_var (pv 2))) pda_nil)))))))
theorem sc_make_ratio : FnScope ["top", "bottom"] ["top", "bottom"] (defScope s_make_ratio) := ⟨rfl, rfl, rfl, by decide +kernel, rfl, by decide +kernel, by decide +kernel⟩
/-- slots: 0 top 1 bottom -/
noncomputable def d_make_ratio : Dn := defF 2
 (seqS (ifS (notB (tstF (callF 3 d_is_whole [.non, .non] (consV (dF (varF 0)) nilV))))
 (raiseS "BadRatio" ["what"] (consA (cF (.str "top")) nilA))
 skipS)
 (seqS (ifS (orB (notB (tstF (callF 3 d_is_whole [.non, .non] (consV (dF (varF 1)) nilV)))) (tstF (op2F eqD (varF 1) (cF (.int 0)))))
 (raiseS "BadRatio" ["what"] (consA (cF (.str "bottom")) nilA))
 skipS)
 (retS (callF 2 d_lowest_terms [] (consV (dF (varF 0)) (consV (dF (varF 1)) nilV))))))
theorem ok_make_ratio (T : Tx K mg A) : FnOk P w K mg base (L2.CX P w) 3 A.f_make_ratio A.fd_make_ratio ["top", "bottom"] (spD ⟨K, mg⟩ 2 d_make_ratio) :=
 ok_def (N := ["top", "bottom"]) rfl (by decide) T.F_make_ratio sc_make_ratio fun cdv Ar outer s H E b hr hM hnp hpx =>
 (pts_cons (pts_if (ptb_not (pt_of (q_call hM (takes_of rfl rfl rfl rfl) (ok_is_whole T) (hr.mono (by decide)) (by rfl) T.m_is_whole T.k_is_whole (bd_is_whole_1 T) (fun _ _ _ => (RepL.cons rep_non (RepL.cons rep_non RepL.nil))) (pva_cons (p1_d (pd_var (pv 0))) pva_nil))))
 (pts_one' (pts_raise hM rfl (takes_of rfl rfl rfl rfl) T.o_BadRatio T.i_BadRatio T.t_BadRatio (okx_BadRatio T) (hr.mono (by decide)) (bdx_BadRatio T) (by rfl) T.m_BadRatio (by simp) (by decide) (pda_cons pd_str pda_nil)))
 pts_nil')
 (pts_cons (pts_if (PW.pt (pwb_or (ptb_not (pt_of (q_call hM (takes_of rfl rfl rfl rfl) (ok_is_whole T) (hr.mono (by decide)) (by rfl) T.m_is_whole T.k_is_whole (bd_is_whole_1 T) (fun _ _ _ => (RepL.cons rep_non (RepL.cons rep_non RepL.nil))) (pva_cons (p1_d (pd_var (pv 1))) pva_nil)))) (pwb_or1 (qt_eq hM hr (pd_var (pv 1)) pd_int))))
 (pts_one' (pts_raise hM rfl (takes_of rfl rfl rfl rfl) T.o_BadRatio T.i_BadRatio T.t_BadRatio (okx_BadRatio T) (hr.mono (by decide)) (bdx_BadRatio T) (by rfl) T.m_BadRatio (by simp) (by decide) (pda_cons pd_str pda_nil)))
 pts_nil')
 (pts_one' (pts_ret (q_call hM (takes_of rfl rfl rfl rfl) (ok_lowest_terms T) (hr.mono (by decide)) (by rfl) T.m_lowest_terms T.k_lowest_terms (bd_lowest_terms_2 T) (fun _ _ _ => RepL.nil) (pva_cons (p1_d (pd_var (pv 0))) (pva_cons (p1_d (pd_var (pv 1))) pva_nil)))))))
theorem sc__law_making_holds : FnScope ["_law_top", "_law_bottom_here", "_law_told", "_law_what", "e"] ["_law_top", "_law_bottom_here"] (defScope s__law_making_holds) := ⟨rfl, rfl, rfl, by decide +kernel, rfl, by decide +kernel, by decide +kernel⟩
/-- slots: 0 _law_top 1 _law_bottom_here 2 _law_told 3 _law_what 4 e -/
noncomputable def d__law_making_holds : Dn := defF 5
 (seqS (asgS 2 (cF .non))
 (seqS (asgS 3 (cF .non))
 (seqS (tryF 4 (hdT [("BadRatio", true)]) (asgS 2 (callF 2 d_make_ratio [] (consV (dF (varF 0)) (consV (dF (varF 1)) nilV)))) (fun ex => (asgS 3 (xfF ["BadRatio"] "what" ex))))
 (seqS (ifS (notB (tstF (callF 1 d__law_whole [] (consV (dF (varF 0)) nilV))))
 (retS (op2F eqD (varF 3) (cF (.str "top"))))
 skipS)
 (seqS (ifS (orB (notB (tstF (callF 1 d__law_whole [] (consV (dF (varF 1)) nilV)))) (tstF (op2F eqD (varF 1) (cF (.int 0)))))
 (retS (op2F eqD (varF 3) (cF (.str "bottom"))))
 skipS)
 (retS (andV (op2F isD (varF 3) (cF .non)) (callF 2 d__law_same [] (consV (dF (varF 2)) (consV (dF (callF 2 d__law_ratio [] (consV (dF (varF 0)) (consV (dF (varF 1)) nilV)))) nilV))))))))))
theorem ok__law_making_holds (T : Tx K mg A) : FnOk P w K mg base (L2.CX P w) 4 A.f__law_making_holds A.fd__law_making_holds ["_law_top", "_law_bottom_here"] (spD ⟨K, mg⟩ 2 d__law_making_holds) :=
 ok_def (N := ["_law_top", "_law_bottom_here", "_law_told", "_law_what", "e"]) rfl (by decide) T.F__law_making_holds sc__law_making_holds fun cdv Ar outer s H E b hr hM hnp hpx =>
 (pts_cons (pts_asg sc__law_making_holds.nd (i := 2) rfl (by first | exact Or.inl rfl | exact Or.inr rfl) pd_non rfl (by first | exact Or.inl rfl | exact Or.inr rfl) (PxOk.of hpx _))
 (pts_cons (pts_asg sc__law_making_holds.nd (i := 3) rfl (by first | exact Or.inl rfl | exact Or.inr rfl) pd_non rfl (by first | exact Or.inl rfl | exact Or.inr rfl) (PxOk.of hpx _))
 (pts_cons (pts_try hpx rfl rfl sc__law_making_holds.nd (i := 4) rfl rfl ⟨by rfl, by decide, .inl T.m_BadRatio⟩ (takes_of rfl rfl rfl rfl) hM (hd_BadRatio_0 T) (fun _ _ _ tk' hp' => (pts_one' (pts_asg sc__law_making_holds.nd (i := 2) rfl (by first | exact Or.inl rfl | exact Or.inr rfl) (q_call hM tk' (ok_make_ratio T) (hr.mono (by decide)) (by rfl) T.m_make_ratio T.k_make_ratio (bd_make_ratio_2 T) (fun _ _ _ => RepL.nil) (pva_cons (p1_d (pd_var (pv 0))) (pva_cons (p1_d (pd_var (pv 1))) pva_nil))) rfl (by first | exact Or.inl rfl | exact Or.inr rfl) (PxOk.of hpx _))))
 (fun _ _ _ _ _ ex b' hz hv hM' hpx' hh => (pts_one' (pts_asg sc__law_making_holds.nd (i := 3) rfl (by first | exact Or.inl rfl | exact Or.inr rfl) (pd_xf hM' hpx' hh hz hv (xf_what_0 T) (pv 4)) rfl (by first | exact Or.inl rfl | exact Or.inr rfl) (pxne hpx' (by decide))))))
 (pts_cons (pts_if (ptb_not (pt_of (q_call hM (takes_of rfl rfl rfl rfl) (ok__law_whole T) (hr.mono (by decide)) (by rfl) T.m__law_whole T.k__law_whole (bd__law_whole_1 T) (fun _ _ _ => RepL.nil) (pva_cons (p1_d (pd_var (pv 0))) pva_nil))))
 (pts_one' (pts_ret (q_eq hM hr (pd_var (pv 3)) pd_str)))
 pts_nil')
 (pts_cons (pts_if (PW.pt (pwb_or (ptb_not (pt_of (q_call hM (takes_of rfl rfl rfl rfl) (ok__law_whole T) (hr.mono (by decide)) (by rfl) T.m__law_whole T.k__law_whole (bd__law_whole_1 T) (fun _ _ _ => RepL.nil) (pva_cons (p1_d (pd_var (pv 1))) pva_nil)))) (pwb_or1 (qt_eq hM hr (pd_var (pv 1)) pd_int))))
 (pts_one' (pts_ret (q_eq hM hr (pd_var (pv 3)) pd_str)))
 pts_nil')
 (pts_one' (pts_ret (pd_and (q_is hM (pd_var (pv 3)) pd_non) (pd_one (q_call hM (takes_of rfl rfl rfl rfl) (ok__law_same T) (hr.mono (by decide)) (by rfl) T.m__law_same T.k__law_same (bd__law_same_2 T) (fun _ _ _ => RepL.nil) (pva_cons (p1_d (pd_var (pv 2))) (pva_cons (p1_d (q_call hM (takes_of rfl rfl rfl rfl) (ok__law_ratio T) (hr.mono (by decide)) (by rfl) T.m__law_ratio T.k__law_ratio (bd__law_ratio_2 T) (fun _ _ _ => RepL.nil) (pva_cons (p1_d (pd_var (pv 0))) (pva_cons (p1_d (pd_var (pv 1))) pva_nil)))) pva_nil))))))))))))
theorem sc__law_bottom : FnScope ["_law_hand_here"] ["_law_hand_here"] (defScope s__law_bottom) := ⟨rfl, rfl, rfl, by decide +kernel, rfl, by decide +kernel, by decide +kernel⟩
/-- slots: 0 _law_hand_here -/
noncomputable def d__law_bottom : Dn := defF 1
 (seqS (ifS (tstF (op2F eqD (callF 2 d__law_draw [] (consV (nmF 0) (consV (dF (cF (.int 3))) nilV))) (cF (.int 0))))
 (retS (op2F addD (cF (.int 1)) (callF 2 d__law_draw [] (consV (nmF 0) (consV (dF (op2F powD (cF (.int 10)) (cF (.int 9)))) nilV)))))
 skipS)
 (retS (op2F addD (cF (.int 1)) (callF 2 d__law_draw [] (consV (nmF 0) (consV (dF (cF (.int 12))) nilV))))))
theorem ok__law_bottom (T : Tx K mg A) : FnOk P w K mg base (L2.CX P w) 3 A.f__law_bottom A.fd__law_bottom ["_law_hand_here"] (spD ⟨K, mg⟩ 1 d__law_bottom) :=
 ok_def (N := ["_law_hand_here"]) rfl (by decide) T.F__law_bottom sc__law_bottom fun cdv Ar outer s H E b hr hM hnp hpx =>
 (pts_cons (pts_if (qt_eq hM hr (q_call hM (takes_of rfl rfl rfl rfl) (ok__law_draw T) (hr.mono (by decide)) (by rfl) T.m__law_draw T.k__law_draw (bd__law_draw_2 T) (fun _ _ _ => RepL.nil) (pva_cons (p1_nm (pv 0)) (pva_cons (p1_d pd_int) pva_nil))) pd_int)
 (pts_one' (pts_ret (q_add hM pd_int (q_call hM (takes_of rfl rfl rfl rfl) (ok__law_draw T) (hr.mono (by decide)) (by rfl) T.m__law_draw T.k__law_draw (bd__law_draw_2 T) (fun _ _ _ => RepL.nil) (pva_cons (p1_nm (pv 0)) (pva_cons (p1_d (q_pow hM pd_int pd_int)) pva_nil))))))
 pts_nil')
 (pts_one' (pts_ret (q_add hM pd_int (q_call hM (takes_of rfl rfl rfl rfl) (ok__law_draw T) (hr.mono (by decide)) (by rfl) T.m__law_draw T.k__law_draw (bd__law_draw_2 T) (fun _ _ _ => RepL.nil) (pva_cons (p1_nm (pv 0)) (pva_cons (p1_d pd_int) pva_nil)))))))
theorem sc_ratio_compare : FnScope ["one", "other", "left", "right"] ["one", "other"] (defScope s_ratio_compare) := ⟨rfl, rfl, rfl, by decide +kernel, rfl, by decide +kernel, by decide +kernel⟩
/-- slots: 0 one 1 other 2 left 3 right -/
noncomputable def d_ratio_compare : Dn := defF 4
 (seqS (asgS 2 (op2F mulD (op2F ixD (varF 0) (cF (.int 0))) (op2F ixD (varF 1) (cF (.int 1)))))
 (seqS (asgS 3 (op2F mulD (op2F ixD (varF 1) (cF (.int 0))) (op2F ixD (varF 0) (cF (.int 1)))))
 (seqS (ifS (tstF (op2F ltD (varF 2) (varF 3)))
 (retS (op1F negD (cF (.int 1))))
 skipS)
 (retS (ifF (tstF (op2F gtD (varF 2) (varF 3))) (cF (.int 1)) (cF (.int 0)))))))
theorem ok_ratio_compare (T : Tx K mg A) : FnOk P w K mg base (L2.CX P w) 1 A.f_ratio_compare A.fd_ratio_compare ["one", "other"] (spD ⟨K, mg⟩ 2 d_ratio_compare) :=
 ok_def (N := ["one", "other", "left", "right"]) rfl (by decide) T.F_ratio_compare sc_ratio_compare fun cdv Ar outer s H E b hr hM hnp hpx =>
 (pts_cons (pts_asg sc_ratio_compare.nd (i := 2) rfl (by first | exact Or.inl rfl | exact Or.inr rfl) (q_mul hM (q_ix hM (pd_var (pv 0)) pd_int (fun _ _ => rfl)) (q_ix hM (pd_var (pv 1)) pd_int (fun _ _ => rfl))) rfl (by first | exact Or.inl rfl | exact Or.inr rfl) (PxOk.of hpx _))
 (pts_cons (pts_asg sc_ratio_compare.nd (i := 3) rfl (by first | exact Or.inl rfl | exact Or.inr rfl) (q_mul hM (q_ix hM (pd_var (pv 1)) pd_int (fun _ _ => rfl)) (q_ix hM (pd_var (pv 0)) pd_int (fun _ _ => rfl))) rfl (by first | exact Or.inl rfl | exact Or.inr rfl) (PxOk.of hpx _))
 (pts_cons (pts_if (qt_lt hM (pd_var (pv 2)) (pd_var (pv 3)))
 (pts_one' (pts_ret (q_neg pd_int)))
 pts_nil')
 (pts_one' (pts_ret (pd_if (qt_gt hM (pd_var (pv 2)) (pd_var (pv 3))) pd_int pd_int))))))
theorem sc_ratio_over : FnScope ["one", "other"] ["one", "other"] (defScope s_ratio_over) := ⟨rfl, rfl, rfl, by decide +kernel, rfl, by decide +kernel, by decide +kernel⟩
/-- slots: 0 one 1 other -/
noncomputable def d_ratio_over : Dn := defF 2
 (seqS (ifS (tstF (op2F eqD (op2F ixD (varF 1) (cF (.int 0))) (cF (.int 0))))
 (raise0S "DividedByNought")
 skipS)
 (retS (callF 2 d_lowest_terms [] (consV (dF (op2F mulD (op2F ixD (varF 0) (cF (.int 0))) (op2F ixD (varF 1) (cF (.int 1))))) (consV (dF (op2F mulD (op2F ixD (varF 0) (cF (.int 1))) (op2F ixD (varF 1) (cF (.int 0))))) nilV)))))
theorem ok_ratio_over (T : Tx K mg A) : FnOk P w K mg base (L2.CX P w) 3 A.f_ratio_over A.fd_ratio_over ["one", "other"] (spD ⟨K, mg⟩ 2 d_ratio_over) :=
 ok_def (N := ["one", "other"]) rfl (by decide) T.F_ratio_over sc_ratio_over fun cdv Ar outer s H E b hr hM hnp hpx =>
 (pts_cons (pts_if (qt_eq hM hr (q_ix hM (pd_var (pv 1)) pd_int (fun _ _ => rfl)) pd_int)
 (pts_one' (pts_raise0 hM rfl (takes_of rfl rfl rfl rfl) T.o_DividedByNought T.i_DividedByNought T.t_DividedByNought (okx_DividedByNought T) (hr.mono (by decide)) (bdx_DividedByNought T) (by rfl) T.m_DividedByNought))
 pts_nil')
 (pts_one' (pts_ret (q_call hM (takes_of rfl rfl rfl rfl) (ok_lowest_terms T) (hr.mono (by decide)) (by rfl) T.m_lowest_terms T.k_lowest_terms (bd_lowest_terms_2 T) (fun _ _ _ => RepL.nil) (pva_cons (p1_d (q_mul hM (q_ix hM (pd_var (pv 0)) pd_int (fun _ _ => rfl)) (q_ix hM (pd_var (pv 1)) pd_int (fun _ _ => rfl)))) (pva_cons (p1_d (q_mul hM (q_ix hM (pd_var (pv 0)) pd_int (fun _ _ => rfl)) (q_ix hM (pd_var (pv 1)) pd_int (fun _ _ => rfl)))) pva_nil))))))
theorem sc_ratio_plus : FnScope ["one", "other"] ["one", "other"] (defScope s_ratio_plus) := ⟨rfl, rfl, rfl, by decide +kernel, rfl, by decide +kernel, by decide +kernel⟩
/-- slots: 0 one 1 other -/
noncomputable def d_ratio_plus : Dn := defF 2
 (retS (callF 2 d_lowest_terms [] (consV (dF (op2F addD (op2F mulD (op2F ixD (varF 0) (cF (.int 0))) (op2F ixD (varF 1) (cF (.int 1)))) (op2F mulD (op2F ixD (varF 1) (cF (.int 0))) (op2F ixD (varF 0) (cF (.int 1)))))) (consV (dF (op2F mulD (op2F ixD (varF 0) (cF (.int 1))) (op2F ixD (varF 1) (cF (.int 1))))) nilV))))
theorem ok_ratio_plus (T : Tx K mg A) : FnOk P w K mg base (L2.CX P w) 3 A.f_ratio_plus A.fd_ratio_plus ["one", "other"] (spD ⟨K, mg⟩ 2 d_ratio_plus) :=
 ok_def (N := ["one", "other"]) rfl (by decide) T.F_ratio_plus sc_ratio_plus fun cdv Ar outer s H E b hr hM hnp hpx =>
 (pts_one' (pts_ret (q_call hM (takes_of rfl rfl rfl rfl) (ok_lowest_terms T) (hr.mono (by decide)) (by rfl) T.m_lowest_terms T.k_lowest_terms (bd_lowest_terms_2 T) (fun _ _ _ => RepL.nil) (pva_cons (p1_d (q_add hM (q_mul hM (q_ix hM (pd_var (pv 0)) pd_int (fun _ _ => rfl)) (q_ix hM (pd_var (pv 1)) pd_int (fun _ _ => rfl))) (q_mul hM (q_ix hM (pd_var (pv 1)) pd_int (fun _ _ => rfl)) (q_ix hM (pd_var (pv 0)) pd_int (fun _ _ => rfl))))) (pva_cons (p1_d (q_mul hM (q_ix hM (pd_var (pv 0)) pd_int (fun _ _ => rfl)) (q_ix hM (pd_var (pv 1)) pd_int (fun _ _ => rfl)))) pva_nil)))))
theorem sc_ratio_minus : FnScope ["one", "other"] ["one", "other"] (defScope s_ratio_minus) := ⟨rfl, rfl, rfl, by decide +kernel, rfl, by decide +kernel, by decide +kernel⟩
/-- slots: 0 one 1 other -/
noncomputable def d_ratio_minus : Dn := defF 2
 (retS (callF 2 d_lowest_terms [] (consV (dF (op2F subD (op2F mulD (op2F ixD (varF 0) (cF (.int 0))) (op2F ixD (varF 1) (cF (.int 1)))) (op2F mulD (op2F ixD (varF 1) (cF (.int 0))) (op2F ixD (varF 0) (cF (.int 1)))))) (consV (dF (op2F mulD (op2F ixD (varF 0) (cF (.int 1))) (op2F ixD (varF 1) (cF (.int 1))))) nilV))))
theorem ok_ratio_minus (T : Tx K mg A) : FnOk P w K mg base (L2.CX P w) 3 A.f_ratio_minus A.fd_ratio_minus ["one", "other"] (spD ⟨K, mg⟩ 2 d_ratio_minus) :=
 ok_def (N := ["one", "other"]) rfl (by decide) T.F_ratio_minus sc_ratio_minus fun cdv Ar outer s H E b hr hM hnp hpx =>
 (pts_one' (pts_ret (q_call hM (takes_of rfl rfl rfl rfl) (ok_lowest_terms T) (hr.mono (by decide)) (by rfl) T.m_lowest_terms T.k_lowest_terms (bd_lowest_terms_2 T) (fun _ _ _ => RepL.nil) (pva_cons (p1_d (q_sub hM (q_mul hM (q_ix hM (pd_var (pv 0)) pd_int (fun _ _ => rfl)) (q_ix hM (pd_var (pv 1)) pd_int (fun _ _ => rfl))) (q_mul hM (q_ix hM (pd_var (pv 1)) pd_int (fun _ _ => rfl)) (q_ix hM (pd_var (pv 0)) pd_int (fun _ _ => rfl))))) (pva_cons (p1_d (q_mul hM (q_ix hM (pd_var (pv 0)) pd_int (fun _ _ => rfl)) (q_ix hM (pd_var (pv 1)) pd_int (fun _ _ => rfl)))) pva_nil)))))
theorem sc__law_less_by : FnScope ["_law_a", "_law_b"] ["_law_a", "_law_b"] (defScope s__law_less_by) := ⟨rfl, rfl, rfl, by decide +kernel, rfl, by decide +kernel, by decide +kernel⟩
/-- slots: 0 _law_a 1 _law_b -/
noncomputable def d__law_less_by : Dn := defF 2
 (retS (callF 2 d__law_ratio [] (consV (dF (op2F subD (op2F mulD (op2F ixD (varF 0) (cF (.int 0))) (op2F ixD (varF 1) (cF (.int 1)))) (op2F mulD (op2F ixD (varF 1) (cF (.int 0))) (op2F ixD (varF 0) (cF (.int 1)))))) (consV (dF (op2F mulD (op2F ixD (varF 0) (cF (.int 1))) (op2F ixD (varF 1) (cF (.int 1))))) nilV))))
theorem ok__law_less_by (T : Tx K mg A) : FnOk P w K mg base (L2.CX P w) 3 A.f__law_less_by A.fd__law_less_by ["_law_a", "_law_b"] (spD ⟨K, mg⟩ 2 d__law_less_by) :=
 ok_def (N := ["_law_a", "_law_b"]) rfl (by decide) T.F__law_less_by sc__law_less_by fun cdv Ar outer s H E b hr hM hnp hpx =>
 (pts_one' (pts_ret (q_call hM (takes_of rfl rfl rfl rfl) (ok__law_ratio T) (hr.mono (by decide)) (by rfl) T.m__law_ratio T.k__law_ratio (bd__law_ratio_2 T) (fun _ _ _ => RepL.nil) (pva_cons (p1_d (q_sub hM (q_mul hM (q_ix hM (pd_var (pv 0)) pd_int (fun _ _ => rfl)) (q_ix hM (pd_var (pv 1)) pd_int (fun _ _ => rfl))) (q_mul hM (q_ix hM (pd_var (pv 1)) pd_int (fun _ _ => rfl)) (q_ix hM (pd_var (pv 0)) pd_int (fun _ _ => rfl))))) (pva_cons (p1_d (q_mul hM (q_ix hM (pd_var (pv 0)) pd_int (fun _ _ => rfl)) (q_ix hM (pd_var (pv 1)) pd_int (fun _ _ => rfl)))) pva_nil)))))
theorem sc_ratio_times : FnScope ["one", "other"] ["one", "other"] (defScope s_ratio_times) := ⟨rfl, rfl, rfl, by decide +kernel, rfl, by decide +kernel, by decide +kernel⟩
/-- slots: 0 one 1 other -/
noncomputable def d_ratio_times : Dn := defF 2
 (retS (callF 2 d_lowest_terms [] (consV (dF (op2F mulD (op2F ixD (varF 0) (cF (.int 0))) (op2F ixD (varF 1) (cF (.int 0))))) (consV (dF (op2F mulD (op2F ixD (varF 0) (cF (.int 1))) (op2F ixD (varF 1) (cF (.int 1))))) nilV))))
theorem ok_ratio_times (T : Tx K mg A) : FnOk P w K mg base (L2.CX P w) 3 A.f_ratio_times A.fd_ratio_times ["one", "other"] (spD ⟨K, mg⟩ 2 d_ratio_times) :=
 ok_def (N := ["one", "other"]) rfl (by decide) T.F_ratio_times sc_ratio_times fun cdv Ar outer s H E b hr hM hnp hpx =>
 (pts_one' (pts_ret (q_call hM (takes_of rfl rfl rfl rfl) (ok_lowest_terms T) (hr.mono (by decide)) (by rfl) T.m_lowest_terms T.k_lowest_terms (bd_lowest_terms_2 T) (fun _ _ _ => RepL.nil) (pva_cons (p1_d (q_mul hM (q_ix hM (pd_var (pv 0)) pd_int (fun _ _ => rfl)) (q_ix hM (pd_var (pv 1)) pd_int (fun _ _ => rfl)))) (pva_cons (p1_d (q_mul hM (q_ix hM (pd_var (pv 0)) pd_int (fun _ _ => rfl)) (q_ix hM (pd_var (pv 1)) pd_int (fun _ _ => rfl)))) pva_nil)))))
theorem sc__law_times : FnScope ["_law_a", "_law_b"] ["_law_a", "_law_b"] (defScope s__law_times) := ⟨rfl, rfl, rfl, by decide +kernel, rfl, by decide +kernel, by decide +kernel⟩
/-- slots: 0 _law_a 1 _law_b -/
noncomputable def d__law_times : Dn := defF 2
 (retS (callF 2 d__law_ratio [] (consV (dF (op2F mulD (op2F ixD (varF 0) (cF (.int 0))) (op2F ixD (varF 1) (cF (.int 0))))) (consV (dF (op2F mulD (op2F ixD (varF 0) (cF (.int 1))) (op2F ixD (varF 1) (cF (.int 1))))) nilV))))
theorem ok__law_times (T : Tx K mg A) : FnOk P w K mg base (L2.CX P w) 3 A.f__law_times A.fd__law_times ["_law_a", "_law_b"] (spD ⟨K, mg⟩ 2 d__law_times) :=
 ok_def (N := ["_law_a", "_law_b"]) rfl (by decide) T.F__law_times sc__law_times fun cdv Ar outer s H E b hr hM hnp hpx =>
 (pts_one' (pts_ret (q_call hM (takes_of rfl rfl rfl rfl) (ok__law_ratio T) (hr.mono (by decide)) (by rfl) T.m__law_ratio T.k__law_ratio (bd__law_ratio_2 T) (fun _ _ _ => RepL.nil) (pva_cons (p1_d (q_mul hM (q_ix hM (pd_var (pv 0)) pd_int (fun _ _ => rfl)) (q_ix hM (pd_var (pv 1)) pd_int (fun _ _ => rfl)))) (pva_cons (p1_d (q_mul hM (q_ix hM (pd_var (pv 0)) pd_int (fun _ _ => rfl)) (q_ix hM (pd_var (pv 1)) pd_int (fun _ _ => rfl)))) pva_nil)))))
theorem sc__law_pair_holds : FnScope ["_law_a", "_law_b", "_law_dues", "_law_told", "_law_due", "_law_left", "_law_right", "_law_order", "_law_quotient", "_law_refused", "e"] ["_law_a", "_law_b"] (defScope s__law_pair_holds) := ⟨rfl, rfl, rfl, by decide +kernel, rfl, by decide +kernel, by decide +kernel⟩
/-- slots: 0 _law_a 1 _law_b 2 _law_dues 3 _law_told 4 _law_due 5 _law_left 6 _law_right 7 _law_order 8 _law_quotient 9 _law_refused 10 e -/
noncomputable def d__law_pair_holds : Dn := defF 11
 (seqS (asgS 2 (frF (lstF (consA (tupF (consA (callF 2 d_ratio_plus [] (consV (dF (varF 0)) (consV (dF (varF 1)) nilV))) (consA (callF 2 d__law_plus [] (consV (dF (varF 0)) (consV (dF (varF 1)) nilV))) nilA))) (consA (tupF (consA (callF 2 d_ratio_minus [] (consV (dF (varF 0)) (consV (dF (varF 1)) nilV))) (consA (callF 2 d__law_less_by [] (consV (dF (varF 0)) (consV (dF (varF 1)) nilV))) nilA))) (consA (tupF (consA (callF 2 d_ratio_times [] (consV (dF (varF 0)) (consV (dF (varF 1)) nilV))) (consA (callF 2 d__law_times [] (consV (dF (varF 0)) (consV (dF (varF 1)) nilV))) nilA))) nilA))))))
 (seqS (forS (itF (varF 2)) (tgT 2 (tgCons (tgN 3) (tgCons (tgN 4) tgNil)))
 (ifS (notB (tstF (callF 2 d__law_same [] (consV (dF (varF 3)) (consV (dF (varF 4)) nilV)))))
 (retS (cF (.bl false)))
 skipS))
 (seqS (asgS 5 (op2F mulD (op2F ixD (varF 0) (cF (.int 0))) (op2F ixD (varF 1) (cF (.int 1)))))
 (seqS (asgS 6 (op2F mulD (op2F ixD (varF 1) (cF (.int 0))) (op2F ixD (varF 0) (cF (.int 1)))))
 (seqS (asgS 7 (callF 2 d_ratio_compare [] (consV (dF (varF 0)) (consV (dF (varF 1)) nilV))))
 (seqS (ifS (orB (notB (tstF (callF 1 d__law_whole [] (consV (dF (varF 7)) nilV)))) (tstF (op2F neD (varF 7) (op2F subD (bltF intF (consV (dF (op2F gtD (varF 5) (varF 6))) nilV)) (bltF intF (consV (dF (op2F ltD (varF 5) (varF 6))) nilV))))))
 (retS (cF (.bl false)))
 skipS)
 (seqS (asgS 8 (cF .non))
 (seqS (asgS 9 (cF (.bl false)))
 (seqS (tryF 10 (hdT [("DividedByNought", true)]) (asgS 8 (callF 2 d_ratio_over [] (consV (dF (varF 0)) (consV (dF (varF 1)) nilV)))) (fun ex => (asgS 9 (andV (isxF [("DividedByNought", true)] ex) (andV (isxF [("DividedByNought", true)] ex) (notV (isxF [("DividedByNought", false)] ex)))))))
 (seqS (ifS (tstF (op2F eqD (op2F ixD (varF 1) (cF (.int 0))) (cF (.int 0))))
 (retS (varF 9))
 skipS)
 (retS (andV (notV (varF 9)) (callF 2 d__law_same [] (consV (dF (varF 8)) (consV (dF (callF 2 d__law_ratio [] (consV (dF (op2F mulD (op2F ixD (varF 0) (cF (.int 0))) (op2F ixD (varF 1) (cF (.int 1))))) (consV (dF (op2F mulD (op2F ixD (varF 0) (cF (.int 1))) (op2F ixD (varF 1) (cF (.int 0))))) nilV)))) nilV)))))))))))))))
theorem ok__law_pair_holds (T : Tx K mg A) : FnOk P w K mg base (L2.CX P w) 4 A.f__law_pair_holds A.fd__law_pair_holds ["_law_a", "_law_b"] (spD ⟨K, mg⟩ 2 d__law_pair_holds) :=
 ok_def (N := ["_law_a", "_law_b", "_law_dues", "_law_told", "_law_due", "_law_left", "_law_right", "_law_order", "_law_quotient", "_law_refused", "e"]) rfl (by decide) T.F__law_pair_holds sc__law_pair_holds fun cdv Ar outer s H E b hr hM hnp hpx =>
 (pts_cons (pts_asg sc__law_pair_holds.nd (i := 2) rfl (by first | exact Or.inl rfl | exact Or.inr rfl) (pd_fr (pf_lst (pda_cons (pd_tup (pda_cons (q_call hM (takes_of rfl rfl rfl rfl) (ok_ratio_plus T) (hr.mono (by decide)) (by rfl) T.m_ratio_plus T.k_ratio_plus (bd_ratio_plus_2 T) (fun _ _ _ => RepL.nil) (pva_cons (p1_d (pd_var (pv 0))) (pva_cons (p1_d (pd_var (pv 1))) pva_nil))) (pda_cons (q_call hM (takes_of rfl rfl rfl rfl) (ok__law_plus T) (hr.mono (by decide)) (by rfl) T.m__law_plus T.k__law_plus (bd__law_plus_2 T) (fun _ _ _ => RepL.nil) (pva_cons (p1_d (pd_var (pv 0))) (pva_cons (p1_d (pd_var (pv 1))) pva_nil))) pda_nil))) (pda_cons (pd_tup (pda_cons (q_call hM (takes_of rfl rfl rfl rfl) (ok_ratio_minus T) (hr.mono (by decide)) (by rfl) T.m_ratio_minus T.k_ratio_minus (bd_ratio_minus_2 T) (fun _ _ _ => RepL.nil) (pva_cons (p1_d (pd_var (pv 0))) (pva_cons (p1_d (pd_var (pv 1))) pva_nil))) (pda_cons (q_call hM (takes_of rfl rfl rfl rfl) (ok__law_less_by T) (hr.mono (by decide)) (by rfl) T.m__law_less_by T.k__law_less_by (bd__law_less_by_2 T) (fun _ _ _ => RepL.nil) (pva_cons (p1_d (pd_var (pv 0))) (pva_cons (p1_d (pd_var (pv 1))) pva_nil))) pda_nil))) (pda_cons (pd_tup (pda_cons (q_call hM (takes_of rfl rfl rfl rfl) (ok_ratio_times T) (hr.mono (by decide)) (by rfl) T.m_ratio_times T.k_ratio_times (bd_ratio_times_2 T) (fun _ _ _ => RepL.nil) (pva_cons (p1_d (pd_var (pv 0))) (pva_cons (p1_d (pd_var (pv 1))) pva_nil))) (pda_cons (q_call hM (takes_of rfl rfl rfl rfl) (ok__law_times T) (hr.mono (by decide)) (by rfl) T.m__law_times T.k__law_times (bd__law_times_2 T) (fun _ _ _ => RepL.nil) (pva_cons (p1_d (pd_var (pv 0))) (pva_cons (p1_d (pd_var (pv 1))) pva_nil))) pda_nil))) pda_nil))))) rfl (by first | exact Or.inl rfl | exact Or.inr rfl) (PxOk.of hpx _))
 (pts_cons (pts_for (passes_of rfl) rfl (pi_d hM (pd_var (pv 2))) (pg_tupD hM rfl (pgs_consD (pg_n (pg_name (i := 3) sc__law_pair_holds.nd rfl (by first | exact Or.inl rfl | exact Or.inr rfl)) (PxOk.of hpx _)) (pgs_consD (pg_n (pg_name (i := 4) sc__law_pair_holds.nd rfl (by first | exact Or.inl rfl | exact Or.inr rfl)) (PxOk.of hpx _)) pgs_nilD)))
 (pts_one' (pts_if (ptb_not (pt_of (q_call hM (takes_of rfl rfl rfl rfl) (ok__law_same T) (hr.mono (by decide)) (by rfl) T.m__law_same T.k__law_same (bd__law_same_2 T) (fun _ _ _ => RepL.nil) (pva_cons (p1_d (pd_var (pv 3))) (pva_cons (p1_d (pd_var (pv 4))) pva_nil)))))
 (pts_one' (pts_ret pd_bl))
 pts_nil')))
 (pts_cons (pts_asg sc__law_pair_holds.nd (i := 5) rfl (by first | exact Or.inl rfl | exact Or.inr rfl) (q_mul hM (q_ix hM (pd_var (pv 0)) pd_int (fun _ _ => rfl)) (q_ix hM (pd_var (pv 1)) pd_int (fun _ _ => rfl))) rfl (by first | exact Or.inl rfl | exact Or.inr rfl) (PxOk.of hpx _))
 (pts_cons (pts_asg sc__law_pair_holds.nd (i := 6) rfl (by first | exact Or.inl rfl | exact Or.inr rfl) (q_mul hM (q_ix hM (pd_var (pv 1)) pd_int (fun _ _ => rfl)) (q_ix hM (pd_var (pv 0)) pd_int (fun _ _ => rfl))) rfl (by first | exact Or.inl rfl | exact Or.inr rfl) (PxOk.of hpx _))
 (pts_cons (pts_asg sc__law_pair_holds.nd (i := 7) rfl (by first | exact Or.inl rfl | exact Or.inr rfl) (q_call hM (takes_of rfl rfl rfl rfl) (ok_ratio_compare T) (hr.mono (by decide)) (by rfl) T.m_ratio_compare T.k_ratio_compare (bd_ratio_compare_2 T) (fun _ _ _ => RepL.nil) (pva_cons (p1_d (pd_var (pv 0))) (pva_cons (p1_d (pd_var (pv 1))) pva_nil))) rfl (by first | exact Or.inl rfl | exact Or.inr rfl) (PxOk.of hpx _))
 (pts_cons (pts_if (PW.pt (pwb_or (ptb_not (pt_of (q_call hM (takes_of rfl rfl rfl rfl) (ok__law_whole T) (hr.mono (by decide)) (by rfl) T.m__law_whole T.k__law_whole (bd__law_whole_1 T) (fun _ _ _ => RepL.nil) (pva_cons (p1_d (pd_var (pv 7))) pva_nil)))) (pwb_or1 (qt_ne hM hr (pd_var (pv 7)) (q_sub hM (c_int hM (by rfl) T.z_int (pva_cons (p1_d (q_gt hM (pd_var (pv 5)) (pd_var (pv 6)))) pva_nil)) (c_int hM (by rfl) T.z_int (pva_cons (p1_d (q_lt hM (pd_var (pv 5)) (pd_var (pv 6)))) pva_nil)))))))
 (pts_one' (pts_ret pd_bl))
 pts_nil')
 (pts_cons (pts_asg sc__law_pair_holds.nd (i := 8) rfl (by first | exact Or.inl rfl | exact Or.inr rfl) pd_non rfl (by first | exact Or.inl rfl | exact Or.inr rfl) (PxOk.of hpx _))
 (pts_cons (pts_asg sc__law_pair_holds.nd (i := 9) rfl (by first | exact Or.inl rfl | exact Or.inr rfl) pd_bl rfl (by first | exact Or.inl rfl | exact Or.inr rfl) (PxOk.of hpx _))
 (pts_cons (pts_try hpx rfl rfl sc__law_pair_holds.nd (i := 10) rfl rfl ⟨by rfl, by decide, .inl T.m_CodeError⟩ (takes_of rfl rfl rfl rfl) hM (hd_CodeError_1 T) (fun _ _ _ tk' hp' => (pts_one' (pts_asg sc__law_pair_holds.nd (i := 8) rfl (by first | exact Or.inl rfl | exact Or.inr rfl) (q_call hM tk' (ok_ratio_over T) (hr.mono (by decide)) (by rfl) T.m_ratio_over T.k_ratio_over (bd_ratio_over_2 T) (fun _ _ _ => RepL.nil) (pva_cons (p1_d (pd_var (pv 0))) (pva_cons (p1_d (pd_var (pv 1))) pva_nil))) rfl (by first | exact Or.inl rfl | exact Or.inr rfl) (PxOk.of hpx _))))
 (fun _ _ _ _ _ ex b' hz hv hM' hpx' hh => (pts_one' (pts_asg sc__law_pair_holds.nd (i := 9) rfl (by first | exact Or.inl rfl | exact Or.inr rfl) (pd_and (pd_isx (c := .ref A.c_DividedByNought) (cv := .ref A.c_DividedByNought) hM' hpx' hh hz hv (isx_DividedByNought_2 T) (fun _ h => h) (by rfl) T.z_isinstance (pv 10) (pe_glob (by rfl) T.m_DividedByNought rfl)) (pd_and (pd_isx (c := .ty "ValueError") (cv := .type "ValueError") hM' hpx' hh hz hv (isx_ValueError_1 T) (fun _ h => h) (by rfl) T.z_isinstance (pv 10) (tyN (by rfl) T.z_ValueError (by decide +kernel))) (pd_one (pd_not (pd_isx (c := .ref A.c_BadRatio) (cv := .ref A.c_BadRatio) hM' hpx' hh hz hv (isx_BadRatio_0 T) (fun _ h => h) (by rfl) T.z_isinstance (pv 10) (pe_glob (by rfl) T.m_BadRatio rfl)))))) rfl (by first | exact Or.inl rfl | exact Or.inr rfl) (pxne hpx' (by decide))))))
 (pts_cons (pts_if (qt_eq hM hr (q_ix hM (pd_var (pv 1)) pd_int (fun _ _ => rfl)) pd_int)
 (pts_one' (pts_ret (pd_var (pv 9))))
 pts_nil')
 (pts_one' (pts_ret (pd_and (pd_not (pd_var (pv 9))) (pd_one (q_call hM (takes_of rfl rfl rfl rfl) (ok__law_same T) (hr.mono (by decide)) (by rfl) T.m__law_same T.k__law_same (bd__law_same_2 T) (fun _ _ _ => RepL.nil) (pva_cons (p1_d (pd_var (pv 8))) (pva_cons (p1_d (q_call hM (takes_of rfl rfl rfl rfl) (ok__law_ratio T) (hr.mono (by decide)) (by rfl) T.m__law_ratio T.k__law_ratio (bd__law_ratio_2 T) (fun _ _ _ => RepL.nil) (pva_cons (p1_d (q_mul hM (q_ix hM (pd_var (pv 0)) pd_int (fun _ _ => rfl)) (q_ix hM (pd_var (pv 1)) pd_int (fun _ _ => rfl)))) (pva_cons (p1_d (q_mul hM (q_ix hM (pd_var (pv 0)) pd_int (fun _ _ => rfl)) (q_ix hM (pd_var (pv 1)) pd_int (fun _ _ => rfl)))) pva_nil)))) pva_nil)))))))))))))))))
theorem sc_ratio_sum : FnScope ["ratios", "total", "part"] ["ratios"] (defScope s_ratio_sum) := ⟨rfl, rfl, rfl, by decide +kernel, rfl, by decide +kernel, by decide +kernel⟩
/-- slots: 0 ratios 1 total 2 part -/
noncomputable def d_ratio_sum : Dn := defF 3
 (seqS (asgS 1 (cF k_ZERO))
 (seqS (forS (itF (varF 0)) (tgN 2)
 (asgS 1 (callF 2 d_ratio_plus [] (consV (dF (varF 1)) (consV (dF (varF 2)) nilV)))))
 (retS (varF 1))))
theorem ok_ratio_sum (T : Tx K mg A) : FnOk P w K mg base (L2.CX P w) 4 A.f_ratio_sum A.fd_ratio_sum ["ratios"] (spD ⟨K, mg⟩ 1 d_ratio_sum) :=
 ok_def (N := ["ratios", "total", "part"]) rfl (by decide) T.F_ratio_sum sc_ratio_sum fun cdv Ar outer s H E b hr hM hnp hpx =>
 (pts_cons (pts_asg sc_ratio_sum.nd (i := 1) rfl (by first | exact Or.inl rfl | exact Or.inr rfl) (pd_glob (by rfl) T.m_ZERO (Classical.choose_spec T.r_ZERO).1 (rk_ZERO T hM)) rfl (by first | exact Or.inl rfl | exact Or.inr rfl) (PxOk.of hpx _))
 (pts_cons (pts_for (passes_of rfl) rfl (pi_d hM (pd_var (pv 0))) (pg_n (pg_name (i := 2) sc_ratio_sum.nd rfl (by first | exact Or.inl rfl | exact Or.inr rfl)) (PxOk.of hpx _))
 (pts_one' (pts_asg sc_ratio_sum.nd (i := 1) rfl (by first | exact Or.inl rfl | exact Or.inr rfl) (q_call hM (takes_of rfl rfl rfl rfl) (ok_ratio_plus T) (hr.mono (by decide)) (by rfl) T.m_ratio_plus T.k_ratio_plus (bd_ratio_plus_2 T) (fun _ _ _ => RepL.nil) (pva_cons (p1_d (pd_var (pv 1))) (pva_cons (p1_d (pd_var (pv 2))) pva_nil))) rfl (by first | exact Or.inl rfl | exact Or.inr rfl) (PxOk.of hpx _))))
 (pts_one' (pts_ret (pd_var (pv 1))))))
theorem sc_law : FnScope ["_law_script", "_law_hand_here", "_law_ratios", "_law_k", "_law_total", "_law_part_here", "_law_a", "_law_b", "_law_odd", "_law_top", "_law_bottom_here"] ["_law_script"] (defScope s_law) := ⟨rfl, rfl, rfl, by decide +kernel, rfl, by decide +kernel, by decide +kernel⟩
/-- slots: 0 _law_script 1 _law_hand_here 2 _law_ratios 3 _law_k 4 _law_total 5 _law_part_here 6 _law_a 7 _law_b 8 _law_odd 9 _law_top 10 _law_bottom_here -/
noncomputable def d_law : Dn := defF 11
 (seqS (asgO 1 (callFF 1 d__law_hand [] (consV (dF (varF 0)) nilV)))
 (seqS (asgO 2 (lstF nilA))
 (seqS (forS (faF rng1D (consA (op2F addD (cF (.int 2)) (callF 2 d__law_draw [] (consV (nmF 1) (consV (dF (cF (.int 4))) nilV)))) nilA)) (tgN 3)
 (exprS (apF 2 (callF 2 d__law_ratio [] (consV (dF (callF 1 d__law_number [] (consV (nmF 1) nilV))) (consV (dF (callF 1 d__law_bottom [] (consV (nmF 1) nilV))) nilV))))))
 (seqS (ifS (tstF (op2F eqD (callF 2 d__law_draw [] (consV (nmF 1) (consV (dF (cF (.int 5))) nilV))) (cF (.int 0))))
 (setS 2 (cF (.int 1)) (op2V ixD (nmF 2) (dF (cF (.int 0)))))
 skipS)
 (seqS (ifS (tstF (op2F eqD (callF 2 d__law_draw [] (consV (nmF 1) (consV (dF (cF (.int 5))) nilV))) (cF (.int 0))))
 (setS 2 (cF (.int 1)) (tupF (consA (cF (.int 0)) (consA (cF (.int 1)) nilA))))
 skipS)
 (seqS (asgS 4 (tupF (consA (cF (.int 0)) (consA (cF (.int 1)) nilA))))
 (seqS (forS (itF (frzF 2)) (tgN 5)
 (seqS (ifS (orB (notB (tstF (callF 2 d__law_truth [] (consV (dF (callF 1 d_is_ratio [] (consV (dF (varF 5)) nilV))) (consV (dF (cF (.bl true))) nilV))))) (notB (tstF (callF 2 d__law_truth [] (consV (dF (callF 1 d_is_share [] (consV (dF (varF 5)) nilV))) (consV (dF (chF leD leD (cF (.int 0)) (op2F ixD (varF 5) (cF (.int 0))) (op2F ixD (varF 5) (cF (.int 1))))) nilV))))))
 (retS (cF (.bl false)))
 skipS)
 (asgS 4 (callF 2 d__law_plus [] (consV (dF (varF 4)) (consV (dF (varF 5)) nilV))))))
 (seqS (forS (itF (frF (slcF (dF (frzF 2)) noPart (partF (cF (.int 3)))))) (tgN 6)
 (forS (itF (frF (slcF (dF (frzF 2)) noPart (partF (cF (.int 3)))))) (tgN 7)
 (ifS (notB (tstF (callF 2 d__law_pair_holds [] (consV (dF (varF 6)) (consV (dF (varF 7)) nilV)))))
 (retS (cF (.bl false)))
 skipS)))
 (seqS (ifS (orB (notB (tstF (callF 2 d__law_same [] (consV (dF (callF 1 d_ratio_sum [] (consV (dF (frF (bltFF listD (consV (nmF 2) nilV)))) nilV))) (consV (dF (varF 4)) nilV))))) (notB (tstF (callF 2 d__law_same [] (consV (dF (callF 1 d_ratio_sum [] (consV (dF (tupF nilA)) nilV))) (consV (dF (tupF (consA (cF (.int 0)) (consA (cF (.int 1)) nilA)))) nilV))))))
 (retS (cF (.bl false)))
 skipS)
 (seqS (asgS 6 (callF 1 d__law_number [] (consV (nmF 1) nilV)))
 (seqS (asgS 7 (callF 1 d__law_number [] (consV (nmF 1) nilV)))
 (seqS (asgS 5 (callF 2 d_common_divisor [] (consV (dF (varF 6)) (consV (dF (varF 7)) nilV))))
 (seqS (ifS (orB (notB (tstF (callF 1 d__law_whole [] (consV (dF (varF 5)) nilV)))) (tstF (op2F neD (varF 5) (callF 2 d__law_part [] (consV (dF (varF 6)) (consV (dF (varF 7)) nilV))))))
 (retS (cF (.bl false)))
 skipS)
 (seqS (asgS 8 (op2F ixD (tupF (consA (cF (.str "1")) (consA (cF .non) (consA (cF (.bl true)) (consA (tupF (consA (cF (.int 1)) (consA (cF (.int 1)) nilA))) nilA))))) (callF 2 d__law_draw [] (consV (nmF 1) (consV (dF (cF (.int 4))) nilV)))))
 (seqS (forS (itF (frF (lstF (consA (tupF (consA (varF 6) (consA (varF 7) nilA))) (consA (tupF (consA (varF 6) (consA (cF (.int 0)) nilA))) (consA (tupF (consA (varF 8) (consA (varF 7) nilA))) (consA (tupF (consA (varF 6) (consA (varF 8) nilA))) (consA (tupF (consA (varF 8) (consA (cF (.int 0)) nilA))) (consA (tupF (consA (varF 7) (consA (op1F negD (bltF absD (consV (dF (varF 6)) nilV))) nilA))) nilA))))))))) (tgT 2 (tgCons (tgN 9) (tgCons (tgN 10) tgNil)))
 (ifS (notB (tstF (callF 2 d__law_making_holds [] (consV (dF (varF 9)) (consV (dF (varF 10)) nilV)))))
 (retS (cF (.bl false)))
 skipS))
 (seqS (ifS (orB (notB (tstF (callF 2 d__law_same [] (consV (dF (callF 2 d_make_ratio [(.int 1)] (consV (dF (varF 6)) nilV))) (consV (dF (tupF (consA (varF 6) (consA (cF (.int 1)) nilA)))) nilV))))) (tstF (op2F neD (tupF (consA (cF k_ZERO) (consA (cF k_ONE) (consA (cF k_HALF) nilA)))) (tupF (consA (tupF (consA (cF (.int 0)) (consA (cF (.int 1)) nilA))) (consA (tupF (consA (cF (.int 1)) (consA (cF (.int 1)) nilA))) (consA (tupF (consA (cF (.int 1)) (consA (cF (.int 2)) nilA))) nilA)))))))
 (retS (cF (.bl false)))
 skipS)
 (retS (andV (callF 0 d__law_things_hold [] nilV) (callF 3 d__law_bounds_hold [] (consV (dF (varF 6)) (consV (dF (varF 7)) (consV (dF (callF 1 d__law_number [] (consV (nmF 1) nilV))) nilV))))))))))))))))))))))
theorem ok_law (T : Tx K mg A) : FnOk P w K mg base (L2.CX P w) 5 A.f_law A.fd_law ["_law_script"] (spD ⟨K, mg⟩ 1 d_law) :=
 ok_def (N := ["_law_script", "_law_hand_here", "_law_ratios", "_law_k", "_law_total", "_law_part_here", "_law_a", "_law_b", "_law_odd", "_law_top", "_law_bottom_here"]) rfl (by decide) T.F_law sc_law fun cdv Ar outer s H E b hr hM hnp hpx =>
 (pts_cons (pts_asgO (npl hnp (by decide)) sc_law.nd (i := 1) rfl (by first | exact Or.inl rfl | exact Or.inr rfl) (f_call hM (takes_of rfl rfl rfl rfl) (ok__law_hand T) (hr.mono (by decide)) (by rfl) T.m__law_hand T.k__law_hand (bd__law_hand_1 T) (fun _ _ _ => RepL.nil) (pva_cons (p1_d (pd_var (pv 0))) pva_nil)) rfl (by first | exact Or.inl rfl | exact Or.inr rfl) (PxOk.of hpx _))
 (pts_cons (pts_asgO (npl hnp (by decide)) sc_law.nd (i := 2) rfl (by first | exact Or.inl rfl | exact Or.inr rfl) (pf_lst pda_nil) rfl (by first | exact Or.inl rfl | exact Or.inr rfl) (PxOk.of hpx _))
 (pts_cons (pts_for (passes_of rfl) rfl (pi_rng1 (by rfl) T.z_range (pda_cons (q_add hM pd_int (q_call hM (takes_of rfl rfl rfl rfl) (ok__law_draw T) (hr.mono (by decide)) (by rfl) T.m__law_draw T.k__law_draw (bd__law_draw_2 T) (fun _ _ _ => RepL.nil) (pva_cons (p1_nm (pv 1)) (pva_cons (p1_d pd_int) pva_nil)))) pda_nil)) (pg_n (pg_name (i := 3) sc_law.nd rfl (by first | exact Or.inl rfl | exact Or.inr rfl)) (PxOk.of hpx _))
 (pts_one' (pts_expr (pd_append (pv 2) (q_call hM (takes_of rfl rfl rfl rfl) (ok__law_ratio T) (hr.mono (by decide)) (by rfl) T.m__law_ratio T.k__law_ratio (bd__law_ratio_2 T) (fun _ _ _ => RepL.nil) (pva_cons (p1_d (q_call hM (takes_of rfl rfl rfl rfl) (ok__law_number T) (hr.mono (by decide)) (by rfl) T.m__law_number T.k__law_number (bd__law_number_1 T) (fun _ _ _ => RepL.nil) (pva_cons (p1_nm (pv 1)) pva_nil))) (pva_cons (p1_d (q_call hM (takes_of rfl rfl rfl rfl) (ok__law_bottom T) (hr.mono (by decide)) (by rfl) T.m__law_bottom T.k__law_bottom (bd__law_bottom_1 T) (fun _ _ _ => RepL.nil) (pva_cons (p1_nm (pv 1)) pva_nil))) pva_nil)))))))
 (pts_cons (pts_if (qt_eq hM hr (q_call hM (takes_of rfl rfl rfl rfl) (ok__law_draw T) (hr.mono (by decide)) (by rfl) T.m__law_draw T.k__law_draw (bd__law_draw_2 T) (fun _ _ _ => RepL.nil) (pva_cons (p1_nm (pv 1)) (pva_cons (p1_d pd_int) pva_nil))) pd_int)
 (pts_one' (pts_set (pv 2) pd_int (v_ix hM (p1_nm (pv 2)) (p1_d pd_int) (fun _ _ => rfl))))
 pts_nil')
 (pts_cons (pts_if (qt_eq hM hr (q_call hM (takes_of rfl rfl rfl rfl) (ok__law_draw T) (hr.mono (by decide)) (by rfl) T.m__law_draw T.k__law_draw (bd__law_draw_2 T) (fun _ _ _ => RepL.nil) (pva_cons (p1_nm (pv 1)) (pva_cons (p1_d pd_int) pva_nil))) pd_int)
 (pts_one' (pts_set (pv 2) pd_int (pd_tup (pda_cons pd_int (pda_cons pd_int pda_nil)))))
 pts_nil')
 (pts_cons (pts_asg sc_law.nd (i := 4) rfl (by first | exact Or.inl rfl | exact Or.inr rfl) (pd_tup (pda_cons pd_int (pda_cons pd_int pda_nil))) rfl (by first | exact Or.inl rfl | exact Or.inr rfl) (PxOk.of hpx _))
 (pts_cons (pts_for (passes_of rfl) rfl (pi_d hM (pd_frz (pv 2) (npl hnp (by decide)))) (pg_n (pg_name (i := 5) sc_law.nd rfl (by first | exact Or.inl rfl | exact Or.inr rfl)) (PxOk.of hpx _))
 (pts_cons (pts_if (PW.pt (pwb_or (ptb_not (pt_of (q_call hM (takes_of rfl rfl rfl rfl) (ok__law_truth T) (hr.mono (by decide)) (by rfl) T.m__law_truth T.k__law_truth (bd__law_truth_2 T) (fun _ _ _ => RepL.nil) (pva_cons (p1_d (q_call hM (takes_of rfl rfl rfl rfl) (ok_is_ratio T) (hr.mono (by decide)) (by rfl) T.m_is_ratio T.k_is_ratio (bd_is_ratio_1 T) (fun _ _ _ => RepL.nil) (pva_cons (p1_d (pd_var (pv 5))) pva_nil))) (pva_cons (p1_d pd_bl) pva_nil))))) (pwb_or1 (ptb_not (pt_of (q_call hM (takes_of rfl rfl rfl rfl) (ok__law_truth T) (hr.mono (by decide)) (by rfl) T.m__law_truth T.k__law_truth (bd__law_truth_2 T) (fun _ _ _ => RepL.nil) (pva_cons (p1_d (q_call hM (takes_of rfl rfl rfl rfl) (ok_is_share T) (hr.mono (by decide)) (by rfl) T.m_is_share T.k_is_share (bd_is_share_1 T) (fun _ _ _ => RepL.nil) (pva_cons (p1_d (pd_var (pv 5))) pva_nil))) (pva_cons (p1_d (q_le_le hM pd_int (q_ix hM (pd_var (pv 5)) pd_int (fun _ _ => rfl)) (q_ix hM (pd_var (pv 5)) pd_int (fun _ _ => rfl)))) pva_nil))))))))
 (pts_one' (pts_ret pd_bl))
 pts_nil')
 (pts_one' (pts_asg sc_law.nd (i := 4) rfl (by first | exact Or.inl rfl | exact Or.inr rfl) (q_call hM (takes_of rfl rfl rfl rfl) (ok__law_plus T) (hr.mono (by decide)) (by rfl) T.m__law_plus T.k__law_plus (bd__law_plus_2 T) (fun _ _ _ => RepL.nil) (pva_cons (p1_d (pd_var (pv 4))) (pva_cons (p1_d (pd_var (pv 5))) pva_nil))) rfl (by first | exact Or.inl rfl | exact Or.inr rfl) (PxOk.of hpx _)))))
 (pts_cons (pts_for (passes_of rfl) rfl (pi_d hM (pd_fr (pf_slc hM (p1_d (pd_frz (pv 2) (npl hnp (by decide)))) pod_none (pod_some pd_int)))) (pg_n (pg_name (i := 6) sc_law.nd rfl (by first | exact Or.inl rfl | exact Or.inr rfl)) (PxOk.of hpx _))
 (pts_one' (pts_for (passes_of rfl) rfl (pi_d hM (pd_fr (pf_slc hM (p1_d (pd_frz (pv 2) (npl hnp (by decide)))) pod_none (pod_some pd_int)))) (pg_n (pg_name (i := 7) sc_law.nd rfl (by first | exact Or.inl rfl | exact Or.inr rfl)) (PxOk.of hpx _))
 (pts_one' (pts_if (ptb_not (pt_of (q_call hM (takes_of rfl rfl rfl rfl) (ok__law_pair_holds T) (hr.mono (by decide)) (by rfl) T.m__law_pair_holds T.k__law_pair_holds (bd__law_pair_holds_2 T) (fun _ _ _ => RepL.nil) (pva_cons (p1_d (pd_var (pv 6))) (pva_cons (p1_d (pd_var (pv 7))) pva_nil)))))
 (pts_one' (pts_ret pd_bl))
 pts_nil')))))
 (pts_cons (pts_if (PW.pt (pwb_or (ptb_not (pt_of (q_call hM (takes_of rfl rfl rfl rfl) (ok__law_same T) (hr.mono (by decide)) (by rfl) T.m__law_same T.k__law_same (bd__law_same_2 T) (fun _ _ _ => RepL.nil) (pva_cons (p1_d (q_call hM (takes_of rfl rfl rfl rfl) (ok_ratio_sum T) (hr.mono (by decide)) (by rfl) T.m_ratio_sum T.k_ratio_sum (bd_ratio_sum_1 T) (fun _ _ _ => RepL.nil) (pva_cons (p1_d (pd_fr (c_list hM (by rfl) T.z_list (pva_cons (p1_nm (pv 2)) pva_nil)))) pva_nil))) (pva_cons (p1_d (pd_var (pv 4))) pva_nil))))) (pwb_or1 (ptb_not (pt_of (q_call hM (takes_of rfl rfl rfl rfl) (ok__law_same T) (hr.mono (by decide)) (by rfl) T.m__law_same T.k__law_same (bd__law_same_2 T) (fun _ _ _ => RepL.nil) (pva_cons (p1_d (q_call hM (takes_of rfl rfl rfl rfl) (ok_ratio_sum T) (hr.mono (by decide)) (by rfl) T.m_ratio_sum T.k_ratio_sum (bd_ratio_sum_1 T) (fun _ _ _ => RepL.nil) (pva_cons (p1_d (pd_tup pda_nil)) pva_nil))) (pva_cons (p1_d (pd_tup (pda_cons pd_int (pda_cons pd_int pda_nil)))) pva_nil))))))))
 (pts_one' (pts_ret pd_bl))
 pts_nil')
 (pts_cons (pts_asg sc_law.nd (i := 6) rfl (by first | exact Or.inl rfl | exact Or.inr rfl) (q_call hM (takes_of rfl rfl rfl rfl) (ok__law_number T) (hr.mono (by decide)) (by rfl) T.m__law_number T.k__law_number (bd__law_number_1 T) (fun _ _ _ => RepL.nil) (pva_cons (p1_nm (pv 1)) pva_nil)) rfl (by first | exact Or.inl rfl | exact Or.inr rfl) (PxOk.of hpx _))
 (pts_cons (pts_asg sc_law.nd (i := 7) rfl (by first | exact Or.inl rfl | exact Or.inr rfl) (q_call hM (takes_of rfl rfl rfl rfl) (ok__law_number T) (hr.mono (by decide)) (by rfl) T.m__law_number T.k__law_number (bd__law_number_1 T) (fun _ _ _ => RepL.nil) (pva_cons (p1_nm (pv 1)) pva_nil)) rfl (by first | exact Or.inl rfl | exact Or.inr rfl) (PxOk.of hpx _))
 (pts_cons (pts_asg sc_law.nd (i := 5) rfl (by first | exact Or.inl rfl | exact Or.inr rfl) (q_call hM (takes_of rfl rfl rfl rfl) (ok_common_divisor T) (hr.mono (by decide)) (by rfl) T.m_common_divisor T.k_common_divisor (bd_common_divisor_2 T) (fun _ _ _ => RepL.nil) (pva_cons (p1_d (pd_var (pv 6))) (pva_cons (p1_d (pd_var (pv 7))) pva_nil))) rfl (by first | exact Or.inl rfl | exact Or.inr rfl) (PxOk.of hpx _))
 (pts_cons (pts_if (PW.pt (pwb_or (ptb_not (pt_of (q_call hM (takes_of rfl rfl rfl rfl) (ok__law_whole T) (hr.mono (by decide)) (by rfl) T.m__law_whole T.k__law_whole (bd__law_whole_1 T) (fun _ _ _ => RepL.nil) (pva_cons (p1_d (pd_var (pv 5))) pva_nil)))) (pwb_or1 (qt_ne hM hr (pd_var (pv 5)) (q_call hM (takes_of rfl rfl rfl rfl) (ok__law_part T) (hr.mono (by decide)) (by rfl) T.m__law_part T.k__law_part (bd__law_part_2 T) (fun _ _ _ => RepL.nil) (pva_cons (p1_d (pd_var (pv 6))) (pva_cons (p1_d (pd_var (pv 7))) pva_nil)))))))
 (pts_one' (pts_ret pd_bl))
 pts_nil')
 (pts_cons (pts_asg sc_law.nd (i := 8) rfl (by first | exact Or.inl rfl | exact Or.inr rfl) (q_ix hM (pd_tup (pda_cons pd_str (pda_cons pd_non (pda_cons pd_bl (pda_cons (pd_tup (pda_cons pd_int (pda_cons pd_int pda_nil))) pda_nil))))) (q_call hM (takes_of rfl rfl rfl rfl) (ok__law_draw T) (hr.mono (by decide)) (by rfl) T.m__law_draw T.k__law_draw (bd__law_draw_2 T) (fun _ _ _ => RepL.nil) (pva_cons (p1_nm (pv 1)) (pva_cons (p1_d pd_int) pva_nil))) (fun _ _ => rfl)) rfl (by first | exact Or.inl rfl | exact Or.inr rfl) (PxOk.of hpx _))
 (pts_cons (pts_for (passes_of rfl) rfl (pi_d hM (pd_fr (pf_lst (pda_cons (pd_tup (pda_cons (pd_var (pv 6)) (pda_cons (pd_var (pv 7)) pda_nil))) (pda_cons (pd_tup (pda_cons (pd_var (pv 6)) (pda_cons pd_int pda_nil))) (pda_cons (pd_tup (pda_cons (pd_var (pv 8)) (pda_cons (pd_var (pv 7)) pda_nil))) (pda_cons (pd_tup (pda_cons (pd_var (pv 6)) (pda_cons (pd_var (pv 8)) pda_nil))) (pda_cons (pd_tup (pda_cons (pd_var (pv 8)) (pda_cons pd_int pda_nil))) (pda_cons (pd_tup (pda_cons (pd_var (pv 7)) (pda_cons (q_neg (c_abs hM (by rfl) T.z_abs (pva_cons (p1_d (pd_var (pv 6))) pva_nil))) pda_nil))) pda_nil))))))))) (pg_tupD hM rfl (pgs_consD (pg_n (pg_name (i := 9) sc_law.nd rfl (by first | exact Or.inl rfl | exact Or.inr rfl)) (PxOk.of hpx _)) (pgs_consD (pg_n (pg_name (i := 10) sc_law.nd rfl (by first | exact Or.inl rfl | exact Or.inr rfl)) (PxOk.of hpx _)) pgs_nilD)))
 (pts_one' (pts_if (ptb_not (pt_of (q_call hM (takes_of rfl rfl rfl rfl) (ok__law_making_holds T) (hr.mono (by decide)) (by rfl) T.m__law_making_holds T.k__law_making_holds (bd__law_making_holds_2 T) (fun _ _ _ => RepL.nil) (pva_cons (p1_d (pd_var (pv 9))) (pva_cons (p1_d (pd_var (pv 10))) pva_nil)))))
 (pts_one' (pts_ret pd_bl))
 pts_nil')))
 (pts_cons (pts_if (PW.pt (pwb_or (ptb_not (pt_of (q_call hM (takes_of rfl rfl rfl rfl) (ok__law_same T) (hr.mono (by decide)) (by rfl) T.m__law_same T.k__law_same (bd__law_same_2 T) (fun _ _ _ => RepL.nil) (pva_cons (p1_d (q_call hM (takes_of rfl rfl rfl rfl) (ok_make_ratio T) (hr.mono (by decide)) (by rfl) T.m_make_ratio T.k_make_ratio (bd_make_ratio_1 T) (fun _ _ _ => (RepL.cons rep_int RepL.nil)) (pva_cons (p1_d (pd_var (pv 6))) pva_nil))) (pva_cons (p1_d (pd_tup (pda_cons (pd_var (pv 6)) (pda_cons pd_int pda_nil)))) pva_nil))))) (pwb_or1 (qt_ne hM hr (pd_tup (pda_cons (pd_glob (by rfl) T.m_ZERO (Classical.choose_spec T.r_ZERO).1 (rk_ZERO T hM)) (pda_cons (pd_glob (by rfl) T.m_ONE (Classical.choose_spec T.r_ONE).1 (rk_ONE T hM)) (pda_cons (pd_glob (by rfl) T.m_HALF (Classical.choose_spec T.r_HALF).1 (rk_HALF T hM)) pda_nil)))) (pd_tup (pda_cons (pd_tup (pda_cons pd_int (pda_cons pd_int pda_nil))) (pda_cons (pd_tup (pda_cons pd_int (pda_cons pd_int pda_nil))) (pda_cons (pd_tup (pda_cons pd_int (pda_cons pd_int pda_nil))) pda_nil))))))))
 (pts_one' (pts_ret pd_bl))
 pts_nil')
 (pts_one' (pts_ret (pd_and (q_call0 hM (takes_of rfl rfl rfl rfl) (ok__law_things_hold T) (hr.mono (by decide)) (by rfl) T.m__law_things_hold T.k__law_things_hold (bd__law_things_hold_0 T) (fun _ _ _ => RepL.nil)) (pd_one (q_call hM (takes_of rfl rfl rfl rfl) (ok__law_bounds_hold T) (hr.mono (by decide)) (by rfl) T.m__law_bounds_hold T.k__law_bounds_hold (bd__law_bounds_hold_3 T) (fun _ _ _ => RepL.nil) (pva_cons (p1_d (pd_var (pv 6))) (pva_cons (p1_d (pd_var (pv 7))) (pva_cons (p1_d (q_call hM (takes_of rfl rfl rfl rfl) (ok__law_number T) (hr.mono (by decide)) (by rfl) T.m__law_number T.k__law_number (bd__law_number_1 T) (fun _ _ _ => RepL.nil) (pva_cons (p1_nm (pv 1)) pva_nil))) pva_nil))))))))))))))))))))))))
end
end K00

set_option Elab.async false
set_option linter.all false
set_option maxRecDepth 100000
set_option maxHeartbeats 0
/-! what the top has written (printed by gen.py) -/
namespace K00
open PySem L2 PySem.Spec PyProof.Rows DL
theorem all_mk {P : Program} {w : World} {K : PySem.W.Frag} {h : Heap} {mg : Str → Option Value} {fa : Addr} (X : K.In h) (G : h.Ns mainGlobals mg) (hfa : mg "law" = some (.ref fa))
  {f0 : Addr}
  {oc0 kV0 dc0 pm0 cd0 ct0 : Value}
  {od0 an0 : Option Addr}
  {sl0 : Array (Option Value)}
  {f1 : Addr}
  {oc1 kV1 dc1 pm1 cd1 ct1 : Value}
  {od1 an1 : Option Addr}
  {sl1 : Array (Option Value)}
  {f2 : Addr}
  {oc2 kV2 dc2 pm2 cd2 ct2 : Value}
  {od2 an2 : Option Addr}
  {sl2 : Array (Option Value)}
  {f3 : Addr}
  {oc3 kV3 dc3 pm3 cd3 ct3 : Value}
  {od3 an3 : Option Addr}
  {sl3 : Array (Option Value)}
  {f4 : Addr}
  {oc4 kV4 dc4 pm4 cd4 ct4 : Value}
  {od4 an4 : Option Addr}
  {sl4 : Array (Option Value)}
  {f5 : Addr}
  {oc5 kV5 dc5 pm5 cd5 ct5 : Value}
  {od5 an5 : Option Addr}
  {sl5 : Array (Option Value)}
  {f6 : Addr}
  {oc6 kV6 dc6 pm6 cd6 ct6 : Value}
  {od6 an6 : Option Addr}
  {sl6 : Array (Option Value)}
  {f7 : Addr}
  {oc7 kV7 dc7 pm7 cd7 ct7 : Value}
  {od7 an7 : Option Addr}
  {sl7 : Array (Option Value)}
  {f8 : Addr}
  {oc8 kV8 dc8 pm8 cd8 ct8 : Value}
  {od8 an8 : Option Addr}
  {sl8 : Array (Option Value)}
  {f9 : Addr}
  {oc9 kV9 dc9 pm9 cd9 ct9 : Value}
  {od9 an9 : Option Addr}
  {sl9 : Array (Option Value)}
  {f10 : Addr}
  {oc10 kV10 dc10 pm10 cd10 ct10 : Value}
  {od10 an10 : Option Addr}
  {sl10 : Array (Option Value)}
  {T10 : Addr} {ocT10 : Value} {odT10 : Option Addr} {nT10 : Nat} {slT10 : Array (Option Value)}
  {f11 : Addr}
  {oc11 kV11 dc11 pm11 cd11 ct11 : Value}
  {od11 an11 : Option Addr}
  {sl11 : Array (Option Value)}
  {f12 : Addr}
  {oc12 kV12 dc12 pm12 cd12 ct12 : Value}
  {od12 an12 : Option Addr}
  {sl12 : Array (Option Value)}
  {f13 : Addr}
  {oc13 kV13 dc13 pm13 cd13 ct13 : Value}
  {od13 an13 : Option Addr}
  {sl13 : Array (Option Value)}
  {f14 : Addr}
  {oc14 kV14 dc14 pm14 cd14 ct14 : Value}
  {od14 an14 : Option Addr}
  {sl14 : Array (Option Value)}
  {f15 : Addr}
  {oc15 kV15 dc15 pm15 cd15 ct15 : Value}
  {od15 an15 : Option Addr}
  {sl15 : Array (Option Value)}
  {f16 : Addr}
  {oc16 kV16 dc16 pm16 cd16 ct16 : Value}
  {od16 an16 : Option Addr}
  {sl16 : Array (Option Value)}
  {f17 : Addr}
  {oc17 kV17 dc17 pm17 cd17 ct17 : Value}
  {od17 an17 : Option Addr}
  {sl17 : Array (Option Value)}
  {f18 : Addr}
  {oc18 kV18 dc18 pm18 cd18 ct18 : Value}
  {od18 an18 : Option Addr}
  {sl18 : Array (Option Value)}
  {f19 : Addr}
  {oc19 kV19 dc19 pm19 cd19 ct19 : Value}
  {od19 an19 : Option Addr}
  {sl19 : Array (Option Value)}
  {f20 : Addr}
  {oc20 kV20 dc20 pm20 cd20 ct20 : Value}
  {od20 an20 : Option Addr}
  {sl20 : Array (Option Value)}
  {T20 : Addr} {ocT20 : Value} {odT20 : Option Addr} {nT20 : Nat} {slT20 : Array (Option Value)}
  {tk20_0 : Tok}
  {f21 : Addr}
  {oc21 kV21 dc21 pm21 cd21 ct21 : Value}
  {od21 an21 : Option Addr}
  {sl21 : Array (Option Value)}
  {f22 : Addr}
  {oc22 kV22 dc22 pm22 cd22 ct22 : Value}
  {od22 an22 : Option Addr}
  {sl22 : Array (Option Value)}
  {f23 : Addr}
  {oc23 kV23 dc23 pm23 cd23 ct23 : Value}
  {od23 an23 : Option Addr}
  {sl23 : Array (Option Value)}
  {f24 : Addr}
  {oc24 kV24 dc24 pm24 cd24 ct24 : Value}
  {od24 an24 : Option Addr}
  {sl24 : Array (Option Value)}
  {f25 : Addr}
  {oc25 kV25 dc25 pm25 cd25 ct25 : Value}
  {od25 an25 : Option Addr}
  {sl25 : Array (Option Value)}
  {f26 : Addr}
  {oc26 kV26 dc26 pm26 cd26 ct26 : Value}
  {od26 an26 : Option Addr}
  {sl26 : Array (Option Value)}
  {f27 : Addr}
  {oc27 kV27 dc27 pm27 cd27 ct27 : Value}
  {od27 an27 : Option Addr}
  {sl27 : Array (Option Value)}
  {f28 : Addr}
  {oc28 kV28 dc28 pm28 cd28 ct28 : Value}
  {od28 an28 : Option Addr}
  {sl28 : Array (Option Value)}
  {f29 : Addr}
  {oc29 kV29 dc29 pm29 cd29 ct29 : Value}
  {od29 an29 : Option Addr}
  {sl29 : Array (Option Value)}
  {f30 : Addr}
  {oc30 kV30 dc30 pm30 cd30 ct30 : Value}
  {od30 an30 : Option Addr}
  {sl30 : Array (Option Value)}
  {f31 : Addr}
  {oc31 kV31 dc31 pm31 cd31 ct31 : Value}
  {od31 an31 : Option Addr}
  {sl31 : Array (Option Value)}
  {f32 : Addr}
  {oc32 kV32 dc32 pm32 cd32 ct32 : Value}
  {od32 an32 : Option Addr}
  {sl32 : Array (Option Value)}
  {tq0_0 : Tok}
  {tq0_1 : Tok}
  {q0 : Addr} {odq0 : Option Addr} {nq0 : Nat} {slq0 : Array (Option Value)}
  {tq1_0 : Tok}
  {tq1_1 : Tok}
  {q1 : Addr} {odq1 : Option Addr} {nq1 : Nat} {slq1 : Array (Option Value)}
  {tq2_0 : Tok}
  {tq2_1 : Tok}
  {q2 : Addr} {odq2 : Option Addr} {nq2 : Nat} {slq2 : Array (Option Value)}
  {C0 : Addr}
  {C1 : Addr}
  {C2 : Addr}
  {nm1 qn1 : Str} {N1 : Addr} {bs1 : List Value} {sn1 : List Str} {sub1 : List Value} {ab1 : Bool} {col1 : Option Bool} {dd1 : Option Addr} {m01 m11 m21 m31 m51 : Option Value}
  {g1 : Addr} {goc1 gkV1 gdc1 gpm1 gcd1 gct1 : Value} {god1 gan1 : Option Addr} {gsl1 : Array (Option Value)}
  {nm2 qn2 : Str} {N2 : Addr} {bs2 : List Value} {sn2 : List Str} {sub2 : List Value} {ab2 : Bool} {col2 : Option Bool} {dd2 : Option Addr} {m02 m12 m22 m32 m52 : Option Value}
  {g2 : Addr} {goc2 gkV2 gdc2 gpm2 gcd2 gct2 : Value} {god2 gan2 : Option Addr} {gsl2 : Array (Option Value)}
  (a0 : PySem.W.nsIn K mainGlobals "_law_hand" = some (some (.ref f0)))
  (l0 : K.lookup f0 = some ⟨oc0, od0, .func (PySem.W.fnOf "_law_hand" "_law_hand" (defArgs s__law_hand) (defBody s__law_hand) (defScope s__law_hand) .none kV0 dc0 pm0 an0 cd0 ct0), sl0⟩)
  (c0 : PySem.W.codeIn K cd0 "_law_hand" = true)
  (k0 : PySem.W.keepIn K (.ref f0) = true)
  (a1 : PySem.W.nsIn K mainGlobals "_law_stir" = some (some (.ref f1)))
  (l1 : K.lookup f1 = some ⟨oc1, od1, .func (PySem.W.fnOf "_law_stir" "_law_stir" (defArgs s__law_stir) (defBody s__law_stir) (defScope s__law_stir) .none kV1 dc1 pm1 an1 cd1 ct1), sl1⟩)
  (c1 : PySem.W.codeIn K cd1 "_law_stir" = true)
  (k1 : PySem.W.keepIn K (.ref f1) = true)
  (a2 : PySem.W.nsIn K mainGlobals "_law_draw" = some (some (.ref f2)))
  (l2 : K.lookup f2 = some ⟨oc2, od2, .func (PySem.W.fnOf "_law_draw" "_law_draw" (defArgs s__law_draw) (defBody s__law_draw) (defScope s__law_draw) .none kV2 dc2 pm2 an2 cd2 ct2), sl2⟩)
  (c2 : PySem.W.codeIn K cd2 "_law_draw" = true)
  (k2 : PySem.W.keepIn K (.ref f2) = true)
  (a3 : PySem.W.nsIn K mainGlobals "_law_number" = some (some (.ref f3)))
  (l3 : K.lookup f3 = some ⟨oc3, od3, .func (PySem.W.fnOf "_law_number" "_law_number" (defArgs s__law_number) (defBody s__law_number) (defScope s__law_number) .none kV3 dc3 pm3 an3 cd3 ct3), sl3⟩)
  (c3 : PySem.W.codeIn K cd3 "_law_number" = true)
  (k3 : PySem.W.keepIn K (.ref f3) = true)
  (a4 : PySem.W.nsIn K mainGlobals "common_divisor" = some (some (.ref f4)))
  (l4 : K.lookup f4 = some ⟨oc4, od4, .func (PySem.W.fnOf "common_divisor" "common_divisor" (defArgs s_common_divisor) (defBody s_common_divisor) (defScope s_common_divisor) .none kV4 dc4 pm4 an4 cd4 ct4), sl4⟩)
  (c4 : PySem.W.codeIn K cd4 "common_divisor" = true)
  (k4 : PySem.W.keepIn K (.ref f4) = true)
  (a5 : PySem.W.nsIn K mainGlobals "_law_part" = some (some (.ref f5)))
  (l5 : K.lookup f5 = some ⟨oc5, od5, .func (PySem.W.fnOf "_law_part" "_law_part" (defArgs s__law_part) (defBody s__law_part) (defScope s__law_part) .none kV5 dc5 pm5 an5 cd5 ct5), sl5⟩)
  (c5 : PySem.W.codeIn K cd5 "_law_part" = true)
  (k5 : PySem.W.keepIn K (.ref f5) = true)
  (a6 : PySem.W.nsIn K mainGlobals "_law_ratio" = some (some (.ref f6)))
  (l6 : K.lookup f6 = some ⟨oc6, od6, .func (PySem.W.fnOf "_law_ratio" "_law_ratio" (defArgs s__law_ratio) (defBody s__law_ratio) (defScope s__law_ratio) .none kV6 dc6 pm6 an6 cd6 ct6), sl6⟩)
  (c6 : PySem.W.codeIn K cd6 "_law_ratio" = true)
  (k6 : PySem.W.keepIn K (.ref f6) = true)
  (a7 : PySem.W.nsIn K mainGlobals "_law_plus" = some (some (.ref f7)))
  (l7 : K.lookup f7 = some ⟨oc7, od7, .func (PySem.W.fnOf "_law_plus" "_law_plus" (defArgs s__law_plus) (defBody s__law_plus) (defScope s__law_plus) .none kV7 dc7 pm7 an7 cd7 ct7), sl7⟩)
  (c7 : PySem.W.codeIn K cd7 "_law_plus" = true)
  (k7 : PySem.W.keepIn K (.ref f7) = true)
  (a8 : PySem.W.nsIn K mainGlobals "_law_things" = some (some (.ref f8)))
  (l8 : K.lookup f8 = some ⟨oc8, od8, .func (PySem.W.fnOf "_law_things" "_law_things" (defArgs s__law_things) (defBody s__law_things) (defScope s__law_things) .none kV8 dc8 pm8 an8 cd8 ct8), sl8⟩)
  (c8 : PySem.W.codeIn K cd8 "_law_things" = true)
  (k8 : PySem.W.keepIn K (.ref f8) = true)
  (a9 : PySem.W.nsIn K mainGlobals "_law_truth" = some (some (.ref f9)))
  (l9 : K.lookup f9 = some ⟨oc9, od9, .func (PySem.W.fnOf "_law_truth" "_law_truth" (defArgs s__law_truth) (defBody s__law_truth) (defScope s__law_truth) .none kV9 dc9 pm9 an9 cd9 ct9), sl9⟩)
  (c9 : PySem.W.codeIn K cd9 "_law_truth" = true)
  (k9 : PySem.W.keepIn K (.ref f9) = true)
  (a10 : PySem.W.nsIn K mainGlobals "is_whole" = some (some (.ref f10)))
  (l10 : K.lookup f10 = some ⟨oc10, od10, .func (PySem.W.fnOf "is_whole" "is_whole" (defArgs s_is_whole) (defBody s_is_whole) (defScope s_is_whole) (.ref T10) kV10 dc10 pm10 an10 cd10 ct10), sl10⟩)
  (lT10 : K.lookup T10 = some ⟨ocT10, odT10, .seq #[.none, .none] nT10, slT10⟩)
  (c10 : PySem.W.codeIn K cd10 "is_whole" = true)
  (k10 : PySem.W.keepIn K (.ref f10) = true)
  (a11 : PySem.W.nsIn K mainGlobals "is_sequence" = some (some (.ref f11)))
  (l11 : K.lookup f11 = some ⟨oc11, od11, .func (PySem.W.fnOf "is_sequence" "is_sequence" (defArgs s_is_sequence) (defBody s_is_sequence) (defScope s_is_sequence) .none kV11 dc11 pm11 an11 cd11 ct11), sl11⟩)
  (c11 : PySem.W.codeIn K cd11 "is_sequence" = true)
  (k11 : PySem.W.keepIn K (.ref f11) = true)
  (a12 : PySem.W.nsIn K mainGlobals "is_ratio" = some (some (.ref f12)))
  (l12 : K.lookup f12 = some ⟨oc12, od12, .func (PySem.W.fnOf "is_ratio" "is_ratio" (defArgs s_is_ratio) (defBody s_is_ratio) (defScope s_is_ratio) .none kV12 dc12 pm12 an12 cd12 ct12), sl12⟩)
  (c12 : PySem.W.codeIn K cd12 "is_ratio" = true)
  (k12 : PySem.W.keepIn K (.ref f12) = true)
  (a13 : PySem.W.nsIn K mainGlobals "is_share" = some (some (.ref f13)))
  (l13 : K.lookup f13 = some ⟨oc13, od13, .func (PySem.W.fnOf "is_share" "is_share" (defArgs s_is_share) (defBody s_is_share) (defScope s_is_share) .none kV13 dc13 pm13 an13 cd13 ct13), sl13⟩)
  (c13 : PySem.W.codeIn K cd13 "is_share" = true)
  (k13 : PySem.W.keepIn K (.ref f13) = true)
  (a14 : PySem.W.nsIn K mainGlobals "_law_things_hold" = some (some (.ref f14)))
  (l14 : K.lookup f14 = some ⟨oc14, od14, .func (PySem.W.fnOf "_law_things_hold" "_law_things_hold" (defArgs s__law_things_hold) (defBody s__law_things_hold) (defScope s__law_things_hold) .none kV14 dc14 pm14 an14 cd14 ct14), sl14⟩)
  (c14 : PySem.W.codeIn K cd14 "_law_things_hold" = true)
  (k14 : PySem.W.keepIn K (.ref f14) = true)
  (a15 : PySem.W.nsIn K mainGlobals "_law_bounds_hold" = some (some (.ref f15)))
  (l15 : K.lookup f15 = some ⟨oc15, od15, .func (PySem.W.fnOf "_law_bounds_hold" "_law_bounds_hold" (defArgs s__law_bounds_hold) (defBody s__law_bounds_hold) (defScope s__law_bounds_hold) .none kV15 dc15 pm15 an15 cd15 ct15), sl15⟩)
  (c15 : PySem.W.codeIn K cd15 "_law_bounds_hold" = true)
  (k15 : PySem.W.keepIn K (.ref f15) = true)
  (a16 : PySem.W.nsIn K mainGlobals "_law_whole" = some (some (.ref f16)))
  (l16 : K.lookup f16 = some ⟨oc16, od16, .func (PySem.W.fnOf "_law_whole" "_law_whole" (defArgs s__law_whole) (defBody s__law_whole) (defScope s__law_whole) .none kV16 dc16 pm16 an16 cd16 ct16), sl16⟩)
  (c16 : PySem.W.codeIn K cd16 "_law_whole" = true)
  (k16 : PySem.W.keepIn K (.ref f16) = true)
  (a17 : PySem.W.nsIn K mainGlobals "_law_wholes" = some (some (.ref f17)))
  (l17 : K.lookup f17 = some ⟨oc17, od17, .func (PySem.W.fnOf "_law_wholes" "_law_wholes" (defArgs s__law_wholes) (defBody s__law_wholes) (defScope s__law_wholes) .none kV17 dc17 pm17 an17 cd17 ct17), sl17⟩)
  (c17 : PySem.W.codeIn K cd17 "_law_wholes" = true)
  (k17 : PySem.W.keepIn K (.ref f17) = true)
  (a18 : PySem.W.nsIn K mainGlobals "_law_same" = some (some (.ref f18)))
  (l18 : K.lookup f18 = some ⟨oc18, od18, .func (PySem.W.fnOf "_law_same" "_law_same" (defArgs s__law_same) (defBody s__law_same) (defScope s__law_same) .none kV18 dc18 pm18 an18 cd18 ct18), sl18⟩)
  (c18 : PySem.W.codeIn K cd18 "_law_same" = true)
  (k18 : PySem.W.keepIn K (.ref f18) = true)
  (a19 : PySem.W.nsIn K mainGlobals "lowest_terms" = some (some (.ref f19)))
  (l19 : K.lookup f19 = some ⟨oc19, od19, .func (PySem.W.fnOf "lowest_terms" "lowest_terms" (defArgs s_lowest_terms) (defBody s_lowest_terms) (defScope s_lowest_terms) .none kV19 dc19 pm19 an19 cd19 ct19), sl19⟩)
  (c19 : PySem.W.codeIn K cd19 "lowest_terms" = true)
  (k19 : PySem.W.keepIn K (.ref f19) = true)
  (a20 : PySem.W.nsIn K mainGlobals "make_ratio" = some (some (.ref f20)))
  (l20 : K.lookup f20 = some ⟨oc20, od20, .func (PySem.W.fnOf "make_ratio" "make_ratio" (defArgs s_make_ratio) (defBody s_make_ratio) (defScope s_make_ratio) (.ref T20) kV20 dc20 pm20 an20 cd20 ct20), sl20⟩)
  (lT20 : K.lookup T20 = some ⟨ocT20, odT20, .seq #[(.int 1 tk20_0)] nT20, slT20⟩)
  (c20 : PySem.W.codeIn K cd20 "make_ratio" = true)
  (k20 : PySem.W.keepIn K (.ref f20) = true)
  (a21 : PySem.W.nsIn K mainGlobals "_law_making_holds" = some (some (.ref f21)))
  (l21 : K.lookup f21 = some ⟨oc21, od21, .func (PySem.W.fnOf "_law_making_holds" "_law_making_holds" (defArgs s__law_making_holds) (defBody s__law_making_holds) (defScope s__law_making_holds) .none kV21 dc21 pm21 an21 cd21 ct21), sl21⟩)
  (c21 : PySem.W.codeIn K cd21 "_law_making_holds" = true)
  (k21 : PySem.W.keepIn K (.ref f21) = true)
  (a22 : PySem.W.nsIn K mainGlobals "_law_bottom" = some (some (.ref f22)))
  (l22 : K.lookup f22 = some ⟨oc22, od22, .func (PySem.W.fnOf "_law_bottom" "_law_bottom" (defArgs s__law_bottom) (defBody s__law_bottom) (defScope s__law_bottom) .none kV22 dc22 pm22 an22 cd22 ct22), sl22⟩)
  (c22 : PySem.W.codeIn K cd22 "_law_bottom" = true)
  (k22 : PySem.W.keepIn K (.ref f22) = true)
  (a23 : PySem.W.nsIn K mainGlobals "ratio_compare" = some (some (.ref f23)))
  (l23 : K.lookup f23 = some ⟨oc23, od23, .func (PySem.W.fnOf "ratio_compare" "ratio_compare" (defArgs s_ratio_compare) (defBody s_ratio_compare) (defScope s_ratio_compare) .none kV23 dc23 pm23 an23 cd23 ct23), sl23⟩)
  (c23 : PySem.W.codeIn K cd23 "ratio_compare" = true)
  (k23 : PySem.W.keepIn K (.ref f23) = true)
  (a24 : PySem.W.nsIn K mainGlobals "ratio_over" = some (some (.ref f24)))
  (l24 : K.lookup f24 = some ⟨oc24, od24, .func (PySem.W.fnOf "ratio_over" "ratio_over" (defArgs s_ratio_over) (defBody s_ratio_over) (defScope s_ratio_over) .none kV24 dc24 pm24 an24 cd24 ct24), sl24⟩)
  (c24 : PySem.W.codeIn K cd24 "ratio_over" = true)
  (k24 : PySem.W.keepIn K (.ref f24) = true)
  (a25 : PySem.W.nsIn K mainGlobals "ratio_plus" = some (some (.ref f25)))
  (l25 : K.lookup f25 = some ⟨oc25, od25, .func (PySem.W.fnOf "ratio_plus" "ratio_plus" (defArgs s_ratio_plus) (defBody s_ratio_plus) (defScope s_ratio_plus) .none kV25 dc25 pm25 an25 cd25 ct25), sl25⟩)
  (c25 : PySem.W.codeIn K cd25 "ratio_plus" = true)
  (k25 : PySem.W.keepIn K (.ref f25) = true)
  (a26 : PySem.W.nsIn K mainGlobals "ratio_minus" = some (some (.ref f26)))
  (l26 : K.lookup f26 = some ⟨oc26, od26, .func (PySem.W.fnOf "ratio_minus" "ratio_minus" (defArgs s_ratio_minus) (defBody s_ratio_minus) (defScope s_ratio_minus) .none kV26 dc26 pm26 an26 cd26 ct26), sl26⟩)
  (c26 : PySem.W.codeIn K cd26 "ratio_minus" = true)
  (k26 : PySem.W.keepIn K (.ref f26) = true)
  (a27 : PySem.W.nsIn K mainGlobals "_law_less_by" = some (some (.ref f27)))
  (l27 : K.lookup f27 = some ⟨oc27, od27, .func (PySem.W.fnOf "_law_less_by" "_law_less_by" (defArgs s__law_less_by) (defBody s__law_less_by) (defScope s__law_less_by) .none kV27 dc27 pm27 an27 cd27 ct27), sl27⟩)
  (c27 : PySem.W.codeIn K cd27 "_law_less_by" = true)
  (k27 : PySem.W.keepIn K (.ref f27) = true)
  (a28 : PySem.W.nsIn K mainGlobals "ratio_times" = some (some (.ref f28)))
  (l28 : K.lookup f28 = some ⟨oc28, od28, .func (PySem.W.fnOf "ratio_times" "ratio_times" (defArgs s_ratio_times) (defBody s_ratio_times) (defScope s_ratio_times) .none kV28 dc28 pm28 an28 cd28 ct28), sl28⟩)
  (c28 : PySem.W.codeIn K cd28 "ratio_times" = true)
  (k28 : PySem.W.keepIn K (.ref f28) = true)
  (a29 : PySem.W.nsIn K mainGlobals "_law_times" = some (some (.ref f29)))
  (l29 : K.lookup f29 = some ⟨oc29, od29, .func (PySem.W.fnOf "_law_times" "_law_times" (defArgs s__law_times) (defBody s__law_times) (defScope s__law_times) .none kV29 dc29 pm29 an29 cd29 ct29), sl29⟩)
  (c29 : PySem.W.codeIn K cd29 "_law_times" = true)
  (k29 : PySem.W.keepIn K (.ref f29) = true)
  (a30 : PySem.W.nsIn K mainGlobals "_law_pair_holds" = some (some (.ref f30)))
  (l30 : K.lookup f30 = some ⟨oc30, od30, .func (PySem.W.fnOf "_law_pair_holds" "_law_pair_holds" (defArgs s__law_pair_holds) (defBody s__law_pair_holds) (defScope s__law_pair_holds) .none kV30 dc30 pm30 an30 cd30 ct30), sl30⟩)
  (c30 : PySem.W.codeIn K cd30 "_law_pair_holds" = true)
  (k30 : PySem.W.keepIn K (.ref f30) = true)
  (a31 : PySem.W.nsIn K mainGlobals "ratio_sum" = some (some (.ref f31)))
  (l31 : K.lookup f31 = some ⟨oc31, od31, .func (PySem.W.fnOf "ratio_sum" "ratio_sum" (defArgs s_ratio_sum) (defBody s_ratio_sum) (defScope s_ratio_sum) .none kV31 dc31 pm31 an31 cd31 ct31), sl31⟩)
  (c31 : PySem.W.codeIn K cd31 "ratio_sum" = true)
  (k31 : PySem.W.keepIn K (.ref f31) = true)
  (a32 : PySem.W.nsIn K mainGlobals "law" = some (some (.ref f32)))
  (l32 : K.lookup f32 = some ⟨oc32, od32, .func (PySem.W.fnOf "law" "law" (defArgs s_law) (defBody s_law) (defScope s_law) .none kV32 dc32 pm32 an32 cd32 ct32), sl32⟩)
  (c32 : PySem.W.codeIn K cd32 "law" = true)
  (k32 : PySem.W.keepIn K (.ref f32) = true)
  (z0 : PySem.W.nsIn K mainGlobals "ValueError" = some none)
  (z1 : PySem.W.nsIn K mainGlobals "abs" = some none)
  (z2 : PySem.W.nsIn K mainGlobals "all" = some none)
  (z3 : PySem.W.nsIn K mainGlobals "bool" = some none)
  (z4 : PySem.W.nsIn K mainGlobals "enumerate" = some none)
  (z5 : PySem.W.nsIn K mainGlobals "int" = some none)
  (z6 : PySem.W.nsIn K mainGlobals "isinstance" = some none)
  (z7 : PySem.W.nsIn K mainGlobals "len" = some none)
  (z8 : PySem.W.nsIn K mainGlobals "list" = some none)
  (z9 : PySem.W.nsIn K mainGlobals "range" = some none)
  (z10 : PySem.W.nsIn K mainGlobals "tuple" = some none)
  (aq0 : PySem.W.nsIn K mainGlobals "ZERO" = some (some (.ref q0)))
  (lq0 : K.lookup q0 = some ⟨.type "tuple", odq0, .seq #[(.int 0 tq0_0), (.int 1 tq0_1)] nq0, slq0⟩)
  (aq1 : PySem.W.nsIn K mainGlobals "ONE" = some (some (.ref q1)))
  (lq1 : K.lookup q1 = some ⟨.type "tuple", odq1, .seq #[(.int 1 tq1_0), (.int 1 tq1_1)] nq1, slq1⟩)
  (aq2 : PySem.W.nsIn K mainGlobals "HALF" = some (some (.ref q2)))
  (lq2 : K.lookup q2 = some ⟨.type "tuple", odq2, .seq #[(.int 1 tq2_0), (.int 2 tq2_1)] nq2, slq2⟩)
  (aC0 : PySem.W.nsIn K mainGlobals "CodeError" = some (some (.ref C0)))
  (aC1 : PySem.W.nsIn K mainGlobals "BadRatio" = some (some (.ref C1)))
  (aC2 : PySem.W.nsIn K mainGlobals "DividedByNought" = some (some (.ref C2)))
  (xL1 : K.lookup C1 = some (excClassObj nm1 qn1 C1 N1 bs1 [.ref C0, .type "ValueError", .type "Exception", .type "BaseException", .type "object"] true sn1 sub1 ab1 col1 dd1 m01 m11 m21 m31 m51 "ValueError.__new__"))
  (sa1 : PySem.W.findIn K (.ref C1) "__setattr__" = some (some (.builtin "object.__setattr__")))
  (eC1 : PySem.W.subIn K (.ref C1) (.type "BaseException") = some true)
  (tC1 : PySem.W.typeIn K (.ref C1) = some (.type "type"))
  (kC1 : PySem.W.keepIn K (.ref C1) = true)
  (ai1 : PySem.W.findIn K (.ref C1) "__init__" = some (some (.ref g1)))
  (ti1 : PySem.W.typeIn K (.ref g1) = some (.type "function"))
  (li1 : K.lookup g1 = some ⟨goc1, god1, .func (PySem.W.fnOf "__init__" "BadRatio.__init__" (defArgs sx_BadRatio) (defBody sx_BadRatio) (defScope sx_BadRatio) .none gkV1 gdc1 gpm1 gan1 gcd1 gct1), gsl1⟩)
  (ci1 : PySem.W.codeIn K gcd1 "BadRatio.__init__" = true)
  (ki1 : PySem.W.keepIn K (.ref g1) = true)
  (nf1_0 : PySem.W.findIn K (.ref C1) "what" = some none)
  (xL2 : K.lookup C2 = some (excClassObj nm2 qn2 C2 N2 bs2 [.ref C0, .type "ValueError", .type "Exception", .type "BaseException", .type "object"] true sn2 sub2 ab2 col2 dd2 m02 m12 m22 m32 m52 "ValueError.__new__"))
  (sa2 : PySem.W.findIn K (.ref C2) "__setattr__" = some (some (.builtin "object.__setattr__")))
  (eC2 : PySem.W.subIn K (.ref C2) (.type "BaseException") = some true)
  (tC2 : PySem.W.typeIn K (.ref C2) = some (.type "type"))
  (kC2 : PySem.W.keepIn K (.ref C2) = true)
  (ai2 : PySem.W.findIn K (.ref C2) "__init__" = some (some (.ref g2)))
  (ti2 : PySem.W.typeIn K (.ref g2) = some (.type "function"))
  (li2 : K.lookup g2 = some ⟨goc2, god2, .func (PySem.W.fnOf "__init__" "DividedByNought.__init__" (defArgs sx_DividedByNought) (defBody sx_DividedByNought) (defScope sx_DividedByNought) .none gkV2 gdc2 gpm2 gan2 gcd2 gct2), gsl2⟩)
  (ci2 : PySem.W.codeIn K gcd2 "DividedByNought.__init__" = true)
  (ki2 : PySem.W.keepIn K (.ref g2) = true)
  (rd0 : PySem.W.readsIn K C0 (.type "type") = true)
  (rg0 : PySem.W.specialIn K (.ref C0) "__getattribute__" = some (some (.builtin "type.__getattribute__")))
  (vi0 : PySem.W.findCls K (.ref C0) (.type "type") "__init__" = some (.val (.builtin "ValueError.__init__")))
  (sb1_1 : PySem.W.subIn K (.ref C1) (.ref C1) = some true)
  (xhd1 : PySem.W.hasDictIn K C1 = true)
  (sb2_0 : PySem.W.subIn K (.ref C2) (.ref C0) = some true)
  (eC0 : PySem.W.subIn K (.ref C0) (.type "BaseException") = some true)
  (tC0 : PySem.W.typeIn K (.ref C0) = some (.type "type"))
  (xhd0 : PySem.W.hasDictIn K C0 = true)
  (sb2_1 : PySem.W.subIn K (.ref C2) (.ref C1) = some false)
  (sb2_2 : PySem.W.subIn K (.ref C2) (.ref C2) = some true)
  (xhd2 : PySem.W.hasDictIn K C2 = true)
  (sb2_ValueError : PySem.W.subIn K (.ref C2) (.type "ValueError") = some true)
  (xn : PySem.W.specialIn K (.builtin "object.__class__") "__get__" = some (some (.builtin "getset_descriptor.__get__")))
  (xt : PySem.W.takesIn K (.builtin "object.__class__") = some true)
  (xhg2 : PySem.W.findIn K (.ref C2) "__getattribute__" = some (some (.builtin "BaseException.__getattribute__")))
  (xhk2 : PySem.W.findIn K (.ref C2) "__getattr__" = some none)
  (xhs2 : PySem.W.subIn K (.ref C2) (.type "BaseException") = some true)
  (xha2 : PySem.W.findIn K (.ref C2) "__class__" = some (some (.builtin "object.__class__")))
  (xhm2 : PySem.W.mroIn K C2 (.type "object") = some true)
  (xhg1 : PySem.W.findIn K (.ref C1) "__getattribute__" = some (some (.builtin "BaseException.__getattribute__")))
  (xhk1 : PySem.W.findIn K (.ref C1) "__getattr__" = some none)
  (xhs1 : PySem.W.subIn K (.ref C1) (.type "BaseException") = some true)
  (hl : LawOk d_law) :
  ∃ fd : FuncData, (∀ (s : Shared) (v : Value), BindsTo s fd ⟨[v], []⟩ [("_law_script", v)]) ∧ ∀ base : Heap, K.In base → base.Ns mainGlobals mg → FnOk P w K mg base (L2.CX P w) 5 fa fd ["_law_script"] (spLaw K) := by
  have e := hfa.symm.trans (PySem.W.mg_of X G a32)
  cases e
  let A : Ad := {
    f__law_hand := f0,
    fd__law_hand := PySem.W.fnOf "_law_hand" "_law_hand" (defArgs s__law_hand) (defBody s__law_hand) (defScope s__law_hand) .none kV0 dc0 pm0 an0 cd0 ct0,
    f__law_stir := f1,
    fd__law_stir := PySem.W.fnOf "_law_stir" "_law_stir" (defArgs s__law_stir) (defBody s__law_stir) (defScope s__law_stir) .none kV1 dc1 pm1 an1 cd1 ct1,
    f__law_draw := f2,
    fd__law_draw := PySem.W.fnOf "_law_draw" "_law_draw" (defArgs s__law_draw) (defBody s__law_draw) (defScope s__law_draw) .none kV2 dc2 pm2 an2 cd2 ct2,
    f__law_number := f3,
    fd__law_number := PySem.W.fnOf "_law_number" "_law_number" (defArgs s__law_number) (defBody s__law_number) (defScope s__law_number) .none kV3 dc3 pm3 an3 cd3 ct3,
    f_common_divisor := f4,
    fd_common_divisor := PySem.W.fnOf "common_divisor" "common_divisor" (defArgs s_common_divisor) (defBody s_common_divisor) (defScope s_common_divisor) .none kV4 dc4 pm4 an4 cd4 ct4,
    f__law_part := f5,
    fd__law_part := PySem.W.fnOf "_law_part" "_law_part" (defArgs s__law_part) (defBody s__law_part) (defScope s__law_part) .none kV5 dc5 pm5 an5 cd5 ct5,
    f__law_ratio := f6,
    fd__law_ratio := PySem.W.fnOf "_law_ratio" "_law_ratio" (defArgs s__law_ratio) (defBody s__law_ratio) (defScope s__law_ratio) .none kV6 dc6 pm6 an6 cd6 ct6,
    f__law_plus := f7,
    fd__law_plus := PySem.W.fnOf "_law_plus" "_law_plus" (defArgs s__law_plus) (defBody s__law_plus) (defScope s__law_plus) .none kV7 dc7 pm7 an7 cd7 ct7,
    f__law_things := f8,
    fd__law_things := PySem.W.fnOf "_law_things" "_law_things" (defArgs s__law_things) (defBody s__law_things) (defScope s__law_things) .none kV8 dc8 pm8 an8 cd8 ct8,
    f__law_truth := f9,
    fd__law_truth := PySem.W.fnOf "_law_truth" "_law_truth" (defArgs s__law_truth) (defBody s__law_truth) (defScope s__law_truth) .none kV9 dc9 pm9 an9 cd9 ct9,
    f_is_whole := f10,
    fd_is_whole := PySem.W.fnOf "is_whole" "is_whole" (defArgs s_is_whole) (defBody s_is_whole) (defScope s_is_whole) (.ref T10) kV10 dc10 pm10 an10 cd10 ct10,
    f_is_sequence := f11,
    fd_is_sequence := PySem.W.fnOf "is_sequence" "is_sequence" (defArgs s_is_sequence) (defBody s_is_sequence) (defScope s_is_sequence) .none kV11 dc11 pm11 an11 cd11 ct11,
    f_is_ratio := f12,
    fd_is_ratio := PySem.W.fnOf "is_ratio" "is_ratio" (defArgs s_is_ratio) (defBody s_is_ratio) (defScope s_is_ratio) .none kV12 dc12 pm12 an12 cd12 ct12,
    f_is_share := f13,
    fd_is_share := PySem.W.fnOf "is_share" "is_share" (defArgs s_is_share) (defBody s_is_share) (defScope s_is_share) .none kV13 dc13 pm13 an13 cd13 ct13,
    f__law_things_hold := f14,
    fd__law_things_hold := PySem.W.fnOf "_law_things_hold" "_law_things_hold" (defArgs s__law_things_hold) (defBody s__law_things_hold) (defScope s__law_things_hold) .none kV14 dc14 pm14 an14 cd14 ct14,
    f__law_bounds_hold := f15,
    fd__law_bounds_hold := PySem.W.fnOf "_law_bounds_hold" "_law_bounds_hold" (defArgs s__law_bounds_hold) (defBody s__law_bounds_hold) (defScope s__law_bounds_hold) .none kV15 dc15 pm15 an15 cd15 ct15,
    f__law_whole := f16,
    fd__law_whole := PySem.W.fnOf "_law_whole" "_law_whole" (defArgs s__law_whole) (defBody s__law_whole) (defScope s__law_whole) .none kV16 dc16 pm16 an16 cd16 ct16,
    f__law_wholes := f17,
    fd__law_wholes := PySem.W.fnOf "_law_wholes" "_law_wholes" (defArgs s__law_wholes) (defBody s__law_wholes) (defScope s__law_wholes) .none kV17 dc17 pm17 an17 cd17 ct17,
    f__law_same := f18,
    fd__law_same := PySem.W.fnOf "_law_same" "_law_same" (defArgs s__law_same) (defBody s__law_same) (defScope s__law_same) .none kV18 dc18 pm18 an18 cd18 ct18,
    f_lowest_terms := f19,
    fd_lowest_terms := PySem.W.fnOf "lowest_terms" "lowest_terms" (defArgs s_lowest_terms) (defBody s_lowest_terms) (defScope s_lowest_terms) .none kV19 dc19 pm19 an19 cd19 ct19,
    f_make_ratio := f20,
    fd_make_ratio := PySem.W.fnOf "make_ratio" "make_ratio" (defArgs s_make_ratio) (defBody s_make_ratio) (defScope s_make_ratio) (.ref T20) kV20 dc20 pm20 an20 cd20 ct20,
    f__law_making_holds := f21,
    fd__law_making_holds := PySem.W.fnOf "_law_making_holds" "_law_making_holds" (defArgs s__law_making_holds) (defBody s__law_making_holds) (defScope s__law_making_holds) .none kV21 dc21 pm21 an21 cd21 ct21,
    f__law_bottom := f22,
    fd__law_bottom := PySem.W.fnOf "_law_bottom" "_law_bottom" (defArgs s__law_bottom) (defBody s__law_bottom) (defScope s__law_bottom) .none kV22 dc22 pm22 an22 cd22 ct22,
    f_ratio_compare := f23,
    fd_ratio_compare := PySem.W.fnOf "ratio_compare" "ratio_compare" (defArgs s_ratio_compare) (defBody s_ratio_compare) (defScope s_ratio_compare) .none kV23 dc23 pm23 an23 cd23 ct23,
    f_ratio_over := f24,
    fd_ratio_over := PySem.W.fnOf "ratio_over" "ratio_over" (defArgs s_ratio_over) (defBody s_ratio_over) (defScope s_ratio_over) .none kV24 dc24 pm24 an24 cd24 ct24,
    f_ratio_plus := f25,
    fd_ratio_plus := PySem.W.fnOf "ratio_plus" "ratio_plus" (defArgs s_ratio_plus) (defBody s_ratio_plus) (defScope s_ratio_plus) .none kV25 dc25 pm25 an25 cd25 ct25,
    f_ratio_minus := f26,
    fd_ratio_minus := PySem.W.fnOf "ratio_minus" "ratio_minus" (defArgs s_ratio_minus) (defBody s_ratio_minus) (defScope s_ratio_minus) .none kV26 dc26 pm26 an26 cd26 ct26,
    f__law_less_by := f27,
    fd__law_less_by := PySem.W.fnOf "_law_less_by" "_law_less_by" (defArgs s__law_less_by) (defBody s__law_less_by) (defScope s__law_less_by) .none kV27 dc27 pm27 an27 cd27 ct27,
    f_ratio_times := f28,
    fd_ratio_times := PySem.W.fnOf "ratio_times" "ratio_times" (defArgs s_ratio_times) (defBody s_ratio_times) (defScope s_ratio_times) .none kV28 dc28 pm28 an28 cd28 ct28,
    f__law_times := f29,
    fd__law_times := PySem.W.fnOf "_law_times" "_law_times" (defArgs s__law_times) (defBody s__law_times) (defScope s__law_times) .none kV29 dc29 pm29 an29 cd29 ct29,
    f__law_pair_holds := f30,
    fd__law_pair_holds := PySem.W.fnOf "_law_pair_holds" "_law_pair_holds" (defArgs s__law_pair_holds) (defBody s__law_pair_holds) (defScope s__law_pair_holds) .none kV30 dc30 pm30 an30 cd30 ct30,
    f_ratio_sum := f31,
    fd_ratio_sum := PySem.W.fnOf "ratio_sum" "ratio_sum" (defArgs s_ratio_sum) (defBody s_ratio_sum) (defScope s_ratio_sum) .none kV31 dc31 pm31 an31 cd31 ct31,
    f_law := fa,
    fd_law := PySem.W.fnOf "law" "law" (defArgs s_law) (defBody s_law) (defScope s_law) .none kV32 dc32 pm32 an32 cd32 ct32,
    c_CodeError := C0,
    c_BadRatio := C1,
    fi_BadRatio := g1,
    fdi_BadRatio := PySem.W.fnOf "__init__" "BadRatio.__init__" (defArgs sx_BadRatio) (defBody sx_BadRatio) (defScope sx_BadRatio) .none gkV1 gdc1 gpm1 gan1 gcd1 gct1,
    c_DividedByNought := C2,
    fi_DividedByNought := g2,
    fdi_DividedByNought := PySem.W.fnOf "__init__" "DividedByNought.__init__" (defArgs sx_DividedByNought) (defBody sx_DividedByNought) (defScope sx_DividedByNought) .none gkV2 gdc2 gpm2 gan2 gcd2 gct2,
    a_ZERO := .ref q0,
    a_ONE := .ref q1,
    a_HALF := .ref q2 }
  have T : Tx K mg A := {
    m__law_hand := PySem.W.mg_of X G a0,
    k__law_hand := k0,
    F__law_hand := ⟨⟨_, _, _, _, _, _, _, _, _, _, rfl, l0, c0, .inl ⟨rfl, rfl⟩, .inl rfl⟩, k0⟩,
    m__law_stir := PySem.W.mg_of X G a1,
    k__law_stir := k1,
    F__law_stir := ⟨⟨_, _, _, _, _, _, _, _, _, _, rfl, l1, c1, .inl ⟨rfl, rfl⟩, .inl rfl⟩, k1⟩,
    m__law_draw := PySem.W.mg_of X G a2,
    k__law_draw := k2,
    F__law_draw := ⟨⟨_, _, _, _, _, _, _, _, _, _, rfl, l2, c2, .inl ⟨rfl, rfl⟩, .inl rfl⟩, k2⟩,
    m__law_number := PySem.W.mg_of X G a3,
    k__law_number := k3,
    F__law_number := ⟨⟨_, _, _, _, _, _, _, _, _, _, rfl, l3, c3, .inl ⟨rfl, rfl⟩, .inl rfl⟩, k3⟩,
    m_common_divisor := PySem.W.mg_of X G a4,
    k_common_divisor := k4,
    F_common_divisor := ⟨⟨_, _, _, _, _, _, _, _, _, _, rfl, l4, c4, .inl ⟨rfl, rfl⟩, .inl rfl⟩, k4⟩,
    m__law_part := PySem.W.mg_of X G a5,
    k__law_part := k5,
    F__law_part := ⟨⟨_, _, _, _, _, _, _, _, _, _, rfl, l5, c5, .inl ⟨rfl, rfl⟩, .inl rfl⟩, k5⟩,
    m__law_ratio := PySem.W.mg_of X G a6,
    k__law_ratio := k6,
    F__law_ratio := ⟨⟨_, _, _, _, _, _, _, _, _, _, rfl, l6, c6, .inl ⟨rfl, rfl⟩, .inl rfl⟩, k6⟩,
    m__law_plus := PySem.W.mg_of X G a7,
    k__law_plus := k7,
    F__law_plus := ⟨⟨_, _, _, _, _, _, _, _, _, _, rfl, l7, c7, .inl ⟨rfl, rfl⟩, .inl rfl⟩, k7⟩,
    m__law_things := PySem.W.mg_of X G a8,
    k__law_things := k8,
    F__law_things := ⟨⟨_, _, _, _, _, _, _, _, _, _, rfl, l8, c8, .inl ⟨rfl, rfl⟩, .inl rfl⟩, k8⟩,
    m__law_truth := PySem.W.mg_of X G a9,
    k__law_truth := k9,
    F__law_truth := ⟨⟨_, _, _, _, _, _, _, _, _, _, rfl, l9, c9, .inl ⟨rfl, rfl⟩, .inl rfl⟩, k9⟩,
    m_is_whole := PySem.W.mg_of X G a10,
    k_is_whole := k10,
    F_is_whole := ⟨⟨_, _, _, _, _, _, _, _, _, _, rfl, l10, c10, .inr ⟨by simp, T10, _, _, _, rfl, lT10, rfl, (.cons rfl (.cons rfl .nil))⟩, .inl rfl⟩, k10⟩,
    m_is_sequence := PySem.W.mg_of X G a11,
    k_is_sequence := k11,
    F_is_sequence := ⟨⟨_, _, _, _, _, _, _, _, _, _, rfl, l11, c11, .inl ⟨rfl, rfl⟩, .inl rfl⟩, k11⟩,
    m_is_ratio := PySem.W.mg_of X G a12,
    k_is_ratio := k12,
    F_is_ratio := ⟨⟨_, _, _, _, _, _, _, _, _, _, rfl, l12, c12, .inl ⟨rfl, rfl⟩, .inl rfl⟩, k12⟩,
    m_is_share := PySem.W.mg_of X G a13,
    k_is_share := k13,
    F_is_share := ⟨⟨_, _, _, _, _, _, _, _, _, _, rfl, l13, c13, .inl ⟨rfl, rfl⟩, .inl rfl⟩, k13⟩,
    m__law_things_hold := PySem.W.mg_of X G a14,
    k__law_things_hold := k14,
    F__law_things_hold := ⟨⟨_, _, _, _, _, _, _, _, _, _, rfl, l14, c14, .inl ⟨rfl, rfl⟩, .inl rfl⟩, k14⟩,
    m__law_bounds_hold := PySem.W.mg_of X G a15,
    k__law_bounds_hold := k15,
    F__law_bounds_hold := ⟨⟨_, _, _, _, _, _, _, _, _, _, rfl, l15, c15, .inl ⟨rfl, rfl⟩, .inl rfl⟩, k15⟩,
    m__law_whole := PySem.W.mg_of X G a16,
    k__law_whole := k16,
    F__law_whole := ⟨⟨_, _, _, _, _, _, _, _, _, _, rfl, l16, c16, .inl ⟨rfl, rfl⟩, .inl rfl⟩, k16⟩,
    m__law_wholes := PySem.W.mg_of X G a17,
    k__law_wholes := k17,
    F__law_wholes := ⟨⟨_, _, _, _, _, _, _, _, _, _, rfl, l17, c17, .inl ⟨rfl, rfl⟩, .inl rfl⟩, k17⟩,
    m__law_same := PySem.W.mg_of X G a18,
    k__law_same := k18,
    F__law_same := ⟨⟨_, _, _, _, _, _, _, _, _, _, rfl, l18, c18, .inl ⟨rfl, rfl⟩, .inl rfl⟩, k18⟩,
    m_lowest_terms := PySem.W.mg_of X G a19,
    k_lowest_terms := k19,
    F_lowest_terms := ⟨⟨_, _, _, _, _, _, _, _, _, _, rfl, l19, c19, .inl ⟨rfl, rfl⟩, .inl rfl⟩, k19⟩,
    m_make_ratio := PySem.W.mg_of X G a20,
    k_make_ratio := k20,
    F_make_ratio := ⟨⟨_, _, _, _, _, _, _, _, _, _, rfl, l20, c20, .inr ⟨by simp, T20, _, _, _, rfl, lT20, rfl, (.cons ⟨_, rfl⟩ .nil)⟩, .inl rfl⟩, k20⟩,
    m__law_making_holds := PySem.W.mg_of X G a21,
    k__law_making_holds := k21,
    F__law_making_holds := ⟨⟨_, _, _, _, _, _, _, _, _, _, rfl, l21, c21, .inl ⟨rfl, rfl⟩, .inl rfl⟩, k21⟩,
    m__law_bottom := PySem.W.mg_of X G a22,
    k__law_bottom := k22,
    F__law_bottom := ⟨⟨_, _, _, _, _, _, _, _, _, _, rfl, l22, c22, .inl ⟨rfl, rfl⟩, .inl rfl⟩, k22⟩,
    m_ratio_compare := PySem.W.mg_of X G a23,
    k_ratio_compare := k23,
    F_ratio_compare := ⟨⟨_, _, _, _, _, _, _, _, _, _, rfl, l23, c23, .inl ⟨rfl, rfl⟩, .inl rfl⟩, k23⟩,
    m_ratio_over := PySem.W.mg_of X G a24,
    k_ratio_over := k24,
    F_ratio_over := ⟨⟨_, _, _, _, _, _, _, _, _, _, rfl, l24, c24, .inl ⟨rfl, rfl⟩, .inl rfl⟩, k24⟩,
    m_ratio_plus := PySem.W.mg_of X G a25,
    k_ratio_plus := k25,
    F_ratio_plus := ⟨⟨_, _, _, _, _, _, _, _, _, _, rfl, l25, c25, .inl ⟨rfl, rfl⟩, .inl rfl⟩, k25⟩,
    m_ratio_minus := PySem.W.mg_of X G a26,
    k_ratio_minus := k26,
    F_ratio_minus := ⟨⟨_, _, _, _, _, _, _, _, _, _, rfl, l26, c26, .inl ⟨rfl, rfl⟩, .inl rfl⟩, k26⟩,
    m__law_less_by := PySem.W.mg_of X G a27,
    k__law_less_by := k27,
    F__law_less_by := ⟨⟨_, _, _, _, _, _, _, _, _, _, rfl, l27, c27, .inl ⟨rfl, rfl⟩, .inl rfl⟩, k27⟩,
    m_ratio_times := PySem.W.mg_of X G a28,
    k_ratio_times := k28,
    F_ratio_times := ⟨⟨_, _, _, _, _, _, _, _, _, _, rfl, l28, c28, .inl ⟨rfl, rfl⟩, .inl rfl⟩, k28⟩,
    m__law_times := PySem.W.mg_of X G a29,
    k__law_times := k29,
    F__law_times := ⟨⟨_, _, _, _, _, _, _, _, _, _, rfl, l29, c29, .inl ⟨rfl, rfl⟩, .inl rfl⟩, k29⟩,
    m__law_pair_holds := PySem.W.mg_of X G a30,
    k__law_pair_holds := k30,
    F__law_pair_holds := ⟨⟨_, _, _, _, _, _, _, _, _, _, rfl, l30, c30, .inl ⟨rfl, rfl⟩, .inl rfl⟩, k30⟩,
    m_ratio_sum := PySem.W.mg_of X G a31,
    k_ratio_sum := k31,
    F_ratio_sum := ⟨⟨_, _, _, _, _, _, _, _, _, _, rfl, l31, c31, .inl ⟨rfl, rfl⟩, .inl rfl⟩, k31⟩,
    m_law := PySem.W.mg_of X G a32,
    k_law := k32,
    F_law := ⟨⟨_, _, _, _, _, _, _, _, _, _, rfl, l32, c32, .inl ⟨rfl, rfl⟩, .inl rfl⟩, k32⟩,
    z_ValueError := PySem.W.mg_none_of X G z0,
    z_abs := PySem.W.mg_none_of X G z1,
    z_all := PySem.W.mg_none_of X G z2,
    z_bool := PySem.W.mg_none_of X G z3,
    z_enumerate := PySem.W.mg_none_of X G z4,
    z_int := PySem.W.mg_none_of X G z5,
    z_isinstance := PySem.W.mg_none_of X G z6,
    z_len := PySem.W.mg_none_of X G z7,
    z_list := PySem.W.mg_none_of X G z8,
    z_range := PySem.W.mg_none_of X G z9,
    z_tuple := PySem.W.mg_none_of X G z10,
    m_ZERO := PySem.W.mg_of X G aq0,
    r_ZERO := ⟨.ref q0, rfl, rep_ktup (M := ⟨K, mg⟩) (vs := [(.int 0), (.int 1)]) lq0 (by show 2 ≤ sizeLine; decide) (.cons ⟨_, rfl⟩ (.cons ⟨_, rfl⟩ .nil)) (fun _ _ => (RepL.cons rep_int (RepL.cons rep_int RepL.nil)))⟩,
    m_ONE := PySem.W.mg_of X G aq1,
    r_ONE := ⟨.ref q1, rfl, rep_ktup (M := ⟨K, mg⟩) (vs := [(.int 1), (.int 1)]) lq1 (by show 2 ≤ sizeLine; decide) (.cons ⟨_, rfl⟩ (.cons ⟨_, rfl⟩ .nil)) (fun _ _ => (RepL.cons rep_int (RepL.cons rep_int RepL.nil)))⟩,
    m_HALF := PySem.W.mg_of X G aq2,
    r_HALF := ⟨.ref q2, rfl, rep_ktup (M := ⟨K, mg⟩) (vs := [(.int 1), (.int 2)]) lq2 (by show 2 ≤ sizeLine; decide) (.cons ⟨_, rfl⟩ (.cons ⟨_, rfl⟩ .nil)) (fun _ _ => (RepL.cons rep_int (RepL.cons rep_int RepL.nil)))⟩,
    m_CodeError := PySem.W.mg_of X G aC0,
    m_BadRatio := PySem.W.mg_of X G aC1,
    o_BadRatio := { cls := ⟨_, _, _, _, _, _, _, _, _, _, _, _, _, _, _, xL1, (by show PySem.HandSPX.refsVE [.type "ValueError", .type "Exception", .type "BaseException", .type "object"] = true; decide +kernel)⟩, sa := sa1, exC := eC1, tyC := tC1, kC := kC1 },
    i_BadRatio := ai1,
    t_BadRatio := ti1,
    F_BadRatio := ⟨⟨_, _, _, _, _, _, _, _, _, _, rfl, li1, ci1, .inl ⟨rfl, rfl⟩, .inl rfl⟩, ki1⟩,
    n_BadRatio_what := nf1_0,
    m_DividedByNought := PySem.W.mg_of X G aC2,
    o_DividedByNought := { cls := ⟨_, _, _, _, _, _, _, _, _, _, _, _, _, _, _, xL2, (by show PySem.HandSPX.refsVE [.type "ValueError", .type "Exception", .type "BaseException", .type "object"] = true; decide +kernel)⟩, sa := sa2, exC := eC2, tyC := tC2, kC := kC2 },
    i_DividedByNought := ai2,
    t_DividedByNought := ti2,
    F_DividedByNought := ⟨⟨_, _, _, _, _, _, _, _, _, _, rfl, li2, ci2, .inl ⟨rfl, rfl⟩, .inl rfl⟩, ki2⟩,
    rd_CodeError := ⟨rd0, rg0⟩,
    vi_CodeError := vi0,
    e_BadRatio_BadRatio := PySem.W.exm_ref eC1 xhd1 tC1 sb1_1,
    e_DividedByNought_CodeError := PySem.W.exm_ref eC0 xhd0 tC0 sb2_0,
    j_DividedByNought_BadRatio := kit_refT xhd1 tC1 sb1_1 sb2_1,
    j_DividedByNought_DividedByNought := kit_refT xhd2 tC2 sb2_2 sb2_2,
    j_DividedByNought_ValueError := kit_tyT (by decide +kernel) sb2_ValueError,
    x_DividedByNought := ⟨xhg2, xhk2, xhs2, xhd2, xha2, xn, xt, xhm2⟩,
    y_BadRatio := ⟨xhg1, xhk1, xhs1, xhd1⟩ }
  exact ⟨A.fd_law, fun s v => .of_eq rfl, fun base _ _ => law_imp (ok_law T) hl⟩
end K00

set_option Elab.async false
set_option linter.all false
set_option maxRecDepth 100000
set_option maxHeartbeats 1000000
/-! the law's mathematics: ratios -/
namespace K00
open PySem L2 DL

theorem callR_v {n : Nat} {dn : Dn} {as : List AV} {g : Sg} {d : D} {ss : Sg} (ho : ownIx as = []) (hl : as.length = n) (h : dn (as.map (toS g)) = .ok d ss) : callR n dn as g = .ok d g := by
  rw [callR_ok' h hl (by rw [ho]; rfl), s_mV ho]
theorem callR_x {n : Nat} {dn : Dn} {as : List AV} {g : Sg} {e : Exn} {ss : Sg} (ho : ownIx as = []) (hl : as.length = n) (h : dn (as.map (toS g)) = .ex e ss) : callR n dn as g = .ex e g := by
  rw [callR_ex' h hl (by rw [ho]; rfl), s_mV ho]
variable {g : Sg} {n m a b : Int} {d d2 l h : D}
/-! ### is_whole -/
theorem w_nn : callR 3 d_is_whole [.d (.int n), .d .non, .d .non] g = .ok (.bl true) g := by
  refine callR_v rfl rfl (ss := [.v (.int n), .v .non, .v .non]) ?_
  simp [d_is_whole, s_def]
theorem w_an : callR 3 d_is_whole [.d (.int n), .d (.int a), .d .non] g = .ok (.bl (decide (a ≤ n))) g := by
  refine callR_v rfl rfl (ss := [.v (.int n), .v (.int a), .v .non]) ?_
  by_cases c : n < a
  · simp [d_is_whole, s_def, c]
  · simp [d_is_whole, s_def, c]; omega
theorem w_nb : callR 3 d_is_whole [.d (.int n), .d .non, .d (.int b)] g = .ok (.bl (decide (n ≤ b))) g := by
  refine callR_v rfl rfl (ss := [.v (.int n), .v .non, .v (.int b)]) ?_
  simp [d_is_whole, s_def]
theorem w_ab : callR 3 d_is_whole [.d (.int n), .d (.int a), .d (.int b)] g = .ok (.bl (decide (a ≤ n) && decide (n ≤ b))) g := by
  refine callR_v rfl rfl (ss := [.v (.int n), .v (.int a), .v (.int b)]) ?_
  by_cases c : n < a
  · have : ¬ a ≤ n := by omega
    simp [d_is_whole, s_def, c, this]
  · have : a ≤ n := by omega
    simp [d_is_whole, s_def, c, this]
theorem w_bl {c : Bool} : callR 3 d_is_whole [.d (.bl c), .d l, .d h] g = .ok (.bl false) g := by
  refine callR_v rfl rfl (ss := [.v (.bl c), .v l, .v h]) ?_
  simp [d_is_whole, s_def]
theorem w_str {c : Str} : callR 3 d_is_whole [.d (.str c), .d l, .d h] g = .ok (.bl false) g := by
  refine callR_v rfl rfl (ss := [.v (.str c), .v l, .v h]) ?_
  simp [d_is_whole, s_def]
theorem w_non : callR 3 d_is_whole [.d .non, .d l, .d h] g = .ok (.bl false) g := by
  refine callR_v rfl rfl (ss := [.v .non, .v l, .v h]) ?_
  simp [d_is_whole, s_def]
theorem w_tup {c : List D} : callR 3 d_is_whole [.d (.tup c), .d l, .d h] g = .ok (.bl false) g := by
  refine callR_v rfl rfl (ss := [.v (.tup c), .v l, .v h]) ?_
  simp [d_is_whole, s_def]
theorem w_lst {c : List D} : callR 3 d_is_whole [.d (.lst c), .d l, .d h] g = .ok (.bl false) g := by
  refine callR_v rfl rfl (ss := [.v (.lst c), .v l, .v h]) ?_
  simp [d_is_whole, s_def]
/-! ### the law's own wholes -/
theorem lw_int : callR 1 d__law_whole [.d (.int n)] g = .ok (.bl true) g := by
  refine callR_v rfl rfl (ss := [.v (.int n)]) ?_
  simp [d__law_whole, s_def]
theorem lw_bl {c : Bool} : callR 1 d__law_whole [.d (.bl c)] g = .ok (.bl false) g := by
  refine callR_v rfl rfl (ss := [.v (.bl c)]) ?_
  simp [d__law_whole, s_def]
theorem lw_str {c : Str} : callR 1 d__law_whole [.d (.str c)] g = .ok (.bl false) g := by
  refine callR_v rfl rfl (ss := [.v (.str c)]) ?_
  simp [d__law_whole, s_def]
theorem lw_non : callR 1 d__law_whole [.d .non] g = .ok (.bl false) g := by
  refine callR_v rfl rfl (ss := [.v .non]) ?_
  simp [d__law_whole, s_def]
theorem lw_tup {c : List D} : callR 1 d__law_whole [.d (.tup c)] g = .ok (.bl false) g := by
  refine callR_v rfl rfl (ss := [.v (.tup c)]) ?_
  simp [d__law_whole, s_def]
theorem truth_ok {c e : Bool} : callR 2 d__law_truth [.d (.bl c), .d (.bl e)] g = .ok (.bl (c == e)) g := by
  refine callR_v rfl rfl (ss := [.v (.bl c), .v (.bl e)]) ?_
  simp [d__law_truth, s_def]
theorem seq_ok {c : Bool} (hc : isLstTup d = some c) : callR 1 d_is_sequence [.d d] g = .ok (.bl c) g := by
  refine callR_v rfl rfl (ss := [.v d]) ?_
  simp [d_is_sequence, s_def, hc]
def T2 (a b : Int) : D := .tup [.int a, .int b]
theorem wholes2 : callR 2 d__law_wholes [.d (T2 a b), .d (.int 2)] g = .ok (.bl true) g := by
  refine callR_v rfl rfl (ss := [.v (T2 a b), .v (.int 2)]) ?_
  simp [d__law_wholes, s_def, T2, lcL, keep?, wipeG, lw_int, sizeLine_eq]
theorem same2 : callR 2 d__law_same [.d (T2 a b), .d (T2 a b)] g = .ok (.bl true) g := by
  refine callR_v rfl rfl (ss := [.v (T2 a b), .v (T2 a b)]) ?_
  simp [d__law_same, s_def, wholes2]
  simp [T2]
/-! ### the common divisor -/
theorem gcd_loop (A B : S) : ∀ (n y x : Nat), y < n → whileN (tstF (op2F gtD (varF 3) (cF (.int 0)))) (parS 2 3 (consA (varF 3) (consA (op2F modD (varF 2) (varF 3)) nilA))) n [A, B, .v (.int x), .v (.int y)] = .nx [A, B, .v (.int (Nat.gcd x y)), .v (.int 0)]
  | 0, y, x, h => by omega
  | n + 1, y, x, h => by
    by_cases c : y = 0
    · subst c
      simp
    · have c1 : (0 : Int) < y := by omega
      have c2 : ¬ (y : Int) = 0 := by omega
      have e : Int.fmod (x : Int) (y : Int) = ((x % y : Nat) : Int) := by
        rw [Int.fmod_eq_emod_of_nonneg _ (by omega)]; rfl
      have ih := gcd_loop A B n (x % y) y (by have := Nat.mod_lt x (Nat.pos_of_ne_zero c); omega)
      rw [Nat.gcd_comm y, ← Nat.gcd_rec, Nat.gcd_comm] at ih
      have c3 : 0 < y := by omega
      simp [c, c3, e]
      exact ih
theorem cd_ok : callR 2 d_common_divisor [.d (.int a), .d (.int b)] g = .ok (.int (Int.gcd a b)) g := by
  refine callR_v rfl rfl (ss := [.v (.int a), .v (.int b)]) ?_
  have e := gcd_loop (.v (.int a)) (.v (.int b)) (b.natAbs + 1) b.natAbs a.natAbs (by omega)
  have e2 := whileS_eq e (by intro h; cases h)
  simp [d_common_divisor, s_def, e2, Int.gcd]

/-! the law's own: a bounded walk -/
def partS : FS := seqS (ifS (tstF (op2F eqD (varF 1) (cF (.int 0)))) brkS skipS) (parS 0 1 (consA (varF 1) (consA (op2F modD (bltF intF (consV (dF (varF 0)) nilV)) (varF 1)) nilA)))
theorem part_zero {s2 : S} {x : Nat} : ∀ (ls : List D), ∃ s1 s2', forL (turnS (tgN 2) partS) ls [.v (.int x), .v (.int (0 : Nat)), s2] = .nx [.v (.int x), s1, s2']
  | [] => ⟨_, _, rfl⟩
  | d :: ls => ⟨.v (.int 0), .v d, by simp [s_forCons, partS]⟩
theorem part_step {s2 : S} {x y : Nat} (hy : y ≠ 0) (dd : D) (ls : List D) : forL (turnS (tgN 2) partS) (dd :: ls) [.v (.int x), .v (.int y), s2] = forL (turnS (tgN 2) partS) ls [.v (.int y), .v (.int (x % y : Nat)), .v dd] := by
  have e : Int.fmod (x : Int) (y : Int) = ((x % y : Nat) : Int) := by
    rw [Int.fmod_eq_emod_of_nonneg _ (by omega)]; rfl
  rw [s_forCons]
  simp [partS, hy, e]
theorem part_loop : ∀ (k : Nat) (ls : List D) (x y : Nat) (s2 : S), y < 2 ^ k → 2 * k ≤ ls.length → ∃ s1 s2', forL (turnS (tgN 2) partS) ls [.v (.int x), .v (.int y), s2] = .nx [.v (.int (Nat.gcd x y)), s1, s2']
  | 0, ls, x, y, s2, hy, hl => by
    have : y = 0 := by simpa using hy
    subst this
    rw [Nat.gcd_zero_right]
    exact part_zero ls
  | k + 1, ls, x, y, s2, hy, hl => by
    by_cases c : y = 0
    · subst c
      rw [Nat.gcd_zero_right]
      exact part_zero ls
    match ls, hl with
    | d1 :: d2 :: ls, hl =>
      rw [part_step c]
      have e1 : Nat.gcd x y = Nat.gcd y (x % y) := by rw [Nat.gcd_comm, Nat.gcd_rec, Nat.gcd_comm]
      by_cases c2 : x % y = 0
      · rw [e1, c2, Nat.gcd_zero_right]
        exact part_zero _
      · rw [part_step c2]
        have e2 : Nat.gcd y (x % y) = Nat.gcd (x % y) (y % (x % y)) := by rw [Nat.gcd_comm, Nat.gcd_rec, Nat.gcd_comm]
        rw [e1, e2]
        refine part_loop k ls _ _ _ ?_ (by simp at hl; omega)
        have h1 : x % y < y := Nat.mod_lt _ (Nat.pos_of_ne_zero c)
        have h2 : y % (x % y) < x % y := Nat.mod_lt _ (Nat.pos_of_ne_zero c2)
        have h3 : y % (x % y) + (x % y) ≤ y := by
          have := Nat.div_add_mod y (x % y)
          have h4 : 1 ≤ y / (x % y) := (Nat.one_le_div_iff (Nat.pos_of_ne_zero c2)).mpr (Nat.le_of_lt h1)
          have h5 : x % y ≤ (x % y) * (y / (x % y)) := Nat.le_mul_of_pos_right _ h4
          omega
        rw [Nat.pow_succ] at hy
        omega
theorem part_ok (hb : BB 450 b) : callR 2 d__law_part [.d (.int a), .d (.int b)] g = .ok (.int (Int.gcd a b)) g := by
  obtain ⟨s1, s2, e⟩ := part_loop 450 (rng 900 0) a.natAbs b.natAbs (.un) hb (by rw [rng_length]; decide)
  unfold partS at e
  refine callR_v rfl rfl (ss := [.v (.int (Int.gcd a b)), s1]) ?_
  have er : rng1D [.int 900] = some (rng 900 0) := rfl
  simp [d__law_part, s_def, er, e, Int.gcd]
/-! ### lowest terms -/
def nrm (t b : Int) : D := if b < 0 then T2 ((-t).fdiv (Int.gcd t b)) ((-b).fdiv (Int.gcd t b)) else T2 (t.fdiv (Int.gcd t b)) (b.fdiv (Int.gcd t b))
theorem gcd_bb {k : Nat} (hb : BB k b) (h0 : b ≠ 0) : BB k (Int.gcd a b : Int) ∧ (Int.gcd a b : Int) ≠ 0 := by
  have h1 : Int.gcd a b ∣ b.natAbs := Nat.gcd_dvd_right _ _
  have h2 : Int.gcd a b ≤ b.natAbs := Nat.le_of_dvd (by omega) h1
  have h3 : Int.gcd a b ≠ 0 := fun z => by
    rw [z] at h1
    have := Nat.eq_zero_of_zero_dvd h1
    omega
  refine ⟨?_, by omega⟩
  unfold BB at *
  simp only [Int.natAbs_natCast]
  omega
theorem ratio_ok (hb : BB 450 b) (h0 : b ≠ 0) : callR 2 d__law_ratio [.d (.int a), .d (.int b)] g = .ok (nrm a b) g := by
  obtain ⟨q1, q2⟩ := gcd_bb (a := a) hb h0
  have q3 : Int.gcd a b < LID := by have := q1.lid (by decide); simpa using this
  by_cases c : b < 0
  · have hb' : BB 450 (-b) := by unfold BB at *; rw [Int.natAbs_neg]; exact hb
    refine callR_v rfl rfl (ss := [.v (.int (-a)), .v (.int (-b))]) ?_
    simp [d__law_ratio, s_def, c, part_ok hb', h0, q3, szOk, nrm, T2, Int.gcd_neg, Int.neg_gcd]
  · refine callR_v rfl rfl (ss := [.v (.int a), .v (.int b)]) ?_
    simp [d__law_ratio, s_def, c, part_ok hb, h0, q3, szOk, nrm, T2]
theorem low_ok (hb : BB 450 b) (h0 : b ≠ 0) : callR 2 d_lowest_terms [.d (.int a), .d (.int b)] g = .ok (nrm a b) g := by
  obtain ⟨q1, q2⟩ := gcd_bb (a := a) hb h0
  have q3 : Int.gcd a b < LID := by have := q1.lid (by decide); simpa using this
  by_cases c : b < 0
  · refine callR_v rfl rfl (ss := [.v (.int a), .v (.int b)]) ?_
    have e1 : a.fdiv (-(Int.gcd a b : Int)) = (-a).fdiv (Int.gcd a b : Int) := by
      have := Int.neg_fdiv_neg (-a) (Int.gcd a b : Int)
      rw [Int.neg_neg] at this
      exact this
    have e2 : b.fdiv (-(Int.gcd a b : Int)) = (-b).fdiv (Int.gcd a b : Int) := by
      have := Int.neg_fdiv_neg (-b) (Int.gcd a b : Int)
      rw [Int.neg_neg] at this
      exact this
    simp [d_lowest_terms, s_def, c, cd_ok, h0, q3, szOk, nrm, T2, e1, e2]
  · refine callR_v rfl rfl (ss := [.v (.int a), .v (.int b)]) ?_
    simp [d_lowest_terms, s_def, c, cd_ok, h0, q3, szOk, nrm, T2]

/-! ratios -/
structure Rt (k m : Nat) (x y : Int) : Prop where
  pos : 0 < y
  gcd : Int.gcd x y = 1
  bx : BB k x
  by_ : BB m y
theorem div_bb {k : Nat} {t : Int} (q : Nat) (h : BB k t) : BB k (t.fdiv q) := by
  unfold BB at *
  rw [Int.fdiv_eq_ediv_of_nonneg _ (by omega)]
  have := Int.natAbs_ediv_le_natAbs t (q : Int)
  omega
theorem nrm_rt {k m : Nat} {t : Int} (ht : BB k t) (hb : BB m b) (h0 : b ≠ 0) : ∃ x y, nrm t b = T2 x y ∧ Rt k m x y := by
  have hg : 0 < Int.gcd t b := by
    rcases Nat.eq_zero_or_pos (Int.gcd t b) with z | z
    · rw [Int.gcd_eq_zero_iff] at z; exact absurd z.2 h0
    · exact z
  have main : ∀ {t b : Int}, 0 < b → BB k t → BB m b → 0 < Int.gcd t b → Rt k m (t.fdiv (Int.gcd t b)) (b.fdiv (Int.gcd t b)) := fun {t b} hb0 ht hb hg => by
    refine ⟨?_, ?_, div_bb _ ht, div_bb _ hb⟩
    · rw [Int.fdiv_eq_ediv_of_nonneg _ (by omega)]
      exact Int.ediv_pos_of_pos_of_dvd hb0 (by omega) (Int.gcd_dvd_right ..)
    · rw [Int.fdiv_eq_ediv_of_nonneg _ (by omega), Int.fdiv_eq_ediv_of_nonneg _ (by omega)]
      exact Int.gcd_ediv_gcd_ediv_gcd hg
  unfold nrm
  by_cases c : b < 0
  · rw [if_pos c]
    refine ⟨_, _, rfl, ?_⟩
    have e : Int.gcd t b = Int.gcd (-t) (-b) := by rw [Int.gcd_neg, Int.neg_gcd]
    rw [e]
    exact main (by omega) (by unfold BB at *; rw [Int.natAbs_neg]; exact ht) (by unfold BB at *; rw [Int.natAbs_neg]; exact hb) (by rw [← e]; exact hg)
  · rw [if_neg c]
    exact ⟨_, _, rfl, main (by omega) ht hb hg⟩
theorem isr_ok {x y : Int} : callR 1 d_is_ratio [.d (T2 x y)] g = .ok (.bl (decide (1 ≤ y) && decide (Int.gcd x y = 1))) g := by
  refine callR_v rfl rfl (ss := [.v (T2 x y)]) ?_
  by_cases c : 1 ≤ y
  · by_cases hg : Int.gcd x y = 1
    · simp [d_is_ratio, s_def, T2, w_nn, w_an, c, cd_ok, hg]
    · have hg2 : ¬ (Int.gcd x y : Int) = 1 := by omega
      simp [d_is_ratio, s_def, T2, w_nn, w_an, c, cd_ok, hg, hg2]
  · simp [d_is_ratio, s_def, T2, w_nn, w_an, c, cd_ok]
theorem shr_ok {k m : Nat} {x y : Int} (h : Rt k m x y) : callR 1 d_is_share [.d (T2 x y)] g = .ok (.bl (decide (0 ≤ x) && decide (x ≤ y))) g := by
  refine callR_v rfl rfl (ss := [.v (T2 x y)]) ?_
  have h1 : 1 ≤ y := by have := h.pos; omega
  have e : callR 1 d_is_ratio [.d (T2 x y)] [.v (T2 x y)] = .ok (.bl true) [.v (T2 x y)] := by rw [isr_ok]; simp [h1, h.gcd]
  unfold T2 at e
  by_cases c : 0 ≤ x
  · simp [d_is_share, s_def, e, T2, c]
  · simp [d_is_share, s_def, e, T2, c]
section
variable {c e : Int} (hb : BB 200 a) (hb2 : BB 200 b) (hc : BB 200 c) (he : BB 200 e) (b0 : b ≠ 0) (e0 : e ≠ 0)
include hb hb2 hc he b0 e0
theorem be0 : b * e ≠ 0 ∧ BB 450 (b * e) := ⟨Int.mul_ne_zero b0 e0, (hb2.mul he).mono (by decide)⟩
theorem plus_ok : callR 2 d_ratio_plus [.d (T2 a b), .d (T2 c e)] g = .ok (nrm (a * e + c * b) (b * e)) g := by
  refine callR_v rfl rfl (ss := [.v (T2 a b), .v (T2 c e)]) ?_
  obtain ⟨h1, h2⟩ := be0 hb hb2 hc he b0 e0
  simp [d_ratio_plus, s_def, T2, d_mul' (hb.mul he), d_mul' (hc.mul hb2), d_mul' (hb2.mul he), low_ok h2 h1]
theorem lplus_ok : callR 2 d__law_plus [.d (T2 a b), .d (T2 c e)] g = .ok (nrm (a * e + c * b) (b * e)) g := by
  refine callR_v rfl rfl (ss := [.v (T2 a b), .v (T2 c e)]) ?_
  obtain ⟨h1, h2⟩ := be0 hb hb2 hc he b0 e0
  simp [d__law_plus, s_def, T2, d_mul' (hb.mul he), d_mul' (hc.mul hb2), d_mul' (hb2.mul he), ratio_ok h2 h1]
theorem minus_ok : callR 2 d_ratio_minus [.d (T2 a b), .d (T2 c e)] g = .ok (nrm (a * e - c * b) (b * e)) g := by
  refine callR_v rfl rfl (ss := [.v (T2 a b), .v (T2 c e)]) ?_
  obtain ⟨h1, h2⟩ := be0 hb hb2 hc he b0 e0
  simp [d_ratio_minus, s_def, T2, d_mul' (hb.mul he), d_mul' (hc.mul hb2), d_mul' (hb2.mul he), low_ok h2 h1]
theorem lminus_ok : callR 2 d__law_less_by [.d (T2 a b), .d (T2 c e)] g = .ok (nrm (a * e - c * b) (b * e)) g := by
  refine callR_v rfl rfl (ss := [.v (T2 a b), .v (T2 c e)]) ?_
  obtain ⟨h1, h2⟩ := be0 hb hb2 hc he b0 e0
  simp [d__law_less_by, s_def, T2, d_mul' (hb.mul he), d_mul' (hc.mul hb2), d_mul' (hb2.mul he), ratio_ok h2 h1]
theorem times_ok : callR 2 d_ratio_times [.d (T2 a b), .d (T2 c e)] g = .ok (nrm (a * c) (b * e)) g := by
  refine callR_v rfl rfl (ss := [.v (T2 a b), .v (T2 c e)]) ?_
  obtain ⟨h1, h2⟩ := be0 hb hb2 hc he b0 e0
  simp [d_ratio_times, s_def, T2, d_mul' (hb.mul hc), d_mul' (hb2.mul he), low_ok h2 h1]
theorem ltimes_ok : callR 2 d__law_times [.d (T2 a b), .d (T2 c e)] g = .ok (nrm (a * c) (b * e)) g := by
  refine callR_v rfl rfl (ss := [.v (T2 a b), .v (T2 c e)]) ?_
  obtain ⟨h1, h2⟩ := be0 hb hb2 hc he b0 e0
  simp [d__law_times, s_def, T2, d_mul' (hb.mul hc), d_mul' (hb2.mul he), ratio_ok h2 h1]
theorem cmp_ok : callR 2 d_ratio_compare [.d (T2 a b), .d (T2 c e)] g = .ok (.int ((if c * b < a * e then 1 else 0) - (if a * e < c * b then 1 else 0))) g := by
  refine callR_v rfl rfl (ss := [.v (T2 a b), .v (T2 c e)]) ?_
  rcases Int.lt_trichotomy (a * e) (c * b) with h | h | h
  · have h2 : ¬ c * b < a * e := by omega
    simp [d_ratio_compare, s_def, T2, d_mul' (hb.mul he), d_mul' (hc.mul hb2), h, h2]
  · have h2 : ¬ c * b < a * e := by omega
    have h3 : ¬ a * e < c * b := by omega
    simp [d_ratio_compare, s_def, T2, d_mul' (hb.mul he), d_mul' (hc.mul hb2), h2, h3]
  · have h2 : ¬ a * e < c * b := by omega
    simp [d_ratio_compare, s_def, T2, d_mul' (hb.mul he), d_mul' (hc.mul hb2), h, h2]
theorem over_ok (c0 : c ≠ 0) : callR 2 d_ratio_over [.d (T2 a b), .d (T2 c e)] g = .ok (nrm (a * e) (b * c)) g := by
  refine callR_v rfl rfl (ss := [.v (T2 a b), .v (T2 c e)]) ?_
  have h2 : BB 450 (b * c) := (hb2.mul hc).mono (by decide)
  have h1 : b * c ≠ 0 := Int.mul_ne_zero b0 c0
  simp [d_ratio_over, s_def, T2, d_mul' (hb.mul he), d_mul' (hb2.mul hc), low_ok h2 h1, c0]
end
theorem over_ex {e : Int} : callR 2 d_ratio_over [.d (T2 a b), .d (T2 0 e)] g = .ex ⟨"DividedByNought", [], []⟩ g := by
  refine callR_x rfl rfl (ss := [.v (T2 a b), .v (T2 0 e)]) ?_
  simp [d_ratio_over, s_def, T2]

theorem same_nrm {t : Int} (h0 : b ≠ 0) : callR 2 d__law_same [.d (nrm t b), .d (nrm t b)] g = .ok (.bl true) g := by
  unfold nrm
  split <;> exact same2
theorem pair_ok {k m : Nat} {c e : Int} (h1 : Rt 200 200 a b) (h2 : Rt 200 200 c e) : callR 2 d__law_pair_holds [.d (T2 a b), .d (T2 c e)] g = .ok (.bl true) g := by
  refine callR_v rfl rfl (ss := [.v (T2 a b), .v (T2 c e)]) ?_
  have b0 : b ≠ 0 := by have := h1.pos; omega
  have e0 : e ≠ 0 := by have := h2.pos; omega
  have be : b * e ≠ 0 := Int.mul_ne_zero b0 e0
  have p1 : ∀ g, callR 2 d_ratio_plus [.d (T2 a b), .d (T2 c e)] g = .ok (nrm (a * e + c * b) (b * e)) g := fun g => plus_ok h1.bx h1.by_ h2.bx h2.by_ b0 e0
  have p2 : ∀ g, callR 2 d__law_plus [.d (T2 a b), .d (T2 c e)] g = .ok (nrm (a * e + c * b) (b * e)) g := fun g => lplus_ok h1.bx h1.by_ h2.bx h2.by_ b0 e0
  have p3 : ∀ g, callR 2 d_ratio_minus [.d (T2 a b), .d (T2 c e)] g = .ok (nrm (a * e - c * b) (b * e)) g := fun g => minus_ok h1.bx h1.by_ h2.bx h2.by_ b0 e0
  have p4 : ∀ g, callR 2 d__law_less_by [.d (T2 a b), .d (T2 c e)] g = .ok (nrm (a * e - c * b) (b * e)) g := fun g => lminus_ok h1.bx h1.by_ h2.bx h2.by_ b0 e0
  have p5 : ∀ g, callR 2 d_ratio_times [.d (T2 a b), .d (T2 c e)] g = .ok (nrm (a * c) (b * e)) g := fun g => times_ok h1.bx h1.by_ h2.bx h2.by_ b0 e0
  have p6 : ∀ g, callR 2 d__law_times [.d (T2 a b), .d (T2 c e)] g = .ok (nrm (a * c) (b * e)) g := fun g => ltimes_ok h1.bx h1.by_ h2.bx h2.by_ b0 e0
  have p7 : ∀ g, callR 2 d_ratio_compare [.d (T2 a b), .d (T2 c e)] g = .ok (.int ((if c * b < a * e then 1 else 0) - (if a * e < c * b then 1 else 0))) g := fun g => cmp_ok h1.bx h1.by_ h2.bx h2.by_ b0 e0
  have m1 := d_mul' (h1.bx.mul h2.by_)
  have m2 := d_mul' (h2.bx.mul h1.by_)
  have i0 : ∀ x y : Int, ixD (T2 x y) (.int 0) = some (.int x) := fun _ _ => rfl
  have i1 : ∀ x y : Int, ixD (T2 x y) (.int 1) = some (.int y) := fun _ _ => rfl
  by_cases c0 : c = 0
  · subst c0
    have x1 : ∀ g, callR 2 d_ratio_over [.d (T2 a b), .d (T2 0 e)] g = .ex ⟨"DividedByNought", [], []⟩ g := fun g => over_ex
    simp [d__law_pair_holds, s_def, p1, p2, p3, p4, p5, p6, p7, szOk, s_forCons, same_nrm be, m1, m2, i0, i1, lw_int, x1, hdT, List.lookup, endX, isxF]
    done
  · have x1 : ∀ g, callR 2 d_ratio_over [.d (T2 a b), .d (T2 c e)] g = .ok (nrm (a * e) (b * c)) g := fun g => over_ok h1.bx h1.by_ h2.bx h2.by_ b0 e0 c0
    have bc : b * c ≠ 0 := Int.mul_ne_zero b0 c0
    have m3 := d_mul' (h1.by_.mul h2.bx)
    have x2 : ∀ g, callR 2 d__law_ratio [.d (.int (a * e)), .d (.int (b * c))] g = .ok (nrm (a * e) (b * c)) g := fun g => ratio_ok ((h1.by_.mul h2.bx).mono (by decide)) bc
    simp [d__law_pair_holds, s_def, p1, p2, p3, p4, p5, p6, p7, szOk, s_forCons, same_nrm be, same_nrm bc, m1, m2, m3, i0, i1, lw_int, x1, x2, hdT, List.lookup, endX, isxF, c0]

/-! ### making -/
structure Odd (d : D) : Prop where
  w : ∀ g, callR 3 d_is_whole [.d d, .d .non, .d .non] g = .ok (.bl false) g
  l : ∀ g, callR 1 d__law_whole [.d d] g = .ok (.bl false) g
theorem make_ok (hb : BB 450 b) (h0 : b ≠ 0) : callR 2 d_make_ratio [.d (.int a), .d (.int b)] g = .ok (nrm a b) g := by
  refine callR_v rfl rfl (ss := [.v (.int a), .v (.int b)]) ?_
  simp [d_make_ratio, s_def, w_nn, low_ok hb h0, h0]
theorem make_top (o : Odd d) : callR 2 d_make_ratio [.d d, .d d2] g = .ex ⟨"BadRatio", ["what"], [.str "top"]⟩ g := by
  refine callR_x rfl rfl (ss := [.v d, .v d2]) ?_
  simp [d_make_ratio, s_def, o.w, mkE]
theorem make_bot (o : Odd d) : callR 2 d_make_ratio [.d (.int a), .d d] g = .ex ⟨"BadRatio", ["what"], [.str "bottom"]⟩ g := by
  refine callR_x rfl rfl (ss := [.v (.int a), .v d]) ?_
  simp [d_make_ratio, s_def, o.w, mkE, w_nn]
theorem make_0 : callR 2 d_make_ratio [.d (.int a), .d (.int 0)] g = .ex ⟨"BadRatio", ["what"], [.str "bottom"]⟩ g := by
  refine callR_x rfl rfl (ss := [.v (.int a), .v (.int 0)]) ?_
  simp [d_make_ratio, s_def, mkE, w_nn]
theorem kstr_top {n : Nat} : okN n (.str "top") = true := by rw [k_str]; decide +kernel
theorem kstr_bot {n : Nat} : okN n (.str "bottom") = true := by rw [k_str]; decide +kernel
theorem making1 (hb : BB 450 b) (h0 : b ≠ 0) : callR 2 d__law_making_holds [.d (.int a), .d (.int b)] g = .ok (.bl true) g := by
  refine callR_v rfl rfl (ss := [.v (.int a), .v (.int b)]) ?_
  simp [d__law_making_holds, s_def, make_ok hb h0, lw_int, h0, ratio_ok hb h0, same_nrm h0]
theorem making2 : callR 2 d__law_making_holds [.d (.int a), .d (.int 0)] g = .ok (.bl true) g := by
  refine callR_v rfl rfl (ss := [.v (.int a), .v (.int 0)]) ?_
  simp [d__law_making_holds, s_def, make_0, lw_int, hdT, List.lookup, endX, xfF, lookD, kstr_top, kstr_bot]
theorem making3 (o : Odd d) : callR 2 d__law_making_holds [.d d, .d d2] g = .ok (.bl true) g := by
  refine callR_v rfl rfl (ss := [.v d, .v d2]) ?_
  simp [d__law_making_holds, s_def, make_top o, o.l, hdT, List.lookup, endX, xfF, lookD, kstr_top, kstr_bot]
theorem making4 (o : Odd d) : callR 2 d__law_making_holds [.d (.int a), .d d] g = .ok (.bl true) g := by
  refine callR_v rfl rfl (ss := [.v (.int a), .v d]) ?_
  simp [d__law_making_holds, s_def, make_bot o, o.l, lw_int, hdT, List.lookup, endX, xfF, lookD, kstr_top, kstr_bot]
/-! ### bounds -/
theorem bounds_ok : callR 3 d__law_bounds_hold [.d (.int n), .d (.int a), .d (.int b)] g = .ok (.bl true) g := by
  refine callR_v rfl rfl (ss := [.v (.int n), .v (.int a), .v (.int b)]) ?_
  by_cases c : a ≤ n
  · simp [d__law_bounds_hold, s_def, w_ab, truth_ok, w_an, w_nb, w_bl, pickG, KQ.get, c]
  · simp [d__law_bounds_hold, s_def, w_ab, truth_ok, w_an, w_nb, w_bl, pickG, KQ.get, c]
/-! ### things -/
structure Th (d : D) (w s r h : Bool) : Prop where
  w : ∀ g, callR 3 d_is_whole [.d d, .d .non, .d .non] g = .ok (.bl w) g
  s : ∀ g, callR 1 d_is_sequence [.d d] g = .ok (.bl s) g
  r : ∀ g, callR 1 d_is_ratio [.d d] g = .ok (.bl r) g
  h : ∀ g, callR 1 d_is_share [.d d] g = .ok (.bl h) g
theorem shr_f (h : ∀ g, callR 1 d_is_ratio [.d d] g = .ok (.bl false) g) (g : Sg) : callR 1 d_is_share [.d d] g = .ok (.bl false) g := by
  refine callR_v rfl rfl (ss := [.v d]) ?_
  simp [d_is_share, s_def, h]
theorem isr_nt (h : isTup d = some false) (g : Sg) : callR 1 d_is_ratio [.d d] g = .ok (.bl false) g := by
  refine callR_v rfl rfl (ss := [.v d]) ?_
  simp [d_is_ratio, s_def, h]
theorem isr_ln {ds : List D} (h : ds.length ≠ 2) (g : Sg) : callR 1 d_is_ratio [.d (.tup ds)] g = .ok (.bl false) g := by
  refine callR_v rfl rfl (ss := [.v (.tup ds)]) ?_
  have h2 : ¬ (ds.length : Int) = 2 := by omega
  simp [d_is_ratio, s_def, h, h2]
theorem isr_b1 {c : Bool} (g : Sg) : callR 1 d_is_ratio [.d (.tup [.bl c, d])] g = .ok (.bl false) g := by
  refine callR_v rfl rfl (ss := [.v (.tup [.bl c, d])]) ?_
  simp [d_is_ratio, s_def, w_bl]
theorem isr_b2 {c : Bool} (g : Sg) : callR 1 d_is_ratio [.d (.tup [.int a, .bl c])] g = .ok (.bl false) g := by
  refine callR_v rfl rfl (ss := [.v (.tup [.int a, .bl c])]) ?_
  simp [d_is_ratio, s_def, w_bl, w_nn]
theorem th_f {w s : Bool} (hw : ∀ g, callR 3 d_is_whole [.d d, .d .non, .d .non] g = .ok (.bl w) g) (hs : isLstTup d = some s) (hr : ∀ g, callR 1 d_is_ratio [.d d] g = .ok (.bl false) g) : Th d w s false false := ⟨hw, fun g => seq_ok hs, hr, shr_f hr⟩
theorem th_2f {x y : Int} (h : (decide (1 ≤ y) && decide (Int.gcd x y = 1)) = false) : Th (T2 x y) false true false false := th_f (fun g => w_tup) rfl (fun g => by rw [isr_ok, h])
theorem th_2t {x y : Int} (h : (decide (1 ≤ y) && decide (Int.gcd x y = 1)) = true) {c : Bool} (hc : (decide (0 ≤ x) && decide (x ≤ y)) = c) : Th (T2 x y) false true true c := by
  refine ⟨fun g => w_tup, fun g => seq_ok rfl, fun g => by rw [isr_ok, h], fun g => ?_⟩
  rw [Bool.and_eq_true] at h
  have h1 : 1 ≤ y := of_decide_eq_true h.1
  rw [shr_ok (k := x.natAbs + 1) (m := y.natAbs + 1) ⟨by omega, of_decide_eq_true h.2, ?_, ?_⟩, hc]
  · unfold BB; exact Nat.lt_of_lt_of_le (Nat.lt_two_pow_self) (Nat.pow_le_pow_right (by decide) (by omega))
  · unfold BB; exact Nat.lt_of_lt_of_le (Nat.lt_two_pow_self) (Nat.pow_le_pow_right (by decide) (by omega))
end K00

set_option Elab.async false
set_option linter.all false
set_option maxRecDepth 100000
set_option maxHeartbeats 1000000
namespace K00
open PySem L2 DL
/-! ### the law's hand: the same in every law (pasted by mkdraw.py) -/
theorem fmod_range {x k : Int} (hk : 0 < k) : 0 ≤ x.fmod k ∧ x.fmod k < k := ⟨Int.fmod_nonneg_of_pos x hk, Int.fmod_lt_of_pos x hk⟩
theorem bb_range {x : Int} {k : Nat} (h0 : 0 ≤ x) (h1 : x < 2 ^ k) : BB k x := by
  unfold BB
  have : ((x.natAbs : Nat) : Int) = x := Int.natAbs_of_nonneg h0
  have h2 : ((2 ^ k : Nat) : Int) = 2 ^ k := by simp
  omega
theorem stir_ok {n t : Int} (hn : BB 100 n) (ht : BB 20 t) : ∃ v, 0 ≤ v ∧ ∀ g, callR 2 d__law_stir [.d (.int n), .d (.int t)] g = .ok (.int v) g := by
  obtain ⟨o, ho⟩ : ∃ o, o = (n * 69621 + t * 40014 + 101).fmod 2147483563 := ⟨_, rfl⟩
  have ro := fmod_range (x := n * 69621 + t * 40014 + 101) (k := 2147483563) (by decide)
  rw [← ho] at ro
  have bo : BB 31 o := bb_range ro.1 (by have := ro.2; omega)
  obtain ⟨w, hw⟩ : ∃ w, w = (o * o + t * 16807 + o.fdiv 211).fmod 2147483629 := ⟨_, rfl⟩
  have rw' := fmod_range (x := o * o + t * 16807 + o.fdiv 211) (k := 2147483629) (by decide)
  rw [← hw] at rw'
  have bw : BB 31 w := bb_range rw'.1 (by have := rw'.2; omega)
  obtain ⟨z, hz⟩ : ∃ z, z = (w * 48271 + o.fdiv 1013).fmod 2147483647 := ⟨_, rfl⟩
  have rz := fmod_range (x := w * 48271 + o.fdiv 1013) (k := 2147483647) (by decide)
  rw [← hz] at rz
  have e1 := d_mul' (hn.mul (show BB 17 69621 by unfold BB; decide))
  have e2 := d_mul' (ht.mul (show BB 16 40014 by unfold BB; decide))
  have e3 := d_mul' (bo.mul bo)
  have e4 := d_mul' (ht.mul (show BB 15 16807 by unfold BB; decide))
  have e5 := d_mul' (bw.mul (show BB 16 48271 by unfold BB; decide))
  have m1 : modD (.int (n * 69621 + t * 40014 + 101)) (.int 2147483563) = some (.int o) := by rw [ho]; rfl
  have m2 : modD (.int (o * o + t * 16807 + o.fdiv 211)) (.int 2147483629) = some (.int w) := by rw [hw]; rfl
  have m3 : modD (.int (w * 48271 + o.fdiv 1013)) (.int 2147483647) = some (.int z) := by rw [hz]; rfl
  have f1 : fdivD (.int o) (.int 211) = some (.int (o.fdiv 211)) := d_fdiv' (show BB 8 211 by unfold BB; decide) (by decide)
  have f2 : fdivD (.int o) (.int 1013) = some (.int (o.fdiv 1013)) := d_fdiv' (show BB 10 1013 by unfold BB; decide) (by decide)
  have f3 : fdivD (.int z) (.int 8) = some (.int (z.fdiv 8)) := d_fdiv' (show BB 4 8 by unfold BB; decide) (by decide)
  refine ⟨z.fdiv 8, ?_, fun g => callR_v rfl rfl (ss := [.v (.int n), .v (.int t)]) ?_⟩
  · rw [Int.fdiv_eq_ediv_of_nonneg _ (by decide)]; omega
  · simp [d__law_stir, s_def, -d_mod, -d_fdiv, e1, e2, e3, e4, e5, m1, m2, m3, f1, f2, f3]
/-- the hand -/
def Hand (cs : List Int) (p r s : Int) : List D := [.lst (cs.map D.int), .int p, .int r, .int s]
structure HandOk (cs : List Int) (p r s : Int) : Prop where
  c0 : ∀ c ∈ cs, 0 ≤ c
  cb : ∀ c ∈ cs, BB 1048576 c
  len : cs.length ≤ 63
  p0 : 0 ≤ p
  pl : p ≤ cs.length
  r0 : 0 ≤ r
  rb : BB 1048576 r
  s0 : 0 ≤ s
  sb : s < 2147483629
theorem callR_o {n : Nat} {dn : Dn} {g : Sg} {i : Nat} {ds ds' : List D} {x : D} {as : List AV} {ss : Sg} (ho : ownIx as = []) (hl : as.length + 1 = n) (hg : gat g i = .ow ds) (h : dn (.ow ds :: as.map (toS g)) = .ok x (.ow ds' :: ss)) : callR n dn (.o i :: as) g = .ok x (g.set i (.ow ds')) := by
  rw [callR_ok' (d := x) (ss := .ow ds' :: ss) (by rw [List.map_cons, s_toSo, hg]; exact h) (by simpa using hl) (by rw [s_ownO, ho]; rfl), s_mO, s_mV ho]
theorem pow18 : powD (.int 10) (.int 18) = some (.int 1000000000000000000) := rfl
theorem fdiv_bb {k : Nat} {x m : Int} (hx : BB k x) (h0 : 0 ≤ x) (hm : 0 < m) : 0 ≤ x.fdiv m ∧ BB k (x.fdiv m) := by
  rw [Int.fdiv_eq_ediv_of_nonneg _ (by omega)]
  refine ⟨Int.ediv_nonneg h0 (by omega), ?_⟩
  unfold BB at *
  have := Int.natAbs_ediv_le_natAbs x m
  omega
theorem cell_at {cs : List Int} {p : Int} (h0 : 0 ≤ p) (h1 : p < cs.length) : ∃ c, c ∈ cs ∧ ixD (.lst (cs.map D.int)) (.int p) = some (.int c) := by
  obtain ⟨k, rfl⟩ := Int.eq_ofNat_of_zero_le h0
  have hk : k < cs.length := by omega
  refine ⟨cs[k], List.getElem_mem hk, ?_⟩
  show atI (cs.map D.int) (k : Int) = _
  unfold atI ixN
  rw [if_pos (by omega), if_pos (by rw [List.length_map]; omega)]
  simp [hk]
theorem draw_dn {cs : List Int} {p r s m : Int} (hm : 0 < m) (mb : BB 8000 m) (H : HandOk cs p r s) : ∃ v p' r' s', d__law_draw [.ow (Hand cs p r s), .v (.int m)] = .ok (.int v) [.ow (Hand cs p' r' s'), .v (.int m)] ∧ 0 ≤ v ∧ v < m ∧ HandOk cs p' r' s' := by
  have m0 : m ≠ 0 := by omega
  have md : ∀ x, modD (.int x) (.int m) = some (.int (x.fmod m)) := fun x => by rw [d_mod, if_pos m0]
  have fd : ∀ x, fdivD (.int x) (.int m) = some (.int (x.fdiv m)) := fun x => d_fdiv' mb m0
  have i0 : ∀ a b c d : D, ixD (.lst [a, b, c, d]) (.int 0) = some a := fun _ _ _ _ => rfl
  have i1 : ∀ a b c d : D, ixD (.lst [a, b, c, d]) (.int 1) = some b := fun _ _ _ _ => rfl
  have i2 : ∀ a b c d : D, ixD (.lst [a, b, c, d]) (.int 2) = some c := fun _ _ _ _ => rfl
  have i3 : ∀ a b c d : D, ixD (.lst [a, b, c, d]) (.int 3) = some d := fun _ _ _ _ => rfl
  have n1 : ixN 4 1 = some 1 := rfl
  have n2 : ixN 4 2 = some 2 := rfl
  have n3 : ixN 4 3 = some 3 := rfl
  by_cases c1 : r = 0 ∧ p < cs.length
  · obtain ⟨rfl, hp⟩ := c1
    obtain ⟨c, hc, ec⟩ := cell_at H.p0 hp
    have pb : BB 20 (p + 1) := bb_range (by have := H.p0; omega) (by have := H.len; have : p + 1 ≤ 64 := (by omega); omega)
    by_cases c2 : c < 1000000000000000000
    · obtain ⟨v, hv, ev⟩ := stir_ok (n := c) (t := p + 1) (bb_range (H.c0 c hc) (by omega)) pb
      refine ⟨v.fmod m, p + 1, 0, s, ?_, (fmod_range hm).1, (fmod_range hm).2, ⟨H.c0, H.cb, H.len, by have := H.p0; omega, by omega, H.r0, H.rb, H.s0, H.sb⟩⟩
      simp [d__law_draw, s_def, Hand, i0, i1, i2, i3, n1, n2, n3, hp, ec, pow18, c2, ev, md, -d_mod, -d_fdiv]
    · have hr := fdiv_bb (H.cb c hc) (H.c0 c hc) hm
      have c3 : 0 < c := by omega
      refine ⟨c.fmod m, p + 1, c.fdiv m, s, ?_, (fmod_range hm).1, (fmod_range hm).2, ⟨H.c0, H.cb, H.len, by have := H.p0; omega, by omega, hr.1, hr.2, H.s0, H.sb⟩⟩
      simp [d__law_draw, s_def, Hand, i0, i1, i2, i3, n1, n2, n3, hp, ec, pow18, c2, c3, fd, md, -d_mod, -d_fdiv]
  · have q1 : ∀ x : Sg → R Bool, ((if r = 0 then (if p < cs.length then R.ok true ([] : Sg) else .ok false []) else .ok false [])) = (R.ok false [] : R Bool) := fun _ => by
      by_cases z : r = 0
      · rw [if_pos z, if_neg (fun y => c1 ⟨z, y⟩)]
      · rw [if_neg z]
    by_cases c2 : 0 < r
    · have hr := fdiv_bb H.rb H.r0 hm
      have c3 : r ≠ 0 := by omega
      refine ⟨r.fmod m, p, r.fdiv m, s, ?_, (fmod_range hm).1, (fmod_range hm).2, ⟨H.c0, H.cb, H.len, H.p0, H.pl, hr.1, hr.2, H.s0, H.sb⟩⟩
      simp [d__law_draw, s_def, Hand, i0, i1, i2, i3, n1, n2, n3, c2, c3, fd, md, -d_mod, -d_fdiv]
    · have c3 : r = 0 := by have := H.r0; omega
      subst c3
      have c4 : ¬ p < cs.length := fun z => c1 ⟨rfl, z⟩
      obtain ⟨x, hx⟩ : ∃ x, x = (s + 1).fmod 2147483629 := ⟨_, rfl⟩
      have rx := fmod_range (x := s + 1) (k := 2147483629) (by decide)
      rw [← hx] at rx
      have mx : modD (.int (s + 1)) (.int 2147483629) = some (.int x) := by rw [hx]; rfl
      obtain ⟨v, hv, ev⟩ := stir_ok (n := x) (t := p) ((bb_range (k := 31) rx.1 (by have := rx.2; omega)).mono (by decide)) (bb_range H.p0 (by have := H.pl; have := H.len; omega))
      refine ⟨v.fmod m, p, 0, x, ?_, (fmod_range hm).1, (fmod_range hm).2, ⟨H.c0, H.cb, H.len, H.p0, H.pl, H.r0, H.rb, rx.1, rx.2⟩⟩
      simp [d__law_draw, s_def, Hand, i0, i1, i2, i3, n1, n2, n3, c4, ev, mx, md, -d_mod, -d_fdiv]
/-- a call on the own hand, in slot 0 or 1 -/
structure At (n : Nat) (dn : Dn) (as : List AV) (H H' : List D) (v : D) : Prop where
  a0 : ∀ tl, callR n dn (.o 0 :: as) (.ow H :: tl) = .ok v (.ow H' :: tl)
  a1 : ∀ x tl, callR n dn (.o 1 :: as) (x :: .ow H :: tl) = .ok v (x :: .ow H' :: tl)
theorem At.of {n : Nat} {dn : Dn} {as : List AV} {H H' : List D} {v : D} (h : ∀ g i, gat g i = .ow H → callR n dn (.o i :: as) g = .ok v (g.set i (.ow H'))) : At n dn as H H' v := ⟨fun tl => h (.ow H :: tl) 0 rfl, fun x tl => h (x :: .ow H :: tl) 1 rfl⟩
theorem draw_ok {cs : List Int} {p r s m : Int} (hm : 0 < m) (mb : BB 8000 m) (H : HandOk cs p r s) : ∃ v p' r' s', At 2 d__law_draw [.d (.int m)] (Hand cs p r s) (Hand cs p' r' s') (.int v) ∧ 0 ≤ v ∧ v < m ∧ HandOk cs p' r' s' := by
  obtain ⟨v, p', r', s', e, h⟩ := draw_dn hm mb H
  exact ⟨v, p', r', s', .of fun g i hg => callR_o rfl rfl hg e, h⟩
end K00

set_option Elab.async false
set_option linter.all false
set_option maxRecDepth 100000
set_option maxHeartbeats 1000000
namespace K00
open PySem L2 DL
theorem bits_bb {z : Int} {k : Nat} (h : Builtin.Int.intBits z ≤ k) : BB k z := by
  unfold BB
  unfold Builtin.Int.intBits at h
  by_cases hz : z.natAbs = 0
  · rw [hz]; exact Nat.two_pow_pos _
  · have h2 : z.natAbs.log2 + 1 ≤ k := by
      split at h
      · rename_i q
        have : z = 0 := by simpa using q
        subst this
        exact absurd rfl hz
      · exact h
    exact Nat.lt_of_lt_of_le (Nat.lt_log2_self) (Nat.pow_le_pow_right (by decide) h2)
def handBody : FS := asgS 1 (op2F modD (bltF intF (consV (dF (op2F addD (op2F addD (op2F mulD (varF 1) (cF (.int 37))) (op2F mulD (bltF intF (consV (dF (varF 3)) nilV)) (op2F addD (op2F mulD (cF (.int 2)) (varF 2)) (cF (.int 5))))) (cF (.int 3)))) nilV)) (cF (.int 2147483629)))
theorem hand_loop {L : S} : ∀ (items : List D) (st : Int) (x y : S), (∀ it ∈ items, ∃ k n, it = .tup [.int k, .int n] ∧ BB 20 k ∧ BB 1048576 n) → 0 ≤ st → st < 2147483629 →
    ∃ st' x' y', forL (turnS (tgT 2 (tgCons (tgN 2) (tgCons (tgN 3) tgNil))) handBody) items [L, .v (.int st), x, y] = .nx [L, .v (.int st'), x', y'] ∧ 0 ≤ st' ∧ st' < 2147483629
  | [], st, x, y, _, h0, h1 => ⟨st, x, y, rfl, h0, h1⟩
  | it :: items, st, x, y, h, h0, h1 => by
    obtain ⟨k, n, rfl, bk, bn⟩ := h it List.mem_cons_self
    have bs : BB 31 st := bb_range h0 (by omega)
    have e1 := d_mul' (bs.mul (show BB 6 37 by unfold BB; decide))
    have b2 : BB 22 (2 * k) := ((show BB 2 2 by unfold BB; decide).mul bk)
    have e2 := d_mul' b2
    have b3 : BB 23 (2 * k + 5) := b2.add (show BB 3 5 by unfold BB; decide)
    have e3 := d_mul' (bn.mul b3)
    obtain ⟨z, hz⟩ : ∃ z, z = (st * 37 + n * (2 * k + 5) + 3).fmod 2147483629 := ⟨_, rfl⟩
    have rz := fmod_range (x := st * 37 + n * (2 * k + 5) + 3) (k := 2147483629) (by decide)
    rw [← hz] at rz
    have m1 : modD (.int (st * 37 + n * (2 * k + 5) + 3)) (.int 2147483629) = some (.int z) := by rw [hz]; rfl
    obtain ⟨st', x', y', e, r⟩ := hand_loop items z (.v (.int k)) (.v (.int n)) (fun i hi => h i (List.mem_cons_of_mem _ hi)) rz.1 rz.2
    refine ⟨st', x', y', ?_, r⟩
    rw [s_forCons]
    simp [handBody, e1, e2, e3, m1, -d_mod]
    exact e
theorem hand_lc {a b c : S} : ∀ (ns : List Int) (acc : List D), lcL (tgN 3) yesB (bltF absD (consV (dF (bltF intF (consV (dF (varF 3)) nilV))) nilV)) [3] (ns.map D.int) acc [a, b, c, .un] = .ok (acc ++ ns.map fun n => D.int (n.natAbs : Int)) [a, b, c, .un]
  | [], acc => by simp [lcL]
  | n :: ns, acc => by
    have ih := hand_lc (a := a) (b := b) (c := c) ns (acc ++ [.int (n.natAbs : Int)])
    simp [lcL, keep?, wipeG]
    simpa using ih
theorem hand_ok {ns : List Int} (hl : ns.length ≤ 63) (hb : ∀ z ∈ ns, BB 1048576 z) (g : Sg) : ∃ cs s, callRF 1 d__law_hand [.d (.lst (ns.map D.int))] g = .ok (Hand cs 0 0 s) g ∧ HandOk cs 0 0 s := by
  have hit : ∀ it ∈ enm (ns.map D.int), ∃ k n, it = .tup [.int k, .int n] ∧ BB 20 k ∧ BB 1048576 n := fun it hi => by
    obtain ⟨k, hk, e⟩ := List.getElem_of_mem hi
    have e' : (enm (ns.map D.int))[k]? = some it := by rw [← e]; simp [hk]
    obtain ⟨c, hc, rfl⟩ := enm_get e'
    rw [List.getElem?_map] at hc
    obtain ⟨n, hn, rfl⟩ := Option.map_eq_some_iff.mp hc
    have hk2 : k < ns.length := (List.getElem?_eq_some_iff.mp hn).1
    exact ⟨k, n, rfl, bb_range (by omega) (by omega), hb n (List.mem_of_getElem? hn)⟩
  obtain ⟨st', x', y', e, r0, r1⟩ := hand_loop (L := .v (.lst (ns.map D.int))) (enm (ns.map D.int)) 7 .un .un hit (by decide) (by decide)
  have e2 := hand_lc (a := .v (.lst (ns.map D.int))) (b := .v (.int st')) (c := x') ns []
  unfold handBody at e
  refine ⟨ns.map fun n => (n.natAbs : Int), st', ?_, ⟨?_, ?_, by simpa using hl, Int.le_refl 0, by simp, Int.le_refl 0, (show BB 1 0 by unfold BB; decide).mono (by decide), r0, r1⟩⟩
  · have hs : ns.length ≤ sizeLine := by rw [sizeLine_eq]; omega
    have key : d__law_hand [.v (.lst (ns.map D.int))] = .okf (Hand (ns.map fun n => (n.natAbs : Int)) 0 0 st') [.v (.lst (ns.map D.int))] := by
      simp [d__law_hand, s_def, enmD, e, wipeG, e2, hs, szOk, Hand]
      first | done | (intro a ha; rfl) | rfl
    rw [s_callRF]
    simp [key]
  · intro c hc
    obtain ⟨n, _, rfl⟩ := List.mem_map.mp hc
    omega
  · intro c hc
    obtain ⟨n, hn, rfl⟩ := List.mem_map.mp hc
    have := hb n hn
    unfold BB at *
    simpa using this
end K00

set_option Elab.async false
set_option linter.all false
set_option maxRecDepth 100000
set_option maxHeartbeats 2000000
namespace K00
open PySem L2 DL
theorem pow9 : powD (.int 10) (.int 9) = some (.int 1000000000) := rfl
theorem small_bb {m : Int} {k : Nat} (h0 : 0 ≤ m) (h : m < 2 ^ 30) (hk : 30 ≤ k := by decide) : BB k m := (bb_range h0 h).mono hk
theorem gat_set_same {g : Sg} {i : Nat} {s t : S} (h : gat g i = s) (hs : s ≠ .un) : gat (g.set i t) i = t := by
  have h1 := gat_get h hs
  have h2 : i < g.length := (List.getElem?_eq_some_iff.mp h1).1
  exact get_gat (List.getElem?_set_self h2)
theorem num_dn {cs : List Int} {p r s : Int} (H : HandOk cs p r s) : ∃ v p' r' s', d__law_number [.ow (Hand cs p r s)] = .ok (.int v) [.ow (Hand cs p' r' s')] ∧ BB 61 v ∧ HandOk cs p' r' s' := by
  obtain ⟨v1, p1, r1, s1, e1, a1, b1, H1⟩ := draw_ok (m := 4) (by decide) (small_bb (by decide) (by decide)) H
  by_cases c : v1 = 0
  · subst c
    obtain ⟨v2, p2, r2, s2, e2, a2, b2, H2⟩ := draw_ok (m := 1000000000) (by decide) (small_bb (by decide) (by decide)) H1
    obtain ⟨v3, p3, r3, s3, e3, a3, b3, H3⟩ := draw_ok (m := 1000000000) (by decide) (small_bb (by decide) (by decide)) H2
    have m1 := d_mul' ((small_bb (k := 30) a2 (by omega)).mul (show BB 30 1000000000 by unfold BB; decide))
    refine ⟨v2 * 1000000000 + v3, p3, r3, s3, ?_, ?_, H3⟩
    · simp [d__law_number, s_def, e1.a0, e2.a0, e3.a0, pow9, m1]
    · exact bb_range (by omega) (by omega)
  · by_cases c1 : v1 = 1
    · subst c1
      obtain ⟨v2, p2, r2, s2, e2, a2, b2, H2⟩ := draw_ok (m := 1000000000) (by decide) (small_bb (by decide) (by decide)) H1
      obtain ⟨v3, p3, r3, s3, e3, a3, b3, H3⟩ := draw_ok (m := 1000000000) (by decide) (small_bb (by decide) (by decide)) H2
      have bn : BB 30 (-v2) := by have := small_bb (k := 30) a2 (by omega); unfold BB at *; rw [Int.natAbs_neg]; exact this
      have m1 := d_mul' (bn.mul (show BB 30 1000000000 by unfold BB; decide))
      refine ⟨-v2 * 1000000000 - v3, p3, r3, s3, ?_, ?_, H3⟩
      · simp [d__law_number, s_def, e1.a0, e2.a0, e3.a0, pow9, m1]
      · have := bb_range (k := 61) (x := v2 * 1000000000 + v3) (by omega) (by omega)
        unfold BB at *
        have e : (-v2 * 1000000000 - v3).natAbs = (v2 * 1000000000 + v3).natAbs := by omega
        rw [e]; exact this
    · obtain ⟨v2, p2, r2, s2, e2, a2, b2, H2⟩ := draw_ok (m := 13) (by decide) (small_bb (by decide) (by decide)) H1
      refine ⟨v2 - 6, p2, r2, s2, ?_, ?_, H2⟩
      · simp [d__law_number, s_def, e1.a0, e2.a0, c, c1]
      · unfold BB; have : (v2 - 6).natAbs ≤ 6 := by omega
        exact Nat.lt_of_le_of_lt this (by decide)
theorem num_ok {cs : List Int} {p r s : Int} (H : HandOk cs p r s) : ∃ v p' r' s', At 1 d__law_number [] (Hand cs p r s) (Hand cs p' r' s') (.int v) ∧ BB 61 v ∧ HandOk cs p' r' s' := by
  obtain ⟨v, p', r', s', e, h⟩ := num_dn H
  exact ⟨v, p', r', s', .of fun g i hg => callR_o rfl rfl hg e, h⟩
theorem bot_dn {cs : List Int} {p r s : Int} (H : HandOk cs p r s) : ∃ v p' r' s', d__law_bottom [.ow (Hand cs p r s)] = .ok (.int v) [.ow (Hand cs p' r' s')] ∧ (1 ≤ v ∧ v ≤ 1000000000) ∧ HandOk cs p' r' s' := by
  obtain ⟨v1, p1, r1, s1, e1, a1, b1, H1⟩ := draw_ok (m := 3) (by decide) (small_bb (by decide) (by decide)) H
  by_cases c : v1 = 0
  · subst c
    obtain ⟨v2, p2, r2, s2, e2, a2, b2, H2⟩ := draw_ok (m := 1000000000) (by decide) (small_bb (by decide) (by decide)) H1
    refine ⟨1 + v2, p2, r2, s2, ?_, by omega, H2⟩
    simp [d__law_bottom, s_def, e1.a0, e2.a0, pow9]
  · obtain ⟨v2, p2, r2, s2, e2, a2, b2, H2⟩ := draw_ok (m := 12) (by decide) (small_bb (by decide) (by decide)) H1
    refine ⟨1 + v2, p2, r2, s2, ?_, by omega, H2⟩
    simp [d__law_bottom, s_def, e1.a0, e2.a0, c]
theorem bot_ok {cs : List Int} {p r s : Int} (H : HandOk cs p r s) : ∃ v p' r' s', At 1 d__law_bottom [] (Hand cs p r s) (Hand cs p' r' s') (.int v) ∧ (1 ≤ v ∧ v ≤ 1000000000) ∧ HandOk cs p' r' s' := by
  obtain ⟨v, p', r', s', e, h⟩ := bot_dn H
  exact ⟨v, p', r', s', .of fun g i hg => callR_o rfl rfl hg e, h⟩
/-! ### the loops of the law -/
abbrev RL2 (rs : List (Int × Int)) : List D := rs.map fun q => T2 q.1 q.2
def Rs (rs : List (Int × Int)) : Prop := ∀ q ∈ rs, Rt 61 31 q.1 q.2
noncomputable def buildS : FS := exprS (apF 2 (callF 2 d__law_ratio [] (consV (dF (callF 1 d__law_number [] (consV (nmF 1) nilV))) (consV (dF (callF 1 d__law_bottom [] (consV (nmF 1) nilV))) nilV))))
theorem build_loop {L : S} {cs : List Int} {tl : Sg} : ∀ (items : List D) (p r s : Int) (rs : List (Int × Int)) (x : S), HandOk cs p r s → Rs rs → rs.length + items.length ≤ 100 →
    ∃ p' r' s' rs' x', forL (turnS (tgN 3) buildS) items (L :: .ow (Hand cs p r s) :: .ow (RL2 rs) :: x :: tl) = .nx (L :: .ow (Hand cs p' r' s') :: .ow (RL2 rs') :: x' :: tl) ∧ HandOk cs p' r' s' ∧ Rs rs' ∧ rs'.length = rs.length + items.length
  | [], p, r, s, rs, x, H, hr, _ => ⟨p, r, s, rs, x, rfl, H, hr, rfl⟩
  | it :: items, p, r, s, rs, x, H, hr, hl => by
    obtain ⟨v1, p1, r1, s1, e1, a1, H1⟩ := num_ok H
    obtain ⟨v2, p2, r2, s2, e2, a2, H2⟩ := bot_ok H1
    have h0 : v2 ≠ 0 := by omega
    have hb : BB 31 v2 := bb_range (by omega) (by omega)
    obtain ⟨a, b, en, hn⟩ := nrm_rt (t := v1) (b := v2) a1 hb h0
    have e3 : ∀ g, callR 2 d__law_ratio [.d (.int v1), .d (.int v2)] g = .ok (T2 a b) g := fun g => by rw [ratio_ok (hb.mono (by decide)) h0, en]
    simp only [List.length_cons] at hl
    obtain ⟨p', r', s', rs', x', e, H', hr', hl'⟩ := build_loop (L := L) (tl := tl) items p2 r2 s2 (rs ++ [(a, b)]) (.v it) H2 (fun q hq => by
      rcases List.mem_append.mp hq with z | z
      · exact hr q z
      · have : q = (a, b) := by simpa using z
        subst this; exact hn) (by simp; omega)
    refine ⟨p', r', s', rs', x', ?_, H', hr', by simp at hl' ⊢; omega⟩
    rw [s_forCons]
    have hs : rs.length < sizeLine := by rw [sizeLine_eq]; omega
    have er : RL2 (rs ++ [(a, b)]) = RL2 rs ++ [T2 a b] := by simp [RL2]
    rw [er] at e
    unfold buildS at e
    simp [buildS, e1.a1, e2.a1, e3, hs]
    exact e
noncomputable def totS : FS := seqS (ifS (orB (notB (tstF (callF 2 d__law_truth [] (consV (dF (callF 1 d_is_ratio [] (consV (dF (varF 5)) nilV))) (consV (dF (cF (.bl true))) nilV))))) (notB (tstF (callF 2 d__law_truth [] (consV (dF (callF 1 d_is_share [] (consV (dF (varF 5)) nilV))) (consV (dF (chF leD leD (cF (.int 0)) (op2F ixD (varF 5) (cF (.int 0))) (op2F ixD (varF 5) (cF (.int 1))))) nilV))))))
    (retS (cF (.bl false)))
    skipS)
    (asgS 4 (callF 2 d__law_plus [] (consV (dF (varF 4)) (consV (dF (varF 5)) nilV))))
/-- the sum, as both reckon it -/
inductive Sum : List (Int × Int) → Int × Int → Int × Int → Prop
  | nil {q} : Sum [] q q
  | cons {x xs q q1 z} (h : nrm (q.1 * x.2 + x.1 * q.2) (q.2 * x.2) = T2 q1.1 q1.2) (r : Sum xs q1 z) : Sum (x :: xs) q z
theorem sum_ex : ∀ (xs : List (Int × Int)) (q : Int × Int) (k : Nat), Rs xs → xs.length + k ≤ 5 → Rt (32 * k + 62) (31 * k + 1) q.1 q.2 → ∃ z, Sum xs q z
  | [], q, _, _, _, _ => ⟨q, .nil⟩
  | x :: xs, q, k, hx, hl, hq => by
    have h1 := hx x List.mem_cons_self
    have hb : BB (31 * (k + 1) + 1) (q.2 * x.2) := (hq.by_.mul h1.by_).mono (by omega)
    have ht : BB (32 * (k + 1) + 62) (q.1 * x.2 + x.1 * q.2) := ((hq.bx.mul h1.by_).add (h1.bx.mul hq.by_)).mono (by omega)
    obtain ⟨a, b, e, hr⟩ := nrm_rt ht hb (by have := hq.pos; have := h1.pos; exact Int.ne_of_gt (Int.mul_pos ‹0 < q.2› ‹0 < x.2›))
    simp only [List.length_cons] at hl
    obtain ⟨z, hz⟩ := sum_ex xs (a, b) (k + 1) (fun y hy => hx y (List.mem_cons_of_mem _ hy)) (by omega) hr
    exact ⟨z, .cons (q1 := (a, b)) e hz⟩

theorem Rt.mono' {k m k' m' : Nat} {x y : Int} (h : Rt k m x y) (h1 : k ≤ k') (h2 : m ≤ m') : Rt k' m' x y := ⟨h.pos, h.gcd, h.bx.mono h1, h.by_.mono h2⟩
theorem tot_loop {a b c d x6 : S} {tl : Sg} : ∀ (xs : List (Int × Int)) (q z : Int × Int) (k : Nat) (y : S), Rs xs → xs.length + k ≤ 5 → Rt (32 * k + 62) (31 * k + 1) q.1 q.2 → Sum xs q z →
    ∃ y', forL (turnS (tgN 5) totS) (RL2 xs) (a :: b :: c :: d :: .v (T2 q.1 q.2) :: y :: tl) = .nx (a :: b :: c :: d :: .v (T2 z.1 z.2) :: y' :: tl)
  | [], q, z, k, y, _, _, _, hz => by
    cases hz
    exact ⟨y, rfl⟩
  | x :: xs, q, z, k, y, hx, hl, hq, hz => by
    cases hz with
    | @cons _ _ _ q1 _ e hz =>
    have h1 := hx x List.mem_cons_self
    simp only [List.length_cons] at hl
    have q0 : q.2 ≠ 0 := by have := hq.pos; omega
    have x0 : x.2 ≠ 0 := by have := h1.pos; omega
    have e1 : ∀ g, callR 2 d__law_plus [.d (T2 q.1 q.2), .d (T2 x.1 x.2)] g = .ok (T2 q1.1 q1.2) g := fun g => by
      rw [lplus_ok (hq.bx.mono (by omega)) (hq.by_.mono (by omega)) (h1.bx.mono (by omega)) (h1.by_.mono (by omega)) q0 x0, e]
    have e2 : ∀ g, callR 1 d_is_ratio [.d (T2 x.1 x.2)] g = .ok (.bl true) g := fun g => by
      rw [isr_ok]
      have := h1.pos
      have h2 : 1 ≤ x.2 := by omega
      simp [h2, h1.gcd]
    have e3 : ∀ g, callR 1 d_is_share [.d (T2 x.1 x.2)] g = .ok (.bl (decide (0 ≤ x.1) && decide (x.1 ≤ x.2))) g := fun g => shr_ok h1
    have i0 : ixD (T2 x.1 x.2) (.int 0) = some (.int x.1) := rfl
    have i1 : ixD (T2 x.1 x.2) (.int 1) = some (.int x.2) := rfl
    have hb : BB (31 * (k + 1) + 1) (q.2 * x.2) := (hq.by_.mul h1.by_).mono (by omega)
    have ht : BB (32 * (k + 1) + 62) (q.1 * x.2 + x.1 * q.2) := ((hq.bx.mul h1.by_).add (h1.bx.mul hq.by_)).mono (by omega)
    obtain ⟨a', b', en, hr⟩ := nrm_rt ht hb (Int.mul_ne_zero q0 x0)
    rw [en] at e
    unfold T2 at e
    injection e with e
    injection e with ea e
    injection e with eb e
    injection ea with ea
    injection eb with eb
    rw [ea, eb] at hr
    obtain ⟨y', ih⟩ := tot_loop (a := a) (b := b) (c := c) (d := d) (x6 := x6) (tl := tl) xs q1 z (k + 1) (.v (T2 x.1 x.2)) (fun w hw => hx w (List.mem_cons_of_mem _ hw)) (by omega) hr hz
    refine ⟨y', ?_⟩
    show forL _ (T2 x.1 x.2 :: RL2 xs) _ = _
    rw [s_forCons]
    by_cases c0 : 0 ≤ x.1
    · simp [totS, e1, e2, e3, truth_ok, i0, i1, c0]
      exact ih
    · simp [totS, e1, e2, e3, truth_ok, i0, i1, c0]
      exact ih
theorem rsum_loop {a : S} : ∀ (xs : List (Int × Int)) (q z : Int × Int) (k : Nat) (y : S), Rs xs → xs.length + k ≤ 5 → Rt (32 * k + 62) (31 * k + 1) q.1 q.2 → Sum xs q z →
    ∃ y', forL (turnS (tgN 2) (asgS 1 (callF 2 d_ratio_plus [] (consV (dF (varF 1)) (consV (dF (varF 2)) nilV))))) (RL2 xs) [a, .v (T2 q.1 q.2), y] = .nx [a, .v (T2 z.1 z.2), y']
  | [], q, z, k, y, _, _, _, hz => by
    cases hz
    exact ⟨y, rfl⟩
  | x :: xs, q, z, k, y, hx, hl, hq, hz => by
    cases hz with
    | @cons _ _ _ q1 _ e hz =>
    have h1 := hx x List.mem_cons_self
    simp only [List.length_cons] at hl
    have q0 : q.2 ≠ 0 := by have := hq.pos; omega
    have x0 : x.2 ≠ 0 := by have := h1.pos; omega
    have e1 : ∀ g, callR 2 d_ratio_plus [.d (T2 q.1 q.2), .d (T2 x.1 x.2)] g = .ok (T2 q1.1 q1.2) g := fun g => by
      rw [plus_ok (hq.bx.mono (by omega)) (hq.by_.mono (by omega)) (h1.bx.mono (by omega)) (h1.by_.mono (by omega)) q0 x0, e]
    have hb : BB (31 * (k + 1) + 1) (q.2 * x.2) := (hq.by_.mul h1.by_).mono (by omega)
    have ht : BB (32 * (k + 1) + 62) (q.1 * x.2 + x.1 * q.2) := ((hq.bx.mul h1.by_).add (h1.bx.mul hq.by_)).mono (by omega)
    obtain ⟨a', b', en, hr⟩ := nrm_rt ht hb (Int.mul_ne_zero q0 x0)
    rw [en] at e
    unfold T2 at e
    injection e with e
    injection e with ea e
    injection e with eb e
    injection ea with ea
    injection eb with eb
    rw [ea, eb] at hr
    obtain ⟨y', ih⟩ := rsum_loop (a := a) xs q1 z (k + 1) (.v (T2 x.1 x.2)) (fun w hw => hx w (List.mem_cons_of_mem _ hw)) (by omega) hr hz
    refine ⟨y', ?_⟩
    show forL _ (T2 x.1 x.2 :: RL2 xs) _ = _
    rw [s_forCons]
    simp [e1]
    exact ih
theorem rt01 : Rt 62 1 0 1 := ⟨by decide, by decide, by unfold BB; decide, by unfold BB; decide⟩
theorem rsum_ok {xs : List (Int × Int)} {z : Int × Int} (hx : Rs xs) (hl : xs.length ≤ 5) (hz : Sum xs (0, 1) z) (g : Sg) : callR 1 d_ratio_sum [.d (.lst (RL2 xs))] g = .ok (T2 z.1 z.2) g := by
  obtain ⟨y', e⟩ := rsum_loop (a := .v (.lst (RL2 xs))) xs (0, 1) z 0 .un hx (by omega) rt01 hz
  refine callR_v rfl rfl (ss := [.v (.lst (RL2 xs))]) ?_
  unfold T2 at e
  simp [d_ratio_sum, s_def, e, T2]
theorem rsum0 (g : Sg) : callR 1 d_ratio_sum [.d (.tup [])] g = .ok (T2 0 1) g := by
  refine callR_v rfl rfl (ss := [.v (.tup [])]) ?_
  simp [d_ratio_sum, s_def, T2]
end K00

set_option Elab.async false
set_option linter.all false
set_option maxRecDepth 100000
set_option maxHeartbeats 4000000
namespace K00
open PySem L2 DL
/-! ### pairs -/
noncomputable def pairS : FS := ifS (notB (tstF (callF 2 d__law_pair_holds [] (consV (dF (varF 6)) (consV (dF (varF 7)) nilV))))) (retS (cF (.bl false))) skipS
theorem rs200 {x : Int × Int} (h : Rt 61 31 x.1 x.2) : Rt 200 200 x.1 x.2 := h.mono' (by decide) (by decide)
theorem inner_loop {a b c d e f : S} {tl : Sg} {x : Int × Int} (hx : Rt 61 31 x.1 x.2) : ∀ (ys : List D) (y : S), (∀ z ∈ ys, ∃ q : Int × Int, z = T2 q.1 q.2 ∧ Rt 61 31 q.1 q.2) →
    ∃ y', forL (turnS (tgN 7) pairS) ys (a :: b :: c :: d :: e :: f :: .v (T2 x.1 x.2) :: y :: tl) = .nx (a :: b :: c :: d :: e :: f :: .v (T2 x.1 x.2) :: y' :: tl)
  | [], y, _ => ⟨y, rfl⟩
  | z :: ys, y, h => by
    obtain ⟨q, rfl, hq⟩ := h z List.mem_cons_self
    obtain ⟨y', ih⟩ := inner_loop (a := a) (b := b) (c := c) (d := d) (e := e) (f := f) (tl := tl) hx ys (.v (T2 q.1 q.2)) (fun w hw => h w (List.mem_cons_of_mem _ hw))
    refine ⟨y', ?_⟩
    rw [s_forCons]
    have e1 : ∀ g, callR 2 d__law_pair_holds [.d (T2 x.1 x.2), .d (T2 q.1 q.2)] g = .ok (.bl true) g := fun g => pair_ok (k := 0) (m := 0) (rs200 hx) (rs200 hq)
    simp [pairS, e1]
    exact ih
noncomputable def outS : FS := forS (itF (frF (slcF (dF (frzF 2)) noPart (partF (cF (.int 3)))))) (tgN 7) pairS
theorem cut_mem {ds : List D} {lo hi : Option Int} {z : D} (h : z ∈ cut ds lo hi) : z ∈ ds := List.mem_of_mem_drop (List.mem_of_mem_take h)
theorem cut_rs {rs : List (Int × Int)} {lo hi : Option Int} (h : Rs rs) : ∀ z ∈ cut (RL2 rs) lo hi, ∃ q : Int × Int, z = T2 q.1 q.2 ∧ Rt 61 31 q.1 q.2 := fun z hz => by
  obtain ⟨q, hq, rfl⟩ := List.mem_map.mp (cut_mem hz)
  exact ⟨q, rfl, h q hq⟩
theorem outer_loop {a b d e f : S} {tl : Sg} {rs : List (Int × Int)} (hr : Rs rs) : ∀ (ys : List D) (x y : S), (∀ z ∈ ys, ∃ q : Int × Int, z = T2 q.1 q.2 ∧ Rt 61 31 q.1 q.2) →
    ∃ x' y', forL (turnS (tgN 6) outS) ys (a :: b :: .v (.lst (RL2 rs)) :: d :: e :: f :: x :: y :: tl) = .nx (a :: b :: .v (.lst (RL2 rs)) :: d :: e :: f :: x' :: y' :: tl)
  | [], x, y, _ => ⟨x, y, rfl⟩
  | z :: ys, x, y, h => by
    obtain ⟨q, rfl, hq⟩ := h z List.mem_cons_self
    obtain ⟨y1, e1⟩ := inner_loop (a := a) (b := b) (c := .v (.lst (RL2 rs))) (d := d) (e := e) (f := f) (tl := tl) hq (cut (RL2 rs) none (some 3)) y (cut_rs hr)
    obtain ⟨x', y', ih⟩ := outer_loop (a := a) (b := b) (d := d) (e := e) (f := f) (tl := tl) hr ys (.v (T2 q.1 q.2)) y1 (fun w hw => h w (List.mem_cons_of_mem _ hw))
    refine ⟨x', y', ?_⟩
    rw [s_forCons]
    simp [outS, e1]
    exact ih
/-! ### making -/
noncomputable def mkS : FS := ifS (notB (tstF (callF 2 d__law_making_holds [] (consV (dF (varF 9)) (consV (dF (varF 10)) nilV))))) (retS (cF (.bl false))) skipS
theorem mk_loop {x0 x1 x2 x3 x4 x5 x6 x7 x8 : S} : ∀ (items : List D) (y z : S), (∀ it ∈ items, ∃ p q, it = .tup [p, q] ∧ ∀ g, callR 2 d__law_making_holds [.d p, .d q] g = .ok (.bl true) g) →
    ∃ y' z', forL (turnS (tgT 2 (tgCons (tgN 9) (tgCons (tgN 10) tgNil))) mkS) items [x0, x1, x2, x3, x4, x5, x6, x7, x8, y, z] = .nx [x0, x1, x2, x3, x4, x5, x6, x7, x8, y', z']
  | [], y, z, _ => ⟨y, z, rfl⟩
  | it :: items, y, z, h => by
    obtain ⟨p, q, rfl, hp⟩ := h it List.mem_cons_self
    obtain ⟨y', z', ih⟩ := mk_loop (x0 := x0) (x1 := x1) (x2 := x2) (x3 := x3) (x4 := x4) (x5 := x5) (x6 := x6) (x7 := x7) (x8 := x8) items (.v p) (.v q) (fun w hw => h w (List.mem_cons_of_mem _ hw))
    refine ⟨y', z', ?_⟩
    rw [s_forCons]
    simp [mkS, hp]
    exact ih
/-! ### things -/
noncomputable def thS : FS := seqS (ifS (orB (notB (tstF (callF 2 d__law_truth [] (consV (dF (callF 3 d_is_whole [.non, .non] (consV (dF (varF 0)) nilV))) (consV (dF (varF 1)) nilV))))) (notB (tstF (callF 2 d__law_truth [] (consV (dF (callF 1 d_is_sequence [] (consV (dF (varF 0)) nilV))) (consV (dF (varF 2)) nilV))))))
    (retS (cF (.bl false)))
    skipS)
    (ifS (orB (notB (tstF (callF 2 d__law_truth [] (consV (dF (callF 1 d_is_ratio [] (consV (dF (varF 0)) nilV))) (consV (dF (varF 3)) nilV))))) (notB (tstF (callF 2 d__law_truth [] (consV (dF (callF 1 d_is_share [] (consV (dF (varF 0)) nilV))) (consV (dF (varF 4)) nilV))))))
    (retS (cF (.bl false)))
    skipS)
theorem th_loop : ∀ (items : List D) (a b c d e : S), (∀ it ∈ items, ∃ x w s r h, it = .tup [x, .bl w, .bl s, .bl r, .bl h] ∧ Th x w s r h) →
    ∃ a' b' c' d' e', forL (turnS (tgT 5 (tgCons (tgN 0) (tgCons (tgN 1) (tgCons (tgN 2) (tgCons (tgN 3) (tgCons (tgN 4) tgNil)))))) thS) items [a, b, c, d, e] = .nx [a', b', c', d', e']
  | [], a, b, c, d, e, _ => ⟨a, b, c, d, e, rfl⟩
  | it :: items, a, b, c, d, e, hh => by
    obtain ⟨x, w, s, r, h, rfl, t⟩ := hh it List.mem_cons_self
    obtain ⟨a', b', c', d', e', ih⟩ := th_loop items (.v x) (.v (.bl w)) (.v (.bl s)) (.v (.bl r)) (.v (.bl h)) (fun w hw => hh w (List.mem_cons_of_mem _ hw))
    refine ⟨a', b', c', d', e', ?_⟩
    rw [s_forCons]
    simp [thS, t.w, t.s, t.r, t.h, truth_ok]
    exact ih
def things : List D := [.tup [.int 0, .bl true, .bl false, .bl false, .bl false], .tup [.bl true, .bl false, .bl false, .bl false, .bl false], .tup [.str "1", .bl false, .bl false, .bl false, .bl false], .tup [.non, .bl false, .bl false, .bl false, .bl false],
  .tup [.lst [.int 1, .int 2], .bl false, .bl true, .bl false, .bl false], .tup [T2 1 2, .bl false, .bl true, .bl true, .bl true], .tup [T2 2 4, .bl false, .bl true, .bl false, .bl false], .tup [T2 (-1) 2, .bl false, .bl true, .bl true, .bl false],
  .tup [T2 3 2, .bl false, .bl true, .bl true, .bl false], .tup [T2 1 0, .bl false, .bl true, .bl false, .bl false], .tup [T2 1 1, .bl false, .bl true, .bl true, .bl true], .tup [T2 0 1, .bl false, .bl true, .bl true, .bl true],
  .tup [T2 0 2, .bl false, .bl true, .bl false, .bl false], .tup [.tup [.int 1], .bl false, .bl true, .bl false, .bl false], .tup [.tup [.bl true, .int 2], .bl false, .bl true, .bl false, .bl false], .tup [.tup [.int 1, .bl true], .bl false, .bl true, .bl false, .bl false],
  .tup [T2 1 (-2), .bl false, .bl true, .bl false, .bl false], .tup [.tup [], .bl false, .bl true, .bl false, .bl false]]
theorem things_ok (g : Sg) : callRF 0 d__law_things [] g = .ok things g := by
  have key : d__law_things [] = .okf things [] := by
    simp [d__law_things, s_def, szOk, things, T2]
  rw [s_callRF]
  simp [key]
theorem th_all : ∀ it ∈ things, ∃ x w s r h, it = .tup [x, .bl w, .bl s, .bl r, .bl h] ∧ Th x w s r h := by
  unfold things
  refine List.forall_mem_cons.mpr ⟨⟨_, _, _, _, _, rfl, th_f (fun g => w_nn) rfl (isr_nt rfl)⟩, ?_⟩
  refine List.forall_mem_cons.mpr ⟨⟨_, _, _, _, _, rfl, th_f (fun g => w_bl) rfl (isr_nt rfl)⟩, ?_⟩
  refine List.forall_mem_cons.mpr ⟨⟨_, _, _, _, _, rfl, th_f (fun g => w_str) rfl (isr_nt rfl)⟩, ?_⟩
  refine List.forall_mem_cons.mpr ⟨⟨_, _, _, _, _, rfl, th_f (fun g => w_non) rfl (isr_nt rfl)⟩, ?_⟩
  refine List.forall_mem_cons.mpr ⟨⟨_, _, _, _, _, rfl, th_f (fun g => w_lst) rfl (isr_nt rfl)⟩, ?_⟩
  refine List.forall_mem_cons.mpr ⟨⟨_, _, _, _, _, rfl, th_2t (by decide) (by decide)⟩, ?_⟩
  refine List.forall_mem_cons.mpr ⟨⟨_, _, _, _, _, rfl, th_2f (by decide)⟩, ?_⟩
  refine List.forall_mem_cons.mpr ⟨⟨_, _, _, _, _, rfl, th_2t (by decide) (by decide)⟩, ?_⟩
  refine List.forall_mem_cons.mpr ⟨⟨_, _, _, _, _, rfl, th_2t (by decide) (by decide)⟩, ?_⟩
  refine List.forall_mem_cons.mpr ⟨⟨_, _, _, _, _, rfl, th_2f (by decide)⟩, ?_⟩
  refine List.forall_mem_cons.mpr ⟨⟨_, _, _, _, _, rfl, th_2t (by decide) (by decide)⟩, ?_⟩
  refine List.forall_mem_cons.mpr ⟨⟨_, _, _, _, _, rfl, th_2t (by decide) (by decide)⟩, ?_⟩
  refine List.forall_mem_cons.mpr ⟨⟨_, _, _, _, _, rfl, th_2f (by decide)⟩, ?_⟩
  refine List.forall_mem_cons.mpr ⟨⟨_, _, _, _, _, rfl, th_f (fun g => w_tup) rfl (isr_ln (by decide))⟩, ?_⟩
  refine List.forall_mem_cons.mpr ⟨⟨_, _, _, _, _, rfl, th_f (fun g => w_tup) rfl isr_b1⟩, ?_⟩
  refine List.forall_mem_cons.mpr ⟨⟨_, _, _, _, _, rfl, th_f (fun g => w_tup) rfl isr_b2⟩, ?_⟩
  refine List.forall_mem_cons.mpr ⟨⟨_, _, _, _, _, rfl, th_2f (by decide)⟩, ?_⟩
  refine List.forall_mem_cons.mpr ⟨⟨_, _, _, _, _, rfl, th_f (fun g => w_tup) rfl (isr_ln (by decide))⟩, ?_⟩
  exact fun _ h => nomatch h
theorem things_hold (g : Sg) : callR 0 d__law_things_hold [] g = .ok (.bl true) g := by
  obtain ⟨a, b, c, d, e, h⟩ := th_loop things .un .un .un .un .un th_all
  unfold thS at h
  refine callR_v rfl rfl (ss := []) ?_
  simp [d__law_things_hold, s_def, things_ok, h]
end K00

set_option Elab.async false
set_option linter.all false
set_option maxRecDepth 100000
set_option maxHeartbeats 4000000
namespace K00
open PySem L2 DL
noncomputable def st0 : FS := (asgO 1 (callFF 1 d__law_hand [] (consV (dF (varF 0)) nilV)))
noncomputable def st1 : FS := (asgO 2 (lstF nilA))
noncomputable def st2 : FS := (forS (faF rng1D (consA (op2F addD (cF (.int 2)) (callF 2 d__law_draw [] (consV (nmF 1) (consV (dF (cF (.int 4))) nilV)))) nilA)) (tgN 3)
 (exprS (apF 2 (callF 2 d__law_ratio [] (consV (dF (callF 1 d__law_number [] (consV (nmF 1) nilV))) (consV (dF (callF 1 d__law_bottom [] (consV (nmF 1) nilV))) nilV))))))
noncomputable def st3 : FS := (ifS (tstF (op2F eqD (callF 2 d__law_draw [] (consV (nmF 1) (consV (dF (cF (.int 5))) nilV))) (cF (.int 0))))
 (setS 2 (cF (.int 1)) (op2V ixD (nmF 2) (dF (cF (.int 0)))))
 skipS)
noncomputable def st4 : FS := (ifS (tstF (op2F eqD (callF 2 d__law_draw [] (consV (nmF 1) (consV (dF (cF (.int 5))) nilV))) (cF (.int 0))))
 (setS 2 (cF (.int 1)) (tupF (consA (cF (.int 0)) (consA (cF (.int 1)) nilA))))
 skipS)
noncomputable def st5 : FS := (asgS 4 (tupF (consA (cF (.int 0)) (consA (cF (.int 1)) nilA))))
noncomputable def st6 : FS := (forS (itF (frzF 2)) (tgN 5)
 (seqS (ifS (orB (notB (tstF (callF 2 d__law_truth [] (consV (dF (callF 1 d_is_ratio [] (consV (dF (varF 5)) nilV))) (consV (dF (cF (.bl true))) nilV))))) (notB (tstF (callF 2 d__law_truth [] (consV (dF (callF 1 d_is_share [] (consV (dF (varF 5)) nilV))) (consV (dF (chF leD leD (cF (.int 0)) (op2F ixD (varF 5) (cF (.int 0))) (op2F ixD (varF 5) (cF (.int 1))))) nilV))))))
 (retS (cF (.bl false)))
 skipS)
 (asgS 4 (callF 2 d__law_plus [] (consV (dF (varF 4)) (consV (dF (varF 5)) nilV))))))
noncomputable def st7 : FS := (forS (itF (frF (slcF (dF (frzF 2)) noPart (partF (cF (.int 3)))))) (tgN 6)
 (forS (itF (frF (slcF (dF (frzF 2)) noPart (partF (cF (.int 3)))))) (tgN 7)
 (ifS (notB (tstF (callF 2 d__law_pair_holds [] (consV (dF (varF 6)) (consV (dF (varF 7)) nilV)))))
 (retS (cF (.bl false)))
 skipS)))
noncomputable def st8 : FS := (ifS (orB (notB (tstF (callF 2 d__law_same [] (consV (dF (callF 1 d_ratio_sum [] (consV (dF (frF (bltFF listD (consV (nmF 2) nilV)))) nilV))) (consV (dF (varF 4)) nilV))))) (notB (tstF (callF 2 d__law_same [] (consV (dF (callF 1 d_ratio_sum [] (consV (dF (tupF nilA)) nilV))) (consV (dF (tupF (consA (cF (.int 0)) (consA (cF (.int 1)) nilA)))) nilV))))))
 (retS (cF (.bl false)))
 skipS)
noncomputable def st9 : FS := (asgS 6 (callF 1 d__law_number [] (consV (nmF 1) nilV)))
noncomputable def st10 : FS := (asgS 7 (callF 1 d__law_number [] (consV (nmF 1) nilV)))
noncomputable def st11 : FS := (asgS 5 (callF 2 d_common_divisor [] (consV (dF (varF 6)) (consV (dF (varF 7)) nilV))))
noncomputable def st12 : FS := (ifS (orB (notB (tstF (callF 1 d__law_whole [] (consV (dF (varF 5)) nilV)))) (tstF (op2F neD (varF 5) (callF 2 d__law_part [] (consV (dF (varF 6)) (consV (dF (varF 7)) nilV))))))
 (retS (cF (.bl false)))
 skipS)
noncomputable def st13 : FS := (asgS 8 (op2F ixD (tupF (consA (cF (.str "1")) (consA (cF .non) (consA (cF (.bl true)) (consA (tupF (consA (cF (.int 1)) (consA (cF (.int 1)) nilA))) nilA))))) (callF 2 d__law_draw [] (consV (nmF 1) (consV (dF (cF (.int 4))) nilV)))))
noncomputable def st14 : FS := (forS (itF (frF (lstF (consA (tupF (consA (varF 6) (consA (varF 7) nilA))) (consA (tupF (consA (varF 6) (consA (cF (.int 0)) nilA))) (consA (tupF (consA (varF 8) (consA (varF 7) nilA))) (consA (tupF (consA (varF 6) (consA (varF 8) nilA))) (consA (tupF (consA (varF 8) (consA (cF (.int 0)) nilA))) (consA (tupF (consA (varF 7) (consA (op1F negD (bltF absD (consV (dF (varF 6)) nilV))) nilA))) nilA))))))))) (tgT 2 (tgCons (tgN 9) (tgCons (tgN 10) tgNil)))
 (ifS (notB (tstF (callF 2 d__law_making_holds [] (consV (dF (varF 9)) (consV (dF (varF 10)) nilV)))))
 (retS (cF (.bl false)))
 skipS))
noncomputable def st15 : FS := (ifS (orB (notB (tstF (callF 2 d__law_same [] (consV (dF (callF 2 d_make_ratio [(.int 1)] (consV (dF (varF 6)) nilV))) (consV (dF (tupF (consA (varF 6) (consA (cF (.int 1)) nilA)))) nilV))))) (tstF (op2F neD (tupF (consA (cF k_ZERO) (consA (cF k_ONE) (consA (cF k_HALF) nilA)))) (tupF (consA (tupF (consA (cF (.int 0)) (consA (cF (.int 1)) nilA))) (consA (tupF (consA (cF (.int 1)) (consA (cF (.int 1)) nilA))) (consA (tupF (consA (cF (.int 1)) (consA (cF (.int 2)) nilA))) nilA)))))))
 (retS (cF (.bl false)))
 skipS)
noncomputable def st16 : FS := (retS (andV (callF 0 d__law_things_hold [] nilV) (callF 3 d__law_bounds_hold [] (consV (dF (varF 6)) (consV (dF (varF 7)) (consV (dF (callF 1 d__law_number [] (consV (nmF 1) nilV))) nilV))))))
theorem st_eq : d_law = defF 11 (seqS st0 (seqS st1 (seqS st2 (seqS st3 (seqS st4 (seqS st5 (seqS st6 (seqS st7 (seqS st8 (seqS st9 (seqS st10 (seqS st11 (seqS st12 (seqS st13 (seqS st14 (seqS st15 st16)))))))))))))))) := rfl
theorem seq_run {as : Sg} {s1 s2 : FS} {g g1 : Sg} {r : RC} (h1 : s1 g = .nx g1) (h2 : endC as (s2 g1) = r) : endC as (seqS s1 s2 g) = r := by
  rw [s_seq, h1]; exact h2
theorem ixN1 {n : Nat} : ixN (n + 1 + 1) 1 = some 1 := by unfold ixN; rw [if_pos (by decide), if_pos (by omega)]; rfl
section
variable {L : S} {cs : List Int} {p r s : Int} {rs : List (Int × Int)} {tl : Sg}
/-- the two changes -/
theorem st3_ok (H : HandOk cs p r s) (hr : Rs rs) (hl : 2 ≤ rs.length) : ∃ p' r' s' rs', st3 (L :: .ow (Hand cs p r s) :: .ow (RL2 rs) :: tl) = .nx (L :: .ow (Hand cs p' r' s') :: .ow (RL2 rs') :: tl) ∧ HandOk cs p' r' s' ∧ Rs rs' ∧ rs'.length = rs.length := by
  obtain ⟨v, p1, r1, s1, e1, a1, b1, H1⟩ := draw_ok (m := 5) (by decide) (small_bb (by decide) (by decide)) H
  match rs, hl, hr with
  | a :: b :: rest, _, hr =>
    by_cases c : v = 0
    · subst c
      refine ⟨p1, r1, s1, a :: a :: rest, ?_, H1, fun q hq => hr q (by
        rcases List.mem_cons.mp hq with z | z
        · exact z ▸ List.mem_cons_self
        · rcases List.mem_cons.mp z with z | z
          · exact z ▸ List.mem_cons_self
          · exact List.mem_cons_of_mem _ (List.mem_cons_of_mem _ z)), rfl⟩
      simp [st3, e1.a1, RL2, ixN1]
    · refine ⟨p1, r1, s1, a :: b :: rest, ?_, H1, hr, rfl⟩
      simp [st3, e1.a1, c]
theorem st4_ok (H : HandOk cs p r s) (hr : Rs rs) (hl : 2 ≤ rs.length) : ∃ p' r' s' rs', st4 (L :: .ow (Hand cs p r s) :: .ow (RL2 rs) :: tl) = .nx (L :: .ow (Hand cs p' r' s') :: .ow (RL2 rs') :: tl) ∧ HandOk cs p' r' s' ∧ Rs rs' ∧ rs'.length = rs.length := by
  obtain ⟨v, p1, r1, s1, e1, a1, b1, H1⟩ := draw_ok (m := 5) (by decide) (small_bb (by decide) (by decide)) H
  match rs, hl, hr with
  | a :: b :: rest, _, hr =>
    by_cases c : v = 0
    · subst c
      refine ⟨p1, r1, s1, a :: (0, 1) :: rest, ?_, H1, fun q hq => ?_, rfl⟩
      · simp [st4, e1.a1, RL2, ixN1, szOk, T2]
      · rcases List.mem_cons.mp hq with z | z
        · exact hr q (z ▸ List.mem_cons_self)
        · rcases List.mem_cons.mp z with z | z
          · subst z; exact ⟨by decide, by decide, by unfold BB; decide, by unfold BB; decide⟩
          · exact hr q (List.mem_cons_of_mem _ (List.mem_cons_of_mem _ z))
    · refine ⟨p1, r1, s1, a :: b :: rest, ?_, H1, hr, rfl⟩
      simp [st4, e1.a1, c]
end

theorem odd_of {v : Int} (h0 : 0 ≤ v) (h1 : v < 4) : ∃ d, ixD (.tup [.str "1", .non, .bl true, .tup [.int 1, .int 1]]) (.int v) = some d ∧ Odd d := by
  have h : v = 0 ∨ v = 1 ∨ v = 2 ∨ v = 3 := by omega
  rcases h with rfl | rfl | rfl | rfl
  · exact ⟨_, rfl, fun g => w_str, fun g => lw_str⟩
  · exact ⟨_, rfl, fun g => w_non, fun g => lw_non⟩
  · exact ⟨_, rfl, fun g => w_bl, fun g => lw_bl⟩
  · exact ⟨_, rfl, fun g => w_tup, fun g => lw_tup⟩
theorem nrm_one {a : Int} : nrm a 1 = T2 a 1 := by
  unfold nrm
  rw [if_neg (by decide)]
  simp [Int.gcd_one]
theorem mk_int {a b : Int} (hb : BB 61 b) (g : Sg) : callR 2 d__law_making_holds [.d (.int a), .d (.int b)] g = .ok (.bl true) g := by
  by_cases c : b = 0
  · subst c; exact making2
  · exact making1 (hb.mono (by decide)) c
theorem law_ok : LawOk d_law := fun ns hl hb => by
  obtain ⟨cs, s0, eh, H0⟩ := hand_ok hl (fun z hz => bits_bb (hb z hz)) [.v (.lst (ns.map D.int)), .un, .un, .un, .un, .un, .un, .un, .un, .un, .un]
  generalize hL : S.v (.lst (ns.map D.int)) = L at *
  have hLo : L.isOw = false := by rw [← hL]; rfl
  obtain ⟨v1, p1, r1, s1, e1, a1, b1, H1⟩ := draw_ok (m := 4) (by decide) (small_bb (by decide) (by decide)) H0
  have er : rng1D [.int (2 + v1)] = some (rng (2 + v1).toNat 0) := if_pos (by unfold RL; rw [Bool.and_eq_true]; exact ⟨decide_eq_true (by omega), decide_eq_true (by omega)⟩)
  obtain ⟨p2, r2, s2, rs, x3, e2, H2, R2, l2⟩ := build_loop (L := L) (tl := [.un, .un, .un, .un, .un, .un, .un]) (rng (2 + v1).toNat 0) p1 r1 s1 [] .un H1 (fun _ h => nomatch h) (by rw [rng_length]; simp; omega)
  rw [rng_length] at l2
  simp only [List.length_nil, Nat.zero_add] at l2
  obtain ⟨p3, r3, s3, rs3, e3, H3, R3, l3⟩ := st3_ok (L := L) (tl := [x3, .un, .un, .un, .un, .un, .un, .un]) H2 R2 (by omega)
  obtain ⟨p4, r4, s4, rs4, e4, H4, R4, l4⟩ := st4_ok (L := L) (tl := [x3, .un, .un, .un, .un, .un, .un, .un]) H3 R3 (by omega)
  obtain ⟨z, hz⟩ := sum_ex rs4 (0, 1) 0 R4 (by omega) rt01
  obtain ⟨y5, e6⟩ := tot_loop (a := L) (b := .ow (Hand cs p4 r4 s4)) (c := .v (.lst (RL2 rs4))) (d := x3) (x6 := .un) (tl := [.un, .un, .un, .un, .un]) rs4 (0, 1) z 0 .un R4 (by omega) rt01 hz
  obtain ⟨x6, x7, e7⟩ := outer_loop (a := L) (b := .ow (Hand cs p4 r4 s4)) (d := x3) (e := .v (T2 z.1 z.2)) (f := y5) (tl := [.un, .un, .un]) R4 (cut (RL2 rs4) none (some 3)) .un .un (cut_rs R4)
  obtain ⟨na, p5, r5, s5, e9, ba, H5⟩ := num_ok H4
  obtain ⟨nb, p6, r6, s6, e10, bb, H6⟩ := num_ok H5
  obtain ⟨v5, p7, r7, s7, e13, a13, b13, H7⟩ := draw_ok (m := 4) (by decide) (small_bb (by decide) (by decide)) H6
  obtain ⟨od, eo, ho⟩ := odd_of a13 b13
  have hab : BB 61 (-(na.natAbs : Int)) := by unfold BB at *; rw [Int.natAbs_neg]; simpa using ba
  obtain ⟨y9, y10, e14⟩ := mk_loop (x0 := L) (x1 := .ow (Hand cs p7 r7 s7)) (x2 := .v (.lst (RL2 rs4))) (x3 := x3) (x4 := .v (T2 z.1 z.2)) (x5 := .v (.int (Int.gcd na nb))) (x6 := .v (.int na)) (x7 := .v (.int nb)) (x8 := .v od)
    [.tup [.int na, .int nb], .tup [.int na, .int 0], .tup [od, .int nb], .tup [.int na, od], .tup [od, .int 0], .tup [.int nb, .int (-(na.natAbs : Int))]] .un .un (by
      refine List.forall_mem_cons.mpr ⟨⟨_, _, rfl, mk_int bb⟩, ?_⟩
      refine List.forall_mem_cons.mpr ⟨⟨_, _, rfl, fun g => making2⟩, ?_⟩
      refine List.forall_mem_cons.mpr ⟨⟨_, _, rfl, fun g => making3 ho⟩, ?_⟩
      refine List.forall_mem_cons.mpr ⟨⟨_, _, rfl, fun g => making4 ho⟩, ?_⟩
      refine List.forall_mem_cons.mpr ⟨⟨_, _, rfl, fun g => making3 ho⟩, ?_⟩
      refine List.forall_mem_cons.mpr ⟨⟨_, _, rfl, mk_int hab⟩, ?_⟩
      exact fun _ h => nomatch h)
  obtain ⟨nc, p8, r8, s8, e16, bc, H8⟩ := num_ok H7
  refine ⟨[L], ?_⟩
  rw [st_eq, s_def]
  show endC [L] (seqS st0 _ [L, .un, .un, .un, .un, .un, .un, .un, .un, .un, .un]) = _
  refine seq_run (g1 := [L, .ow (Hand cs 0 0 s0), .un, .un, .un, .un, .un, .un, .un, .un, .un]) ?_ ?_
  · simp [st0, ← hL]; rw [hL]; simp [eh]
  refine seq_run (g1 := [L, .ow (Hand cs 0 0 s0), .ow [], .un, .un, .un, .un, .un, .un, .un, .un]) ?_ ?_
  · simp [st1, szOk]
  refine seq_run (g1 := [L, .ow (Hand cs p2 r2 s2), .ow (RL2 rs), x3, .un, .un, .un, .un, .un, .un, .un]) ?_ ?_
  · unfold buildS at e2
    simp [st2, e1.a1, er]
    exact e2
  refine seq_run e3 ?_
  refine seq_run e4 ?_
  refine seq_run (g1 := [L, .ow (Hand cs p4 r4 s4), .ow (RL2 rs4), x3, .v (T2 0 1), .un, .un, .un, .un, .un, .un]) ?_ ?_
  · simp [st5, szOk, T2]
  refine seq_run (g1 := [L, .ow (Hand cs p4 r4 s4), .v (.lst (RL2 rs4)), x3, .v (T2 z.1 z.2), y5, .un, .un, .un, .un, .un]) ?_ ?_
  · unfold totS at e6
    simp [st6]
    exact e6
  refine seq_run (g1 := [L, .ow (Hand cs p4 r4 s4), .v (.lst (RL2 rs4)), x3, .v (T2 z.1 z.2), y5, x6, x7, .un, .un, .un]) ?_ ?_
  · unfold outS pairS at e7
    simp [st7]
    exact e7
  refine seq_run (g1 := [L, .ow (Hand cs p4 r4 s4), .v (.lst (RL2 rs4)), x3, .v (T2 z.1 z.2), y5, x6, x7, .un, .un, .un]) ?_ ?_
  · have q1 : ∀ g, callR 1 d_ratio_sum [.d (.lst (RL2 rs4))] g = .ok (T2 z.1 z.2) g := fun g => rsum_ok R4 (by omega) hz g
    have q2 : ∀ g, callR 2 d__law_same [.d (T2 0 1), .d (.tup [.int 0, .int 1])] g = .ok (.bl true) g := fun g => same2
    simp [st8, q1, rsum0, szOk, same2, q2]
  refine seq_run (g1 := [L, .ow (Hand cs p5 r5 s5), .v (.lst (RL2 rs4)), x3, .v (T2 z.1 z.2), y5, .v (.int na), x7, .un, .un, .un]) ?_ ?_
  · simp [st9, e9.a1]
  refine seq_run (g1 := [L, .ow (Hand cs p6 r6 s6), .v (.lst (RL2 rs4)), x3, .v (T2 z.1 z.2), y5, .v (.int na), .v (.int nb), .un, .un, .un]) ?_ ?_
  · simp [st10, e10.a1]
  refine seq_run (g1 := [L, .ow (Hand cs p6 r6 s6), .v (.lst (RL2 rs4)), x3, .v (T2 z.1 z.2), .v (.int (Int.gcd na nb)), .v (.int na), .v (.int nb), .un, .un, .un]) ?_ ?_
  · simp [st11, cd_ok]
  refine seq_run (g1 := [L, .ow (Hand cs p6 r6 s6), .v (.lst (RL2 rs4)), x3, .v (T2 z.1 z.2), .v (.int (Int.gcd na nb)), .v (.int na), .v (.int nb), .un, .un, .un]) ?_ ?_
  · simp [st12, lw_int, part_ok (a := na) (bb.mono (show 61 ≤ 450 by decide))]
  refine seq_run (g1 := [L, .ow (Hand cs p7 r7 s7), .v (.lst (RL2 rs4)), x3, .v (T2 z.1 z.2), .v (.int (Int.gcd na nb)), .v (.int na), .v (.int nb), .v od, .un, .un]) ?_ ?_
  · simp [st13, szOk, e13.a1, eo]
  refine seq_run (g1 := [L, .ow (Hand cs p7 r7 s7), .v (.lst (RL2 rs4)), x3, .v (T2 z.1 z.2), .v (.int (Int.gcd na nb)), .v (.int na), .v (.int nb), .v od, y9, y10]) ?_ ?_
  · unfold mkS at e14
    simp [st14, szOk]
    exact e14
  refine seq_run (g1 := [L, .ow (Hand cs p7 r7 s7), .v (.lst (RL2 rs4)), x3, .v (T2 z.1 z.2), .v (.int (Int.gcd na nb)), .v (.int na), .v (.int nb), .v od, y9, y10]) ?_ ?_
  · have q1 : ∀ g, callR 2 d_make_ratio [.d (.int na), .d (.int 1)] g = .ok (T2 na 1) g := fun g => by rw [make_ok (show BB 450 1 by unfold BB; decide) (by decide), nrm_one]
    have q2 : ∀ g, callR 2 d__law_same [.d (T2 na 1), .d (.tup [.int na, .int 1])] g = .ok (.bl true) g := fun g => same2
    simp [st15, q1, q2, szOk, k_ZERO, k_ONE, k_HALF]
  · simp [st16, things_hold, e16.a1, bounds_ok, hLo]
end K00

set_option Elab.async false
set_option linter.all false
set_option maxRecDepth 100000
/-! the end (printed by gen.py) -/
open PySem PySem.W PyProof.Rows
set_option maxHeartbeats 0 in
theorem PySem.Challenge.cw_letbychecks_k00_whole_ratios_reckoned_holds : PySem.Challenge.rw_letbychecks_k00_whole_ratios_reckoned.Holds := by
  w_on; o_law; k_head; (case hw => w_witness2)
  k_fill
  refine DL.walk (l := PySem.Challenge.rw_letbychecks_k00_whole_ratios_reckoned) (k := 5) (x := "_law_script") rfl rfl ⟨rfl, by decide, by decide⟩ (fun w h Y => PySem.W.kIn_of Y) ?F
  case F =>
    intro w mg fa h KX G hmg
    refine' K00.all_mk KX G hmg ?a0 ?l0 ?c0 ?k0 ?a1 ?l1 ?c1 ?k1 ?a2 ?l2 ?c2 ?k2 ?a3 ?l3 ?c3 ?k3 ?a4 ?l4 ?c4 ?k4 ?a5 ?l5 ?c5 ?k5 ?a6 ?l6 ?c6 ?k6 ?a7 ?l7 ?c7 ?k7 ?a8 ?l8 ?c8 ?k8 ?a9 ?l9 ?c9 ?k9 ?a10 ?l10 ?lT10 ?c10 ?k10 ?a11 ?l11 ?c11 ?k11 ?a12 ?l12 ?c12 ?k12 ?a13 ?l13 ?c13 ?k13 ?a14 ?l14 ?c14 ?k14 ?a15 ?l15 ?c15 ?k15 ?a16 ?l16 ?c16 ?k16 ?a17 ?l17 ?c17 ?k17 ?a18 ?l18 ?c18 ?k18 ?a19 ?l19 ?c19 ?k19 ?a20 ?l20 ?lT20 ?c20 ?k20 ?a21 ?l21 ?c21 ?k21 ?a22 ?l22 ?c22 ?k22 ?a23 ?l23 ?c23 ?k23 ?a24 ?l24 ?c24 ?k24 ?a25 ?l25 ?c25 ?k25 ?a26 ?l26 ?c26 ?k26 ?a27 ?l27 ?c27 ?k27 ?a28 ?l28 ?c28 ?k28 ?a29 ?l29 ?c29 ?k29 ?a30 ?l30 ?c30 ?k30 ?a31 ?l31 ?c31 ?k31 ?a32 ?l32 ?c32 ?k32 ?z0 ?z1 ?z2 ?z3 ?z4 ?z5 ?z6 ?z7 ?z8 ?z9 ?z10 ?aq0 ?lq0 ?aq1 ?lq1 ?aq2 ?lq2 ?aC0 ?aC1 ?aC2 ?xL1 ?sa1 ?eC1 ?tC1 ?kC1 ?ai1 ?ti1 ?li1 ?ci1 ?ki1 ?nf1_0 ?xL2 ?sa2 ?eC2 ?tC2 ?kC2 ?ai2 ?ti2 ?li2 ?ci2 ?ki2 ?rd0 ?rg0 ?vi0 ?sb1_1 ?xhd1 ?sb2_0 ?eC0 ?tC0 ?xhd0 ?sb2_1 ?sb2_2 ?xhd2 ?sb2_ValueError ?xn ?xt ?xhg2 ?xhk2 ?xhs2 ?xha2 ?xhm2 ?xhg1 ?xhk1 ?xhs1 K00.law_ok
    (case a0 => k_is)
    (case l0 => k_is)
    (case c0 => k_is)
    (case k0 => k_is)
    (case a1 => k_is)
    (case l1 => k_is)
    (case c1 => k_is)
    (case k1 => k_is)
    (case a2 => k_is)
    (case l2 => k_is)
    (case c2 => k_is)
    (case k2 => k_is)
    (case a3 => k_is)
    (case l3 => k_is)
    (case c3 => k_is)
    (case k3 => k_is)
    (case a4 => k_is)
    (case l4 => k_is)
    (case c4 => k_is)
    (case k4 => k_is)
    (case a5 => k_is)
    (case l5 => k_is)
    (case c5 => k_is)
    (case k5 => k_is)
    (case a6 => k_is)
    (case l6 => k_is)
    (case c6 => k_is)
    (case k6 => k_is)
    (case a7 => k_is)
    (case l7 => k_is)
    (case c7 => k_is)
    (case k7 => k_is)
    (case a8 => k_is)
    (case l8 => k_is)
    (case c8 => k_is)
    (case k8 => k_is)
    (case a9 => k_is)
    (case l9 => k_is)
    (case c9 => k_is)
    (case k9 => k_is)
    (case a10 => k_is)
    (case l10 => k_is)
    (case lT10 => k_is)
    (case c10 => k_is)
    (case k10 => k_is)
    (case a11 => k_is)
    (case l11 => k_is)
    (case c11 => k_is)
    (case k11 => k_is)
    (case a12 => k_is)
    (case l12 => k_is)
    (case c12 => k_is)
    (case k12 => k_is)
    (case a13 => k_is)
    (case l13 => k_is)
    (case c13 => k_is)
    (case k13 => k_is)
    (case a14 => k_is)
    (case l14 => k_is)
    (case c14 => k_is)
    (case k14 => k_is)
    (case a15 => k_is)
    (case l15 => k_is)
    (case c15 => k_is)
    (case k15 => k_is)
    (case a16 => k_is)
    (case l16 => k_is)
    (case c16 => k_is)
    (case k16 => k_is)
    (case a17 => k_is)
    (case l17 => k_is)
    (case c17 => k_is)
    (case k17 => k_is)
    (case a18 => k_is)
    (case l18 => k_is)
    (case c18 => k_is)
    (case k18 => k_is)
    (case a19 => k_is)
    (case l19 => k_is)
    (case c19 => k_is)
    (case k19 => k_is)
    (case a20 => k_is)
    (case l20 => k_is)
    (case lT20 => k_is)
    (case c20 => k_is)
    (case k20 => k_is)
    (case a21 => k_is)
    (case l21 => k_is)
    (case c21 => k_is)
    (case k21 => k_is)
    (case a22 => k_is)
    (case l22 => k_is)
    (case c22 => k_is)
    (case k22 => k_is)
    (case a23 => k_is)
    (case l23 => k_is)
    (case c23 => k_is)
    (case k23 => k_is)
    (case a24 => k_is)
    (case l24 => k_is)
    (case c24 => k_is)
    (case k24 => k_is)
    (case a25 => k_is)
    (case l25 => k_is)
    (case c25 => k_is)
    (case k25 => k_is)
    (case a26 => k_is)
    (case l26 => k_is)
    (case c26 => k_is)
    (case k26 => k_is)
    (case a27 => k_is)
    (case l27 => k_is)
    (case c27 => k_is)
    (case k27 => k_is)
    (case a28 => k_is)
    (case l28 => k_is)
    (case c28 => k_is)
    (case k28 => k_is)
    (case a29 => k_is)
    (case l29 => k_is)
    (case c29 => k_is)
    (case k29 => k_is)
    (case a30 => k_is)
    (case l30 => k_is)
    (case c30 => k_is)
    (case k30 => k_is)
    (case a31 => k_is)
    (case l31 => k_is)
    (case c31 => k_is)
    (case k31 => k_is)
    (case a32 => k_is)
    (case l32 => k_is)
    (case c32 => k_is)
    (case k32 => k_is)
    (case z0 => k_is)
    (case z1 => k_is)
    (case z2 => k_is)
    (case z3 => k_is)
    (case z4 => k_is)
    (case z5 => k_is)
    (case z6 => k_is)
    (case z7 => k_is)
    (case z8 => k_is)
    (case z9 => k_is)
    (case z10 => k_is)
    (case aq0 => k_is)
    (case lq0 => k_is)
    (case aq1 => k_is)
    (case lq1 => k_is)
    (case aq2 => k_is)
    (case lq2 => k_is)
    (case aC0 => k_is)
    (case aC1 => k_is)
    (case aC2 => k_is)
    (case xL1 => k_is)
    (case sa1 => k_is)
    (case eC1 => k_is)
    (case tC1 => k_is)
    (case kC1 => k_is)
    (case ai1 => k_is)
    (case ti1 => k_is)
    (case li1 => k_is)
    (case ci1 => k_is)
    (case ki1 => k_is)
    (case nf1_0 => k_is)
    (case xL2 => k_is)
    (case sa2 => k_is)
    (case eC2 => k_is)
    (case tC2 => k_is)
    (case kC2 => k_is)
    (case ai2 => k_is)
    (case ti2 => k_is)
    (case li2 => k_is)
    (case ci2 => k_is)
    (case ki2 => k_is)
    (case rd0 => k_is)
    (case rg0 => k_is)
    (case vi0 => k_is)
    (case sb1_1 => first | k_is | rfl)
    (case xhd1 => k_is)
    (case sb2_0 => first | k_is | rfl)
    (case eC0 => k_is)
    (case tC0 => k_is)
    (case xhd0 => k_is)
    (case sb2_1 => first | k_is | rfl)
    (case sb2_2 => first | k_is | rfl)
    (case xhd2 => k_is)
    (case sb2_ValueError => first | k_is | rfl)
    (case xn => k_is)
    (case xt => k_is)
    (case xhg2 => k_is)
    (case xhk2 => k_is)
    (case xhs2 => k_is)
    (case xha2 => k_is)
    (case xhm2 => k_is)
    (case xhg1 => k_is)
    (case xhk1 => k_is)
    (case xhs1 => k_is)
#print axioms PySem.Challenge.cw_letbychecks_k00_whole_ratios_reckoned_holds

