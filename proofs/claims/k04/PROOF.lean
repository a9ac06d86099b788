import PyProof.Rows.All
import Wide.All
import OpenK.AllK
import Wide.FinOn
import HandS.ForMost
import HandS.ForExc
import HandS.Deep
import HandS.TupAny
import HandS.Style
import HandS.SetIn
import KE.SortData
import PyProof.ReprRoads
import HandS.Star
import KE.KDictKeyed
import HandS.DictTup
import HandS.EndBits
import PyProof.FitsInt
import PyProof.StrLaws
import KE.SortLaws
import KE.LtData
import PySem.Challenge.RW_asonerun_k04_rows_by_own_walks
set_option Elab.async false
set_option linter.all false
set_option maxRecDepth 100000
set_option maxHeartbeats 4000000
/-! Fx: values as trees, environments of slots, what a state bears. -/
namespace Fx
open PySem L2

/-- the kinds of nodes: tuples, lists, dicts (their keys), instances (class name, attribute names) -/
inductive Kd where
  | tup | lst | scr | dct (ks : List Key) | obj (c : Str) (fs : List Str) | dcx (xs : List DictEntry)
/-- data -/
inductive D where
  | non | bl (b : Bool) | int (i : Int) | str (x : Str) | ob (a : Addr) | nd (k : Kd) (xs : List D)
instance : Inhabited D := ⟨.non⟩

/-- at a a dict with keys that are nested tuples: the entries as they lie -/
def dcxRaw (a : Addr) (xs : List DictEntry) (h : Heap) : Prop := (a == sysModules) = false ∧ ∃ o es ep, h.get? a = some o ∧ o.ExactDict ∧ o.data = .dict es ep ∧ es.toList = xs
/-- the module: its written part, its names -/
structure Md where
  K : PySem.W.Frag
  mg : Str → Option Value
abbrev Cx.md (X : L2.Cx) : Md := ⟨X.K, X.mg⟩

mutual
/-- in the (frozen) heap G the value v is the data d -/
inductive Has (M : Md) (G : Hp) : D → V → Prop
  | non : Has M G .non .non
  | bl (b : Bool) : Has M G (.bl b) (.bl b)
  | int (i : Int) : Has M G (.int i) (.int i)
  | str (x : Str) : Has M G (.str x) (.str x)
  | ob (a : Addr) : Has M G (.ob a) (.ref a)
  | tup {a : Addr} {vs : List V} {ds : List D} : SqT M.K G a vs → HasAll M G ds vs → Has M G (.nd .tup ds) (.ref a)
  | lst {a : Addr} {vs : List V} {ds : List D} : G a = some (.lst vs) → HasAll M G ds vs → Has M G (.nd .lst ds) (.ref a)
  | scr {a : Addr} {vs : List V} {ds : List D} : SqL M.K G a vs → HasAll M G ds vs → Has M G (.nd .scr ds) (.ref a)
  | dct {a : Addr} {kvs : List (Key × V)} {ds : List D} : G a = some (.dK kvs) → HasAll M G ds (kvs.map (·.2)) → Has M G (.nd (.dct (kvs.map (·.1))) ds) (.ref a)
  | obj {a C dx : Addr} {c : Str} {fs : List (Str × V)} {ds : List D} : M.mg c = some (.ref C) → G a = some (.ins C dx fs) → HasAll M G ds (fs.map (·.2)) → Has M G (.nd (.obj c (fs.map (·.1))) ds) (.ref a)
  | dcx {a : Addr} {xs : List DictEntry} {ds : List D} : G a = some (.ext (dcxRaw a xs)) → Has M G (.nd (.dcx xs) ds) (.ref a)
inductive HasAll (M : Md) (G : Hp) : List D → List V → Prop
  | nil : HasAll M G [] []
  | cons {d : D} {ds : List D} {v : V} {vs : List V} : Has M G d v → HasAll M G ds vs → HasAll M G (d :: ds) (v :: vs)
end

theorem SqT.same {K : PySem.W.Frag} {G G' : Hp} {a : Addr} {xs : List V} (e : Same G G') (h : SqT K G a xs) : SqT K G' a xs := by
  rcases h with (h | ⟨o, h⟩) | h
  · exact .inl (.inl (e _ _ h))
  · exact .inl (.inr ⟨o, e _ _ h⟩)
  · exact .inr h
mutual
theorem Has.same {M : Md} {G G' : Hp} (e : Same G G') : ∀ {d : D} {v : V}, Has M G d v → Has M G' d v
  | _, _, .non => .non
  | _, _, .bl b => .bl b
  | _, _, .int i => .int i
  | _, _, .str x => .str x
  | _, _, .ob a => .ob a
  | _, _, .tup h t => .tup (SqT.same e h) (HasAll.same e t)
  | _, _, .lst h t => .lst (e _ _ h) (HasAll.same e t)
  | _, _, .scr h t => .scr (Same.seq e h) (HasAll.same e t)
  | _, _, .dct h t => .dct (e _ _ h) (HasAll.same e t)
  | _, _, .obj g h t => .obj g (e _ _ h) (HasAll.same e t)
  | _, _, .dcx h => .dcx (e _ _ h)
theorem HasAll.same {M : Md} {G G' : Hp} (e : Same G G') : ∀ {ds : List D} {vs : List V}, HasAll M G ds vs → HasAll M G' ds vs
  | _, _, .nil => .nil
  | _, _, .cons h t => .cons (Has.same e h) (HasAll.same e t)
end
section
variable {M : Md} {G : Hp}
theorem HasAll.length : ∀ {ds : List D} {vs : List V}, HasAll M G ds vs → ds.length = vs.length
  | _, _, .nil => rfl
  | _, _, .cons _ t => congrArg (· + 1) t.length
theorem HasAll.get : ∀ {ds : List D} {vs : List V} {i : Nat} {d : D}, HasAll M G ds vs → ds[i]? = some d → ∃ v, vs[i]? = some v ∧ Has M G d v
  | _, _, _, _, .nil, e => by simp at e
  | _, _, 0, _, .cons h _, e => by simp at e; subst e; exact ⟨_, rfl, h⟩
  | _, _, i + 1, _, .cons _ t, e => by
    obtain ⟨v, h1, h2⟩ := HasAll.get (i := i) t (by simpa using e)
    exact ⟨v, by simpa using h1, h2⟩
theorem HasAll.getV : ∀ {ds : List D} {vs : List V} {i : Nat} {v : V}, HasAll M G ds vs → vs[i]? = some v → ∃ d, ds[i]? = some d ∧ Has M G d v
  | _, _, _, _, .nil, e => by simp at e
  | _, _, 0, _, .cons h _, e => by simp at e; subst e; exact ⟨_, rfl, h⟩
  | _, _, i + 1, _, .cons _ t, e => by
    obtain ⟨v, h1, h2⟩ := HasAll.getV (i := i) t (by simpa using e)
    exact ⟨v, by simpa using h1, h2⟩
theorem HasAll.append : ∀ {ds es : List D} {vs ws : List V}, HasAll M G ds vs → HasAll M G es ws → HasAll M G (ds ++ es) (vs ++ ws)
  | _, _, _, _, .nil, s => s
  | _, _, _, _, .cons h t, s => .cons h (t.append s)
theorem HasAll.take : ∀ {ds : List D} {vs : List V} (n : Nat), HasAll M G ds vs → HasAll M G (ds.take n) (vs.take n)
  | _, _, 0, _ => .nil
  | _, _, _ + 1, .nil => .nil
  | _, _, n + 1, .cons h t => .cons h (t.take n)
theorem HasAll.drop : ∀ {ds : List D} {vs : List V} (n : Nat), HasAll M G ds vs → HasAll M G (ds.drop n) (vs.drop n)
  | _, _, 0, r => r
  | _, _, _ + 1, .nil => .nil
  | _, _, n + 1, .cons _ t => t.drop n
theorem HasAll.set {d : D} {v : V} (h : Has M G d v) : ∀ {ds : List D} {vs : List V} (i : Nat), HasAll M G ds vs → HasAll M G (ds.set i d) (vs.set i v)
  | _, _, _, .nil => .nil
  | _, _, 0, .cons _ t => .cons h t
  | _, _, i + 1, .cons q t => .cons q (HasAll.set h i t)
theorem HasAll.reverse : ∀ {ds : List D} {vs : List V}, HasAll M G ds vs → HasAll M G ds.reverse vs.reverse
  | _, _, .nil => .nil
  | _, _, .cons h t => by
    rw [List.reverse_cons, List.reverse_cons]
    exact t.reverse.append (.cons h .nil)
theorem HasAll.dropLast {ds : List D} {vs : List V} (h : HasAll M G ds vs) : HasAll M G ds.dropLast vs.dropLast := by
  rw [List.dropLast_eq_take, List.dropLast_eq_take, h.length]
  exact h.take _
theorem HasAll.single {d : D} {v : V} (h : Has M G d v) : HasAll M G [d] [v] := .cons h .nil
end

/-- a slot: empty; data that never changes; a container of one's own; a caller's container, held by a parameter -/
inductive Sl where
  | no | im (d : D) | lo (d : D) | pa (d : D)
abbrev Env := List Sl

/-- a container at v whose cell is in H and whose items are frozen -/
inductive LocAt (M : Md) (Hf H : Hp) : D → V → Prop
  | lst {a : Addr} {vs : List V} {ds : List D} : Hf a = none → H a = some (.lst vs) → HasAll M Hf ds vs → LocAt M Hf H (.nd .lst ds) (.ref a)
  | dct {a : Addr} {kvs : List (Key × V)} {ds : List D} : Hf a = none → H a = some (.dK kvs) → HasAll M Hf ds (kvs.map (·.2)) → LocAt M Hf H (.nd (.dct (kvs.map (·.1))) ds) (.ref a)
  | obj {a C dx : Addr} {c : Str} {fs : List (Str × V)} {ds : List D} : Hf a = none → M.mg c = some (.ref C) → H a = some (.ins C dx fs) → HasAll M Hf ds (fs.map (·.2)) → LocAt M Hf H (.nd (.obj c (fs.map (·.1))) ds) (.ref a)
  | dcx {a : Addr} {xs : List DictEntry} {ds : List D} : Hf a = none → H a = some (.ext (dcxRaw a xs)) → LocAt M Hf H (.nd (.dcx xs) ds) (.ref a)
/-- what is read at the top of a value: its own cell stands in H, its items are frozen -/
inductive HasT (M : Md) (Hf H : Hp) : D → V → Prop
  | non : HasT M Hf H .non .non
  | bl (b : Bool) : HasT M Hf H (.bl b) (.bl b)
  | int (i : Int) : HasT M Hf H (.int i) (.int i)
  | str (x : Str) : HasT M Hf H (.str x) (.str x)
  | ob (a : Addr) : HasT M Hf H (.ob a) (.ref a)
  | tup {a : Addr} {vs : List V} {ds : List D} : SqT M.K Hf a vs → HasAll M Hf ds vs → HasT M Hf H (.nd .tup ds) (.ref a)
  | lst {a : Addr} {vs : List V} {ds : List D} : H a = some (.lst vs) → HasAll M Hf ds vs → HasT M Hf H (.nd .lst ds) (.ref a)
  | scr {a : Addr} {vs : List V} {ds : List D} : SqL M.K Hf a vs → HasAll M Hf ds vs → HasT M Hf H (.nd .scr ds) (.ref a)
  | dct {a : Addr} {kvs : List (Key × V)} {ds : List D} : H a = some (.dK kvs) → HasAll M Hf ds (kvs.map (·.2)) → HasT M Hf H (.nd (.dct (kvs.map (·.1))) ds) (.ref a)
  | obj {a C dx : Addr} {c : Str} {fs : List (Str × V)} {ds : List D} : M.mg c = some (.ref C) → H a = some (.ins C dx fs) → HasAll M Hf ds (fs.map (·.2)) → HasT M Hf H (.nd (.obj c (fs.map (·.1))) ds) (.ref a)
  | dcx {a : Addr} {xs : List DictEntry} {ds : List D} : H a = some (.ext (dcxRaw a xs)) → HasT M Hf H (.nd (.dcx xs) ds) (.ref a)
section
variable {M : Md} {Hf Hf' H H' : Hp} {d : D} {v : V}
theorem Has.top (e : Same Hf H) (h : Has M Hf d v) : HasT M Hf H d v := by
  cases h with
  | non => exact .non
  | bl b => exact .bl b
  | int i => exact .int i
  | str x => exact .str x
  | ob a => exact .ob a
  | tup h t => exact .tup h t
  | lst h t => exact .lst (e _ _ h) t
  | scr h t => exact .scr h t
  | dct h t => exact .dct (e _ _ h) t
  | obj g h t => exact .obj g (e _ _ h) t
  | dcx h => exact .dcx (e _ _ h)
theorem LocAt.top (h : LocAt M Hf H d v) : HasT M Hf H d v := by
  cases h with
  | lst n h t => exact .lst h t
  | dct n h t => exact .dct h t
  | obj n g h t => exact .obj g h t
  | dcx n h => exact .dcx h
/-- the address of one's own container -/
theorem LocAt.ref (h : LocAt M Hf H d v) : ∃ a, v = .ref a ∧ Hf a = none ∧ H a ≠ none := by
  cases h with
  | lst n h t => exact ⟨_, rfl, n, by rw [h]; simp⟩
  | dct n h t => exact ⟨_, rfl, n, by rw [h]; simp⟩
  | obj n g h t => exact ⟨_, rfl, n, by rw [h]; simp⟩
  | dcx n h => exact ⟨_, rfl, n, by rw [h]; simp⟩
theorem LocAt.stay {a : Addr} (h : LocAt M Hf H d (.ref a)) (e : Same Hf Hf') (hn : Hf' a = none) (hh : H' a = H a) : LocAt M Hf' H' d (.ref a) := by
  cases h with
  | lst n h t => exact .lst hn (hh.trans h) (t.same e)
  | dct n h t => exact .dct hn (hh.trans h) (t.same e)
  | obj n g h t => exact .obj hn g (hh.trans h) (t.same e)
  | dcx n h => exact .dcx hn (hh.trans h)
/-- frozen: the cell joins Hf -/
theorem LocAt.freeze {a : Addr} (h : LocAt M Hf H d (.ref a)) (e : Same Hf Hf') (hh : Hf' a = H a) : Has M Hf' d (.ref a) := by
  cases h with
  | lst n h t => exact .lst (hh.trans h) (t.same e)
  | dct n h t => exact .dct (hh.trans h) (t.same e)
  | obj n g h t => exact .obj g (hh.trans h) (t.same e)
  | dcx n h => exact .dcx (hh.trans h)
end

/-- what was there when the def was entered: the heap, its frozen part, the callers' containers held by parameters -/
structure Gm where
  H0 : Hp
  F0 : Hp
  adr : Nat → Option Addr
def Gm.pa (Γ : Gm) (a : Addr) : Prop := ∃ i, Γ.adr i = some a
def Sl.own : Sl → Prop
  | .lo _ => True
  | .pa _ => True
  | _ => False
structure Rep0 (M : Md) (Γ : Gm) (Hf : Hp) (σ : St) (H : Hp) (ρ : Env) : Prop where
  len : ρ.length = σ.length
  sub : Same Hf H
  gr : Same Γ.F0 Hf
  fr : ∀ b o, Γ.H0 b = some o → ¬ Γ.pa b → H b = some o
  fz : ∀ b, Hf b ≠ none → Γ.F0 b ≠ none ∨ Γ.H0 b = none
  im : ∀ (i : Nat) d, ρ[i]? = some (.im d) → ∃ v, σ[i]? = some (some v) ∧ Has M Hf d v
  lo : ∀ (i : Nat) d, ρ[i]? = some (.lo d) → ∃ a, σ[i]? = some (some (.ref a)) ∧ Γ.H0 a = none ∧ LocAt M Hf H d (.ref a)
  pa : ∀ (i : Nat) d, ρ[i]? = some (.pa d) → ∃ a, σ[i]? = some (some (.ref a)) ∧ Γ.adr i = some a ∧ LocAt M Hf H d (.ref a)
  inj : ∀ (i j : Nat) x y, i ≠ j → ρ[i]? = some x → ρ[j]? = some y → x.own → y.own → σ[i]? ≠ σ[j]?
  paH : ∀ a, Γ.pa a → H a ≠ none ∧ Hf a = none
  paO : ∀ a, Γ.pa a → Γ.H0 a ≠ none

/-- what an expression gives: a name's slot; frozen data; a new container of one's own -/
inductive Rs where
  | slot (i : Nat) | im (d : D) | nw (d : D)
def RsIs0 (M : Md) (Γ : Gm) (Hf : Hp) (σ : St) (H : Hp) (ρ : Env) : Rs → V → Prop
  | .slot i, v => σ[i]? = some (some v)
  | .im d, v => Has M Hf d v
  | .nw d, v => ∃ a, v = .ref a ∧ Γ.H0 a = none ∧ LocAt M Hf H d (.ref a) ∧ ∀ (i : Nat) x, ρ[i]? = some x → x.own → σ[i]? ≠ some (some (.ref a))

/-- an exception in flight: its class (by name), its fields -/
structure Exn where
  c : Str
  fs : List (Str × D)
inductive Rz (α : Type) where
  | ok (a : α) | ex (x : Exn) (ρ : Env) | no
namespace Rz
def bind {α β : Type} (r : Rz α) (f : α → Rz β) : Rz β := match r with
  | ok a => f a
  | ex x ρ => ex x ρ
  | no => no
instance : Monad Rz where
  pure := ok
  bind := bind
def wp {α : Type} (r : Rz α) (Q : α → Prop) (E : Exn → Env → Prop) : Prop := match r with
  | ok a => Q a
  | ex x ρ => E x ρ
  | no => False
theorem wp_bind {α β : Type} {r : Rz α} {f : α → Rz β} {Q : β → Prop} {E : Exn → Env → Prop} (h : (r.bind f).wp Q E) : r.wp (fun a => (f a).wp Q E) E := by
  cases r <;> exact h
theorem wp_mono {α : Type} {r : Rz α} {Q Q' : α → Prop} {E E' : Exn → Env → Prop} (h : r.wp Q E) (hQ : ∀ a, Q a → Q' a) (hE : ∀ x ρ, E x ρ → E' x ρ) : r.wp Q' E' := by
  cases r with
  | ok a => exact hQ a h
  | ex x ρ => exact hE x ρ h
  | no => exact h
@[simp] theorem ok_bind {α β : Type} (a : α) (f : α → Rz β) : (ok a).bind f = f a := rfl
@[simp] theorem bind_ok {α β : Type} (a : α) (f : α → Rz β) : (ok a >>= f) = f a := rfl
@[simp] theorem pure_eq {α : Type} (a : α) : (pure a : Rz α) = ok a := rfl
@[simp] theorem no_bind {α β : Type} (f : α → Rz β) : ((no : Rz α) >>= f) = no := rfl
@[simp] theorem ex_bind {α β : Type} (x : Exn) (ρ : Env) (f : α → Rz β) : ((ex x ρ : Rz α) >>= f) = ex x ρ := rfl
def ofO {α : Type} : Option α → Rz α
  | some a => ok a
  | none => no
@[simp] theorem ofO_some {α : Type} (a : α) : ofO (some a) = ok a := rfl
@[simp] theorem ofO_none {α : Type} : ofO (none : Option α) = no := rfl
end Rz
/-- an exception as it lies -/
def ExIs (M : Md) (Hf H : Hp) (x : Exn) (c : Value) (d : Option Addr) : Prop :=
  M.mg x.c = some c ∧ ∃ dd vs, d = some dd ∧ H dd = some (.xd vs) ∧ vs.map (·.1) = x.fs.map (·.1) ∧ HasAll M Hf (x.fs.map (·.2)) (vs.map (·.2))

/-! ### steps of what a state bears -/
section
variable {M : Md} {Γ : Gm} {Hf : Hp} {σ : St} {H : Hp} {ρ : Env}
/-- a new cell, frozen at once -/
theorem Rep0.lay (R : Rep0 M Γ Hf σ H ρ) {p : Addr} (hp : H p = none) (o : HO) : Same Hf (upd Hf p o) ∧ Rep0 M Γ (upd Hf p o) σ (upd H p o) ρ := by
  have hf : Hf p = none := R.sub.free hp
  have S : Same Hf (upd Hf p o) := fun b u q => by rw [upd_ne (ne_of_none q hf)]; exact q
  have h0 : Γ.H0 p = none ∨ Γ.pa p := by
    cases q : Γ.H0 p with
    | none => exact .inl rfl
    | some u =>
      by_cases z : Γ.pa p
      · exact .inr z
      · have := R.fr p u q z
        rw [hp] at this; cases this
  have npa : ¬ Γ.pa p := fun z => (R.paH p z).1 hp
  have h00 : Γ.H0 p = none := h0.resolve_right npa
  refine ⟨S, R.len, fun b u q => ?_, R.gr.trans S, fun b u q z => ?_, fun b q => ?_, fun i d e => ?_, fun i d e => ?_, fun i d e => ?_, R.inj, fun a z => ?_, R.paO⟩
  · by_cases e : b = p
    · subst e; rw [upd_same] at q ⊢; exact q
    · rw [upd_ne e] at q ⊢; exact R.sub b u q
  · rw [upd_ne (fun e => by subst e; rw [h00] at q; cases q)]
    exact R.fr b u q z
  · by_cases e : b = p
    · subst e; exact .inr h00
    · rw [upd_ne e] at q; exact R.fz b q
  · obtain ⟨v, h1, h2⟩ := R.im i d e
    exact ⟨v, h1, h2.same S⟩
  · obtain ⟨a, h1, h2, h3⟩ := R.lo i d e
    obtain ⟨a', ea, hn, hh⟩ := h3.ref
    cases ea
    have ne : a ≠ p := fun z => hh (by rw [z]; exact hp)
    exact ⟨a, h1, h2, h3.stay S (by rw [upd_ne ne]; exact hn) (by rw [upd_ne ne])⟩
  · obtain ⟨a, h1, h2, h3⟩ := R.pa i d e
    obtain ⟨a', ea, hn, hh⟩ := h3.ref
    cases ea
    have ne : a ≠ p := fun z => hh (by rw [z]; exact hp)
    exact ⟨a, h1, h2, h3.stay S (by rw [upd_ne ne]; exact hn) (by rw [upd_ne ne])⟩
  · have ne : a ≠ p := fun e => npa (e ▸ z)
    rw [upd_ne ne, upd_ne ne]
    exact R.paH a z
/-- a new cell, not frozen -/
theorem Rep0.layN (R : Rep0 M Γ Hf σ H ρ) {p : Addr} (hp : H p = none) (o : HO) : Rep0 M Γ Hf σ (upd H p o) ρ ∧ Γ.H0 p = none ∧ Hf p = none ∧ ∀ (i : Nat) x, ρ[i]? = some x → x.own → σ[i]? ≠ some (some (.ref p)) := by
  have hf : Hf p = none := R.sub.free hp
  have npa : ¬ Γ.pa p := fun z => (R.paH p z).1 hp
  have h00 : Γ.H0 p = none := by
    cases q : Γ.H0 p with
    | none => rfl
    | some u =>
      have := R.fr p u q npa
      rw [hp] at this; cases this
  refine ⟨⟨R.len, fun b u q => ?_, R.gr, fun b u q z => ?_, R.fz, R.im, fun i d e => ?_, fun i d e => ?_, R.inj, fun a z => ?_, R.paO⟩, h00, hf, fun i x e ho es => ?_⟩
  · rw [upd_ne (ne_of_none q hf)]; exact R.sub b u q
  · rw [upd_ne (fun e => by subst e; rw [h00] at q; cases q)]
    exact R.fr b u q z
  · obtain ⟨a, h1, h2, h3⟩ := R.lo i d e
    obtain ⟨a', ea, hn, hh⟩ := h3.ref
    cases ea
    have ne : a ≠ p := fun z => hh (by rw [z]; exact hp)
    exact ⟨a, h1, h2, h3.stay (Same.refl _) hn (by rw [upd_ne ne])⟩
  · obtain ⟨a, h1, h2, h3⟩ := R.pa i d e
    obtain ⟨a', ea, hn, hh⟩ := h3.ref
    cases ea
    have ne : a ≠ p := fun z => hh (by rw [z]; exact hp)
    exact ⟨a, h1, h2, h3.stay (Same.refl _) hn (by rw [upd_ne ne])⟩
  · have ne : a ≠ p := fun e => npa (e ▸ z)
    rw [upd_ne ne]
    exact R.paH a z
  · have nn : ∀ a, σ[i]? = some (some (.ref a)) → a = p := fun a q => by rw [es] at q; cases q; rfl
    cases x with
    | no => exact ho
    | im d => exact ho
    | lo d =>
      obtain ⟨a, h1, h2, h3⟩ := R.lo i d e
      obtain ⟨a', ea, hn, hh⟩ := h3.ref
      cases ea
      exact hh (by rw [nn a h1]; exact hp)
    | pa d =>
      obtain ⟨a, h1, h2, h3⟩ := R.pa i d e
      obtain ⟨a', ea, hn, hh⟩ := h3.ref
      cases ea
      exact hh (by rw [nn a h1]; exact hp)
/-- the content of a slot -/
def Sl.peek : Sl → Option D
  | .no => none
  | .im d => some d
  | .lo d => some d
  | .pa d => some d
def peek (ρ : Env) : Rs → Option D
  | .slot i => (ρ[i]?).bind Sl.peek
  | .im d => some d
  | .nw d => some d
theorem Rep0.peek (R : Rep0 M Γ Hf σ H ρ) {r : Rs} {v : V} {d : D} (h : RsIs0 M Γ Hf σ H ρ r v) (e : Fx.peek ρ r = some d) : HasT M Hf H d v := by
  cases r with
  | im d' => cases e; exact Has.top R.sub h
  | nw d' => cases e; obtain ⟨a, rfl, _, h, _⟩ := h; exact h.top
  | slot i =>
    have h' : σ[i]? = some (some v) := h
    have e' : (ρ[i]?).bind Sl.peek = some d := e
    cases q : ρ[i]? with
    | none => rw [q] at e'; cases e'
    | some x =>
      rw [q] at e'
      cases x with
      | no => cases e'
      | im d' =>
        cases e'
        obtain ⟨u, h1, h2⟩ := R.im i d q
        rw [h'] at h1; cases h1
        exact Has.top R.sub h2
      | lo d' =>
        cases e'
        obtain ⟨u, h1, _, h2⟩ := R.lo i d q
        rw [h'] at h1; cases h1
        exact h2.top
      | pa d' =>
        cases e'
        obtain ⟨u, h1, _, h2⟩ := R.pa i d q
        rw [h'] at h1; cases h1
        exact h2.top
/-- a container of one's own, at a, is frozen -/
theorem Rep0.frz (R : Rep0 M Γ Hf σ H ρ) {a : Addr} {d : D} (h0 : Γ.H0 a = none) (h : LocAt M Hf H d (.ref a)) :
    ∃ Hf', Same Hf Hf' ∧ Has M Hf' d (.ref a) ∧ Same Hf' H ∧ (∀ b, b ≠ a → Hf' b = Hf b) ∧ (∀ b, Hf' b ≠ none → Γ.F0 b ≠ none ∨ Γ.H0 b = none) := by
  obtain ⟨a', ea, hn, hh⟩ := h.ref
  cases ea
  refine ⟨fun b => if b = a then H a else Hf b, fun b u q => ?_, ?_, fun b u q => ?_, fun b hb => if_neg hb, fun b q => ?_⟩
  · show (if b = a then H a else Hf b) = some u
    rw [if_neg (fun e => by subst e; rw [hn] at q; cases q)]
    exact q
  · refine h.freeze (fun b u q => ?_) (if_pos rfl)
    show (if b = a then H a else Hf b) = some u
    rw [if_neg (fun e => by subst e; rw [hn] at q; cases q)]
    exact q
  · by_cases e : b = a
    · subst e
      exact (if_pos rfl).symm.trans q
    · exact R.sub b u ((if_neg e).symm.trans q)
  · by_cases e : b = a
    · subst e; exact .inr h0
    · exact R.fz b (by rw [← (if_neg e : (if b = a then H a else Hf b) = Hf b)]; exact q)
theorem Rep0.grow (R : Rep0 M Γ Hf σ H ρ) {Hf' : Hp} {ρ' : Env} (S : Same Hf Hf') (sub : Same Hf' H) (fz : ∀ b, Hf' b ≠ none → Γ.F0 b ≠ none ∨ Γ.H0 b = none) (len : ρ'.length = ρ.length)
    (sl : ∀ (i : Nat) x, ρ'[i]? = some x → x = .no ∨ (∃ d, x = .im d ∧ ∃ v, σ[i]? = some (some v) ∧ Has M Hf' d v) ∨ (ρ[i]? = some x ∧ (x.own → ∀ a, σ[i]? = some (some (.ref a)) → Hf' a = none)))
    (hpa : ∀ a, Γ.pa a → Hf' a = none) : Rep0 M Γ Hf' σ H ρ' := by
  refine ⟨len.trans R.len, sub, R.gr.trans S, R.fr, fz, fun i d e => ?_, fun i d e => ?_, fun i d e => ?_, fun i j x y ne ex ey ox oy => ?_, fun a z => ⟨(R.paH a z).1, hpa a z⟩, R.paO⟩
  · rcases sl i _ e with z | ⟨d', z, q⟩ | ⟨q, _⟩
    · cases z
    · cases z; exact q
    · obtain ⟨v, h1, h2⟩ := R.im i d q
      exact ⟨v, h1, h2.same S⟩
  · rcases sl i _ e with z | ⟨d', z, q⟩ | ⟨q, n⟩
    · cases z
    · cases z
    · obtain ⟨a, h1, h2, h3⟩ := R.lo i d q
      exact ⟨a, h1, h2, h3.stay S (n trivial a h1) rfl⟩
  · rcases sl i _ e with z | ⟨d', z, q⟩ | ⟨q, n⟩
    · cases z
    · cases z
    · obtain ⟨a, h1, h2, h3⟩ := R.pa i d q
      exact ⟨a, h1, h2, h3.stay S (n trivial a h1) rfl⟩
  · have f : ∀ {i : Nat} {x : Sl}, ρ'[i]? = some x → x.own → ρ[i]? = some x := fun {i x} e o => by
      rcases sl i _ e with z | ⟨d', z, q⟩ | ⟨q, n⟩
      · subst z; exact o.elim
      · subst z; exact o.elim
      · exact q
    exact R.inj i j x y ne (f ex ox) (f ey oy) ox oy
end
end Fx

set_option Elab.async false
set_option linter.all false
set_option maxRecDepth 100000
set_option maxHeartbeats 4000000
namespace Fx
open PySem L2
section
variable {M : Md} {Γ : Gm} {Hf : Hp} {σ : L2.St} {H : Hp} {ρ : Env}

/-- a name, if its slot is filled -/
def rN (i : Nat) : Env → Rz (Env × Rs) := fun ρ => match ρ[i]? with
  | some (.im _) | some (.lo _) | some (.pa _) => .ok (ρ, .slot i)
  | _ => .no
/-- as data that never changes: one's own container is frozen -/
def use (ρ : Env) (r : Rs) : Rz (Env × D) := match r with
  | .slot i => match ρ[i]? with
    | some (.im d) => .ok (ρ, d)
    | some (.lo d) => .ok (ρ.set i (.im d), d)
    | _ => .no
  | .im d => .ok (ρ, d)
  | .nw d => .ok (ρ, d)
theorem set_get {α : Type} {l : List α} {i j : Nat} {x y : α} (h : (l.set i x)[j]? = some y) : (j = i ∧ y = x) ∨ (j ≠ i ∧ l[j]? = some y) := by
  by_cases e : j = i
  · subst e
    rw [List.getElem?_set] at h
    simp only [if_true] at h
    split at h
    · cases h; exact .inl ⟨rfl, rfl⟩
    · cases h
  · rw [List.getElem?_set_ne (Ne.symm e)] at h
    exact .inr ⟨e, h⟩
theorem Rep0.own_pa (R : Rep0 M Γ Hf σ H ρ) {a : Addr} (h0 : Γ.H0 a = none) : ¬ Γ.pa a := fun z => R.paO a z h0
/-- freezing a slot of one's own -/
theorem Rep0.frz_slot (R : Rep0 M Γ Hf σ H ρ) {i : Nat} {d : D} (e : ρ[i]? = some (.lo d)) :
    ∃ Hf' a, Same Hf Hf' ∧ σ[i]? = some (some (.ref a)) ∧ Has M Hf' d (.ref a) ∧ Rep0 M Γ Hf' σ H (ρ.set i (.im d)) := by
  obtain ⟨a, h1, h2, h3⟩ := R.lo i d e
  obtain ⟨Hf', S, hh, sub, ne, fz⟩ := R.frz h2 h3
  refine ⟨Hf', a, S, h1, hh, R.grow S sub fz (by simp) (fun j x q => ?_) fun b z => ?_⟩
  · rcases set_get q with ⟨rfl, rfl⟩ | ⟨hj, q⟩
    · exact .inr (.inl ⟨d, rfl, _, h1, hh⟩)
    · refine .inr (.inr ⟨q, fun o b es => ?_⟩)
      have nb : b ≠ a := fun z => by
        subst z
        exact R.inj j i x _ hj q e o trivial (es.trans h1.symm)
      rw [ne b nb]
      cases x with
      | no => exact o.elim
      | im _ => exact o.elim
      | lo d' =>
        obtain ⟨b', k1, _, k3⟩ := R.lo j d' q
        rw [es] at k1; cases k1
        obtain ⟨_, eb, hn, _⟩ := k3.ref
        cases eb; exact hn
      | pa d' =>
        obtain ⟨b', k1, _, k3⟩ := R.pa j d' q
        rw [es] at k1; cases k1
        obtain ⟨_, eb, hn, _⟩ := k3.ref
        cases eb; exact hn
  · have nb : b ≠ a := fun e => R.own_pa h2 (e ▸ z)
    rw [ne b nb]
    exact (R.paH b z).2
theorem Rep0.use (R : Rep0 M Γ Hf σ H ρ) {r : Rs} {v : V} {ρ' : Env} {d : D} (h : RsIs0 M Γ Hf σ H ρ r v) (e : Fx.use ρ r = .ok (ρ', d)) :
    ∃ Hf', Same Hf Hf' ∧ Rep0 M Γ Hf' σ H ρ' ∧ Has M Hf' d v := by
  cases r with
  | im d' => cases e; exact ⟨Hf, Same.refl _, R, h⟩
  | nw d' =>
    cases e
    obtain ⟨a, rfl, h0, hl, hne⟩ := h
    obtain ⟨Hf', S, hh, sub, ne, fz⟩ := R.frz h0 hl
    refine ⟨Hf', S, R.grow S sub fz rfl (fun j x q => ?_) fun b z => ?_, hh⟩
    · refine .inr (.inr ⟨q, fun o b es => ?_⟩)
      have nb : b ≠ a := fun z => by subst z; exact hne j x q o es
      rw [ne b nb]
      cases x with
      | no => exact o.elim
      | im _ => exact o.elim
      | lo d' =>
        obtain ⟨b', k1, _, k3⟩ := R.lo j d' q
        rw [es] at k1; cases k1
        obtain ⟨_, eb, hn, _⟩ := k3.ref
        cases eb; exact hn
      | pa d' =>
        obtain ⟨b', k1, _, k3⟩ := R.pa j d' q
        rw [es] at k1; cases k1
        obtain ⟨_, eb, hn, _⟩ := k3.ref
        cases eb; exact hn
    · have nb : b ≠ a := fun e => R.own_pa h0 (e ▸ z)
      rw [ne b nb]
      exact (R.paH b z).2
  | slot i =>
    have h' : σ[i]? = some (some v) := h
    unfold Fx.use at e
    cases q : ρ[i]? with
    | none => simp [q] at e
    | some x =>
      cases x with
      | no => simp [q] at e
      | pa d' => simp [q] at e
      | im d' =>
        simp [q] at e
        obtain ⟨rfl, rfl⟩ := e
        obtain ⟨u, k1, k2⟩ := R.im i d' q
        rw [h'] at k1; cases k1
        exact ⟨Hf, Same.refl _, R, k2⟩
      | lo d' =>
        simp [q] at e
        obtain ⟨rfl, rfl⟩ := e
        obtain ⟨Hf', a, S, k1, k2, k3⟩ := R.frz_slot q
        rw [h'] at k1; cases k1
        exact ⟨Hf', S, k3, k2⟩

/-- forgetting what slots hold -/
theorem Rep0.forget (R : Rep0 M Γ Hf σ H ρ) {σ' : L2.St} {ρ' : Env} (lσ : σ'.length = σ.length) (lρ : ρ'.length = ρ.length) (h : ∀ (i : Nat) x, ρ'[i]? = some x → x = .no ∨ (ρ[i]? = some x ∧ σ'[i]? = σ[i]?)) : Rep0 M Γ Hf σ' H ρ' := by
  refine ⟨by rw [lρ, lσ]; exact R.len, R.sub, R.gr, R.fr, R.fz, fun i d e => ?_, fun i d e => ?_, fun i d e => ?_, fun i j x y ne ex ey ox oy => ?_, R.paH, R.paO⟩
  · rcases h i _ e with z | ⟨q, es⟩
    · cases z
    · rw [es]; exact R.im i d q
  · rcases h i _ e with z | ⟨q, es⟩
    · cases z
    · rw [es]; exact R.lo i d q
  · rcases h i _ e with z | ⟨q, es⟩
    · cases z
    · rw [es]; exact R.pa i d q
  · rcases h i _ ex with z | ⟨q1, e1⟩
    · subst z; exact ox.elim
    · rcases h j _ ey with z | ⟨q2, e2⟩
      · subst z; exact oy.elim
      · rw [e1, e2]; exact R.inj i j x y ne q1 q2 ox oy
/-- a slot is stored -/
theorem Rep0.put (R : Rep0 M Γ Hf σ H ρ) {i : Nat} {x : Sl} {v : V} (hi : i < σ.length)
    (hx : x = .no ∨ (∃ d, x = .im d ∧ Has M Hf d v) ∨ ∃ d a, x = .lo d ∧ v = .ref a ∧ Γ.H0 a = none ∧ LocAt M Hf H d (.ref a) ∧ ∀ (j : Nat) y, j ≠ i → ρ[j]? = some y → y.own → σ[j]? ≠ some (some (.ref a))) :
    Rep0 M Γ Hf (σ.set i (some v)) H (ρ.set i x) := by
  have at_i : (σ.set i (some v))[i]? = some (some v) := by rw [List.getElem?_set]; simp [hi]
  have at_j : ∀ {j : Nat}, j ≠ i → (σ.set i (some v))[j]? = σ[j]? := fun {j} h => List.getElem?_set_ne (Ne.symm h)
  refine ⟨by simpa using R.len, R.sub, R.gr, R.fr, R.fz, fun j d e => ?_, fun j d e => ?_, fun j d e => ?_, fun j k y z ne ey ez oy oz => ?_, R.paH, R.paO⟩
  · rcases set_get e with ⟨rfl, ex⟩ | ⟨hj, q⟩
    · subst ex
      rcases hx with z | ⟨d', z, q⟩ | ⟨d', a, z, _⟩
      · cases z
      · cases z; exact ⟨v, at_i, q⟩
      · cases z
    · rw [at_j hj]; exact R.im j d q
  · rcases set_get e with ⟨rfl, ex⟩ | ⟨hj, q⟩
    · subst ex
      rcases hx with z | ⟨d', z, q⟩ | ⟨d', a, z, ev, h0, hl, _⟩
      · cases z
      · cases z
      · cases z; subst ev; exact ⟨a, at_i, h0, hl⟩
    · rw [at_j hj]; exact R.lo j d q
  · rcases set_get e with ⟨rfl, ex⟩ | ⟨hj, q⟩
    · subst ex
      rcases hx with z | ⟨d', z, q⟩ | ⟨d', a, z, ev, h0, hl, _⟩
      · cases z
      · cases z
      · cases z
    · rw [at_j hj]; exact R.pa j d q
  · rcases set_get ey with ⟨rfl, ex⟩ | ⟨hj, q⟩
    · subst ex
      rcases set_get ez with ⟨rfl, _⟩ | ⟨hk, q'⟩
      · exact absurd rfl ne
      · rw [at_i, at_j hk]
        rcases hx with z | ⟨d', z, _⟩ | ⟨d', a, _, ev, _, _, hn⟩
        · subst z; exact oy.elim
        · subst z; exact oy.elim
        · subst ev
          exact fun e => hn k z hk q' oz e.symm
    · rcases set_get ez with ⟨rfl, ex⟩ | ⟨hk, q'⟩
      · subst ex
        rw [at_i, at_j hj]
        rcases hx with z | ⟨d', z, _⟩ | ⟨d', a, _, ev, _, _, hn⟩
        · subst z; exact oz.elim
        · subst z; exact oz.elim
        · subst ev
          exact fun e => hn j y hj q oy e
      · rw [at_j hj, at_j hk]
        exact R.inj j k y z ne q q' oy oz
/-- the slot of a name that is stored, by what is stored; a caller's container is never let go -/
def put (ρ : Env) (i : Nat) (r : Rs) : Rz Env := match ρ[i]? with
  | none => .no
  | some (.pa _) => .no
  | _ => match r with
    | .im d => .ok (ρ.set i (.im d))
    | .nw d => .ok (ρ.set i (.lo d))
    | .slot j => (use ρ (.slot j)) >>= fun p => .ok (p.1.set i (.im p.2))
theorem use_len {ρ ρ' : Env} {r : Rs} {d : D} (e : use ρ r = .ok (ρ', d)) : ρ'.length = ρ.length := by
  cases r with
  | im _ => cases e; rfl
  | nw _ => cases e; rfl
  | slot i =>
    unfold use at e
    cases q : ρ[i]? with
    | none => simp [q] at e
    | some x =>
      cases x with
      | no => simp [q] at e
      | pa _ => simp [q] at e
      | im _ => simp [q] at e; rw [← e.1]
      | lo _ => simp [q] at e; rw [← e.1]; simp
theorem Rep0.store (R : Rep0 M Γ Hf σ H ρ) {i : Nat} {r : Rs} {v : V} {ρ' : Env} (h : RsIs0 M Γ Hf σ H ρ r v) (e : Fx.put ρ i r = .ok ρ') :
    ∃ Hf', Same Hf Hf' ∧ Rep0 M Γ Hf' (σ.set i (some v)) H ρ' := by
  unfold Fx.put at e
  have hi : ∀ {x}, ρ[i]? = some x → i < σ.length := fun q => by rw [← R.len]; exact (List.getElem?_eq_some_iff.mp q).1
  cases q : ρ[i]? with
  | none => simp [q] at e
  | some x =>
    have hlt := hi q
    have main : (match r with
      | .im d => (.ok (ρ.set i (.im d)) : Rz Env)
      | .nw d => .ok (ρ.set i (.lo d))
      | .slot j => (Fx.use ρ (.slot j)) >>= fun p => .ok (p.1.set i (.im p.2))) = .ok ρ' := by
      cases x <;> simp [q] at e <;> exact e
    clear e
    cases r with
    | im d =>
      cases main
      exact ⟨Hf, Same.refl _, R.put hlt (.inr (.inl ⟨d, rfl, h⟩))⟩
    | nw d =>
      cases main
      obtain ⟨a, rfl, h0, hl, hn⟩ := h
      exact ⟨Hf, Same.refl _, R.put hlt (.inr (.inr ⟨d, a, rfl, rfl, h0, hl, fun j y _ e o => hn j y e o⟩))⟩
    | slot j =>
      replace main : ((Fx.use ρ (.slot j)) >>= fun p => (.ok (p.1.set i (.im p.2)) : Rz Env)) = .ok ρ' := main
      cases u : Fx.use ρ (.slot j) with
      | no => rw [u] at main; cases main
      | ex _ _ => rw [u] at main; cases main
      | ok p =>
        rw [u] at main
        cases main
        obtain ⟨Hf', S, R', hh⟩ := R.use h u
        exact ⟨Hf', S, R'.put hlt (.inr (.inl ⟨_, rfl, hh⟩))⟩
/-- one's own container, with another content -/
def Sl.withD : Sl → D → Sl
  | .lo _, d => .lo d
  | .pa _, d => .pa d
  | x, _ => x
/-- a container in a slot is written -/
theorem Rep0.write (R : Rep0 M Γ Hf σ H ρ) {i : Nat} {x : Sl} {a : Addr} {d : D} {o : HO} (e : ρ[i]? = some x) (ox : x.own) (es : σ[i]? = some (some (.ref a))) (hl : LocAt M Hf (upd H a o) d (.ref a)) :
    Rep0 M Γ Hf σ (upd H a o) (ρ.set i (x.withD d)) := by
  have na : Hf a = none := by
    obtain ⟨_, ea, hn, _⟩ := hl.ref
    cases ea; exact hn
  have free : Γ.H0 a = none ∨ Γ.pa a := by
    cases x with
    | no => exact ox.elim
    | im _ => exact ox.elim
    | lo d' =>
      obtain ⟨b, k1, k2, k3⟩ := R.lo i d' e
      rw [es] at k1; cases k1; exact .inl k2
    | pa d' =>
      obtain ⟨b, k1, k2, k3⟩ := R.pa i d' e
      rw [es] at k1; cases k1; exact .inr ⟨i, k2⟩
  have off : ∀ {j : Nat} {y : Sl} {b : Addr}, j ≠ i → ρ[j]? = some y → y.own → σ[j]? = some (some (.ref b)) → b ≠ a := fun {j y b} hj q o es' z => by
    subst z
    exact R.inj j i y x hj q e o ox (es'.trans es.symm)
  refine ⟨by simpa using R.len, fun b u q => ?_, R.gr, fun b u q z => ?_, R.fz, fun j d' q => ?_, fun j d' q => ?_, fun j d' q => ?_, fun j k y z ne ey ez oy oz => ?_, fun b z => ?_, R.paO⟩
  · rw [upd_ne (ne_of_none q na)]; exact R.sub b u q
  · have nb : b ≠ a := fun eb => by
      subst eb
      rcases free with h | h
      · rw [h] at q; cases q
      · exact z h
    rw [upd_ne nb]
    exact R.fr b u q z
  · rcases set_get q with ⟨rfl, ex⟩ | ⟨hj, q⟩
    · cases x with
      | no => exact ox.elim
      | im _ => exact ox.elim
      | lo _ => cases ex
      | pa _ => cases ex
    · exact R.im j d' q
  · rcases set_get q with ⟨rfl, ex⟩ | ⟨hj, q⟩
    · cases x with
      | no => exact ox.elim
      | im _ => exact ox.elim
      | pa _ => cases ex
      | lo d0 =>
        cases ex
        obtain ⟨b, k1, k2, k3⟩ := R.lo j d0 e
        rw [es] at k1; cases k1
        exact ⟨a, es, k2, hl⟩
    · obtain ⟨b, k1, k2, k3⟩ := R.lo j d' q
      have nb := off hj q trivial k1
      obtain ⟨_, eb, hn, _⟩ := k3.ref
      cases eb
      exact ⟨b, k1, k2, k3.stay (Same.refl _) hn (by rw [upd_ne nb])⟩
  · rcases set_get q with ⟨rfl, ex⟩ | ⟨hj, q⟩
    · cases x with
      | no => exact ox.elim
      | im _ => exact ox.elim
      | lo _ => cases ex
      | pa d0 =>
        cases ex
        obtain ⟨b, k1, k2, k3⟩ := R.pa j d0 e
        rw [es] at k1; cases k1
        exact ⟨a, es, k2, hl⟩
    · obtain ⟨b, k1, k2, k3⟩ := R.pa j d' q
      have nb := off hj q trivial k1
      obtain ⟨_, eb, hn, _⟩ := k3.ref
      cases eb
      exact ⟨b, k1, k2, k3.stay (Same.refl _) hn (by rw [upd_ne nb])⟩
  · have f : ∀ {j : Nat} {y : Sl}, (ρ.set i (x.withD d))[j]? = some y → y.own → ∃ y', ρ[j]? = some y' ∧ y'.own := fun {j y} q o => by
      rcases set_get q with ⟨rfl, ex⟩ | ⟨hj, q⟩
      · exact ⟨x, e, ox⟩
      · exact ⟨y, q, o⟩
    obtain ⟨y', q1, o1⟩ := f ey oy
    obtain ⟨z', q2, o2⟩ := f ez oz
    exact R.inj j k y' z' ne q1 q2 o1 o2
  · by_cases eb : b = a
    · subst eb
      rw [upd_same]
      exact ⟨by simp, na⟩
    · rw [upd_ne eb]
      exact R.paH b z
end


/-! ### the state with what is held beside the slots (lists being made, values that wait) -/
structure Gh where
  g : Gm
  τ : L2.St
  γ : Env
structure Rep (M : Md) (Γ : Gh) (Hf : Hp) (σ : L2.St) (H : Hp) (ρ : Env) : Prop where
  len : ρ.length = σ.length
  r0 : Rep0 M Γ.g Hf (σ ++ Γ.τ) H (ρ ++ Γ.γ)
def RsIs (M : Md) (Γ : Gh) (Hf : Hp) (σ : L2.St) (H : Hp) (ρ : Env) : Rs → V → Prop
  | .slot i, v => σ[i]? = some (some v)
  | .im d, v => Has M Hf d v
  | .nw d, v => ∃ a, v = .ref a ∧ Γ.g.H0 a = none ∧ LocAt M Hf H d (.ref a) ∧ ∀ (i : Nat) x, (ρ ++ Γ.γ)[i]? = some x → x.own → (σ ++ Γ.τ)[i]? ≠ some (some (.ref a))
section
variable {M : Md} {Γ : Gh} {Hf : Hp} {σ : L2.St} {H : Hp} {ρ : Env}
theorem Rep.sub (R : Rep M Γ Hf σ H ρ) : Same Hf H := R.r0.sub
theorem get_app {α : Type} {l k : List α} {i : Nat} {x : α} (h : l[i]? = some x) : (l ++ k)[i]? = some x := by
  rw [List.getElem?_append_left (List.getElem?_eq_some_iff.mp h).1]
  exact h
theorem get_left {α : Type} {l k : List α} {i : Nat} (h : i < l.length) : (l ++ k)[i]? = l[i]? := List.getElem?_append_left h
theorem set_left {α : Type} {l k : List α} {i : Nat} {v : α} (h : i < l.length) : (l ++ k).set i v = l.set i v ++ k := by
  rw [List.set_append]
  simp [h]
theorem RsIs.to0 {r : Rs} {v : V} (h : RsIs M Γ Hf σ H ρ r v) : RsIs0 M Γ.g Hf (σ ++ Γ.τ) H (ρ ++ Γ.γ) r v := by
  cases r with
  | slot i => exact get_app (show σ[i]? = some (some v) from h)
  | im d => exact h
  | nw d => exact h
theorem use_app {γ ρ' : Env} {r : Rs} {d : D} (h : use ρ r = .ok (ρ', d)) : use (ρ ++ γ) r = .ok (ρ' ++ γ, d) := by
  cases r with
  | im _ => cases h; rfl
  | nw _ => cases h; rfl
  | slot i =>
    cases q : ρ[i]? with
    | none => simp [Fx.use, q] at h
    | some x =>
      have q2 := get_app (k := γ) q
      cases x with
      | no => simp [Fx.use, q] at h
      | pa _ => simp [Fx.use, q] at h
      | im _ =>
        simp [Fx.use, q] at h
        simp [Fx.use, q2]; exact ⟨by rw [h.1], h.2⟩
      | lo _ =>
        simp [Fx.use, q] at h
        simp only [Fx.use, q2]
        rw [← h.1, ← h.2, set_left (List.getElem?_eq_some_iff.mp q).1]
theorem peek_app {γ : Env} {r : Rs} {d : D} (h : peek ρ r = some d) : peek (ρ ++ γ) r = some d := by
  cases r with
  | im _ => exact h
  | nw _ => exact h
  | slot i =>
    have h' : (ρ[i]?).bind Sl.peek = some d := h
    cases q : ρ[i]? with
    | none => rw [q] at h'; cases h'
    | some x =>
      show ((ρ ++ γ)[i]?).bind Sl.peek = some d
      rw [get_app q, ← q]
      exact h'
theorem Rep.peek (R : Rep M Γ Hf σ H ρ) {r : Rs} {v : V} {d : D} (h : RsIs M Γ Hf σ H ρ r v) (e : Fx.peek ρ r = some d) : HasT M Hf H d v := R.r0.peek h.to0 (peek_app e)
theorem Rep.use (R : Rep M Γ Hf σ H ρ) {r : Rs} {v : V} {ρ' : Env} {d : D} (h : RsIs M Γ Hf σ H ρ r v) (e : Fx.use ρ r = .ok (ρ', d)) : ∃ Hf', Same Hf Hf' ∧ Rep M Γ Hf' σ H ρ' ∧ Has M Hf' d v := by
  obtain ⟨Hf', S, R', hh⟩ := R.r0.use h.to0 (use_app e)
  exact ⟨Hf', S, ⟨(use_len e).trans R.len, R'⟩, hh⟩
theorem put_app {γ ρ' : Env} {i : Nat} {r : Rs} (h : put ρ i r = .ok ρ') : put (ρ ++ γ) i r = .ok (ρ' ++ γ) ∧ i < ρ.length ∧ ρ'.length = ρ.length := by
  unfold put at h ⊢
  cases q : ρ[i]? with
  | none => simp [q] at h
  | some x =>
    have lt := (List.getElem?_eq_some_iff.mp q).1
    rw [get_app q]
    have main : (match r with
      | .im d => (.ok (ρ.set i (.im d)) : Rz Env)
      | .nw d => .ok (ρ.set i (.lo d))
      | .slot j => (Fx.use ρ (.slot j)) >>= fun p => .ok (p.1.set i (.im p.2))) = .ok ρ' ∧ (∀ d, x ≠ .pa d) := by
      cases x <;> simp [q] at h <;> exact ⟨h, fun d e => by cases e⟩
    obtain ⟨main, npa⟩ := main
    have goal : (match r with
      | .im d => (.ok ((ρ ++ γ).set i (.im d)) : Rz Env)
      | .nw d => .ok ((ρ ++ γ).set i (.lo d))
      | .slot j => (Fx.use (ρ ++ γ) (.slot j)) >>= fun p => .ok (p.1.set i (.im p.2))) = .ok (ρ' ++ γ) ∧ ρ'.length = ρ.length := by
      cases r with
      | im d => cases main; exact ⟨by show Rz.ok _ = _; rw [set_left lt], by simp⟩
      | nw d => cases main; exact ⟨by show Rz.ok _ = _; rw [set_left lt], by simp⟩
      | slot j =>
        replace main : ((Fx.use ρ (.slot j)) >>= fun p => (.ok (p.1.set i (.im p.2)) : Rz Env)) = .ok ρ' := main
        cases u : Fx.use ρ (.slot j) with
        | no => rw [u] at main; cases main
        | ex _ _ => rw [u] at main; cases main
        | ok p =>
          rw [u] at main
          cases main
          have l1 : p.1.length = ρ.length := use_len (ρ' := p.1) (d := p.2) u
          refine ⟨?_, by simp [l1]⟩
          show ((Fx.use (ρ ++ γ) (.slot j)) >>= fun p => (.ok (p.1.set i (.im p.2)) : Rz Env)) = _
          rw [use_app (ρ' := p.1) (d := p.2) u]
          show Rz.ok _ = _
          rw [set_left (by rw [l1]; exact lt)]
    refine ⟨?_, lt, goal.2⟩
    cases x with
    | pa d => exact absurd rfl (npa d)
    | _ => exact goal.1
theorem Rep.store (R : Rep M Γ Hf σ H ρ) {i : Nat} {r : Rs} {v : V} {ρ' : Env} (h : RsIs M Γ Hf σ H ρ r v) (e : Fx.put ρ i r = .ok ρ') : ∃ Hf', Same Hf Hf' ∧ Rep M Γ Hf' (σ.set i (some v)) H ρ' := by
  obtain ⟨e', lt, l⟩ := put_app (γ := Γ.γ) e
  obtain ⟨Hf', S, R'⟩ := R.r0.store h.to0 e'
  rw [set_left (by rw [← R.len]; exact lt)] at R'
  exact ⟨Hf', S, ⟨by rw [l, List.length_set]; exact R.len, R'⟩⟩
theorem Rep.lay (R : Rep M Γ Hf σ H ρ) {p : Addr} (hp : H p = none) (o : HO) : Same Hf (upd Hf p o) ∧ Rep M Γ (upd Hf p o) σ (upd H p o) ρ := by
  obtain ⟨S, R'⟩ := R.r0.lay hp o
  exact ⟨S, ⟨R.len, R'⟩⟩
theorem Rep.layN (R : Rep M Γ Hf σ H ρ) {p : Addr} (hp : H p = none) (o : HO) : Rep M Γ Hf σ (upd H p o) ρ ∧ Γ.g.H0 p = none ∧ Hf p = none ∧ ∀ (i : Nat) x, (ρ ++ Γ.γ)[i]? = some x → x.own → (σ ++ Γ.τ)[i]? ≠ some (some (.ref p)) := by
  obtain ⟨R', h0, hf, hn⟩ := R.r0.layN hp o
  exact ⟨⟨R.len, R'⟩, h0, hf, hn⟩
end

/-! ### readings -/
/-- what is wanted behind an exception, from a state on -/
def EPf (M : Md) (W : WX) (Γ : Gh) (Hf : Hp) (σ : L2.St) : Exn → Env → Prop := fun x ρ' => ∀ Hf' H' c d, Same Hf Hf' → Rep M Γ Hf' σ H' ρ' → ExIs M Hf' H' x c d → W c d σ H'
theorem EPf.up {M : Md} {W : WX} {Γ : Gh} {Hf Hf1 : Hp} {σ : L2.St} (S : Same Hf Hf1) : ∀ x ρ, EPf M W Γ Hf σ x ρ → EPf M W Γ Hf1 σ x ρ := fun x ρ h Hf' H' c d S' R e => h Hf' H' c d (S.trans S') R e
/-- data -/
def rdV (M : Md) (W : WX) (f : Env → Rz (Env × D)) : TE := fun σ H Q => ∃ Γ Hf ρ, Rep M Γ Hf σ H ρ ∧
  (f ρ).wp (fun p => ∀ Hf' H' v, Same Hf Hf' → Rep M Γ Hf' σ H' p.1 → Has M Hf' p.2 v → Q v H') (EPf M W Γ Hf σ)
/-- any result -/
def rdE (M : Md) (W : WX) (f : Env → Rz (Env × Rs)) : TE := fun σ H Q => ∃ Γ Hf ρ, Rep M Γ Hf σ H ρ ∧
  (f ρ).wp (fun p => ∀ Hf' H' v, Same Hf Hf' → Rep M Γ Hf' σ H' p.1 → RsIs M Γ Hf' σ H' p.1 p.2 v → Q v H') (EPf M W Γ Hf σ)
/-- a test -/
def rdT (M : Md) (W : WX) (f : Env → Rz (Env × Bool)) : TT := fun σ H Q => ∃ Γ Hf ρ, Rep M Γ Hf σ H ρ ∧
  (f ρ).wp (fun p => ∀ Hf' H', Same Hf Hf' → Rep M Γ Hf' σ H' p.1 → Q p.2 H') (EPf M W Γ Hf σ)
/-- arguments as data -/
def rdA (M : Md) (W : WX) (f : Env → Rz (Env × List D)) : TA := fun σ H Q => ∃ Γ Hf ρ, Rep M Γ Hf σ H ρ ∧
  (f ρ).wp (fun p => ∀ Hf' H' vs, Same Hf Hf' → Rep M Γ Hf' σ H' p.1 → HasAll M Hf' p.2 vs → Q vs H') (EPf M W Γ Hf σ)

theorem pe_mono {X : Cx} {e : Expr} {t t' : TE} (h : PE X e t) (i : ∀ σ H Q, t' σ H Q → t σ H Q) : PE X e t' := ⟨fun pins s σ H Q I q => h.run pins s σ H Q I (i σ H Q q)⟩
theorem pt_mono {X : Cx} {e : Expr} {t t' : TT} (h : PT X e t) (i : ∀ σ H Q, t' σ H Q → t σ H Q) : PT X e t' := ⟨fun pins s σ H Q I q => h.run pins s σ H Q I (i σ H Q q)⟩
theorem pw_mono {X : Cx} {e : Expr} {t t' : TT} (h : PW X e t) (i : ∀ σ H Q, t' σ H Q → t σ H Q) : PW X e t' := ⟨fun wh pins s σ H Q I q => h.run wh pins s σ H Q I (i σ H Q q)⟩
theorem pa_mono {X : Cx} {e : List Expr} {t t' : TA} (h : PA X e t) (i : ∀ σ H Q, t' σ H Q → t σ H Q) : PA X e t' := ⟨fun pos pins s σ H Q I q => h.run pos pins s σ H Q I (i σ H Q q)⟩

abbrev RV (X : Cx) (W : WX) (e : Expr) (f : Env → Rz (Env × D)) : Prop := PE X e (rdV ⟨X.K, X.mg⟩ W f)
abbrev RE (X : Cx) (W : WX) (e : Expr) (f : Env → Rz (Env × Rs)) : Prop := PE X e (rdE ⟨X.K, X.mg⟩ W f)
abbrev RT (X : Cx) (W : WX) (e : Expr) (f : Env → Rz (Env × Bool)) : Prop := PT X e (rdT ⟨X.K, X.mg⟩ W f)
abbrev RW (X : Cx) (W : WX) (e : Expr) (f : Env → Rz (Env × Bool)) : Prop := PW X e (rdT ⟨X.K, X.mg⟩ W f)
abbrev RA (X : Cx) (W : WX) (es : List Expr) (f : Env → Rz (Env × List D)) : Prop := PA X es (rdA ⟨X.K, X.mg⟩ W f)

section
variable {M : Md} {W : WX} {Γ : Gh} {Hf : Hp} {σ : L2.St} {H : Hp} {ρ : Env} {β : Type} {P : β → Prop}
/-- a part that gives data, then the rest -/
theorem bindV {f : Env → Rz (Env × D)} {g : Env × D → Rz β} {Q : VK} (R : Rep M Γ Hf σ H ρ) (hw : ((f ρ).bind g).wp P (EPf M W Γ Hf σ))
    (k : ∀ ρ1 d Hf1 H1 v, Same Hf Hf1 → Rep M Γ Hf1 σ H1 ρ1 → Has M Hf1 d v → (g (ρ1, d)).wp P (EPf M W Γ Hf1 σ) → Q v H1) : rdV M W f σ H Q :=
  ⟨Γ, Hf, ρ, R, Rz.wp_mono (Rz.wp_bind hw) (fun p hp Hf1 H1 v S R1 hv => k p.1 p.2 Hf1 H1 v S R1 hv (Rz.wp_mono hp (fun _ z => z) (EPf.up S))) (fun _ _ z => z)⟩
theorem bindE {f : Env → Rz (Env × Rs)} {g : Env × Rs → Rz β} {Q : VK} (R : Rep M Γ Hf σ H ρ) (hw : ((f ρ).bind g).wp P (EPf M W Γ Hf σ))
    (k : ∀ ρ1 r Hf1 H1 v, Same Hf Hf1 → Rep M Γ Hf1 σ H1 ρ1 → RsIs M Γ Hf1 σ H1 ρ1 r v → (g (ρ1, r)).wp P (EPf M W Γ Hf1 σ) → Q v H1) : rdE M W f σ H Q :=
  ⟨Γ, Hf, ρ, R, Rz.wp_mono (Rz.wp_bind hw) (fun p hp Hf1 H1 v S R1 hv => k p.1 p.2 Hf1 H1 v S R1 hv (Rz.wp_mono hp (fun _ z => z) (EPf.up S))) (fun _ _ z => z)⟩
theorem bindT {f : Env → Rz (Env × Bool)} {g : Env × Bool → Rz β} {Q : Bool → Hp → Prop} (R : Rep M Γ Hf σ H ρ) (hw : ((f ρ).bind g).wp P (EPf M W Γ Hf σ))
    (k : ∀ ρ1 b Hf1 H1, Same Hf Hf1 → Rep M Γ Hf1 σ H1 ρ1 → (g (ρ1, b)).wp P (EPf M W Γ Hf1 σ) → Q b H1) : rdT M W f σ H Q :=
  ⟨Γ, Hf, ρ, R, Rz.wp_mono (Rz.wp_bind hw) (fun p hp Hf1 H1 S R1 => k p.1 p.2 Hf1 H1 S R1 (Rz.wp_mono hp (fun _ z => z) (EPf.up S))) (fun _ _ z => z)⟩
theorem bindA {f : Env → Rz (Env × List D)} {g : Env × List D → Rz β} {Q : List V → Hp → Prop} (R : Rep M Γ Hf σ H ρ) (hw : ((f ρ).bind g).wp P (EPf M W Γ Hf σ))
    (k : ∀ ρ1 ds Hf1 H1 vs, Same Hf Hf1 → Rep M Γ Hf1 σ H1 ρ1 → HasAll M Hf1 ds vs → (g (ρ1, ds)).wp P (EPf M W Γ Hf1 σ) → Q vs H1) : rdA M W f σ H Q :=
  ⟨Γ, Hf, ρ, R, Rz.wp_mono (Rz.wp_bind hw) (fun p hp Hf1 H1 v S R1 hv => k p.1 p.2 Hf1 H1 v S R1 hv (Rz.wp_mono hp (fun _ z => z) (EPf.up S))) (fun _ _ z => z)⟩
end

section
variable {X : Cx} {W : WX} {e a b c : Expr} {pos : Pos}
/-- a result as data -/
def vU (f : Env → Rz (Env × Rs)) : Env → Rz (Env × D) := fun ρ => (f ρ).bind fun p => use p.1 p.2
def hV (f : Env → Rz (Env × D)) : Env → Rz (Env × Rs) := fun ρ => (f ρ).bind fun p => .ok (p.1, .im p.2)
theorem rv_of {f : Env → Rz (Env × Rs)} (h : RE X W e f) : RV X W e (vU f) := pe_mono h fun σ H Q ⟨Γ, Hf, ρ, R, hw⟩ =>
  bindE R hw fun ρ1 r Hf1 H1 v S R1 hv hq => by
    revert hq
    cases u : use ρ1 r with
    | no => exact fun hq => hq.elim
    | ex x ρ' =>
      exfalso
      cases r with
      | im _ => cases u
      | nw _ => cases u
      | slot i =>
        unfold use at u
        cases q : ρ1[i]? with
        | none => simp [q] at u
        | some y => cases y <;> simp [q] at u
    | ok p =>
      intro hq
      obtain ⟨Hf2, S2, R2, hh⟩ := R1.use hv u
      exact hq Hf2 H1 v (S.trans S2) R2 hh
theorem re_of {f : Env → Rz (Env × D)} (h : RV X W e f) : RE X W e (hV f) := pe_mono h fun σ H Q ⟨Γ, Hf, ρ, R, hw⟩ =>
  bindV R hw fun ρ1 d Hf1 H1 v S R1 hv hq => hq Hf1 H1 v S R1 hv
/-- a name -/
theorem pe_monoI {X : Cx} {e : Expr} {t t' : TE} (h : PE X e t) (i : ∀ σ H Q, σ.length = X.N.length → t' σ H Q → t σ H Q) : PE X e t' := ⟨fun pins s σ H Q I q => h.run pins s σ H Q I (i σ H Q I.len q)⟩
theorem rN_ok {M : Md} {Γ : Gh} {Hf : Hp} {σ : L2.St} {H : Hp} {ρ : Env} {i : Nat} {Q : Env × Rs → Prop} {E : Exn → Env → Prop} (R : Rep M Γ Hf σ H ρ) (hw : (rN i ρ).wp Q E) : ∃ v, σ[i]? = some (some v) ∧ Q (ρ, .slot i) := by
  unfold rN at hw
  cases q : ρ[i]? with
  | none => simp [q] at hw; exact hw.elim
  | some y =>
    have lt : i < σ.length := by rw [← R.len]; exact (List.getElem?_eq_some_iff.mp q).1
    have q' := get_app (k := Γ.γ) q
    cases y with
    | no => simp [q] at hw; exact hw.elim
    | im d =>
      simp only [q] at hw
      obtain ⟨v, h1, _⟩ := R.r0.im i d q'
      exact ⟨v, by rw [← get_left lt]; exact h1, hw⟩
    | lo d =>
      simp only [q] at hw
      obtain ⟨a, h1, _⟩ := R.r0.lo i d q'
      exact ⟨_, by rw [← get_left lt]; exact h1, hw⟩
    | pa d =>
      simp only [q] at hw
      obtain ⟨a, h1, _⟩ := R.r0.pa i d q'
      exact ⟨_, by rw [← get_left lt]; exact h1, hw⟩
theorem re_name {x : Str} (i : Nat) (hN : X.N[i]? = some x := by rfl) (hv : Vis X.env.scope x := by first | exact Or.inl rfl | exact Or.inr (Or.inl rfl) | exact Or.inr (Or.inr rfl)) (hd : (x == ("__debug__" : Str)) = false := by decide)
    (hcd : (x == ("__classdict__" : Str)) = false := by decide) : RE X W (.Name x pos) (rN i) := pe_mono (pe_var hN hv hd hcd) fun σ H Q ⟨Γ, Hf, ρ, R, hw⟩ => by
  obtain ⟨v, h1, hq⟩ := rN_ok R hw
  exact ⟨v, h1, hq Hf H v (Same.refl _) R h1⟩
def vN (i : Nat) : Env → Rz (Env × D) := vU (rN i)
theorem rv_name {x : Str} (i : Nat) (hN : X.N[i]? = some x := by rfl) (hv : Vis X.env.scope x := by first | exact Or.inl rfl | exact Or.inr (Or.inl rfl) | exact Or.inr (Or.inr rfl)) (hd : (x == ("__debug__" : Str)) = false := by decide)
    (hcd : (x == ("__classdict__" : Str)) = false := by decide) : RV X W (.Name x pos) (vN i) := rv_of (re_name i hN hv hd hcd)
/-- constants -/
def vC (d : D) : Env → Rz (Env × D) := fun ρ => .ok (ρ, d)
theorem rv_const {d : D} {v : V} (h : PE X e (tC v)) (hh : ∀ G, Has ⟨X.K, X.mg⟩ G d v) : RV X W e (vC d) := pe_mono h fun σ H Q ⟨Γ, Hf, ρ, R, hw⟩ => hw Hf H v (Same.refl _) R (hh Hf)
theorem rv_int {i j} : RV X W (.Constant (.int i) j pos) (vC (.int i)) := rv_const pe_int fun _ => .int i
theorem rv_bl {b j} : RV X W (.Constant (.bool b) j pos) (vC (.bl b)) := rv_const pe_bl fun _ => .bl b
theorem rv_non {j} : RV X W (.Constant .none j pos) (vC .non) := rv_const pe_non fun _ => .non
theorem rv_str {x j} : RV X W (.Constant (.str x) j pos) (vC (.str x)) := rv_const pe_str fun _ => .str x
/-- a constant of the module, as data of its written part -/
theorem rv_glob {x : Str} {d : D} {v : V} {u : Value} (hg : Gl X x) (hm : X.mg x = some u) (r : RelV v u) (hh : ∀ G, Has ⟨X.K, X.mg⟩ G d v) (hd : (x == ("__debug__" : Str)) = false := by decide) : RV X W (.Name x pos) (vC d) :=
  rv_const (pe_glob hg hm r hd) hh

end
end Fx

set_option Elab.async false
set_option linter.all false
set_option maxRecDepth 100000
set_option maxHeartbeats 4000000
namespace Fx
open PySem L2
/-! ### held operands: a slot, or frozen data -/
def Rs.hold : Rs → Rs
  | .nw d => .im d
  | r => r
def HsIs (M : Md) (Hf : Hp) (σ : L2.St) : Rs → V → Prop
  | .slot i, v => σ[i]? = some (some v)
  | .im d, v => Has M Hf d v
  | .nw _, _ => False
theorem HsIs.up {M : Md} {Hf Hf' : Hp} {σ : L2.St} {r : Rs} {v : V} (S : Same Hf Hf') (h : HsIs M Hf σ r v) : HsIs M Hf' σ r v := by
  cases r with
  | slot i => exact h
  | im d => exact Has.same S h
  | nw d => exact h
theorem HsIs.rs {M : Md} {Γ : Gh} {Hf H : Hp} {σ : L2.St} {ρ : Env} {r : Rs} {v : V} (h : HsIs M Hf σ r v) : RsIs M Γ Hf σ H ρ r v := by
  cases r with
  | slot i => exact h
  | im d => exact h
  | nw d => exact h.elim
inductive HsAll (M : Md) (Hf : Hp) (σ : L2.St) : List Rs → List V → Prop
  | nil : HsAll M Hf σ [] []
  | cons {r : Rs} {rs : List Rs} {v : V} {vs : List V} : HsIs M Hf σ r v → HsAll M Hf σ rs vs → HsAll M Hf σ (r :: rs) (v :: vs)
theorem HsAll.up {M : Md} {Hf Hf' : Hp} {σ : L2.St} (S : Same Hf Hf') : ∀ {rs : List Rs} {vs : List V}, HsAll M Hf σ rs vs → HsAll M Hf' σ rs vs
  | _, _, .nil => .nil
  | _, _, .cons h t => .cons (h.up S) (t.up S)
def rdH (M : Md) (W : WX) (f : Env → Rz (Env × Rs)) : TE := fun σ H Q => ∃ Γ Hf ρ, Rep M Γ Hf σ H ρ ∧
  (f ρ).wp (fun p => ∀ Hf' H' v, Same Hf Hf' → Rep M Γ Hf' σ H' p.1 → HsIs M Hf' σ p.2 v → Q v H') (EPf M W Γ Hf σ)
def rdHs (M : Md) (W : WX) (f : Env → Rz (Env × List Rs)) : TA := fun σ H Q => ∃ Γ Hf ρ, Rep M Γ Hf σ H ρ ∧
  (f ρ).wp (fun p => ∀ Hf' H' vs, Same Hf Hf' → Rep M Γ Hf' σ H' p.1 → HsAll M Hf' σ p.2 vs → Q vs H') (EPf M W Γ Hf σ)
abbrev RH (X : Cx) (W : WX) (e : Expr) (f : Env → Rz (Env × Rs)) : Prop := PE X e (rdH ⟨X.K, X.mg⟩ W f)
abbrev RHs (X : Cx) (W : WX) (es : List Expr) (f : Env → Rz (Env × List Rs)) : Prop := PA X es (rdHs ⟨X.K, X.mg⟩ W f)
section
variable {M : Md} {W : WX} {Γ : Gh} {Hf : Hp} {σ : L2.St} {H : Hp} {ρ : Env} {β : Type} {P : β → Prop}
theorem bindH {f : Env → Rz (Env × Rs)} {g : Env × Rs → Rz β} {Q : VK} (R : Rep M Γ Hf σ H ρ) (hw : ((f ρ).bind g).wp P (EPf M W Γ Hf σ))
    (k : ∀ ρ1 r Hf1 H1 v, Same Hf Hf1 → Rep M Γ Hf1 σ H1 ρ1 → HsIs M Hf1 σ r v → (g (ρ1, r)).wp P (EPf M W Γ Hf1 σ) → Q v H1) : rdH M W f σ H Q :=
  ⟨Γ, Hf, ρ, R, Rz.wp_mono (Rz.wp_bind hw) (fun p hp Hf1 H1 v S R1 hv => k p.1 p.2 Hf1 H1 v S R1 hv (Rz.wp_mono hp (fun _ z => z) (EPf.up S))) (fun _ _ z => z)⟩
theorem bindHs {f : Env → Rz (Env × List Rs)} {g : Env × List Rs → Rz β} {Q : List V → Hp → Prop} (R : Rep M Γ Hf σ H ρ) (hw : ((f ρ).bind g).wp P (EPf M W Γ Hf σ))
    (k : ∀ ρ1 rs Hf1 H1 vs, Same Hf Hf1 → Rep M Γ Hf1 σ H1 ρ1 → HsAll M Hf1 σ rs vs → (g (ρ1, rs)).wp P (EPf M W Γ Hf1 σ) → Q vs H1) : rdHs M W f σ H Q :=
  ⟨Γ, Hf, ρ, R, Rz.wp_mono (Rz.wp_bind hw) (fun p hp Hf1 H1 v S R1 hv => k p.1 p.2 Hf1 H1 v S R1 hv (Rz.wp_mono hp (fun _ z => z) (EPf.up S))) (fun _ _ z => z)⟩
end
/-- an Option's value in the way -/
theorem ofO_bind {α β : Type} {o : Option α} {f : α → Rz β} {Q : β → Prop} {E : Exn → Env → Prop} (h : ((Rz.ofO o).bind f).wp Q E) : ∃ a, o = some a ∧ (f a).wp Q E := by
  cases o with
  | none => exact h.elim
  | some a => exact ⟨a, rfl, h⟩
section
variable {X : Cx} {W : WX} {e a b c : Expr} {es : List Expr} {pos : Pos}
def hH (f : Env → Rz (Env × Rs)) : Env → Rz (Env × Rs) := fun ρ => (f ρ).bind fun p => .ok (p.1, p.2.hold)
theorem rh_re {f : Env → Rz (Env × Rs)} (h : RE X W e f) : RH X W e (hH f) := pe_mono h fun σ H Q ⟨Γ, Hf, ρ, R, hw⟩ =>
  bindE R hw fun ρ1 r Hf1 H1 v S R1 hv hq => by
    cases r with
    | slot i => exact hq Hf1 H1 v S R1 hv
    | im d => exact hq Hf1 H1 v S R1 hv
    | nw d =>
      obtain ⟨Hf2, S2, R2, hh⟩ := R1.use (r := .nw d) (ρ' := ρ1) (d := d) hv rfl
      exact hq Hf2 H1 v (S.trans S2) R2 hh
theorem rh_name {x : Str} (i : Nat) (hN : X.N[i]? = some x := by rfl) (hv : Vis X.env.scope x := by first | exact Or.inl rfl | exact Or.inr (Or.inl rfl) | exact Or.inr (Or.inr rfl)) (hd : (x == ("__debug__" : Str)) = false := by decide)
    (hcd : (x == ("__classdict__" : Str)) = false := by decide) : RH X W (.Name x pos) (rN i) := pe_mono (pe_var hN hv hd hcd) fun σ H Q ⟨Γ, Hf, ρ, R, hw⟩ => by
  obtain ⟨v, h1, hq⟩ := rN_ok R hw
  exact ⟨v, h1, hq Hf H v (Same.refl _) R h1⟩
theorem rh_rv {f : Env → Rz (Env × D)} (h : RV X W e f) : RH X W e (hV f) := pe_mono h fun σ H Q ⟨Γ, Hf, ρ, R, hw⟩ =>
  bindV R hw fun ρ1 d Hf1 H1 v S R1 hv hq => hq Hf1 H1 v S R1 hv
/-- a constant as an operand -/
def hC (d : D) : Env → Rz (Env × Rs) := fun ρ => .ok (ρ, .im d)
theorem rh_c {d : D} (h : RV X W e (vC d)) : RH X W e (hC d) := pe_mono h fun σ H Q ⟨Γ, Hf, ρ, R, hw⟩ => ⟨Γ, Hf, ρ, R, fun Hf' H' v S R' h => hw Hf' H' v S R' h⟩
/-! ### arguments -/
def aNil : Env → Rz (Env × List Rs) := fun ρ => .ok (ρ, [])
def aCons (f : Env → Rz (Env × Rs)) (g : Env → Rz (Env × List Rs)) : Env → Rz (Env × List Rs) := fun ρ => (f ρ).bind fun p => (g p.1).bind fun q => .ok (q.1, p.2 :: q.2)
theorem ra_nil : RHs X W [] aNil := pa_mono pa_nil fun σ H Q ⟨Γ, Hf, ρ, R, hw⟩ => hw Hf H [] (Same.refl _) R .nil
theorem ra_cons {f : Env → Rz (Env × Rs)} {g : Env → Rz (Env × List Rs)} (ha : RH X W e f) (hr : RHs X W es g) (hs : starEach (e :: es) X.env = (false, eval e X.env) :: starEach es X.env := by rfl) : RHs X W (e :: es) (aCons f g) :=
  pa_mono (pa_cons ha hr hs) fun σ H Q ⟨Γ, Hf, ρ, R, hw⟩ => bindH R hw fun ρ1 r Hf1 H1 v S1 R1 hv hq => bindHs R1 hq fun ρ2 rs Hf2 H2 vs S2 R2 hvs hq2 =>
    hq2 Hf2 H2 (v :: vs) (S1.trans S2) R2 (.cons (hv.up S2) hvs)
/-- all as data that never changes -/
def useAll : Env → List Rs → Rz (Env × List D)
  | ρ, [] => .ok (ρ, [])
  | ρ, r :: rs => (use ρ r).bind fun p => (useAll p.1 rs).bind fun q => .ok (q.1, p.2 :: q.2)
theorem use_noex {ρ : Env} {r : Rs} {x : Exn} {ρ' : Env} : use ρ r ≠ .ex x ρ' := by
  intro u
  cases r with
  | im _ => cases u
  | nw _ => cases u
  | slot i =>
    unfold use at u
    cases q : ρ[i]? with
    | none => simp [q] at u
    | some y => cases y <;> simp [q] at u
theorem Rep.useAll {M : Md} {Γ : Gh} {σ : L2.St} {H : Hp} : ∀ {rs : List Rs} {vs : List V} {Hf : Hp} {ρ ρ' : Env} {ds : List D}, Rep M Γ Hf σ H ρ → HsAll M Hf σ rs vs → Fx.useAll ρ rs = .ok (ρ', ds) →
    ∃ Hf', Same Hf Hf' ∧ Rep M Γ Hf' σ H ρ' ∧ HasAll M Hf' ds vs
  | _, _, Hf, ρ, ρ', ds, R, .nil, e => by cases e; exact ⟨Hf, Same.refl _, R, .nil⟩
  | r :: rs, v :: vs, Hf, ρ, ρ', ds, R, .cons h t, e => by
    have e' : ((Fx.use ρ r).bind fun p => (Fx.useAll p.1 rs).bind fun q => .ok (q.1, p.2 :: q.2)) = Rz.ok (ρ', ds) := e
    cases u : Fx.use ρ r with
    | no => rw [u] at e'; cases e'
    | ex _ _ => exact absurd u use_noex
    | ok p =>
      rw [u] at e'
      obtain ⟨Hf1, S1, R1, h1⟩ := R.use h.rs u
      cases u2 : Fx.useAll p.1 rs with
      | no => rw [Rz.ok_bind, u2] at e'; cases e'
      | ex _ _ => rw [Rz.ok_bind, u2] at e'; cases e'
      | ok q =>
        rw [Rz.ok_bind, u2] at e'
        cases e'
        obtain ⟨Hf2, S2, R2, h2⟩ := Rep.useAll R1 (t.up S1) u2
        exact ⟨Hf2, S1.trans S2, R2, .cons (h1.same S2) h2⟩
theorem useAll_noex : ∀ {rs : List Rs} {ρ : Env} {x : Exn} {ρ' : Env}, useAll ρ rs ≠ .ex x ρ'
  | [], ρ, x, ρ', u => by cases u
  | r :: rs, ρ, x, ρ', u => by
    have u' : ((use ρ r).bind fun p => (useAll p.1 rs).bind fun q => .ok (q.1, p.2 :: q.2)) = Rz.ex x ρ' := u
    cases u1 : use ρ r with
    | no => rw [u1] at u'; cases u'
    | ex _ _ => exact use_noex u1
    | ok p =>
      rw [u1] at u'
      cases u2 : useAll p.1 rs with
      | no => rw [Rz.ok_bind, u2] at u'; cases u'
      | ex _ _ => exact useAll_noex u2
      | ok q => rw [Rz.ok_bind, u2] at u'; cases u'
theorem use_wp {β : Type} {ρ : Env} {r : Rs} {g : Env × D → Rz β} {Q : β → Prop} {E : Exn → Env → Prop} (h : ((use ρ r).bind g).wp Q E) : ∃ p, use ρ r = .ok p ∧ (g p).wp Q E := by
  cases u : use ρ r with
  | no => rw [u] at h; exact h.elim
  | ex _ _ => exact absurd u use_noex
  | ok p => rw [u] at h; exact ⟨p, rfl, h⟩
theorem useAll_wp {β : Type} {ρ : Env} {rs : List Rs} {g : Env × List D → Rz β} {Q : β → Prop} {E : Exn → Env → Prop} (h : ((useAll ρ rs).bind g).wp Q E) : ∃ p, useAll ρ rs = .ok p ∧ (g p).wp Q E := by
  cases u : useAll ρ rs with
  | no => rw [u] at h; exact h.elim
  | ex _ _ => exact absurd u useAll_noex
  | ok p => rw [u] at h; exact ⟨p, rfl, h⟩

/-! ### displays -/
def sz (n : Nat) : Bool := decide (n ≤ sizeLine)
theorem sz_ok {n : Nat} (h : sz n = true) : n ≤ sizeLine := of_decide_eq_true h
def vTup (f : Env → Rz (Env × List Rs)) : Env → Rz (Env × D) := fun ρ => (f ρ).bind fun p => (useAll p.1 p.2).bind fun q => if sz q.2.length then .ok (q.1, .nd .tup q.2) else .no
def eLst (f : Env → Rz (Env × List Rs)) : Env → Rz (Env × Rs) := fun ρ => (f ρ).bind fun p => (useAll p.1 p.2).bind fun q => if sz q.2.length then .ok (q.1, .nw (.nd .lst q.2)) else .no
theorem ite_wp {α : Type} {c : Bool} {r : Rz α} {Q : α → Prop} {E : Exn → Env → Prop} (h : (if c = true then r else .no).wp Q E) : c = true ∧ r.wp Q E := by
  cases c with
  | true => exact ⟨rfl, h⟩
  | false => exact h.elim
theorem rv_tup {f : Env → Rz (Env × List Rs)} {x1} (h : RHs X W es f) : RV X W (.Tuple es x1 pos) (vTup f) := pe_mono (pe_tup h) fun σ H Q ⟨Γ, Hf, ρ, R, hw⟩ =>
  bindHs R hw fun ρ1 rs Hf1 H1 vs S1 R1 hvs hq => by
    obtain ⟨p, u, hq⟩ := useAll_wp hq
    obtain ⟨Hf2, S2, R2, h2⟩ := R1.useAll hvs u
    obtain ⟨z, hq⟩ := ite_wp hq
    refine ⟨by rw [← h2.length]; exact sz_ok z, fun q hp => ?_⟩
    obtain ⟨S3, R3⟩ := R2.lay hp (.tup vs)
    exact hq _ _ _ (S1.trans (S2.trans S3)) R3 (.tup (SqT.of upd_same) (h2.same S3))
theorem re_lst {f : Env → Rz (Env × List Rs)} (h : RHs X W es f) : RE X W (.List es pos) (eLst f) := pe_mono (pe_lst h) fun σ H Q ⟨Γ, Hf, ρ, R, hw⟩ =>
  bindHs R hw fun ρ1 rs Hf1 H1 vs S1 R1 hvs hq => by
    obtain ⟨p, u, hq⟩ := useAll_wp hq
    obtain ⟨Hf2, S2, R2, h2⟩ := R1.useAll hvs u
    obtain ⟨z, hq⟩ := ite_wp hq
    refine ⟨by rw [← h2.length]; exact sz_ok z, fun q hp => ?_⟩
    obtain ⟨R3, h0, hf, hn⟩ := R2.layN hp (.lst vs)
    exact hq _ _ _ (S1.trans S2) R3 ⟨q, rfl, h0, .lst hf upd_same h2, hn⟩

/-! ### two-place operations -/
def D.av : D → Option V
  | .non => some .non
  | .bl b => some (.bl b)
  | .int i => some (.int i)
  | .str x => some (.str x)
  | _ => none
theorem has_av {M : Md} {G : Hp} {d : D} {v : V} (h : d.av = some v) : Has M G d v := by
  cases d with
  | non => cases h; exact .non
  | bl b => cases h; exact .bl b
  | int i => cases h; exact .int i
  | str x => cases h; exact .str x
  | ob a => cases h
  | nd k xs => cases h
/-- the results are atoms, nothing is laid -/
def ServesV (M : Md) (r : R2) (F : D → D → Option D) : Prop := ∀ Hf H x y d e g, HasT M Hf H d x → HasT M Hf H e y → Same Hf H → F d e = some g → ∃ v, g.av = some v ∧ ∀ Q : VK, Q v H → r x y H Q
def ServesB (M : Md) (r : R2) (F : D → D → Option Bool) : Prop := ∀ Hf H x y d e g, HasT M Hf H d x → HasT M Hf H e y → Same Hf H → F d e = some g → ∀ Q : VK, Q (.bl g) H → r x y H Q
/-- results of any kind -/
def ServesR (M : Md) (r : R2) (F : D → D → Option Rs) : Prop := ∀ Γ Hf σ H ρ x y d e g, Rep M Γ Hf σ H ρ → HasT M Hf H d x → HasT M Hf H e y → F d e = some g →
  ∀ Q : VK, (∀ Hf' H' v, Same Hf Hf' → Rep M Γ Hf' σ H' ρ → RsIs M Γ Hf' σ H' ρ g v → Q v H') → r x y H Q
def v2 (F : D → D → Option D) (f g : Env → Rz (Env × Rs)) : Env → Rz (Env × D) := fun ρ => (f ρ).bind fun p => (g p.1).bind fun q => (Rz.ofO (peek q.1 p.2)).bind fun d => (Rz.ofO (peek q.1 q.2)).bind fun e => (Rz.ofO (F d e)).bind fun r => .ok (q.1, r)
def t2 (F : D → D → Option Bool) (f g : Env → Rz (Env × Rs)) : Env → Rz (Env × Bool) := fun ρ => (f ρ).bind fun p => (g p.1).bind fun q => (Rz.ofO (peek q.1 p.2)).bind fun d => (Rz.ofO (peek q.1 q.2)).bind fun e => (Rz.ofO (F d e)).bind fun r => .ok (q.1, r)
def e2 (F : D → D → Option Rs) (f g : Env → Rz (Env × Rs)) : Env → Rz (Env × Rs) := fun ρ => (f ρ).bind fun p => (g p.1).bind fun q => (Rz.ofO (peek q.1 p.2)).bind fun d => (Rz.ofO (peek q.1 q.2)).bind fun e => (Rz.ofO (F d e)).bind fun r => .ok (q.1, r)
def dB (F : D → D → Option Bool) : D → D → Option D := fun d e => (F d e).map .bl
variable {f g : Env → Rz (Env × Rs)}
theorem two {M : Md} {α : Type} {F : D → D → Option α} {P : Env × α → Prop} {R0 : V → V → Hp → Prop} :
    ∀ σ H, (∃ Γ Hf ρ, Rep M Γ Hf σ H ρ ∧ (∀ ρ2 Hf2 H2 x y d e r, Rep M Γ Hf2 σ H2 ρ2 → Same Hf Hf2 → HasT M Hf2 H2 d x → HasT M Hf2 H2 e y → F d e = some r → P (ρ2, r) → R0 x y H2) ∧
      ((f ρ).bind fun p => (g p.1).bind fun q => (Rz.ofO (peek q.1 p.2)).bind fun d => (Rz.ofO (peek q.1 q.2)).bind fun e => (Rz.ofO (F d e)).bind fun r => Rz.ok (q.1, r)).wp P (EPf M W Γ Hf σ)) →
    rdH M W f σ H fun x H1 => rdH M W g σ H1 fun y H2 => R0 x y H2 := by
  rintro σ H ⟨Γ, Hf, ρ, R, fin, hw⟩
  refine bindH R hw fun ρ1 r1 Hf1 H1 x S1 R1 hx hq => bindH R1 hq fun ρ2 r2 Hf2 H2 y S2 R2 hy hq2 => ?_
  obtain ⟨d, e1, hq2⟩ := ofO_bind hq2
  obtain ⟨e, e2, hq2⟩ := ofO_bind hq2
  obtain ⟨r, e3, hq2⟩ := ofO_bind hq2
  exact fin ρ2 Hf2 H2 x y d e r R2 (S1.trans S2) (R2.peek (hx.up S2).rs e1) (R2.peek hy.rs e2) e3 hq2
def ServesD (M : Md) (r : R2) (F : D → D → Option D) : Prop := ∀ Hf H x y d e g, HasT M Hf H d x → HasT M Hf H e y → Same Hf H → F d e = some g → ∀ Q : VK, (∀ v, Has M Hf g v → Q v H) → r x y H Q
theorem ServesV.d {M : Md} {r : R2} {F : D → D → Option D} (hs : ServesV M r F) : ServesD M r F := fun Hf H x y d e g hx hy S h Q q => by
  obtain ⟨v, ev, fin⟩ := hs Hf H x y d e g hx hy S h
  exact fin Q (q v (has_av ev))
theorem v2_imp {M : Md} {r : R2} {F : D → D → Option D} (hs : ServesD M r F) : ∀ σ H Q, rdV M W (v2 F f g) σ H Q → tOp r (rdH M W f) (rdH M W g) σ H Q := by
  rintro σ H Q ⟨Γ, Hf, ρ, R, hw⟩
  refine two (M := M) σ H ⟨Γ, Hf, ρ, R, fun ρ2 Hf2 H2 x y d e g R2 S hx hy e3 hq => ?_, hw⟩
  exact hs Hf2 H2 x y d e g hx hy R2.sub e3 Q fun v hv => hq Hf2 H2 v S R2 hv
theorem e2_imp {M : Md} {r : R2} {F : D → D → Option Rs} (hs : ServesR M r F) : ∀ σ H Q, rdE M W (e2 F f g) σ H Q → tOp r (rdH M W f) (rdH M W g) σ H Q := by
  rintro σ H Q ⟨Γ, Hf, ρ, R, hw⟩
  refine two (M := M) σ H ⟨Γ, Hf, ρ, R, fun ρ2 Hf2 H2 x y d e g R2 S hx hy e3 hq => ?_, hw⟩
  exact hs Γ Hf2 _ H2 ρ2 x y d e g R2 hx hy e3 Q fun Hf' H' v S' R' h => hq Hf' H' v (S.trans S') R' h
theorem t2_imp {M : Md} {r : R2} {F : D → D → Option Bool} (hs : ServesB M r F) : ∀ σ H Q, rdT M W (t2 F f g) σ H Q → tTest (tOp r (rdH M W f) (rdH M W g)) σ H Q := by
  rintro σ H Q ⟨Γ, Hf, ρ, R, hw⟩
  refine two (M := M) σ H ⟨Γ, Hf, ρ, R, fun ρ2 Hf2 H2 x y d e g R2 S hx hy e3 hq => ?_, hw⟩
  exact hs Hf2 H2 x y d e g hx hy R2.sub e3 _ ⟨g, rfl, hq Hf2 H2 S R2⟩
theorem ServesB.v {M : Md} {r : R2} {F : D → D → Option Bool} (hs : ServesB M r F) : ServesV M r (dB F) := fun Hf H x y d e g hx hy S h => by
  unfold dB at h
  cases q : F d e with
  | none => rw [q] at h; cases h
  | some b => rw [q] at h; cases h; exact ⟨.bl b, rfl, hs Hf H x y d e b hx hy S q⟩
theorem rv_op {op : Operator} {r : R2} {F : D → D → Option D} (ho : OpR X (binaryOp op) r) (hs : ServesV ⟨X.K, X.mg⟩ r F) (ha : RH X W a f) (hb : RH X W b g) : RV X W (.BinOp a op b pos) (v2 F f g) := pe_mono (pe_op ho ha hb) (v2_imp hs.d)
theorem re_op {op : Operator} {r : R2} {F : D → D → Option Rs} (ho : OpR X (binaryOp op) r) (hs : ServesR ⟨X.K, X.mg⟩ r F) (ha : RH X W a f) (hb : RH X W b g) : RE X W (.BinOp a op b pos) (e2 F f g) := pe_mono (pe_op ho ha hb) (e2_imp hs)
theorem rv_cmp {op : CmpOp} {r : R2} {F : D → D → Option Bool} (ho : OpR X (compareOp op) r) (hs : ServesB ⟨X.K, X.mg⟩ r F) (ha : RH X W a f) (hb : RH X W b g) (hm : behindInMarks op b = false := by first | exact nomark _ | rfl | with_unfolding_all rfl) : RV X W (.Compare a [op] [b] pos) (v2 (dB F) f g) :=
  pe_mono (pe_cmpR ho ha hb hm) (v2_imp hs.v.d)
theorem rt_cmp {op : CmpOp} {r : R2} {F : D → D → Option Bool} (ho : OpR X (compareOp op) r) (hs : ServesB ⟨X.K, X.mg⟩ r F) (ha : RH X W a f) (hb : RH X W b g) (hm : behindInMarks op b = false := by first | exact nomark _ | rfl | with_unfolding_all rfl) : RT X W (.Compare a [op] [b] pos) (t2 F f g) :=
  pt_mono (pt_cmpR ho ha hb hm) (t2_imp hs)
end

/-! ### ints -/
def dI2 (C : Int → Int → Bool) (g : Int → Int → Int) : D → D → Option D
  | .int i, .int j => if C i j then some (.int (g i j)) else none
  | _, _ => none
def dBI (g : Int → Int → Bool) : D → D → Option Bool
  | .int i, .int j => some (g i j)
  | _, _ => none
section
variable {M : Md}
theorem serves_I0 {g : Int → Int → Int} : ServesV M (rI0 fun i j => .int (g i j)) (dI2 (fun _ _ => true) g) := fun Hf H x y d e r hx hy S h => by
  cases hx <;> cases hy <;> first | (cases h; exact ⟨_, rfl, fun Q q => ⟨_, _, rfl, rfl, q⟩⟩) | cases h
theorem serves_I {C : Int → Int → Prop} {C' : Int → Int → Bool} {g : Int → Int → Int} (hc : ∀ i j, C' i j = true → C i j) : ServesV M (rI C fun i j => .int (g i j)) (dI2 C' g) := fun Hf H x y d e r hx hy S h => by
  cases hx <;> cases hy <;> first
    | (rename_i i j
       have h' : (if C' i j = true then some (D.int (g i j)) else none) = some r := h
       by_cases c : C' i j = true
       · rw [if_pos c] at h'; cases h'; exact ⟨_, rfl, fun Q q => ⟨_, _, rfl, rfl, hc _ _ c, q⟩⟩
       · rw [if_neg c] at h'; cases h')
    | cases h
theorem serves_BI {g : Int → Int → Bool} : ServesB M (rI0 fun i j => .bl (g i j)) (dBI g) := fun Hf H x y d e r hx hy S h => by
  cases hx <;> cases hy <;> first | (cases h; exact fun Q q => ⟨_, _, rfl, rfl, q⟩) | cases h
end
abbrev dSub : D → D → Option D := dI2 (fun _ _ => true) fun i j => i - j
abbrev dAddI : D → D → Option D := dI2 (fun _ _ => true) fun i j => i + j
def cMul (i j : Int) : Bool := (decide (-(2 ^ 64) < i) && decide (i < 2 ^ 64)) || (decide (-(2 ^ 64) < j) && decide (j < 2 ^ 64))
abbrev dMul : D → D → Option D := dI2 cMul fun i j => i * j
def cMod (_ j : Int) : Bool := decide (0 < j)
abbrev dMod : D → D → Option D := dI2 cMod fun i j => i % j
def cDiv (_ j : Int) : Bool := decide (0 < j) && decide (j < 1073741824)
abbrev dDiv : D → D → Option D := dI2 cDiv fun i j => i / j
def cPow (i j : Int) : Bool := decide (0 ≤ j) && (decide (j ≤ 1000000) && decide (i.natAbs < 2 ^ 64))
abbrev dPow : D → D → Option D := dI2 cPow fun i j => i ^ j.toNat
abbrev dLt : D → D → Option Bool := dBI fun i j => decide (i < j)
abbrev dLe : D → D → Option Bool := dBI fun i j => decide (i ≤ j)
abbrev dGt : D → D → Option Bool := dBI fun i j => decide (i > j)
abbrev dGe : D → D → Option Bool := dBI fun i j => decide (i ≥ j)
section
variable {X : Cx} {W : WX} {a b : Expr} {pos : Pos} {f g : Env → Rz (Env × Rs)}
theorem rv_sub (ha : RH X W a f) (hb : RH X W b g) : RV X W (.BinOp a .Sub b pos) (v2 dSub f g) := rv_op op_sub serves_I0 ha hb
theorem rv_addI (ha : RH X W a f) (hb : RH X W b g) : RV X W (.BinOp a .Add b pos) (v2 dAddI f g) := rv_op op_add serves_I0 ha hb
theorem rv_mul (ha : RH X W a f) (hb : RH X W b g) : RV X W (.BinOp a .Mult b pos) (v2 dMul f g) := rv_op op_mul (serves_I (C' := cMul) fun i j h => by
  unfold cMul at h
  simp only [Bool.or_eq_true, Bool.and_eq_true, decide_eq_true_eq] at h
  exact h) ha hb
theorem rv_mod (ha : RH X W a f) (hb : RH X W b g) : RV X W (.BinOp a .Mod b pos) (v2 dMod f g) := rv_op op_mod (serves_I (C' := cMod) fun i j h => of_decide_eq_true h) ha hb
theorem rv_div (ha : RH X W a f) (hb : RH X W b g) : RV X W (.BinOp a .FloorDiv b pos) (v2 dDiv f g) := rv_op op_fdiv (serves_I (C' := cDiv) fun i j h => by
  unfold cDiv at h
  simp only [Bool.and_eq_true, decide_eq_true_eq] at h
  exact h) ha hb
theorem rv_pow (ha : RH X W a f) (hb : RH X W b g) : RV X W (.BinOp a .Pow b pos) (v2 dPow f g) := rv_op op_pow (serves_I (C' := cPow) fun i j h => by
  unfold cPow at h
  simp only [Bool.and_eq_true, decide_eq_true_eq] at h
  exact h) ha hb
theorem rv_lt (ha : RH X W a f) (hb : RH X W b g) : RV X W (.Compare a [.Lt] [b] pos) (v2 (dB dLt) f g) := rv_cmp op_lt serves_BI ha hb
theorem rt_lt (ha : RH X W a f) (hb : RH X W b g) : RT X W (.Compare a [.Lt] [b] pos) (t2 dLt f g) := rt_cmp op_lt serves_BI ha hb
theorem rv_le (ha : RH X W a f) (hb : RH X W b g) : RV X W (.Compare a [.LtE] [b] pos) (v2 (dB dLe) f g) := rv_cmp op_le serves_BI ha hb
theorem rt_le (ha : RH X W a f) (hb : RH X W b g) : RT X W (.Compare a [.LtE] [b] pos) (t2 dLe f g) := rt_cmp op_le serves_BI ha hb
theorem rv_gt (ha : RH X W a f) (hb : RH X W b g) : RV X W (.Compare a [.Gt] [b] pos) (v2 (dB dGt) f g) := rv_cmp op_gt serves_BI ha hb
theorem rt_gt (ha : RH X W a f) (hb : RH X W b g) : RT X W (.Compare a [.Gt] [b] pos) (t2 dGt f g) := rt_cmp op_gt serves_BI ha hb
theorem rv_ge (ha : RH X W a f) (hb : RH X W b g) : RV X W (.Compare a [.GtE] [b] pos) (v2 (dB dGe) f g) := rv_cmp op_ge serves_BI ha hb
theorem rt_ge (ha : RH X W a f) (hb : RH X W b g) : RT X W (.Compare a [.GtE] [b] pos) (t2 dGe f g) := rt_cmp op_ge serves_BI ha hb
end
end Fx

set_option Elab.async false
set_option linter.all false
set_option maxRecDepth 100000
set_option maxHeartbeats 4000000
namespace Fx
open PySem L2
/-! ### data as the library's data -/
mutual
def D.py : D → PyData
  | .non => .none
  | .bl b => .bool b
  | .int i => .int i
  | .str x => .str x
  | .ob _ => .none
  | .nd .tup xs => .tuple (D.pys xs)
  | .nd .lst xs => .list (D.pys xs)
  | .nd .scr _ => .none
  | .nd (.dct _) _ => .none
  | .nd (.obj _ _) _ => .none
  | .nd (.dcx _) _ => .none
def D.pys : List D → List PyData
  | [] => []
  | x :: xs => x.py :: D.pys xs
end
mutual
def D.plain : D → Bool
  | .non => true
  | .bl _ => true
  | .int _ => true
  | .str _ => true
  | .ob _ => false
  | .nd .tup xs => D.plains xs
  | .nd .lst xs => D.plains xs
  | .nd .scr _ => false
  | .nd (.dct _) _ => false
  | .nd (.obj _ _) _ => false
  | .nd (.dcx _) _ => false
def D.plains : List D → Bool
  | [] => true
  | x :: xs => x.plain && D.plains xs
end
theorem pys_map : ∀ xs : List D, D.pys xs = xs.map D.py
  | [] => by simp [D.pys]
  | x :: xs => by simp [D.pys, pys_map xs]
section
variable {M : Md} {G : Hp}
mutual
theorem Has.dp : ∀ {d : D} {v : V}, Has M G d v → d.plain = true → Dp M.K G v d.py
  | _, _, .non, _ => by rw [D.py]; exact .non
  | _, _, .bl b, _ => by rw [D.py]; exact .bl b
  | _, _, .int i, _ => by rw [D.py]; exact .int i
  | _, _, .str x, _ => by rw [D.py]; exact .str x
  | _, _, .ob a, h => by rw [D.plain] at h; cases h
  | _, _, .tup s t, h => by rw [D.py]; exact .tup s (HasAll.dp t (by rw [D.plain] at h; exact h))
  | _, _, .lst s t, h => by rw [D.py]; exact .lst (SqL.of s) (HasAll.dp t (by rw [D.plain] at h; exact h))
  | _, _, .scr s t, h => by rw [D.plain] at h; cases h
  | _, _, .dct s t, h => by rw [D.plain] at h; cases h
  | _, _, .obj g s t, h => by rw [D.plain] at h; cases h
  | _, _, .dcx s, h => by rw [D.plain] at h; cases h
theorem HasAll.dp : ∀ {ds : List D} {vs : List V}, HasAll M G ds vs → D.plains ds = true → DpAll M.K G vs (D.pys ds)
  | _, _, .nil, _ => by rw [D.pys]; exact .nil
  | _, _, .cons h t, e => by
    rw [D.plains, Bool.and_eq_true] at e
    rw [D.pys]
    exact .cons (Has.dp h e.1) (HasAll.dp t e.2)
end
theorem HasT.dp {H : Hp} {d : D} {v : V} (S : Same G H) (h : HasT M G H d v) (e : d.plain = true) : Dp M.K H v d.py := by
  cases h with
  | non => rw [D.py]; exact .non
  | bl b => rw [D.py]; exact .bl b
  | int i => rw [D.py]; exact .int i
  | str x => rw [D.py]; exact .str x
  | ob a => rw [D.plain] at e; cases e
  | tup s t => rw [D.py]; exact .tup (SqT.same S s) (HasAll.dp (t.same S) (by rw [D.plain] at e; exact e))
  | lst s t => rw [D.py]; exact .lst (SqL.of s) (HasAll.dp (t.same S) (by rw [D.plain] at e; exact e))
  | scr s t => rw [D.plain] at e; cases e
  | dct s t => rw [D.plain] at e; cases e
  | obj g s t => rw [D.plain] at e; cases e
  | dcx s => rw [D.plain] at e; cases e
end
/-- data that is compared, shown -/
def D.fit (d : D) : Bool := d.plain && SeqAt.shaped d.py
theorem D.fit_ok {d : D} (h : d.fit = true) : d.plain = true ∧ SeqAt.shaped d.py = true := by
  unfold D.fit at h
  rwa [Bool.and_eq_true] at h
def D.eqv (d e : D) : Bool := PyData.eqv d.py e.py
def dEq : D → D → Option Bool := fun d e => if d.fit && e.fit then some (d.eqv e) else none
def dNe : D → D → Option Bool := fun d e => if d.fit && e.fit then some (!d.eqv e) else none
theorem opt_ite {α : Type} {c : Bool} {a b : α} (h : (if c = true then some a else none) = some b) : c = true ∧ a = b := by
  cases c with
  | true => exact ⟨rfl, Option.some.inj h⟩
  | false => cases h
section
variable {M : Md}
theorem serves_eq : ServesB M (rEqD M.K) dEq := fun Hf H x y d e g hx hy S h Q q => by
  obtain ⟨c, rfl⟩ := opt_ite h
  rw [Bool.and_eq_true] at c
  obtain ⟨p1, s1⟩ := D.fit_ok c.1
  obtain ⟨p2, s2⟩ := D.fit_ok c.2
  exact ⟨d.py, e.py, hx.dp S p1, hy.dp S p2, s1, s2, q⟩
theorem serves_ne : ServesB M (rNeD M.K) dNe := fun Hf H x y d e g hx hy S h Q q => by
  obtain ⟨c, rfl⟩ := opt_ite h
  rw [Bool.and_eq_true] at c
  obtain ⟨p1, s1⟩ := D.fit_ok c.1
  obtain ⟨p2, s2⟩ := D.fit_ok c.2
  exact ⟨d.py, e.py, hx.dp S p1, hy.dp S p2, s1, s2, q⟩
end
/-! ### in, not in: lists and tuples of data; one sign in a text -/
def rInTD (K : PySem.W.Frag) (neg : Bool) : R2 := fun x y H Q => ∃ d ds, Dp K H x d ∧ Dp K H y (.tuple ds) ∧ SeqAt.shaped d = true ∧ SeqAt.shaped (.tuple ds) = true ∧ Q (.bl (if neg then !ds.any fun z => PyData.eqv z d else ds.any fun z => PyData.eqv z d)) H
section
variable {X : Cx}
theorem op_inTD (hu : X.A.units + 65 < cLine) : OpR X (compareOp .In) (rInTD X.K false) := by
  intro pins s σ H x y v u Q I rx ry h
  obtain ⟨d, ds, hd, he, sd, se, q⟩ := h
  obtain ⟨as, r1⟩ := Dp.reads I d x v hd rx
  obtain ⟨bs, r2⟩ := Dp.reads I (.tuple ds) y u he ry
  exact SeqAt.in_tuple_reads r2 r1 (SeqAt.canLay_of_shaped se) (SeqAt.canLay_of_shaped sd) (PyProof.Rows.room_in_shaped sd hu) ⟨.bl _, H, I, rfl, q⟩
theorem op_notInTD (hu : X.A.units + 65 < cLine) : OpR X (compareOp .NotIn) (rInTD X.K true) := by
  intro pins s σ H x y v u Q I rx ry h
  obtain ⟨d, ds, hd, he, sd, se, q⟩ := h
  obtain ⟨as, r1⟩ := Dp.reads I d x v hd rx
  obtain ⟨bs, r2⟩ := Dp.reads I (.tuple ds) y u he ry
  exact SeqAt.notIn_tuple_reads r2 r1 (SeqAt.canLay_of_shaped se) (SeqAt.canLay_of_shaped sd) (PyProof.Rows.room_in_shaped sd hu) ⟨.bl _, H, I, rfl, q⟩
theorem OpR.or {f : Value → Value → Sem Value} {r r' : R2} (h : OpR X f r) (h' : OpR X f r') : OpR X f (fun x y H Q => r x y H Q ∨ r' x y H Q) := by
  intro pins s σ H x y v u Q I rx ry q
  rcases q with q | q
  · exact h pins s σ H x y v u Q I rx ry q
  · exact h' pins s σ H x y v u Q I rx ry q
end
/-- one sign of a text -/
def Str.one : Str → Option Nat
  | ⟨#[c]⟩ => some c
  | _ => none
def memD (x : D) : D → Option Bool
  | .nd .tup ds => if x.fit && (D.nd .tup ds).fit then some (ds.any fun z => z.eqv x) else none
  | .nd .lst ds => if x.fit && (D.nd .lst ds).fit then some (ds.any fun z => z.eqv x) else none
  | .nd (.dct ks) _ => match x with
    | .int i => some (ks.any fun k => match k with | .inl j => j == i | _ => false)
    | .str z => some (ks.any fun k => match k with | .inr y => y == z | _ => false)
    | _ => none
  | _ => none
theorem any_py (ds : List D) (x : D) : (D.pys ds).any (fun z => PyData.eqv z x.py) = ds.any fun z => z.eqv x := by
  rw [pys_map, List.any_map]; rfl
section
variable {M : Md}
def rInAll (K : PySem.W.Frag) (neg : Bool) : R2 := fun x y H Q => (if neg then rNotInD K else rInD K) x y H Q ∨ rInTD K neg x y H Q
theorem serves_in (neg : Bool) : ServesB M (rInAll M.K neg) (fun d e => match e with | .nd .tup _ | .nd .lst _ => (memD d e).map fun b => if neg then !b else b | _ => none) := fun Hf H x y d e g hx hy S h Q q => by
  cases hy with
  | non => cases h
  | bl b => cases h
  | int i => cases h
  | str z => cases h
  | ob a => cases h
  | scr s t => cases h
  | dct s t => cases h
  | obj g' s t => cases h
  | dcx s => cases h
  | tup s t =>
    rename_i a vs ds
    have h' : ((if (d.fit && (D.nd .tup ds).fit) = true then some (ds.any fun z => z.eqv d) else none).map fun b => if neg then !b else b) = some g := h
    cases c : (d.fit && (D.nd .tup ds).fit) with
    | false => rw [c] at h'; cases h'
    | true =>
      rw [c] at h'
      rw [Bool.and_eq_true] at c
      obtain ⟨p1, s1⟩ := D.fit_ok c.1
      obtain ⟨p2, s2⟩ := D.fit_ok c.2
      cases h'
      refine .inr ⟨d.py, D.pys ds, hx.dp S p1, ?_, s1, ?_, ?_⟩
      · have := HasT.dp S (HasT.tup s t) p2
        rw [D.py] at this; exact this
      · rw [D.py] at s2; exact s2
      · rw [any_py]; exact q
  | lst s t =>
    rename_i a vs ds
    have h' : ((if (d.fit && (D.nd .lst ds).fit) = true then some (ds.any fun z => z.eqv d) else none).map fun b => if neg then !b else b) = some g := h
    cases c : (d.fit && (D.nd .lst ds).fit) with
    | false => rw [c] at h'; cases h'
    | true =>
      rw [c] at h'
      rw [Bool.and_eq_true] at c
      obtain ⟨p1, s1⟩ := D.fit_ok c.1
      obtain ⟨p2, s2⟩ := D.fit_ok c.2
      cases h'
      refine .inl ?_
      have hl : Dp M.K H (.ref a) (.list (D.pys ds)) := by
        have := HasT.dp S (HasT.lst s t) p2
        rw [D.py] at this; exact this
      rw [D.py] at s2
      cases neg with
      | true => exact ⟨d.py, D.pys ds, hx.dp S p1, hl, s1, s2, by rw [any_py]; exact q⟩
      | false => exact ⟨d.py, D.pys ds, hx.dp S p1, hl, s1, s2, by rw [any_py]; exact q⟩
end
def dIn : D → D → Option Bool := fun d e => match e with | .nd .tup _ | .nd .lst _ => (memD d e).map fun b => if false then !b else b | _ => none
def dNotIn : D → D → Option Bool := fun d e => match e with | .nd .tup _ | .nd .lst _ => (memD d e).map fun b => if true then !b else b | _ => none
section
variable {X : Cx} {W : WX} {a b : Expr} {pos : Pos} {f g : Env → Rz (Env × Rs)}
theorem op_inAll (hu : X.A.units + 65 < cLine) : OpR X (compareOp .In) (rInAll X.K false) := OpR.or (op_inD hu) (op_inTD hu)
theorem op_notInAll (hu : X.A.units + 65 < cLine) : OpR X (compareOp .NotIn) (rInAll X.K true) := OpR.or (op_notInD hu) (op_notInTD hu)
theorem rv_eq (hu : X.A.units + 64 < cLine) (ha : RH X W a f) (hb : RH X W b g) : RV X W (.Compare a [.Eq] [b] pos) (v2 (dB dEq) f g) := rv_cmp (op_eqD hu) serves_eq ha hb
theorem rt_eq (hu : X.A.units + 64 < cLine) (ha : RH X W a f) (hb : RH X W b g) : RT X W (.Compare a [.Eq] [b] pos) (t2 dEq f g) := rt_cmp (op_eqD hu) serves_eq ha hb
theorem rv_ne (hu : X.A.units + 64 < cLine) (ha : RH X W a f) (hb : RH X W b g) : RV X W (.Compare a [.NotEq] [b] pos) (v2 (dB dNe) f g) := rv_cmp (op_neD hu) serves_ne ha hb
theorem rt_ne (hu : X.A.units + 64 < cLine) (ha : RH X W a f) (hb : RH X W b g) : RT X W (.Compare a [.NotEq] [b] pos) (t2 dNe f g) := rt_cmp (op_neD hu) serves_ne ha hb
theorem rv_in (hu : X.A.units + 65 < cLine) (ha : RH X W a f) (hb : RH X W b g) (hm : behindInMarks .In b = false := by first | rfl | with_unfolding_all rfl) : RV X W (.Compare a [.In] [b] pos) (v2 (dB dIn) f g) := rv_cmp (op_inAll hu) (serves_in false) ha hb hm
theorem rt_in (hu : X.A.units + 65 < cLine) (ha : RH X W a f) (hb : RH X W b g) (hm : behindInMarks .In b = false := by first | rfl | with_unfolding_all rfl) : RT X W (.Compare a [.In] [b] pos) (t2 dIn f g) := rt_cmp (op_inAll hu) (serves_in false) ha hb hm
theorem rv_notin (hu : X.A.units + 65 < cLine) (ha : RH X W a f) (hb : RH X W b g) (hm : behindInMarks .NotIn b = false := by first | rfl | with_unfolding_all rfl) : RV X W (.Compare a [.NotIn] [b] pos) (v2 (dB dNotIn) f g) := rv_cmp (op_notInAll hu) (serves_in true) ha hb hm
theorem rt_notin (hu : X.A.units + 65 < cLine) (ha : RH X W a f) (hb : RH X W b g) (hm : behindInMarks .NotIn b = false := by first | rfl | with_unfolding_all rfl) : RT X W (.Compare a [.NotIn] [b] pos) (t2 dNotIn f g) := rt_cmp (op_notInAll hu) (serves_in true) ha hb hm
end
/-! ### a + b -/
def dAdd : D → D → Option Rs
  | .int i, .int j => some (.im (.int (i + j)))
  | .str x, .str y => if sz (x.length + y.length) then some (.im (.str (x ++ y))) else none
  | .nd .tup xs, .nd .tup ys => if sz (xs.length + ys.length) then some (.im (.nd .tup (xs ++ ys))) else none
  | .nd .lst xs, .nd .lst ys => if sz (xs.length + ys.length) then some (.nw (.nd .lst (xs ++ ys))) else none
  | _, _ => none
/-- xs + ys of lists that are read -/
def rCatL (K : PySem.W.Frag) : R2 := fun x y H Q => ∃ l b xs zs, x = .ref l ∧ y = .ref b ∧ SqL K H l xs ∧ SqL K H b zs ∧ xs.length + zs.length ≤ sizeLine ∧ ∀ p, H p = none → Q (.ref p) (upd H p (.lst (xs ++ zs)))
def rAddAll (K : PySem.W.Frag) : R2 := fun x y H Q => rI0 (fun i j => .int (i + j)) x y H Q ∨ (∃ i j, x = .str i ∧ y = .str j ∧ i.length + j.length ≤ sizeLine ∧ Q (.str (i ++ j)) H) ∨ rCatA K x y H Q ∨ rCat x y H Q

theorem addL {prog : Program} {w : World} {A : Around} {E : Value → Shared → Prop} {s : Shared} {l b : Addr} {vs ws : List Value} {Q : Value → Shared → Prop} (hl : s.heap.IsList l vs.toArray) (hb : s.heap.IsList b ws.toArray)
    (h : Q (.ref s.heap.objs.size) { s with heap := s.heap.push { cls := .type "list", data := .seq (vs ++ ws).toArray } }) (hsz : vs.length + ws.length ≤ sizeLine) :
    wpAny (model prog w) A (binaryOp .Add (.ref l) (.ref b)) Q E s := by
  obtain ⟨⟨cls, dd, data, sl⟩, ho, hc, n, hd⟩ := id hl
  obtain ⟨⟨cls2, dd2, data2, sl2⟩, ho2, hc2, n2, hd2⟩ := id hb
  simp only at hc hd hc2 hd2
  subst hc hd hc2 hd2
  have e : vs.toArray ++ ws.toArray = (vs ++ ws).toArray := by simp
  refine concat_meets ⟨_, ho, rfl⟩ ⟨_, ho2, rfl⟩ noFill_list_add seq_list_add PySem.F.slot_list_add PySem.F.entry_list_add (PySem.F.args_list_add_2 _ _) (PyProof.Rows.list_addW l b vs.toArray ws.toArray n n2 dd dd2 sl sl2 (by simpa using hsz)) ⟨ho, ho2, ?_⟩
  rw [e]
  exact h
section
variable {X : Cx}
theorem op_catL : OpR X (binaryOp .Add) (rCatL X.K) := by
  intro pins s σ H x y v u Q I rx ry h
  obtain ⟨l, b, xs, zs, rfl, rfl, hH, hB, hz, q⟩ := h
  cases rx
  cases ry
  obtain ⟨its, r, p, hl⟩ := I.list hH
  obtain ⟨its2, r2, p2, hl2⟩ := I.list hB
  refine addL p.isList p2.isList ?_ (by rw [← r.length, ← r2.length]; exact hz)
  exact ⟨.ref _, _, I.lnew (t' := s.toks) (r.append r2) (by rw [List.length_append]; omega), rfl, q _ I.fresh⟩
def rAddA (K : PySem.W.Frag) : R2 := fun x y H Q => rI0 (fun i j => .int (i + j)) x y H Q ∨ ((∃ i j, x = .str i ∧ y = .str j ∧ i.length + j.length ≤ sizeLine ∧ Q (.str (i ++ j)) H) ∨ (rCatA K x y H Q ∨ rCatL K x y H Q))
theorem op_addA : OpR X (binaryOp .Add) (rAddA X.K) := OpR.or op_add (OpR.or op_add_str (OpR.or op_catA op_catL))
end
section
variable {M : Md}
theorem serves_add : ServesR M (rAddA M.K) dAdd := fun Γ Hf σ H ρ x y d e g R hx hy h Q q => by
  cases hx with
  | int i =>
    cases hy <;> first
      | (rename_i j; cases h; exact .inl ⟨i, j, rfl, rfl, q Hf H _ (Same.refl _) R (.int _)⟩)
      | cases h
  | str i =>
    cases hy with
    | str j =>
      obtain ⟨c, e⟩ := opt_ite h
      subst e
      exact .inr (.inl ⟨i, j, rfl, rfl, sz_ok c, q Hf H _ (Same.refl _) R (.str _)⟩)
    | _ => cases h
  | tup s t =>
    cases hy with
    | tup s2 t2 =>
      obtain ⟨c, e⟩ := opt_ite h
      subst e
      have c := sz_ok c
      rw [t.length, t2.length] at c
      refine .inr (.inr (.inl ⟨_, _, _, _, rfl, rfl, SqT.same R.sub s, SqT.same R.sub s2, c, fun e => ?_, fun _ e => ?_, fun _ _ p hp => ?_⟩))
      · subst e
        cases t
        exact q Hf H _ (Same.refl _) R (.tup s2 t2)
      · subst e
        cases t2
        exact q Hf H _ (Same.refl _) R (by rw [List.append_nil]; exact .tup s t)
      · obtain ⟨S3, R3⟩ := R.lay hp (.tup _)
        exact q _ _ _ S3 R3 (.tup (SqT.of upd_same) ((t.append t2).same S3))
    | _ => cases h
  | lst s t =>
    cases hy with
    | lst s2 t2 =>
      obtain ⟨c, e⟩ := opt_ite h
      subst e
      have c := sz_ok c
      rw [t.length, t2.length] at c
      refine .inr (.inr (.inr ⟨_, _, _, _, rfl, rfl, SqL.of s, SqL.of s2, c, fun p hp => ?_⟩))
      obtain ⟨R3, h0, hf, hn⟩ := R.layN hp (.lst _)
      exact q _ _ _ (Same.refl _) R3 ⟨p, rfl, h0, .lst hf upd_same (t.append t2), hn⟩
    | _ => cases h
  | non => cases h
  | bl b => cases h
  | ob a => cases h
  | scr s t => cases h
  | dct s t => cases h
  | obj g s t => cases h
  | dcx s => cases h
end
end Fx

set_option Elab.async false
set_option linter.all false
set_option maxRecDepth 100000
set_option maxHeartbeats 4000000
namespace Fx
open PySem L2
section
variable {X : Cx} {W : WX} {a b e : Expr} {pos : Pos} {f g : Env → Rz (Env × Rs)}
theorem re_add (ha : RH X W a f) (hb : RH X W b g) : RE X W (.BinOp a .Add b pos) (e2 dAdd f g) := re_op op_addA serves_add ha hb
end
/-! ### a[i] -/
def dIx : D → D → Option D
  | .nd .tup xs, .int i => atI xs i
  | .nd .lst xs, .int i => atI xs i
  | .str z, .int i => if sz z.length then (atI z.cps.toList i).map fun c => .str ⟨#[c]⟩ else none
  | _, _ => none
theorem HasAll.at {M : Md} {G : Hp} {ds : List D} {vs : List V} {i : Int} {d : D} (h : HasAll M G ds vs) (e : atI ds i = some d) : ∃ v, atI vs i = some v ∧ Has M G d v := by
  unfold atI at e ⊢
  rw [h.length] at e
  cases q : ixN vs.length i with
  | none => rw [q] at e; cases e
  | some j => rw [q] at e; exact h.get (show ds[j]? = some d from e)
theorem serves_ix {M : Md} : ServesD M (rIx M.K) dIx := fun Hf H x y d e g hx hy S h Q q => by
  cases hx with
  | tup s t =>
    cases hy with
    | int i =>
      obtain ⟨v, h1, h2⟩ := t.at h
      exact .inr (.inl ⟨_, _, i, v, rfl, rfl, SqT.same S s, h1, q v h2⟩)
    | _ => cases h
  | lst s t =>
    cases hy with
    | int i =>
      obtain ⟨v, h1, h2⟩ := t.at h
      exact .inl ⟨_, _, i, v, rfl, rfl, SqL.of s, h1, q v h2⟩
    | _ => cases h
  | str z =>
    cases hy with
    | int i =>
      have h' : (if sz z.length = true then (atI z.cps.toList i).map fun c => D.str ⟨#[c]⟩ else none) = some g := h
      cases c : sz z.length with
      | false => rw [c] at h'; cases h'
      | true =>
        rw [c] at h'
        cases q2 : atI z.cps.toList i with
        | none => rw [q2] at h'; cases h'
        | some k =>
          rw [q2] at h'
          cases h'
          exact .inr (.inr ⟨z, i, k, rfl, rfl, sz_ok c, q2, q _ (.str _)⟩)
    | _ => cases h
  | int i => cases hy <;> cases h
  | non => cases hy <;> cases h
  | bl b => cases hy <;> cases h
  | ob a => cases hy <;> cases h
  | scr s t => cases hy <;> cases h
  | dct s t => cases hy <;> cases h
  | obj g s t => cases hy <;> cases h
  | dcx s => cases hy <;> cases h
section
variable {X : Cx} {W : WX} {a b e : Expr} {pos p2 : Pos} {f g : Env → Rz (Env × Rs)}
theorem rv_ix (ha : RH X W a f) (hb : RH X W b g) (hs : PlainIx b := by exact fun _ _ => rfl) : RV X W (.Subscript a b pos) (v2 dIx f g) := pe_mono (pe_ix ix_seq ha hb hs) (v2_imp serves_ix)
/-! ### a[lo:hi], xs[::-1] -/
def rdO (M : Md) (W : WX) (f : Env → Rz (Env × Option Int)) : TO := fun σ H Q => ∃ Γ Hf ρ, Rep M Γ Hf σ H ρ ∧
  (f ρ).wp (fun p => ∀ Hf' H', Same Hf Hf' → Rep M Γ Hf' σ H' p.1 → Q p.2 H') (EPf M W Γ Hf σ)
abbrev RO (X : Cx) (W : WX) (e : Option Expr) (f : Env → Rz (Env × Option Int)) : Prop := PO X e (rdO ⟨X.K, X.mg⟩ W f)
theorem po_mono {e : Option Expr} {t t' : TO} (h : PO X e t) (i : ∀ σ H Q, t' σ H Q → t σ H Q) : PO X e t' := ⟨fun pins s σ H Q I q => h.run pins s σ H Q I (i σ H Q q)⟩
theorem bindO {M : Md} {Γ : Gh} {Hf : Hp} {σ : L2.St} {H : Hp} {ρ : Env} {β : Type} {P : β → Prop} {f : Env → Rz (Env × Option Int)} {g : Env × Option Int → Rz β} {Q : Option Int → Hp → Prop} (R : Rep M Γ Hf σ H ρ) (hw : ((f ρ).bind g).wp P (EPf M W Γ Hf σ))
    (k : ∀ ρ1 b Hf1 H1, Same Hf Hf1 → Rep M Γ Hf1 σ H1 ρ1 → (g (ρ1, b)).wp P (EPf M W Γ Hf1 σ) → Q b H1) : rdO M W f σ H Q :=
  ⟨Γ, Hf, ρ, R, Rz.wp_mono (Rz.wp_bind hw) (fun p hp Hf1 H1 S R1 => k p.1 p.2 Hf1 H1 S R1 (Rz.wp_mono hp (fun _ z => z) (EPf.up S))) (fun _ _ z => z)⟩
def oNone : Env → Rz (Env × Option Int) := fun ρ => .ok (ρ, none)
def oSome (f : Env → Rz (Env × D)) : Env → Rz (Env × Option Int) := fun ρ => (f ρ).bind fun p => match p.2 with
  | .int i => .ok (p.1, some i)
  | _ => .no
theorem ro_none : RO X W none oNone := po_mono po_none fun σ H Q ⟨Γ, Hf, ρ, R, hw⟩ => hw Hf H (Same.refl _) R
theorem ro_some {f : Env → Rz (Env × D)} (h : RV X W e f) : RO X W (some e) (oSome f) := po_mono (po_some h) fun σ H Q ⟨Γ, Hf, ρ, R, hw⟩ =>
  bindV R hw fun ρ1 d Hf1 H1 v S R1 hv hq => by
    cases hv with
    | int i => exact ⟨i, rfl, hq Hf1 H1 S R1⟩
    | _ => exact hq.elim
def cutA {α : Type} (xs : List α) (lo hi : Option Int) : List α := (xs.drop (HT.sIx xs.length 0 lo)).take (HT.sIx xs.length xs.length hi - HT.sIx xs.length 0 lo)
theorem HasAll.cut {M : Md} {G : Hp} {ds : List D} {vs : List V} (h : HasAll M G ds vs) (lo hi : Option Int) : HasAll M G (cutA ds lo hi) (cutV vs lo hi) := by
  unfold cutA cutV
  rw [h.length]
  exact (h.drop _).take _
def dSl : D → Option Int → Option Int → Option Rs
  | .nd .tup xs, lo, hi => some (.im (.nd .tup (cutA xs lo hi)))
  | .nd .lst xs, lo, hi => some (.nw (.nd .lst (cutA xs lo hi)))
  | .nd .scr xs, lo, hi => some (.nw (.nd .lst (cutA xs lo hi)))
  | .str z, lo, hi => if sz z.length then some (.im (.str (cutS z lo hi))) else none
  | _, _, _ => none
def eSl (f : Env → Rz (Env × Rs)) (l h : Env → Rz (Env × Option Int)) : Env → Rz (Env × Rs) := fun ρ => (f ρ).bind fun p => (l p.1).bind fun q => (h q.1).bind fun r => (Rz.ofO (peek r.1 p.2)).bind fun d => (Rz.ofO (dSl d q.2 r.2)).bind fun x => .ok (r.1, x)
theorem cut_whole {α : Type} {xs : List α} {lo hi : Option Int} (h : HT.sIx xs.length 0 lo = 0 ∧ HT.sIx xs.length xs.length hi = xs.length) : cutA xs lo hi = xs := by
  unfold cutA
  rw [h.1, h.2, List.drop_zero, Nat.sub_zero, List.take_length]
theorem re_slice {lo hi : Option Expr} {l h : Env → Rz (Env × Option Int)} (ha : RH X W a f) (hl : RO X W lo l) (hh : RO X W hi h) : RE X W (.Subscript a (.Slice lo hi none p2) pos) (eSl f l h) :=
  pe_mono (pe_slice (SlR.or sl_list (SlR.or sl_tupA sl_str)) ha hl hh) fun σ H Q ⟨Γ, Hf, ρ, R, hw⟩ => bindH R hw fun ρ1 r Hf1 H1 v S1 R1 hv hq => bindO R1 hq fun ρ2 lo' Hf2 H2 S2 R2 hq2 => bindO R2 hq2 fun ρ3 hi' Hf3 H3 S3 R3 hq3 => by
    obtain ⟨d, e1, hq3⟩ := ofO_bind hq3
    obtain ⟨x, e2, hq3⟩ := ofO_bind hq3
    have T := R3.peek ((hv.up S2).up S3).rs e1
    have S := S1.trans (S2.trans S3)
    cases T with
    | tup s t =>
      cases e2
      refine .inr (.inl ⟨_, _, rfl, SqT.same R3.sub s, fun w => ?_, fun _ p hp => ?_⟩)
      · have e : cutA _ lo' hi' = _ := cut_whole (by rw [← t.length] at w; exact w)
        exact hq3 Hf3 H3 _ S R3 (by show Has _ _ _ _; rw [e]; exact .tup s t)
      · obtain ⟨S4, R4⟩ := R3.lay hp (.tup _)
        exact hq3 _ _ _ (S.trans S4) R4 (.tup (SqT.of upd_same) ((t.cut lo' hi').same S4))
    | lst s t =>
      cases e2
      refine .inl ⟨_, _, rfl, SqL.of s, fun p hp => ?_⟩
      obtain ⟨R4, h0, hf, hn⟩ := R3.layN hp (.lst _)
      exact hq3 _ _ _ S R4 ⟨p, rfl, h0, .lst hf upd_same (t.cut lo' hi'), hn⟩
    | scr s t =>
      cases e2
      refine .inl ⟨_, _, rfl, R3.sub.seq s, fun p hp => ?_⟩
      obtain ⟨R4, h0, hf, hn⟩ := R3.layN hp (.lst _)
      exact hq3 _ _ _ S R4 ⟨p, rfl, h0, .lst hf upd_same (t.cut lo' hi'), hn⟩
    | str z =>
      obtain ⟨c, ex⟩ := opt_ite e2
      subst ex
      exact .inr (.inr ⟨z, rfl, sz_ok c, hq3 Hf3 H3 _ S R3 (.str _)⟩)
    | _ => cases e2
def dRev : D → Option D
  | .nd .lst xs => some (.nd .lst xs.reverse)
  | _ => none
def eRev (f : Env → Rz (Env × Rs)) : Env → Rz (Env × Rs) := fun ρ => (f ρ).bind fun p => (Rz.ofO (peek p.1 p.2)).bind fun d => (Rz.ofO (dRev d)).bind fun x => .ok (p.1, .nw x)
theorem re_rev {k : Nat} {p1 p2 p3 : Pos} (ha : RH X W a f) : RE X W (.Subscript a (.Slice none none (some (.UnaryOp .USub (.Constant (.int 1) k p1) p2)) p3) pos) (eRev f) :=
  pe_mono (pe_revL ha) fun σ H Q ⟨Γ, Hf, ρ, R, hw⟩ => bindH R hw fun ρ1 r Hf1 H1 v S1 R1 hv hq => by
    obtain ⟨d, e1, hq⟩ := ofO_bind hq
    obtain ⟨x, e2, hq⟩ := ofO_bind hq
    have T := R1.peek hv.rs e1
    cases T with
    | lst s t =>
      cases e2
      refine ⟨_, _, rfl, SqL.of s, fun p hp => ?_⟩
      obtain ⟨R4, h0, hf, hn⟩ := R1.layN hp (.lst _)
      exact hq _ _ _ S1 R4 ⟨p, rfl, h0, .lst hf upd_same t.reverse, hn⟩
    | _ => cases e2

/-! ### tests, and, or, not, if else -/
def tV (f : Env → Rz (Env × D)) : Env → Rz (Env × Bool) := fun ρ => (f ρ).bind fun p => match p.2 with
  | .bl b => .ok (p.1, b)
  | _ => .no
theorem rt_val {f : Env → Rz (Env × D)} (h : RV X W e f) (he : ∀ whole, isTrue e X.env whole = (do let v ← whole; standAt e.pos; holding [v] (truthy v)) := by intro _; rfl) : RT X W e (tV f) :=
  pt_mono (pt_val h he) fun σ H Q ⟨Γ, Hf, ρ, R, hw⟩ => bindV R hw fun ρ1 d Hf1 H1 v S R1 hv hq => by
    cases hv with
    | bl b => exact ⟨b, rfl, hq Hf1 H1 S R1⟩
    | _ => exact hq.elim
def dTru : D → Option Bool
  | .non => some false
  | .bl b => some b
  | .int i => some (i != 0)
  | .str x => if sz x.length then some ((x.length : Int) != 0) else none
  | .nd .tup xs => some (!xs.isEmpty)
  | .nd .lst xs => some (!xs.isEmpty)
  | _ => none
def tTru (f : Env → Rz (Env × Rs)) : Env → Rz (Env × Bool) := fun ρ => (f ρ).bind fun p => (Rz.ofO (peek p.1 p.2)).bind fun d => (Rz.ofO (dTru d)).bind fun b => .ok (p.1, b)
def tAnd (f g : Env → Rz (Env × Bool)) : Env → Rz (Env × Bool) := fun ρ => (f ρ).bind fun p => if p.2 = true then g p.1 else .ok (p.1, false)
def tOr (f g : Env → Rz (Env × Bool)) : Env → Rz (Env × Bool) := fun ρ => (f ρ).bind fun p => if p.2 = true then .ok (p.1, true) else g p.1
def tNot (f : Env → Rz (Env × Bool)) : Env → Rz (Env × Bool) := fun ρ => (f ρ).bind fun p => .ok (p.1, !p.2)
variable {tf tg : Env → Rz (Env × Bool)} {rest : List Expr}
theorem rdT_pass {M : Md} {f : Env → Rz (Env × Bool)} {Γ : Gh} {Hf : Hp} {σ : L2.St} {H : Hp} {ρ : Env} {Q : Bool → Hp → Prop} (R : Rep M Γ Hf σ H ρ) (h : (f ρ).wp (fun p => ∀ Hf' H', Same Hf Hf' → Rep M Γ Hf' σ H' p.1 → Q p.2 H') (EPf M W Γ Hf σ)) : rdT M W f σ H Q := ⟨Γ, Hf, ρ, R, h⟩
theorem and_imp {M : Md} : ∀ σ H Q, rdT M W (tAnd tf tg) σ H Q → L2.tAnd (rdT M W tf) (rdT M W tg) σ H Q := fun σ H Q ⟨Γ, Hf, ρ, R, hw⟩ => bindT R hw fun ρ1 b Hf1 H1 S R1 hq => by
  cases b with
  | true => exact iteT (rdT_pass R1 (Rz.wp_mono hq (fun p hp Hf' H' S' R' => hp Hf' H' (S.trans S') R') fun _ _ z => z))
  | false => exact iteF (hq Hf1 H1 S R1)
theorem or_imp {M : Md} : ∀ σ H Q, rdT M W (tOr tf tg) σ H Q → L2.tOr (rdT M W tf) (rdT M W tg) σ H Q := fun σ H Q ⟨Γ, Hf, ρ, R, hw⟩ => bindT R hw fun ρ1 b Hf1 H1 S R1 hq => by
  cases b with
  | true => exact iteT (hq Hf1 H1 S R1)
  | false => exact iteF (rdT_pass R1 (Rz.wp_mono hq (fun p hp Hf' H' S' R' => hp Hf' H' (S.trans S') R') fun _ _ z => z))
theorem rw_and1 (ha : RT X W a tf) : RW X W (.BoolOp .And [a] pos) tf := pw_and1 ha
theorem rw_or1 (ha : RT X W a tf) : RW X W (.BoolOp .Or [a] pos) tf := pw_or1 ha
theorem rw_and (ha : RT X W a tf) (hb : RW X W (.BoolOp .And (b :: rest) pos) tg) : RW X W (.BoolOp .And (a :: b :: rest) pos) (tAnd tf tg) := pw_mono (pw_and ha hb) and_imp
theorem rw_or (ha : RT X W a tf) (hb : RW X W (.BoolOp .Or (b :: rest) pos) tg) : RW X W (.BoolOp .Or (a :: b :: rest) pos) (tOr tf tg) := pw_mono (pw_or ha hb) or_imp
theorem rt_w (h : RW X W e tf) : RT X W e tf := h.pt
theorem rt_not (ha : RT X W a tf) : RT X W (.UnaryOp .Not a pos) (tNot tf) := pt_mono (pt_not ha) fun σ H Q ⟨Γ, Hf, ρ, R, hw⟩ => bindT R hw fun ρ1 b Hf1 H1 S R1 hq => hq Hf1 H1 S R1
/-- an expression of any kind as a test -/
theorem rt_tru (ha : RH X W e f) (he : ∀ whole, isTrue e X.env whole = (do let v ← whole; standAt e.pos; holding [v] (truthy v)) := by intro _; rfl) : RT X W e (tTru f) :=
  pt_mono (pt_truth ha he) fun σ H Q ⟨Γ, Hf, ρ, R, hw⟩ => bindH R hw fun ρ1 r Hf1 H1 v S1 R1 hv hq => by
    obtain ⟨d, e1, hq⟩ := ofO_bind hq
    obtain ⟨x, e2, hq⟩ := ofO_bind hq
    have T := R1.peek hv.rs e1
    refine ⟨x, ?_, hq Hf1 H1 S1 R1⟩
    cases T with
    | non => cases e2; rfl
    | bl b => cases e2; rfl
    | int i => cases e2; rfl
    | str z =>
      obtain ⟨c, ex⟩ := opt_ite e2
      exact ⟨sz_ok c, ex.symm⟩
    | tup s t => cases e2; exact .inr (.inl ⟨_, SqT.same R1.sub s, by cases t <;> rfl⟩)
    | lst s t => cases e2; exact .inl ⟨_, SqL.of s, by cases t <;> rfl⟩
    | _ => cases e2
/-- as values: truths -/
def vAnd (f g : Env → Rz (Env × D)) : Env → Rz (Env × D) := fun ρ => (f ρ).bind fun p => match p.2 with
  | .bl true => g p.1
  | .bl false => .ok (p.1, .bl false)
  | _ => .no
def vOr (f g : Env → Rz (Env × D)) : Env → Rz (Env × D) := fun ρ => (f ρ).bind fun p => match p.2 with
  | .bl true => .ok (p.1, .bl true)
  | .bl false => g p.1
  | _ => .no
def vNot (f : Env → Rz (Env × D)) : Env → Rz (Env × D) := fun ρ => (f ρ).bind fun p => match p.2 with
  | .bl b => .ok (p.1, .bl (!b))
  | _ => .no
theorem rdV_pass {M : Md} {f : Env → Rz (Env × D)} {Γ : Gh} {Hf : Hp} {σ : L2.St} {H : Hp} {ρ : Env} {Q : VK} (R : Rep M Γ Hf σ H ρ) (h : (f ρ).wp (fun p => ∀ Hf' H' v, Same Hf Hf' → Rep M Γ Hf' σ H' p.1 → Has M Hf' p.2 v → Q v H') (EPf M W Γ Hf σ)) : rdV M W f σ H Q := ⟨Γ, Hf, ρ, R, h⟩
variable {vf vg : Env → Rz (Env × D)}
theorem rv_and1 {op} (h : RV X W a vf) : RV X W (.BoolOp op [a] pos) vf := pe_one h
theorem rv_and (ha : RV X W a vf) (hb : RV X W (.BoolOp .And (b :: rest) pos) vg) : RV X W (.BoolOp .And (a :: b :: rest) pos) (vAnd vf vg) :=
  pe_mono (pe_and ha hb) fun σ H Q ⟨Γ, Hf, ρ, R, hw⟩ => bindV R hw fun ρ1 d Hf1 H1 v S R1 hv hq => by
    cases hv with
    | bl b =>
      refine ⟨b, rfl, ?_⟩
      cases b with
      | true => exact iteT (rdV_pass R1 (Rz.wp_mono hq (fun p hp Hf' H' v S' R' => hp Hf' H' v (S.trans S') R') fun _ _ z => z))
      | false => exact iteF (hq Hf1 H1 _ S R1 (.bl _))
    | _ => exact hq.elim
theorem rv_or (ha : RV X W a vf) (hb : RV X W (.BoolOp .Or (b :: rest) pos) vg) : RV X W (.BoolOp .Or (a :: b :: rest) pos) (vOr vf vg) :=
  pe_mono (pe_or ha hb) fun σ H Q ⟨Γ, Hf, ρ, R, hw⟩ => bindV R hw fun ρ1 d Hf1 H1 v S R1 hv hq => by
    cases hv with
    | bl b =>
      refine ⟨b, rfl, ?_⟩
      cases b with
      | true => exact iteT (hq Hf1 H1 _ S R1 (.bl _))
      | false => exact iteF (rdV_pass R1 (Rz.wp_mono hq (fun p hp Hf' H' v S' R' => hp Hf' H' v (S.trans S') R') fun _ _ z => z))
    | _ => exact hq.elim
theorem rv_not (ha : RV X W a vf) : RV X W (.UnaryOp .Not a pos) (vNot vf) := pe_mono (pe_not ha) fun σ H Q ⟨Γ, Hf, ρ, R, hw⟩ => bindV R hw fun ρ1 d Hf1 H1 v S R1 hv hq => by
    cases hv with
    | bl b => exact ⟨b, rfl, hq Hf1 H1 _ S R1 (.bl _)⟩
    | _ => exact hq.elim
/-- a if t else b -/
def vIf (t : Env → Rz (Env × Bool)) (f g : Env → Rz (Env × D)) : Env → Rz (Env × D) := fun ρ => (t ρ).bind fun p => if p.2 = true then f p.1 else g p.1
def eIf (t : Env → Rz (Env × Bool)) (f g : Env → Rz (Env × Rs)) : Env → Rz (Env × Rs) := fun ρ => (t ρ).bind fun p => if p.2 = true then f p.1 else g p.1
theorem rv_if {c : Expr} (hc : RT X W c tf) (ha : RV X W a vf) (hb : RV X W b vg) : RV X W (.IfExp c a b pos) (vIf tf vf vg) :=
  pe_mono (pe_ifExp hc ha hb) fun σ H Q ⟨Γ, Hf, ρ, R, hw⟩ => bindT R hw fun ρ1 b Hf1 H1 S R1 hq => by
    cases b with
    | true => exact iteT (rdV_pass R1 (Rz.wp_mono hq (fun p hp Hf' H' v S' R' => hp Hf' H' v (S.trans S') R') fun _ _ z => z))
    | false => exact iteF (rdV_pass R1 (Rz.wp_mono hq (fun p hp Hf' H' v S' R' => hp Hf' H' v (S.trans S') R') fun _ _ z => z))
theorem re_if {c : Expr} (hc : RT X W c tf) (ha : RE X W a f) (hb : RE X W b g) : RE X W (.IfExp c a b pos) (eIf tf f g) :=
  pe_mono (pe_ifExp hc ha hb) fun σ H Q ⟨Γ, Hf, ρ, R, hw⟩ => bindT R hw fun ρ1 b Hf1 H1 S R1 hq => by
    cases b with
    | true => exact iteT ⟨Γ, Hf1, ρ1, R1, (Rz.wp_mono hq (fun p hp Hf' H' v S' R' => hp Hf' H' v (S.trans S') R') fun _ _ z => z)⟩
    | false => exact iteF ⟨Γ, Hf1, ρ1, R1, (Rz.wp_mono hq (fun p hp Hf' H' v S' R' => hp Hf' H' v (S.trans S') R') fun _ _ z => z)⟩
/-- -a -/
def dNeg : D → Option D
  | .int i => some (.int (-i))
  | _ => none
def v1 (F : D → Option D) (f : Env → Rz (Env × Rs)) : Env → Rz (Env × D) := fun ρ => (f ρ).bind fun p => (Rz.ofO (peek p.1 p.2)).bind fun d => (Rz.ofO (F d)).bind fun x => .ok (p.1, x)
theorem rv_neg (ha : RH X W a f) : RV X W (.UnaryOp .USub a pos) (v1 dNeg f) := pe_mono (pe_un un_neg ha) fun σ H Q ⟨Γ, Hf, ρ, R, hw⟩ => bindH R hw fun ρ1 r Hf1 H1 v S1 R1 hv hq => by
    obtain ⟨d, e1, hq⟩ := ofO_bind hq
    obtain ⟨x, e2, hq⟩ := ofO_bind hq
    have T := R1.peek hv.rs e1
    cases T with
    | int i => cases e2; exact ⟨i, rfl, hq Hf1 H1 _ S1 R1 (.int _)⟩
    | _ => cases e2
/-- a is None -/
def dIsN (d : D) : Bool := match d with
  | .non => true
  | _ => false
theorem isN_eq {M : Md} {Hf H : Hp} {d : D} {v : V} (T : HasT M Hf H d v) : decide (v = .non) = dIsN d := by cases T <;> rfl
def vIsN (f : Env → Rz (Env × Rs)) : Env → Rz (Env × D) := v1 (fun d => some (.bl (dIsN d))) f
def vNotN (f : Env → Rz (Env × Rs)) : Env → Rz (Env × D) := v1 (fun d => some (.bl (!dIsN d))) f
theorem rv_isN {j pos'} (ha : RH X W a f) : RV X W (.Compare a [.Is] [.Constant .none j pos'] pos) (vIsN f) := pe_mono (pe_cmp (pc_isN ha) rfl) fun σ H Q ⟨Γ, Hf, ρ, R, hw⟩ => bindH R hw fun ρ1 r Hf1 H1 v S1 R1 hv hq => by
    obtain ⟨d, e1, hq⟩ := ofO_bind hq
    have T := R1.peek hv.rs e1
    rw [isN_eq T]
    exact hq Hf1 H1 _ S1 R1 (.bl _)
theorem rv_notN {j pos'} (ha : RH X W a f) : RV X W (.Compare a [.IsNot] [.Constant .none j pos'] pos) (vNotN f) := pe_mono (pe_cmp (pc_notN ha) rfl) fun σ H Q ⟨Γ, Hf, ρ, R, hw⟩ => bindH R hw fun ρ1 r Hf1 H1 v S1 R1 hv hq => by
    obtain ⟨d, e1, hq⟩ := ofO_bind hq
    have T := R1.peek hv.rs e1
    rw [isN_eq T]
    exact hq Hf1 H1 _ S1 R1 (.bl _)
end
end Fx

set_option Elab.async false
set_option linter.all false
set_option maxRecDepth 100000
set_option maxHeartbeats 4000000
namespace Fx
open PySem L2
/-! ### calls of built-ins, by the data of the arguments -/
inductive HasTAll (M : Md) (Hf H : Hp) : List D → List V → Prop
  | nil : HasTAll M Hf H [] []
  | cons {d : D} {ds : List D} {v : V} {vs : List V} : HasT M Hf H d v → HasTAll M Hf H ds vs → HasTAll M Hf H (d :: ds) (v :: vs)
def peekAll (ρ : Env) : List Rs → Option (List D)
  | [] => some []
  | r :: rs => (peek ρ r).bind fun d => (peekAll ρ rs).bind fun ds => some (d :: ds)
theorem Rep.peekAll {M : Md} {Γ : Gh} {Hf : Hp} {σ : L2.St} {H : Hp} {ρ : Env} (R : Rep M Γ Hf σ H ρ) : ∀ {rs : List Rs} {vs : List V} {ds : List D}, HsAll M Hf σ rs vs → Fx.peekAll ρ rs = some ds → HasTAll M Hf H ds vs
  | _, _, _, .nil, e => by cases e; exact .nil
  | r :: rs, _, ds, .cons h t, e => by
    have e' : ((Fx.peek ρ r).bind fun d => (Fx.peekAll ρ rs).bind fun ds => some (d :: ds)) = some ds := e
    cases u : Fx.peek ρ r with
    | none => rw [u] at e'; cases e'
    | some d =>
      rw [u] at e'
      cases u2 : Fx.peekAll ρ rs with
      | none => rw [Option.bind_some, u2] at e'; cases e'
      | some ds' =>
        rw [Option.bind_some, u2] at e'
        cases e'
        exact .cons (R.peek h.rs u) (R.peekAll t u2)
def ServesC (M : Md) (r : List V → Hp → VK → Prop) (F : List D → Option Rs) : Prop := ∀ Γ Hf σ H ρ vs ds g, Rep M Γ Hf σ H ρ → HasTAll M Hf H ds vs → F ds = some g →
  ∀ Q : VK, (∀ Hf' H' v, Same Hf Hf' → Rep M Γ Hf' σ H' ρ → RsIs M Γ Hf' σ H' ρ g v → Q v H') → r vs H Q
def eB (F : List D → Option Rs) (f : Env → Rz (Env × List Rs)) : Env → Rz (Env × Rs) := fun ρ => (f ρ).bind fun p => (Rz.ofO (peekAll p.1 p.2)).bind fun ds => (Rz.ofO (F ds)).bind fun x => .ok (p.1, x)
section
variable {X : Cx} {W : WX} {e : Expr} {es : List Expr} {pos p : Pos} {f : Env → Rz (Env × List Rs)} {x : Str} {id T : String} {r : List V → Hp → VK → Prop} {F : List D → Option Rs}
theorem eB_imp {M : Md} (hs : ServesC M r F) : ∀ σ H Q, rdE M W (eB F f) σ H Q → tCB r (rdHs M W f) σ H Q := fun σ H Q ⟨Γ, Hf, ρ, R, hw⟩ => bindHs R hw fun ρ1 rs Hf1 H1 vs S1 R1 hvs hq => by
  obtain ⟨ds, e1, hq⟩ := ofO_bind hq
  obtain ⟨g, e2, hq⟩ := ofO_bind hq
  exact hs Γ Hf1 _ H1 ρ1 vs ds g R1 (R1.peekAll hvs e1) e2 Q fun Hf' H' v S' R' h => hq Hf' H' v (S1.trans S') R' h
theorem re_callB (hc : CallR X (.builtin id) r) (hs : ServesC ⟨X.K, X.mg⟩ r F) (hg : Gl X x) (hm : X.mg x = none) (hv : bootBuiltins x = some (.builtin id)) (ha : RHs X W (e :: es) f) (hn : x ≠ "__name__" := by decide) (hdb : (x == ("__debug__" : Str)) = false := by decide)
    (he : starEach (e :: es) X.env = (false, eval e X.env) :: starEach es X.env := by rfl) (hpl : (backTo pos (starEach es X.env)).any (·.1) = false := by rfl) : RE X W (.Call (.Name x p) (e :: es) [] pos) (eB F f) :=
  pe_mono (pe_callB hc hg hm hv ha hn hdb he hpl) (eB_imp hs)
theorem re_callT (hc : CallR X (.type T) r) (hs : ServesC ⟨X.K, X.mg⟩ r F) (hg : Gl X x) (hm : X.mg x = none) (hv : bootBuiltins x = some (.type T)) (ha : RHs X W (e :: es) f) (hn : x ≠ "__name__" := by decide) (hdb : (x == ("__debug__" : Str)) = false := by decide)
    (he : starEach (e :: es) X.env = (false, eval e X.env) :: starEach es X.env := by rfl) (hpl : (backTo pos (starEach es X.env)).any (·.1) = false := by rfl) : RE X W (.Call (.Name x p) (e :: es) [] pos) (eB F f) :=
  pe_mono (pe_callTy hc hg hm hv ha hn hdb he hpl) (eB_imp hs)
end
def dInt : List D → Option Rs
  | [.int i] => some (.im (.int i))
  | [.bl b] => some (.im (.int (if b then 1 else 0)))
  | _ => none
def dAbs : List D → Option Rs
  | [.int i] => some (.im (.int (if i < 0 then -i else i)))
  | _ => none
def dLen : List D → Option Rs
  | [.nd .tup xs] => some (.im (.int xs.length))
  | [.nd .lst xs] => some (.im (.int xs.length))
  | [.str z] => if sz z.length then some (.im (.int z.length)) else none
  | _ => none
def dTuple : List D → Option Rs
  | [.nd .tup xs] => some (.im (.nd .tup xs))
  | [.nd .lst xs] => some (.im (.nd .tup xs))
  | _ => none
def dList : List D → Option Rs
  | [.nd .tup xs] => some (.nw (.nd .lst xs))
  | [.nd .lst xs] => some (.nw (.nd .lst xs))
  | _ => none
def D.showable (d : D) : Bool := d.plain && (PyData.showable d.py && (sz d.py.shown.length && decide (d.py.depth ≤ 64)))
def dRepr : List D → Option Rs
  | [d] => if d.showable then some (.im (.str d.py.shown)) else none
  | _ => none
section
variable {M : Md}
theorem serves_int : ServesC M (fun xs H Q => (∃ i, xs = [.int i] ∧ Q (.int i) H) ∨ ∃ k, xs = [.bl k] ∧ Q (.int (if k then 1 else 0)) H) dInt := fun Γ Hf σ H ρ vs ds g R hv h Q q => by
  cases hv with
  | nil => cases h
  | cons h1 h2 =>
    cases h2 with
    | cons _ _ => cases h1 <;> cases h
    | nil =>
      cases h1 with
      | int i => cases h; exact .inl ⟨i, rfl, q Hf H _ (Same.refl _) R (.int _)⟩
      | bl b => cases h; exact .inr ⟨b, rfl, q Hf H _ (Same.refl _) R (.int _)⟩
      | _ => cases h
theorem serves_abs : ServesC M (fun xs H Q => ∃ i, xs = [.int i] ∧ Q (.int (if i < 0 then -i else i)) H) dAbs := fun Γ Hf σ H ρ vs ds g R hv h Q q => by
  cases hv with
  | nil => cases h
  | cons h1 h2 =>
    cases h2 with
    | cons _ _ => cases h1 <;> cases h
    | nil =>
      cases h1 with
      | int i => cases h; exact ⟨i, rfl, q Hf H _ (Same.refl _) R (.int _)⟩
      | _ => cases h
theorem serves_len : ServesC M (fun xs H Q => ∃ x n, xs = [x] ∧ LenV M.K x H n ∧ Q (.int n) H) dLen := fun Γ Hf σ H ρ vs ds g R hv h Q q => by
  cases hv with
  | nil => cases h
  | cons h1 h2 =>
    cases h2 with
    | cons _ _ => cases h1 <;> cases h
    | nil =>
      cases h1 with
      | tup s t => cases h; exact ⟨_, _, rfl, .inr ⟨_, SqT.same R.sub s, t.length⟩, q Hf H _ (Same.refl _) R (.int _)⟩
      | lst s t => cases h; exact ⟨_, _, rfl, .inl ⟨_, SqL.of s, t.length⟩, q Hf H _ (Same.refl _) R (.int _)⟩
      | str z =>
        obtain ⟨c, e⟩ := opt_ite h
        subst e
        exact ⟨_, _, rfl, ⟨sz_ok c, rfl⟩, q Hf H _ (Same.refl _) R (.int _)⟩
      | _ => cases h
theorem serves_tuple : ServesC M (fun xs H Q => ∃ p ys, xs = [.ref p] ∧ ((SqL M.K H p ys ∧ ∀ l, H l = none → Q (.ref l) (upd H l (.tup ys))) ∨ (SqT M.K H p ys ∧ Q (.ref p) H))) dTuple := fun Γ Hf σ H ρ vs ds g R hv h Q q => by
  cases hv with
  | nil => cases h
  | cons h1 h2 =>
    cases h2 with
    | cons _ _ => cases h1 <;> cases h
    | nil =>
      cases h1 with
      | tup s t => cases h; exact ⟨_, _, rfl, .inr ⟨SqT.same R.sub s, q Hf H _ (Same.refl _) R (.tup s t)⟩⟩
      | lst s t =>
        cases h
        refine ⟨_, _, rfl, .inl ⟨SqL.of s, fun p hp => ?_⟩⟩
        obtain ⟨S, R'⟩ := R.lay hp (.tup _)
        exact q _ _ _ S R' (.tup (SqT.of upd_same) (t.same S))
      | _ => cases h
theorem serves_list : ServesC M (fun xs H Q => ∃ p ys, xs = [.ref p] ∧ (SqL M.K H p ys ∨ SqT M.K H p ys) ∧ ∀ l, H l = none → Q (.ref l) (upd H l (.lst ys))) dList := fun Γ Hf σ H ρ vs ds g R hv h Q q => by
  have fin : ∀ {vs : List V} {ds : List D}, HasAll M Hf ds vs → g = .nw (.nd .lst ds) → ∀ l, H l = none → Q (.ref l) (upd H l (.lst vs)) := fun {vs ds} t e p hp => by
    subst e
    obtain ⟨R4, h0, hf, hn⟩ := R.layN hp (.lst vs)
    exact q _ _ _ (Same.refl _) R4 ⟨p, rfl, h0, .lst hf upd_same t, hn⟩
  cases hv with
  | nil => cases h
  | cons h1 h2 =>
    cases h2 with
    | cons _ _ => cases h1 <;> cases h
    | nil =>
      cases h1 with
      | tup s t => cases h; exact ⟨_, _, rfl, .inr (SqT.same R.sub s), fin t rfl⟩
      | lst s t => cases h; exact ⟨_, _, rfl, .inl (SqL.of s), fin t rfl⟩
      | _ => cases h
end
/-- repr of data -/
def rRepr (K : PySem.W.Frag) : List V → Hp → VK → Prop := fun xs H Q => ∃ x d, xs = [x] ∧ Dp K H x d ∧ PyData.showable d = true ∧ d.shown.length ≤ sizeLine ∧ d.depth ≤ 64 ∧ Q (.str d.shown) H
theorem dp_noDict {K : PySem.W.Frag} {H : Hp} : ∀ (d : PyData) (x : V), Dp K H x d → PyData.hasDict d = false := by
  have all : (∀ (d : PyData) (x : V), Dp K H x d → PyData.hasDict d = false) ∧ (∀ (ds : List PyData) (xs : List V), DpAll K H xs ds → PyData.hasDictAll ds = false) := by
    constructor
    · intro d x h
      exact Dp.rec (motive_1 := fun x d _ => PyData.hasDict d = false) (motive_2 := fun xs ds _ => PyData.hasDictAll ds = false)
        (by rw [PyData.hasDict]) (fun _ => by rw [PyData.hasDict]) (fun _ => by rw [PyData.hasDict]) (fun _ => by rw [PyData.hasDict]) (fun _ _ ih => by rw [PyData.hasDict]; exact ih) (fun _ _ ih => by rw [PyData.hasDict]; exact ih)
        (by rw [PyData.hasDictAll]) (fun _ _ i1 i2 => by rw [PyData.hasDictAll, i1, i2]; rfl) h
    · intro ds xs h
      exact DpAll.rec (motive_1 := fun x d _ => PyData.hasDict d = false) (motive_2 := fun xs ds _ => PyData.hasDictAll ds = false)
        (by rw [PyData.hasDict]) (fun _ => by rw [PyData.hasDict]) (fun _ => by rw [PyData.hasDict]) (fun _ => by rw [PyData.hasDict]) (fun _ _ ih => by rw [PyData.hasDict]; exact ih) (fun _ _ ih => by rw [PyData.hasDict]; exact ih)
        (by rw [PyData.hasDictAll]) (fun _ _ i1 i2 => by rw [PyData.hasDictAll, i1, i2]; rfl) h
  exact all.1
section
variable {X : Cx}
theorem call_reprD (hg : X.A.guards = some []) (hu : X.A.units + 65 < cLine) : CallR X (.builtin "repr") (rRepr X.K) := by
  intro pins s σ H xs us Q I r h
  obtain ⟨x, d, rfl, hd, hs, hz, hdep, q⟩ := h
  obtain ⟨u, rfl, rx⟩ := vals1 r
  obtain ⟨as, rd⟩ := Dp.reads I d x u hd rx
  have nd : PyData.hasDict d = false := dp_noDict d x hd
  have fin : ∀ (h' : Heap) (t : Tok) (tk : Nat), (∀ b o, s.heap.get? b = some o → h'.get? b = some o) → EP X pins σ Q (.str d.shown t) { s with heap := h', toks := tk } := fun h' t tk k => ⟨.str d.shown, H, I.kept k, ⟨_, rfl⟩, q⟩
  cases u with
  | ref a => exact repr_of_reads' rd hs (PyData.noDict_hsm nd) hg (by omega) (fun _ _ e => e) (fun h' u tk k => fin h' u tk k) hz
  | none => cases rd; exact PySem.P.repr_of_none (by have := fin s.heap s.toks (s.toks + 1) (fun _ _ e => e); rw [PyData.shown] at this; exact this)
  | bool b => cases rd; exact PySem.P.repr_of_bool (by have := fin s.heap s.toks (s.toks + 1) (fun _ _ e => e); rw [PyData.shown] at this; exact this)
  | int i t =>
    cases rd
    rw [PyData.showable] at hs
    exact PySem.P.repr_of_int (of_decide_eq_true hs) (by have := fin s.heap s.toks (s.toks + 1) (fun _ _ e => e); rw [PyData.shown] at this; exact this)
  | str z t =>
    cases rd
    rw [PyData.shown] at hz
    exact PySem.P.repr_of_str (by have := fin s.heap s.toks (s.toks + 1) (fun _ _ e => e); rw [PyData.shown] at this; exact this) hz
  | _ => cases rd
end
theorem serves_repr {M : Md} : ServesC M (rRepr M.K) dRepr := fun Γ Hf σ H ρ vs ds g R hv h Q q => by
  cases hv with
  | nil => cases h
  | cons h1 h2 =>
    cases h2 with
    | cons _ _ => cases h
    | nil =>
      rename_i d v
      obtain ⟨c, e⟩ := opt_ite h
      subst e
      unfold D.showable at c
      rw [Bool.and_eq_true, Bool.and_eq_true, Bool.and_eq_true] at c
      exact ⟨v, d.py, rfl, h1.dp R.sub c.1, c.2.1, sz_ok c.2.2.1, of_decide_eq_true c.2.2.2, q Hf H _ (Same.refl _) R (.str _)⟩
/-! ### sorted of a list of data -/
def D.alike (d e : D) : Bool := PySem.W.alike d.py e.py
def allAlike (ds : List D) : Bool := ds.all fun d => ds.all fun e => d.alike e
def sortableD (ds : List D) : Bool := (ds.all fun d => match d with | .nd .tup (_ :: _) => true | _ => false) || (ds.all fun d => match d with | .bl _ | .int _ | .str _ | .nd .lst _ => true | _ => false)
def sortD (ds : List D) : List D := ds.mergeSort (PySem.W.dataLe false D.py)
def sortOk (ds : List D) : Bool := D.plains ds && (allAlike ds && (sortableD ds && ds.all fun d => decide (d.py.depth ≤ 64)))
def dSorted : List D → Option Rs
  | [.nd .lst ds] => if sortOk ds then some (.nw (.nd .lst (sortD ds))) else none
  | _ => none

/-- pairs of values and data -/
def rSorted (K : PySem.W.Frag) : List V → Hp → VK → Prop := fun xs H Q => ∃ (a : Addr) (ps : List (V × D)), xs = [.ref a] ∧ SqL K H a (ps.map (·.1)) ∧ (∀ p ∈ ps, Dp K H p.1 p.2.py) ∧ PySem.W.AllAlike (ps.map fun p => p.2.py) ∧ PySem.W.Sortable (ps.map fun p => p.2.py) ∧ (∀ p ∈ ps, p.2.py.depth ≤ 64) ∧
  ∀ l, H l = none → Q (.ref l) (upd H l (.lst ((ps.mergeSort (PySem.W.dataLe false fun p => p.2.py)).map (·.1))))
theorem each_rel : ∀ {ps : List (V × D)} {us : List Value}, Vals (ps.map (·.1)) us → PySem.W.EachIs (fun v (p : V × D) => RelV p.1 v) us ps
  | [], _, h => by cases h; exact .nil
  | p :: ps, _, h => by
    cases h with
    | cons h1 h2 => exact .cons h1 (each_rel h2)
theorem rel_each : ∀ {ps : List (V × D)} {us : List Value}, PySem.W.EachIs (fun v (p : V × D) => RelV p.1 v) us ps → Vals (ps.map (·.1)) us
  | _, _, .nil => .nil
  | _, _, .cons h t => .cons h (rel_each t)
theorem each_and {α β : Type} {R S : α → β → Prop} : ∀ {as : List α} {bs : List β}, PySem.W.EachIs R as bs → (∀ a b, R a b → b ∈ bs → S a b) → PySem.W.EachIs S as bs
  | _, _, .nil, _ => .nil
  | _, _, .cons h t, f => .cons (f _ _ h List.mem_cons_self) (each_and t fun a b r m => f a b r (List.mem_cons_of_mem _ m))
section
variable {X : Cx}
theorem call_sortedD (hu : X.A.units + 70 < cLine) : CallR X (.builtin "sorted") (rSorted X.K) := by
  intro pins s σ H xs us Q I r h
  obtain ⟨a, ps, rfl, hl, hd, hal, hk, hdep, q⟩ := h
  obtain ⟨u, rfl, rx⟩ := vals1 r
  cases rx
  obtain ⟨its, rv, pl, hz⟩ := I.list hl
  have lenP : ps.length = its.length := by have := rv.length; rwa [List.length_map] at this
  have e := each_rel rv
  refine PySem.W.sorted_data (R := fun v (p : V × D) => RelV p.1 v) (enc := fun p => p.2.py) (vs := its) (bs := ps) pl.isList e (each_and e fun v p rp hp => Dp.reads I _ _ _ (hd p hp) rp) hal hk (by rw [List.length_map] at hz; exact hz) (fun p hp => by have := hdep p hp; omega) fun out hlen eo => ?_
  obtain ⟨e', he'⟩ := PyProof.Rows.sortedAll_at s.heap its (List.toArray out)
  have fr : H (s.heap.objs.size + 1) = none := I.hok.fresh (Nat.le_succ _)
  refine ⟨.ref (s.heap.objs.size + 1), _, I.laid (t' := s.toks) (o := .lst ((ps.mergeSort (PySem.W.dataLe false fun p => p.2.py)).map (·.1))) (fun b o q => PyProof.Rows.sortedAll_old q) (Nat.le_succ _) ?_, rfl, q _ fr⟩
  refine ⟨?_, out, e', rel_each eo, he'⟩
  rw [List.length_map, List.length_mergeSort]
  rw [List.length_map] at hz
  exact hz
end
theorem zip_fst {α β : Type} : ∀ {l : List α} {k : List β}, l.length = k.length → (l.zip k).map (·.1) = l
  | [], _, _ => by simp
  | a :: l, [], h => by cases h
  | a :: l, b :: k, h => by
    rw [List.zip_cons_cons, List.map_cons, zip_fst (by simpa using h)]
theorem zip_snd {α β : Type} : ∀ {l : List α} {k : List β}, l.length = k.length → (l.zip k).map (·.2) = k
  | [], [], _ => by simp
  | [], _ :: _, h => by cases h
  | a :: l, [], h => by cases h
  | a :: l, b :: k, h => by
    rw [List.zip_cons_cons, List.map_cons, zip_snd (by simpa using h)]
theorem zip_has {M : Md} {G : Hp} : ∀ {ds : List D} {vs : List V}, HasAll M G ds vs → ∀ p ∈ vs.zip ds, Has M G p.2 p.1
  | _, _, .nil, p, h => by simp at h
  | _, _, .cons h t, p, hp => by
    rw [List.zip_cons_cons] at hp
    rcases List.mem_cons.mp hp with e | hp
    · rw [e]; exact h
    · exact zip_has t p hp
theorem has_pairs {M : Md} {G : Hp} : ∀ {ps : List (V × D)}, (∀ p ∈ ps, Has M G p.2 p.1) → HasAll M G (ps.map (·.2)) (ps.map (·.1))
  | [], _ => .nil
  | p :: ps, h => .cons (h p List.mem_cons_self) (has_pairs fun q hq => h q (List.mem_cons_of_mem _ hq))
theorem plains_mem : ∀ {ds : List D} {d : D}, D.plains ds = true → d ∈ ds → d.plain = true
  | [], d, _, h => by cases h
  | e :: ds, d, hp, h => by
    rw [D.plains, Bool.and_eq_true] at hp
    rcases List.mem_cons.mp h with z | h
    · rw [z]; exact hp.1
    · exact plains_mem hp.2 h
theorem serves_sorted {M : Md} : ServesC M (rSorted M.K) dSorted := fun Γ Hf σ H ρ vs ds g R hv h Q q => by
  cases hv with
  | nil => cases h
  | cons h1 h2 =>
    cases h2 with
    | cons _ _ => cases h1 <;> cases h
    | nil =>
      cases h1 with
      | lst s t =>
        rename_i a vs ds
        obtain ⟨c, e⟩ := opt_ite h
        subst e
        unfold sortOk at c
        rw [Bool.and_eq_true, Bool.and_eq_true, Bool.and_eq_true] at c
        obtain ⟨c1, c2, c3, c4⟩ := c
        have hlen : vs.length = ds.length := t.length.symm
        have efst := zip_fst hlen
        have esnd := zip_snd hlen
        have hm := zip_has t
        have msnd : ∀ p ∈ vs.zip ds, p.2 ∈ ds := fun p hp => by
          rw [← esnd]; exact List.mem_map_of_mem hp
        have epy : (vs.zip ds).map (fun p => p.2.py) = ds.map D.py := by
          conv => rhs; rw [← esnd]
          rw [List.map_map]; rfl
        refine ⟨a, vs.zip ds, rfl, by rw [efst]; exact SqL.of s, fun p hp => ((hm p hp).same R.sub).dp (plains_mem c1 (msnd p hp)), ?_, ?_, fun p hp => ?_, fun l hl => ?_⟩
        · rw [epy]
          intro d hd d' hd'
          obtain ⟨x, hx, rfl⟩ := List.mem_map.mp hd
          obtain ⟨y, hy, rfl⟩ := List.mem_map.mp hd'
          unfold allAlike at c2
          exact List.all_eq_true.mp (List.all_eq_true.mp c2 x hx) y hy
        · rw [epy]
          unfold sortableD at c3
          rw [Bool.or_eq_true] at c3
          rcases c3 with c3 | c3
          · refine .inl fun d hd => ?_
            obtain ⟨x, hx, rfl⟩ := List.mem_map.mp hd
            have z := List.all_eq_true.mp c3 x hx
            cases x with
            | nd k xs =>
              cases k with
              | tup =>
                cases xs with
                | nil => cases z
                | cons y ys => exact ⟨y.py, D.pys ys, by rw [D.py, D.pys]⟩
              | _ => cases z
            | _ => cases z
          · refine .inr fun d hd => ?_
            obtain ⟨x, hx, rfl⟩ := List.mem_map.mp hd
            have z := List.all_eq_true.mp c3 x hx
            cases x with
            | nd k xs =>
              cases k with
              | lst => rw [D.py]; exact ⟨(fun q => nomatch q), (fun _ q => nomatch q)⟩
              | _ => cases z
            | bl b => rw [D.py]; exact ⟨(fun q => nomatch q), (fun _ q => nomatch q)⟩
            | int b => rw [D.py]; exact ⟨(fun q => nomatch q), (fun _ q => nomatch q)⟩
            | str b => rw [D.py]; exact ⟨(fun q => nomatch q), (fun _ q => nomatch q)⟩
            | _ => cases z
        · exact of_decide_eq_true (List.all_eq_true.mp c4 p.2 (msnd p hp))
        · obtain ⟨R4, h0, hf, hn⟩ := R.layN hl (.lst (((vs.zip ds).mergeSort (PySem.W.dataLe false fun p => p.2.py)).map (·.1)))
          refine q _ _ _ (Same.refl _) R4 ⟨l, rfl, h0, .lst hf upd_same ?_, hn⟩
          have ems : sortD ds = ((vs.zip ds).mergeSort (PySem.W.dataLe false fun p => p.2.py)).map (·.2) := by
            have z := List.map_mergeSort (r := PySem.W.dataLe false fun p : V × D => p.2.py) (s := PySem.W.dataLe false D.py) (f := fun p : V × D => p.2) (l := vs.zip ds) (fun p _ q _ => rfl)
            rw [esnd] at z
            exact z.symm
          rw [ems]
          exact has_pairs fun p hp => hm p ((List.mergeSort_perm _ _).mem_iff.mp hp)
      | _ => cases h
end Fx

set_option Elab.async false
set_option linter.all false
set_option maxRecDepth 100000
set_option maxHeartbeats 4000000
namespace Fx
open PySem L2
/-! ### statements -/
inductive Fl where
  | nx | rt (r : Rs) | bk | ct
def FlOk (M : Md) (Γ : Gh) (Hf : Hp) (σ : L2.St) (H : Hp) (ρ : Env) (D : Ends) : Fl → Prop
  | .nx => D.nx σ H
  | .bk => D.bk σ H
  | .ct => D.ct σ H
  | .rt r => ∀ v, RsIs M Γ Hf σ H ρ r v → D.rt v H
def EPs (M : Md) (W : WX) (Γ : Gh) (Hf : Hp) (n : Nat) : Exn → Env → Prop := fun x ρ' => ∀ Hf' σ' H' c d, σ'.length = n → Same Hf Hf' → Rep M Γ Hf' σ' H' ρ' → ExIs M Hf' H' x c d → W c d σ' H'
theorem EPs.up {M : Md} {W : WX} {Γ : Gh} {Hf Hf1 : Hp} {n : Nat} (S : Same Hf Hf1) : ∀ x ρ, EPs M W Γ Hf n x ρ → EPs M W Γ Hf1 n x ρ := fun x ρ h Hf' σ' H' c d hl S' R e => h Hf' σ' H' c d hl (S.trans S') R e
theorem EPs.ex {M : Md} {W : WX} {Γ : Gh} {Hf : Hp} {σ : L2.St} {n : Nat} (hn : σ.length = n) : ∀ x ρ, EPs M W Γ Hf n x ρ → EPf M W Γ Hf σ x ρ := fun x ρ h Hf' H' c d S' R e => h Hf' σ H' c d hn S' R e
def rdS (M : Md) (W : WX) (g : Env → Rz (Env × Fl)) : TS := fun D σ H => ∃ Γ Hf ρ, Rep M Γ Hf σ H ρ ∧
  (g ρ).wp (fun p => ∀ Hf' σ' H', σ'.length = σ.length → Same Hf Hf' → Rep M Γ Hf' σ' H' p.1 → FlOk M Γ Hf' σ' H' p.1 D p.2) (EPs M W Γ Hf σ.length)
abbrev RS (X : Cx) (W : WX) (st : Stmt) (g : Env → Rz (Env × Fl)) : Prop := PS X st (rdS ⟨X.K, X.mg⟩ W g)
abbrev RSs (X : Cx) (W : WX) (st : List Stmt) (g : Env → Rz (Env × Fl)) : Prop := PSs X st (rdS ⟨X.K, X.mg⟩ W g)
theorem ps_mono {X : Cx} {e : Stmt} {t t' : TS} (h : PS X e t) (i : ∀ D σ H, t' D σ H → t D σ H) : PS X e t' := ⟨fun pins s σ H D I q => h.run pins s σ H D I (i D σ H q)⟩
theorem ps_monoI {X : Cx} {e : Stmt} {t t' : TS} (h : PS X e t) (i : ∀ D σ H, σ.length = X.N.length → t' D σ H → t D σ H) : PS X e t' := ⟨fun pins s σ H D I q => h.run pins s σ H D I (i D σ H I.len q)⟩
theorem pss_mono {X : Cx} {e : List Stmt} {t t' : TS} (h : PSs X e t) (i : ∀ D σ H, t' D σ H → t D σ H) : PSs X e t' := ⟨fun pins s σ H D I q => h.run pins s σ H D I (i D σ H q)⟩
section
variable {M : Md} {W : WX} {Γ : Gh} {Hf : Hp} {σ : L2.St} {H : Hp} {ρ : Env} {β : Type} {P : β → Prop}
/-- an expression that gives data, within a statement -/
theorem sbV {f : Env → Rz (Env × D)} {g : Env × D → Rz β} {Q : VK} (R : Rep M Γ Hf σ H ρ) (hw : ((f ρ).bind g).wp P (EPs M W Γ Hf σ.length))
    (k : ∀ ρ1 d Hf1 H1 v, Same Hf Hf1 → Rep M Γ Hf1 σ H1 ρ1 → Has M Hf1 d v → (g (ρ1, d)).wp P (EPs M W Γ Hf1 σ.length) → Q v H1) : rdV M W f σ H Q :=
  ⟨Γ, Hf, ρ, R, Rz.wp_mono (Rz.wp_bind hw) (fun p hp Hf1 H1 v S R1 hv => k p.1 p.2 Hf1 H1 v S R1 hv (Rz.wp_mono hp (fun _ z => z) (EPs.up S))) (EPs.ex rfl)⟩
theorem sbE {f : Env → Rz (Env × Rs)} {g : Env × Rs → Rz β} {Q : VK} (R : Rep M Γ Hf σ H ρ) (hw : ((f ρ).bind g).wp P (EPs M W Γ Hf σ.length))
    (k : ∀ ρ1 r Hf1 H1 v, Same Hf Hf1 → Rep M Γ Hf1 σ H1 ρ1 → RsIs M Γ Hf1 σ H1 ρ1 r v → (g (ρ1, r)).wp P (EPs M W Γ Hf1 σ.length) → Q v H1) : rdE M W f σ H Q :=
  ⟨Γ, Hf, ρ, R, Rz.wp_mono (Rz.wp_bind hw) (fun p hp Hf1 H1 v S R1 hv => k p.1 p.2 Hf1 H1 v S R1 hv (Rz.wp_mono hp (fun _ z => z) (EPs.up S))) (EPs.ex rfl)⟩
theorem sbH {f : Env → Rz (Env × Rs)} {g : Env × Rs → Rz β} {Q : VK} (R : Rep M Γ Hf σ H ρ) (hw : ((f ρ).bind g).wp P (EPs M W Γ Hf σ.length))
    (k : ∀ ρ1 r Hf1 H1 v, Same Hf Hf1 → Rep M Γ Hf1 σ H1 ρ1 → HsIs M Hf1 σ r v → (g (ρ1, r)).wp P (EPs M W Γ Hf1 σ.length) → Q v H1) : rdH M W f σ H Q :=
  ⟨Γ, Hf, ρ, R, Rz.wp_mono (Rz.wp_bind hw) (fun p hp Hf1 H1 v S R1 hv => k p.1 p.2 Hf1 H1 v S R1 hv (Rz.wp_mono hp (fun _ z => z) (EPs.up S))) (EPs.ex rfl)⟩
theorem sbT {f : Env → Rz (Env × Bool)} {g : Env × Bool → Rz β} {Q : Bool → Hp → Prop} (R : Rep M Γ Hf σ H ρ) (hw : ((f ρ).bind g).wp P (EPs M W Γ Hf σ.length))
    (k : ∀ ρ1 b Hf1 H1, Same Hf Hf1 → Rep M Γ Hf1 σ H1 ρ1 → (g (ρ1, b)).wp P (EPs M W Γ Hf1 σ.length) → Q b H1) : rdT M W f σ H Q :=
  ⟨Γ, Hf, ρ, R, Rz.wp_mono (Rz.wp_bind hw) (fun p hp Hf1 H1 S R1 => k p.1 p.2 Hf1 H1 S R1 (Rz.wp_mono hp (fun _ z => z) (EPs.up S))) (EPs.ex rfl)⟩
theorem sbS {f : Env → Rz (Env × Fl)} {g : Env × Fl → Rz β} {D : Ends} (R : Rep M Γ Hf σ H ρ) (hw : ((f ρ).bind g).wp P (EPs M W Γ Hf σ.length))
    (k : ∀ ρ1 fl Hf1 σ1 H1, σ1.length = σ.length → Same Hf Hf1 → Rep M Γ Hf1 σ1 H1 ρ1 → (g (ρ1, fl)).wp P (EPs M W Γ Hf1 σ1.length) → FlOk M Γ Hf1 σ1 H1 ρ1 D fl) : rdS M W f D σ H :=
  ⟨Γ, Hf, ρ, R, Rz.wp_mono (Rz.wp_bind hw) (fun p hp Hf1 σ1 H1 hl S R1 => k p.1 p.2 Hf1 σ1 H1 hl S R1 (by rw [hl]; exact Rz.wp_mono hp (fun _ z => z) (EPs.up S))) (fun _ _ z => z)⟩
end
def gNext : Env → Rz (Env × Fl) := fun ρ => .ok (ρ, .nx)
def gBreak : Env → Rz (Env × Fl) := fun ρ => .ok (ρ, .bk)
def gCont : Env → Rz (Env × Fl) := fun ρ => .ok (ρ, .ct)
def gSeq (f g : Env → Rz (Env × Fl)) : Env → Rz (Env × Fl) := fun ρ => (f ρ).bind fun p => match p.2 with
  | .nx => g p.1
  | fl => .ok (p.1, fl)
def gRet (f : Env → Rz (Env × Rs)) : Env → Rz (Env × Fl) := fun ρ => (f ρ).bind fun p => .ok (p.1, .rt p.2)
def gExpr (f : Env → Rz (Env × Rs)) : Env → Rz (Env × Fl) := fun ρ => (f ρ).bind fun p => .ok (p.1, .nx)
def gIf (t : Env → Rz (Env × Bool)) (f g : Env → Rz (Env × Fl)) : Env → Rz (Env × Fl) := fun ρ => (t ρ).bind fun p => if p.2 = true then f p.1 else g p.1
def gSet (i : Nat) (f : Env → Rz (Env × Rs)) : Env → Rz (Env × Fl) := fun ρ => (f ρ).bind fun p => (put p.1 i p.2).bind fun ρ' => .ok (ρ', .nx)
section
variable {X : Cx} {W : WX} {st : Stmt} {rest : List Stmt} {e : Expr} {pos : Pos} {f g : Env → Rz (Env × Fl)} {ef : Env → Rz (Env × Rs)} {vf : Env → Rz (Env × D)} {tf : Env → Rz (Env × Bool)}
theorem rss_nil : RSs X W [] gNext := pss_mono pss_nil fun D σ H ⟨Γ, Hf, ρ, R, hw⟩ => hw Hf σ H rfl (Same.refl _) R
theorem rs_pass : RS X W (.Pass pos) gNext := ps_mono ps_pass fun D σ H ⟨Γ, Hf, ρ, R, hw⟩ => hw Hf σ H rfl (Same.refl _) R
theorem rs_break : RS X W (.Break pos) gBreak := ps_mono ps_break fun D σ H ⟨Γ, Hf, ρ, R, hw⟩ => hw Hf σ H rfl (Same.refl _) R
theorem rs_cont : RS X W (.Continue pos) gCont := ps_mono ps_continue fun D σ H ⟨Γ, Hf, ρ, R, hw⟩ => hw Hf σ H rfl (Same.refl _) R
/-- to go on with a statement from a state -/
theorem rdS_pass {M : Md} {g : Env → Rz (Env × Fl)} {Γ : Gh} {Hf Hf0 : Hp} {σ : L2.St} {n : Nat} {H : Hp} {ρ : Env} {D : Ends} (R : Rep M Γ Hf σ H ρ) (hn : σ.length = n) (S0 : Same Hf0 Hf)
    (h : (g ρ).wp (fun p => ∀ Hf' σ' H', σ'.length = n → Same Hf0 Hf' → Rep M Γ Hf' σ' H' p.1 → FlOk M Γ Hf' σ' H' p.1 D p.2) (EPs M W Γ Hf σ.length)) : rdS M W g D σ H :=
  ⟨Γ, Hf, ρ, R, Rz.wp_mono h (fun p hp Hf' σ' H' hl S' R' => hp Hf' σ' H' (hl.trans hn) (S0.trans S') R') fun _ _ z => z⟩
theorem rss_cons (h1 : RS X W st f) (h2 : RSs X W rest g) : RSs X W (st :: rest) (gSeq f g) := pss_mono (pss_cons h1 h2) fun D σ H ⟨Γ, Hf, ρ, R, hw⟩ =>
  sbS R hw fun ρ1 fl Hf1 σ1 H1 hl S R1 hq => by
    cases fl with
    | nx => exact rdS_pass R1 hl S hq
    | rt r => exact hq Hf1 σ1 H1 hl S R1
    | bk => exact hq Hf1 σ1 H1 hl S R1
    | ct => exact hq Hf1 σ1 H1 hl S R1
theorem rss_one (h1 : RS X W st f) : RSs X W [st] f := pss_one h1
theorem rs_ret (he : RE X W e ef) : RS X W (.Return (some e) pos) (gRet ef) := ps_mono (ps_ret he) fun D σ H ⟨Γ, Hf, ρ, R, hw⟩ =>
  sbE R hw fun ρ1 r Hf1 H1 v S R1 hv hq => hq Hf1 σ H1 rfl S R1 v hv
theorem rs_retN : RS X W (.Return none pos) (gRet (hC .non)) := ps_mono ps_retN fun D σ H ⟨Γ, Hf, ρ, R, hw⟩ => hw Hf σ H rfl (Same.refl _) R .non (show Has _ _ _ _ from .non)
theorem rs_expr (he : RE X W e ef) (hs : swapsWith e none pos.line X.env = pure false := by rfl) : RS X W (.Expr e pos) (gExpr ef) := ps_mono (ps_expr he hs) fun D σ H ⟨Γ, Hf, ρ, R, hw⟩ =>
  sbE R hw fun ρ1 r Hf1 H1 v S R1 hv hq => hq Hf1 σ H1 rfl S R1
theorem rs_doc {x j pos'} : RS X W (.Expr (.Constant (.str x) j pos) pos') gNext := ps_mono ps_doc fun D σ H ⟨Γ, Hf, ρ, R, hw⟩ => hw Hf σ H rfl (Same.refl _) R
theorem rs_if {c : Expr} {a b : List Stmt} (hc : RT X W c tf) (ha : RSs X W a f) (hb : RSs X W b g) : RS X W (.If c a b pos) (gIf tf f g) := ps_mono (ps_if hc ha hb) fun D σ H ⟨Γ, Hf, ρ, R, hw⟩ =>
  sbT R hw fun ρ1 b Hf1 H1 S R1 hq => by
    cases b with
    | true => exact iteT (rdS_pass R1 rfl S hq)
    | false => exact iteF (rdS_pass R1 rfl S hq)
theorem put_wp {β : Type} {ρ : Env} {i : Nat} {r : Rs} {g : Env → Rz β} {Q : β → Prop} {E : Exn → Env → Prop} (h : ((put ρ i r).bind g).wp Q E) : ∃ ρ', put ρ i r = .ok ρ' ∧ (g ρ').wp Q E := by
  cases u : put ρ i r with
  | ok p => rw [u] at h; exact ⟨p, rfl, h⟩
  | no => rw [u] at h; exact h.elim
  | ex x ρ' =>
    exfalso
    unfold put at u
    cases q : ρ[i]? with
    | none => simp [q] at u
    | some y =>
      cases r with
      | im d => cases y <;> simp [q] at u
      | nw d => cases y <;> simp [q] at u
      | slot j =>
        have z : ∀ ρ2, (use ρ (.slot j) >>= fun p => (.ok (p.1.set i (.im p.2)) : Rz Env)) ≠ .ex x ρ2 := fun ρ2 e => by
          cases u2 : use ρ (.slot j) with
          | ok p => rw [u2] at e; cases e
          | no => rw [u2] at e; cases e
          | ex _ _ => exact use_noex u2
        cases y <;> simp [q] at u <;> exact z _ u
/-- x = e -/
theorem rs_set {i : Nat} {x : Str} {pos' : Pos} (hN : X.N.Nodup) (he : RE X W e ef) (hi : X.N[i]? = some x := by rfl) (hx : Loc X.env.scope x := by first | exact Or.inl rfl | exact Or.inr rfl) (hs : swapsWith e (some (.Name x pos')) pos.line X.env = pure false := by rfl)
    (hf : X.fn x = true ∨ X.env.scope.names.lookup x = some .local := by first | exact .inl rfl | exact .inr rfl | assumption) :
    RS X W (.Assign [.Name x pos'] e pos) (gSet i ef) := ps_monoI (ps_set hN hi hx he hs hf) fun D σ H hl ⟨Γ, Hf, ρ, R, hw⟩ =>
  sbE R hw fun ρ1 r Hf1 H1 v S R1 hv hq => by
    obtain ⟨ρ', e1, hq⟩ := put_wp hq
    obtain ⟨Hf2, S2, R2⟩ := R1.store hv e1
    exact hq Hf2 (σ.set i (some v)) H1 (by simp) (S.trans S2) R2
/-! ### while -/
def gWhile (t : Env → Rz (Env × Bool)) (g : Env → Rz (Env × Fl)) : Nat → Env → Rz (Env × Fl)
  | 0, _ => .no
  | n + 1, ρ => (t ρ).bind fun p => if p.2 = true then (g p.1).bind fun q => (match q.2 with
      | .nx => gWhile t g n q.1
      | .ct => gWhile t g n q.1
      | .bk => .ok (q.1, .nx)
      | .rt r => .ok (q.1, .rt r)) else .ok (p.1, .nx)
theorem while_imp {M : Md} (n : Nat) : ∀ D σ H, rdS M W (gWhile tf f n) D σ H → tWhile (rdT M W tf) (rdS M W f) D σ H := by
  rintro D σ H ⟨Γ, Hf, ρ, R, hw⟩
  refine ⟨fun m σ1 H1 => σ1.length = σ.length ∧ ∃ Hf1 ρ1, Same Hf Hf1 ∧ Rep M Γ Hf1 σ1 H1 ρ1 ∧
    (gWhile tf f m ρ1).wp (fun p => ∀ Hf' σ' H', σ'.length = σ.length → Same Hf1 Hf' → Rep M Γ Hf' σ' H' p.1 → FlOk M Γ Hf' σ' H' p.1 D p.2) (EPs M W Γ Hf1 σ.length), ⟨n, rfl, Hf, ρ, Same.refl _, R, hw⟩, ?_⟩
  rintro m σ1 H1 ⟨l1, Hf1, ρ1, S1, R1, hw1⟩
  cases m with
  | zero => exact hw1.elim
  | succ m =>
    rw [← l1] at hw1
    refine sbT R1 hw1 fun ρ2 b Hf2 H2 S2 R2 hq => ?_
    cases b with
    | false => exact iteF (hq Hf2 σ1 H2 rfl S2 R2)
    | true =>
      refine iteT ⟨fun σ' H' => σ'.length = σ.length ∧ ∃ Hf1 ρ1, Same Hf Hf1 ∧ Rep M Γ Hf1 σ' H' ρ1 ∧
        (gWhile tf f m ρ1).wp (fun p => ∀ Hf' σ' H', σ'.length = σ.length → Same Hf1 Hf' → Rep M Γ Hf' σ' H' p.1 → FlOk M Γ Hf' σ' H' p.1 D p.2) (EPs M W Γ Hf1 σ.length), fun σ' H' h => ⟨m, Nat.lt_succ_self m, h⟩, ?_⟩
      refine sbS R2 hq fun ρ3 fl Hf3 σ3 H3 l3 S3 R3 hq3 => ?_
      have on : ∀ {r : Rz (Env × Fl)}, r.wp (fun p => ∀ Hf' σ' H', σ'.length = σ1.length → Same Hf1 Hf' → Rep M Γ Hf' σ' H' p.1 → FlOk M Γ Hf' σ' H' p.1 D p.2) (EPs M W Γ Hf3 σ3.length) →
          r.wp (fun p => ∀ Hf' σ' H', σ'.length = σ.length → Same Hf3 Hf' → Rep M Γ Hf' σ' H' p.1 → FlOk M Γ Hf' σ' H' p.1 D p.2) (EPs M W Γ Hf3 σ.length) := fun h =>
        Rz.wp_mono h (fun p hp Hf' σ' H' hl S' R' => hp Hf' σ' H' (hl.trans l1.symm) (S2.trans (S3.trans S')) R') fun x ρ h => by rw [l3, l1] at h; exact h
      cases fl with
      | nx => exact ⟨l3.trans l1, Hf3, ρ3, S1.trans (S2.trans S3), R3, on hq3⟩
      | ct => exact ⟨l3.trans l1, Hf3, ρ3, S1.trans (S2.trans S3), R3, on hq3⟩
      | bk => exact hq3 Hf3 σ3 H3 l3 (S2.trans S3) R3
      | rt r => exact hq3 Hf3 σ3 H3 l3 (S2.trans S3) R3
theorem rs_while {c : Expr} {body : List Stmt} (n : Nat) (hp : PassesOwn (model X.prog X.w) X.A X.env X.xe) (hc : RT X W c tf) (hb : RSs X W body f) : RS X W (.While c body [] pos) (gWhile tf f n) := ps_mono (ps_while hp hc hb) (while_imp n)
end
/-! ### what is walked -/
/-- an iteration over data: it goes on while the frozen heap stands -/
structure Walks (M : Md) (J : It) (Hf : Hp) (ds : List D) : Prop where
  go : ∀ i H, Same Hf H → i < ds.length → J.go i H
  stop : ∀ i H, Same Hf H → ds.length ≤ i → J.stop i H
  yld : ∀ i H v H' d, J.yld i H v H' → ds[i]? = some d → ∀ Γ Hf1 σ ρ, Same Hf Hf1 → Rep M Γ Hf1 σ H ρ → ∃ Hf2, Same Hf1 Hf2 ∧ Rep M Γ Hf2 σ H' ρ ∧ Has M Hf2 d v
theorem Walks.up {M : Md} {J : It} {Hf Hf' : Hp} {ds : List D} (w : Walks M J Hf ds) (S : Same Hf Hf') : Walks M J Hf' ds :=
  ⟨fun i H S' => w.go i H (S.trans S'), fun i H S' => w.stop i H (S.trans S'), fun i H v H' d y e Γ Hf1 σ ρ S' R => w.yld i H v H' d y e Γ Hf1 σ ρ (S.trans S') R⟩
def rdI (M : Md) (W : WX) (f : Env → Rz (Env × List D)) : TI := fun σ H Q => ∃ Γ Hf ρ, Rep M Γ Hf σ H ρ ∧
  (f ρ).wp (fun p => ∀ Hf' H' J, Same Hf Hf' → Rep M Γ Hf' σ H' p.1 → Walks M J Hf' p.2 → Q J H') (EPf M W Γ Hf σ)
abbrev RI (X : Cx) (W : WX) (tg iter : Expr) (f : Env → Rz (Env × List D)) : Prop := PI X tg iter (rdI ⟨X.K, X.mg⟩ W f)
theorem pi_mono {X : Cx} {tg e : Expr} {t t' : TI} (h : PI X tg e t) (i : ∀ σ H Q, t' σ H Q → t σ H Q) : PI X tg e t' := ⟨fun pins s σ H R I q => h.run pins s σ H R I (i σ H R q)⟩
/-- a list, a tuple that stands still -/
def iSeq (f : Env → Rz (Env × D)) : Env → Rz (Env × List D) := fun ρ => (f ρ).bind fun p => match p.2 with
  | .nd .tup ds => .ok (p.1, ds)
  | .nd .lst ds => .ok (p.1, ds)
  | _ => .no
theorem walks_list {M : Md} {Hf : Hp} {a : Addr} {vs : List V} {ds : List D} (hl : SqL M.K Hf a vs) (h : HasAll M Hf ds vs) : Walks M (Itl M.K a) Hf ds where
  go := fun i H S hi => by
    have hi' : i < vs.length := by rw [← h.length]; exact hi
    exact ⟨vs, vs[i], S.seq hl, List.getElem?_eq_getElem hi'⟩
  stop := fun i H S hi => ⟨vs, S.seq hl, by rw [← h.length]; exact hi⟩
  yld := fun i H v H' d y e Γ Hf1 σ ρ S R => by
    obtain ⟨rfl, y⟩ := y
    have y2 := y vs (R.sub.seq (S.seq hl))
    obtain ⟨u, h1, h2⟩ := h.get e
    rw [y2] at h1
    cases h1
    exact ⟨Hf1, Same.refl _, R, h2.same S⟩
theorem walks_tup {M : Md} {Hf : Hp} {a : Addr} {vs : List V} {ds : List D} (hl : SqT M.K Hf a vs) (h : HasAll M Hf ds vs) : Walks M (Itt M.K a) Hf ds where
  go := fun i H S hi => by
    have hi' : i < vs.length := by rw [← h.length]; exact hi
    exact ⟨vs, vs[i], SqT.same S hl, List.getElem?_eq_getElem hi'⟩
  stop := fun i H S hi => ⟨vs, SqT.same S hl, by rw [← h.length]; exact hi⟩
  yld := fun i H v H' d y e Γ Hf1 σ ρ S R => by
    obtain ⟨rfl, y⟩ := y
    have y2 := y vs (SqT.same R.sub (SqT.same S hl))
    obtain ⟨u, h1, h2⟩ := h.get e
    rw [y2] at h1
    cases h1
    exact ⟨Hf1, Same.refl _, R, h2.same S⟩
/-- ints from lo on -/
def intsD (lo : Int) (n : Nat) : List D := (List.range n).map fun i : Nat => D.int (lo + (i : Int))
theorem walks_range {M : Md} {Hf : Hp} {lo : Int} {n : Nat} : Walks M (Itr lo n) Hf (intsD lo n) where
  go := fun i H S hi => by have h : i < n := by (simpa [intsD] using hi)
                           exact h
  stop := fun i H S hi => by have h : n ≤ i := by (simpa [intsD] using hi)
                             exact h
  yld := fun i H v H' d y e Γ Hf1 σ ρ S R => by
    obtain ⟨rfl, rfl⟩ := y
    have : d = .int (lo + i) := by
      unfold intsD at e
      rw [List.getElem?_map] at e
      cases q : (List.range n)[i]? with
      | none => rw [q] at e; cases e
      | some j =>
        rw [q] at e
        have hj : j = i := by
          obtain ⟨h1, h2⟩ := List.getElem?_eq_some_iff.mp q
          simpa using h2.symm
        subst hj
        exact (Option.some.inj e).symm
    subst this
    exact ⟨Hf1, Same.refl _, R, .int _⟩
section
variable {X : Cx} {W : WX} {tg e a b : Expr} {pos p : Pos} {vf : Env → Rz (Env × D)} {f : Env → Rz (Env × List Rs)}
/-- a list or a tuple: whichever stands there -/
theorem pi_seq {l : Expr} {tl : TE} (hl : PE X l tl) : PI X tg l (fun σ H R => tl σ H fun x H1 => ∃ a, x = .ref a ∧ (((∃ xs, SqL X.K H1 a xs) ∧ R (Itl X.K a) H1) ∨ ((∃ xs, SqT X.K H1 a xs) ∧ R (Itt X.K a) H1))) := by
  refine ⟨fun pins s σ H R I h => ?_⟩
  refine thn (hl.run pins s σ H _ I h) fun v s1 ⟨x, H1, I1, r1, q1⟩ => ?_
  obtain ⟨a, e, q1⟩ := q1
  subst e
  cases r1
  rcases q1 with ⟨⟨xs, hq⟩, q⟩ | ⟨⟨xs, hq⟩, q⟩
  · obtain ⟨its, rv, p, hz⟩ := I1.list hq
    refine wpAny_pyIter_list p.isList ?_
    refine ⟨s1.heap.objs.size, [s1.heap.objs.size], _, _, H1, rfl, I1.kept (t' := s1.toks) fun b o e => Heap.get?_push_of_some _ e, turn_list a _, ⟨_, Heap.get?_push_size _ rfl, rfl, rfl⟩, fun b hb => ?_, q⟩
    have e : b = s1.heap.objs.size := by simpa using hb
    subst e
    exact I1.fpOk (Nat.le_refl _) (I1.hok.fresh (Nat.le_refl _))
  · obtain ⟨its, rv, p, hz⟩ := I1.tuple hq
    refine wpAny_pyIter_tuple (show s1.heap.IsTuple a its.toArray from p) ?_
    refine ⟨s1.heap.objs.size, [s1.heap.objs.size], _, _, H1, rfl, I1.kept (t' := s1.toks) fun b o e => Heap.get?_push_of_some _ e, turn_tuple a _, ⟨_, Heap.get?_push_size _ rfl, rfl, rfl⟩, fun b hb => ?_, q⟩
    have e : b = s1.heap.objs.size := by simpa using hb
    subst e
    exact I1.fpOk (Nat.le_refl _) (I1.hok.fresh (Nat.le_refl _))
theorem ri_seq (h : RV X W e vf) : RI X W tg e (iSeq vf) := pi_mono (pi_seq h) fun σ H Q ⟨Γ, Hf, ρ, R, hw⟩ => bindV R hw fun ρ1 d Hf1 H1 v S R1 hv hq => by
  cases hv with
  | tup s t => exact ⟨_, rfl, .inr ⟨⟨_, SqT.same R1.sub s⟩, hq Hf1 H1 _ S R1 (walks_tup s t)⟩⟩
  | lst s t => exact ⟨_, rfl, .inl ⟨⟨_, SqL.of (R1.sub _ _ s)⟩, hq Hf1 H1 _ S R1 (walks_list (SqL.of s) t)⟩⟩
  | _ => exact hq.elim
def rngOk (i : Int) : Bool := decide (-(2 ^ 62) ≤ i) && decide (i < 2 ^ 62)
theorem rng_ok {i : Int} (h : rngOk i = true) : -(2 ^ 62) ≤ i ∧ i < 2 ^ 62 := by
  unfold rngOk at h
  rw [Bool.and_eq_true, decide_eq_true_eq, decide_eq_true_eq] at h
  exact h
/-- range(b), range(a, b) -/
def dRng1 : List D → Option (List D)
  | [.int j] => if rngOk j then some (intsD 0 j.toNat) else none
  | _ => none
def dRng2 : List D → Option (List D)
  | [.int i, .int j] => if rngOk i && rngOk j then some (intsD i (j - i).toNat) else none
  | _ => none
def iRng (F : List D → Option (List D)) (f : Env → Rz (Env × List Rs)) : Env → Rz (Env × List D) := fun ρ => (f ρ).bind fun p => (Rz.ofO (peekAll p.1 p.2)).bind fun ds => (Rz.ofO (F ds)).bind fun x => .ok (p.1, x)
theorem ri_range1 (hg : Gl X "range") (hm : X.mg "range" = none) (ha : RHs X W [a] f) (hs : starEach [a] X.env = [(false, eval a X.env)] := by rfl) : RI X W tg (.Call (.Name "range" p) [a] [] pos) (iRng dRng1 f) :=
  pi_mono (pi_range1 hg hm ha hs) fun σ H Q ⟨Γ, Hf, ρ, R, hw⟩ => bindHs R hw fun ρ1 rs Hf1 H1 vs S R1 hv hq => by
    obtain ⟨ds, e1, hq⟩ := ofO_bind hq
    obtain ⟨xs, e2, hq⟩ := ofO_bind hq
    have T := R1.peekAll hv e1
    cases T with
    | nil => cases e2
    | cons t1 t2 =>
      cases t2 with
      | cons t2 t3 => cases t1 <;> cases e2
      | nil =>
        cases t1 with
        | int j =>
          obtain ⟨c, e⟩ := opt_ite e2
          subst e
          obtain ⟨c1, c2⟩ := rng_ok c
          exact ⟨j, rfl, c1, c2, hq Hf1 H1 _ S R1 walks_range⟩
        | _ => cases e2
theorem ri_range2 (hg : Gl X "range") (hm : X.mg "range" = none) (ha : RHs X W [a, b] f) (hs : starEach [a, b] X.env = [(false, eval a X.env), (false, eval b X.env)] := by rfl) (hs2 : starEach [b] X.env = [(false, eval b X.env)] := by rfl) : RI X W tg (.Call (.Name "range" p) [a, b] [] pos) (iRng dRng2 f) :=
  pi_mono (pi_range2 hg hm ha hs hs2) fun σ H Q ⟨Γ, Hf, ρ, R, hw⟩ => bindHs R hw fun ρ1 rs Hf1 H1 vs S R1 hv hq => by
    obtain ⟨ds, e1, hq⟩ := ofO_bind hq
    obtain ⟨xs, e2, hq⟩ := ofO_bind hq
    have T := R1.peekAll hv e1
    cases T with
    | nil => cases e2
    | cons t1 t2 =>
      cases t2 with
      | nil => cases t1 <;> cases e2
      | cons t2 t3 =>
        cases t3 with
        | cons _ _ => cases t1 <;> first | (cases e2; done) | (cases t2 <;> cases e2)
        | nil =>
          cases t1 with
          | int i =>
            cases t2 with
            | int j =>
              obtain ⟨c, e⟩ := opt_ite e2
              subst e
              rw [Bool.and_eq_true] at c
              obtain ⟨c1, c2⟩ := rng_ok c.1
              obtain ⟨c3, c4⟩ := rng_ok c.2
              exact ⟨i, j, rfl, ⟨c1, c2, c3, c4⟩, hq Hf1 H1 _ S R1 walks_range⟩
            | _ => cases e2
          | _ => cases t2 <;> cases e2
/-! ### targets -/
theorem put_ok {ρ : Env} {i : Nat} {r : Rs} {Q : Env → Prop} {E : Exn → Env → Prop} (h : (put ρ i r).wp Q E) : ∃ ρ', put ρ i r = .ok ρ' ∧ Q ρ' := by
  have e : ((put ρ i r).bind fun ρ' => Rz.ok ρ') = put ρ i r := by cases put ρ i r <;> rfl
  rw [← e] at h
  exact put_wp h
def rdG (M : Md) (W : WX) (is : List Nat) (tgf : D → Env → Rz Env) : TG := fun v σ H Q => ∃ Γ Hf ρ d, Rep M Γ Hf σ H ρ ∧ Has M Hf d v ∧
  (tgf d ρ).wp (fun ρ' => ∀ Hf' σ' H', σ'.length = σ.length → (∀ j, j ∉ is → σ'[j]? = σ[j]?) → Same Hf Hf' → Rep M Γ Hf' σ' H' ρ' → Q σ' H') (EPs M W Γ Hf σ.length)
abbrev RG (X : Cx) (W : WX) (tg : Expr) (is : List Nat) (tgf : D → Env → Rz Env) : Prop := PG X tg (rdG ⟨X.K, X.mg⟩ W is tgf)
def tgN (i : Nat) : D → Env → Rz Env := fun d ρ => put ρ i (.im d)
theorem pg_monoI {X : Cx} {tg : Expr} {t t' : TG} (h : PG X tg t) (i : ∀ v σ H Q, σ.length = X.N.length → t' v σ H Q → t v σ H Q) : PG X tg t' := ⟨fun pins s σ H v u Q I r q => h.run pins s σ H v u Q I r (i v σ H Q I.len q)⟩
theorem rg_name {i : Nat} {x : Str} (hN : X.N.Nodup) (hi : X.N[i]? = some x := by rfl) (hx : Loc X.env.scope x := by first | exact Or.inl rfl | exact Or.inr rfl) (hf : X.fn x = true ∨ X.env.scope.names.lookup x = some .local := by first | exact .inl rfl | exact .inr rfl | assumption) :
    RG X W (.Name x pos) [i] (tgN i) := pg_monoI (pg_name hN hi hx hf) fun v σ H Q hl ⟨Γ, Hf, ρ, d, R, hv, hw⟩ => by
  obtain ⟨ρ', e1, hq⟩ := put_ok hw
  obtain ⟨Hf2, S2, R2⟩ := R.store (r := .im d) hv e1
  exact hq Hf2 (σ.set i (some v)) H (by simp) (fun j hj => List.getElem?_set_ne fun e => hj (by simp [e])) S2 R2
/-- a, b, .. of a tuple -/
def tgAll : List (D → Env → Rz Env) → List D → Env → Rz Env
  | [], [], ρ => .ok ρ
  | t :: ts, d :: ds, ρ => (t d ρ).bind fun ρ' => tgAll ts ds ρ'
  | _, _, _ => .no
def rdGs (M : Md) (W : WX) (is : List Nat) (ts : List (D → Env → Rz Env)) : TGs := fun vs σ H Q => ∃ Γ Hf ρ ds, Rep M Γ Hf σ H ρ ∧ HasAll M Hf ds vs ∧
  (tgAll ts ds ρ).wp (fun ρ' => ∀ Hf' σ' H', σ'.length = σ.length → (∀ j, j ∉ is → σ'[j]? = σ[j]?) → Same Hf Hf' → Rep M Γ Hf' σ' H' ρ' → Q σ' H') (EPs M W Γ Hf σ.length)
abbrev RGs (X : Cx) (W : WX) (tgs : List Expr) (is : List Nat) (ts : List (D → Env → Rz Env)) : Prop := PGs X tgs (rdGs ⟨X.K, X.mg⟩ W is ts)
theorem pgs_mono {X : Cx} {tg : List Expr} {t t' : TGs} (h : PGs X tg t) (i : ∀ v σ H Q, t' v σ H Q → t v σ H Q) : PGs X tg t' := ⟨fun pins s σ H v u Q I r q => h.run pins s σ H v u Q I r (i v σ H Q q)⟩
theorem rgs_nil : RGs X W [] [] [] := pgs_mono pgs_nil fun vs σ H Q ⟨Γ, Hf, ρ, ds, R, hv, hw⟩ => by
  cases hv with
  | nil => exact ⟨rfl, hw Hf σ H rfl (fun _ _ => rfl) (Same.refl _) R⟩
  | cons _ _ => exact hw.elim
theorem rgs_cons {t : D → Env → Rz Env} {ts : List (D → Env → Rz Env)} {es : List Expr} {is js : List Nat} (h1 : RG X W e is t) (h2 : RGs X W es js ts) (hs : (assignEach (e :: es) X.env).map (·.2) = assign e X.env :: (assignEach es X.env).map (·.2) := by rfl) : RGs X W (e :: es) (is ++ js) (t :: ts) :=
  pgs_mono (pgs_cons h1 h2 hs) fun vs σ H Q ⟨Γ, Hf, ρ, ds, R, hv, hw⟩ => by
    cases hv with
    | nil => exact hw.elim
    | cons hd hvs =>
      refine ⟨_, _, rfl, Γ, Hf, ρ, _, R, hd, Rz.wp_mono (Rz.wp_bind hw) (fun ρ' hp Hf1 σ1 H1 l1 o1 S1 R1 => ?_) fun _ _ z => z⟩
      exact ⟨Γ, Hf1, ρ', _, R1, hvs.same S1, Rz.wp_mono hp (fun ρ2 h Hf' σ' H' l' o' S' R' => h Hf' σ' H' (l'.trans l1) (fun j hj => (o' j fun z => hj (List.mem_append_right _ z)).trans (o1 j fun z => hj (List.mem_append_left _ z))) (S1.trans S') R') fun x ρ2 h => by rw [l1]; exact EPs.up S1 x ρ2 h⟩
def tgT (ts : List (D → Env → Rz Env)) : D → Env → Rz Env := fun d ρ => match d with
  | .nd .tup ds => if ds.length = ts.length then tgAll ts ds ρ else .no
  | _ => .no
theorem rg_tup {es : List Expr} {k : Nat} {ts : List (D → Env → Rz Env)} {is : List Nat} (hc : X.calm = true) (h : RGs X W es is ts) (hn : (assignEach es X.env).length = ts.length := by rfl) (hst : (assignEach es X.env).findIdx? (·.1) = none := by rfl) : RG X W (.Tuple es k pos) is (tgT ts) :=
  pg_monoI (pg_tup hc h hn hst) fun v σ H Q hl ⟨Γ, Hf, ρ, d, R, hv, hw⟩ => by
    cases hv with
    | tup s t =>
      have hw' : (if _ then tgAll ts _ ρ else Rz.no).wp _ _ := hw
      split at hw'
      · rename_i c
        exact ⟨_, _, rfl, SqT.same R.sub s, by rw [← t.length]; exact c, Γ, Hf, ρ, _, R, t, hw'⟩
      · exact hw'.elim
    | _ => exact hw.elim
/-- target = value -/
def gAsg (tgf : D → Env → Rz Env) (f : Env → Rz (Env × D)) : Env → Rz (Env × Fl) := fun ρ => (f ρ).bind fun p => (tgf p.2 p.1).bind fun ρ' => .ok (ρ', .nx)
theorem rs_asg {tgf : D → Env → Rz Env} {is : List Nat} (he : RV X W e vf) (hg : RG X W tg is tgf) (hs : swapsWithSole [tg] e pos.line X.env = pure false := by rfl) (hw : swappedStores [tg] e X.env = pure none := by rfl)
    (h1 : (assignEach [tg] X.env).map (·.2) = [assign tg X.env] := by rfl) : RS X W (.Assign [tg] e pos) (gAsg tgf vf) := ps_mono (ps_asg he hg hs hw h1) fun D σ H ⟨Γ, Hf, ρ, R, hw⟩ =>
  sbV R hw fun ρ1 d Hf1 H1 v S R1 hv hq => ⟨Γ, Hf1, ρ1, d, R1, hv, Rz.wp_mono (Rz.wp_bind hq) (fun ρ' hp Hf' σ' H' l' _ S' R' => hp Hf' σ' H' l' (S.trans S') R') fun _ _ z => z⟩
/-! ### for -/
def gForL (tgf : D → Env → Rz Env) (g : Env → Rz (Env × Fl)) : List D → Env → Rz (Env × Fl)
  | [], ρ => .ok (ρ, .nx)
  | d :: ds, ρ => (tgf d ρ).bind fun ρ1 => (g ρ1).bind fun q => match q.2 with
      | .nx => gForL tgf g ds q.1
      | .ct => gForL tgf g ds q.1
      | .bk => .ok (q.1, .nx)
      | .rt r => .ok (q.1, .rt r)
def gFor (it : Env → Rz (Env × List D)) (tgf : D → Env → Rz Env) (g : Env → Rz (Env × Fl)) : Env → Rz (Env × Fl) := fun ρ => (it ρ).bind fun p => gForL tgf g p.2 p.1
variable {g : Env → Rz (Env × Fl)} {itf : Env → Rz (Env × List D)} {tgf : D → Env → Rz Env} {is : List Nat}
theorem for_imp {M : Md} : ∀ D σ H, rdS M W (gFor itf tgf g) D σ H → tFor (rdI M W itf) (rdG M W is tgf) (rdS M W g) D σ H := by
  rintro D σ H ⟨Γ, Hf, ρ, R, hw⟩
  refine ⟨Γ, Hf, ρ, R, Rz.wp_mono (Rz.wp_bind hw) (fun p hp Hf1 H1 J S1 R1 Wk => ?_) (EPs.ex rfl)⟩
  obtain ⟨ρ1, ds⟩ := p
  -- the state ahead of turn i
  refine ⟨fun i m σ1 H2 => m = ds.length - i ∧ i ≤ ds.length ∧ σ1.length = σ.length ∧ ∃ Hf2 ρ2, Same Hf1 Hf2 ∧ Rep M Γ Hf2 σ1 H2 ρ2 ∧
    (gForL tgf g (ds.drop i) ρ2).wp (fun p => ∀ Hf' σ' H', σ'.length = σ.length → Same Hf2 Hf' → Rep M Γ Hf' σ' H' p.1 → FlOk M Γ Hf' σ' H' p.1 D p.2) (EPs M W Γ Hf2 σ.length),
    ⟨ds.length, by simp, Nat.zero_le _, rfl, Hf1, ρ1, Same.refl _, R1, ?_⟩, ?_⟩
  · exact Rz.wp_mono hp (fun p h Hf' σ' H' l S R' => h Hf' σ' H' l (S1.trans S) R') (EPs.up S1)
  rintro i m σ1 H2 ⟨rfl, hi, l1, Hf2, ρ2, S2, R2, hq⟩
  by_cases hlt : i < ds.length
  · refine .inr ⟨Wk.go i H2 (S2.trans R2.sub) hlt, fun σ' H' => σ'.length = σ.length ∧ ∃ Hf3 ρ3, Same Hf1 Hf3 ∧ Rep M Γ Hf3 σ' H' ρ3 ∧
      (gForL tgf g (ds.drop (i + 1)) ρ3).wp (fun p => ∀ Hf' σ' H', σ'.length = σ.length → Same Hf3 Hf' → Rep M Γ Hf' σ' H' p.1 → FlOk M Γ Hf' σ' H' p.1 D p.2) (EPs M W Γ Hf3 σ.length),
      fun σ' H' h => ⟨ds.length - (i + 1), by omega, rfl, hlt, h⟩, fun v H3 y => ?_⟩
    have ed : ds.drop i = ds[i] :: ds.drop (i + 1) := List.drop_eq_getElem_cons hlt
    rw [ed] at hq
    obtain ⟨Hf3, S3, R3, hd⟩ := Wk.yld i H2 v H3 ds[i] y (List.getElem?_eq_getElem hlt) Γ Hf2 σ1 ρ2 S2 R2
    refine ⟨Γ, Hf3, ρ2, ds[i], R3, hd, ?_⟩
    refine Rz.wp_mono (Rz.wp_bind hq) (fun ρ3 hp3 Hf4 σ4 H4 l4 _ S4 R4 => ?_) fun x ρ h => by rw [l1]; exact EPs.up S3 x ρ h
    have S24 : Same Hf2 Hf4 := S3.trans S4
    have hp4 : ((g ρ3).bind fun q => match q.2 with
      | .nx => gForL tgf g (ds.drop (i + 1)) q.1
      | .ct => gForL tgf g (ds.drop (i + 1)) q.1
      | .bk => .ok (q.1, .nx)
      | .rt r => .ok (q.1, .rt r)).wp (fun p => ∀ Hf' σ' H', σ'.length = σ.length → Same Hf2 Hf' → Rep M Γ Hf' σ' H' p.1 → FlOk M Γ Hf' σ' H' p.1 D p.2) (EPs M W Γ Hf4 σ4.length) := Rz.wp_mono hp3 (fun _ z => z) fun x ρ h => by rw [l4, l1]; exact EPs.up S24 x ρ h
    refine sbS R4 hp4 fun ρ5 fl Hf5 σ5 H5 l5 S5 R5 hq5 => ?_
    have l5' : σ5.length = σ.length := l5.trans (l4.trans l1)
    have on : ∀ {r : Rz (Env × Fl)}, r.wp (fun p => ∀ Hf' σ' H', σ'.length = σ.length → Same Hf2 Hf' → Rep M Γ Hf' σ' H' p.1 → FlOk M Γ Hf' σ' H' p.1 D p.2) (EPs M W Γ Hf5 σ5.length) →
        r.wp (fun p => ∀ Hf' σ' H', σ'.length = σ.length → Same Hf5 Hf' → Rep M Γ Hf' σ' H' p.1 → FlOk M Γ Hf' σ' H' p.1 D p.2) (EPs M W Γ Hf5 σ.length) := fun h =>
      Rz.wp_mono h (fun p hp Hf' σ' H' hl S' R' => hp Hf' σ' H' hl (S24.trans (S5.trans S')) R') fun x ρ h => by rw [l5'] at h; exact h
    cases fl with
    | nx => exact ⟨l5', Hf5, ρ5, S2.trans (S24.trans S5), R5, on hq5⟩
    | ct => exact ⟨l5', Hf5, ρ5, S2.trans (S24.trans S5), R5, on hq5⟩
    | bk => exact hq5 Hf5 σ5 H5 l5' (S24.trans S5) R5
    | rt r => exact hq5 Hf5 σ5 H5 l5' (S24.trans S5) R5
  · have e : i = ds.length := by omega
    subst e
    rw [List.drop_length] at hq
    exact .inl ⟨Wk.stop _ H2 (S2.trans R2.sub) (Nat.le_refl _), hq Hf2 σ1 H2 l1 (Same.refl _) R2⟩
theorem rs_for {iter : Expr} {body : List Stmt} (hp : PassesOwn (model X.prog X.w) X.A X.env X.xe) (hc : X.calm = true) (hi : RI X W tg iter itf) (hg : RG X W tg is tgf) (hb : RSs X W body g)
    (hs : ∀ x, foldedSetIterable iter X.env x = pure x := by intro _; rfl) : RS X W (.For tg iter body [] pos) (gFor itf tgf g) := ps_mono (ps_for hp hc hi hg hb hs) for_imp
end
end Fx

set_option Elab.async false
set_option linter.all false
set_option maxRecDepth 100000
set_option maxHeartbeats 4000000
namespace Fx
open PySem L2
/-! ### a container held beside the slots -/
theorem app_last {α : Type} {l : List α} {x y : α} {i : Nat} (h : (l ++ [x])[i]? = some y) : (i = l.length ∧ y = x) ∨ (i < l.length ∧ l[i]? = some y) := by
  by_cases e : i < l.length
  · rw [List.getElem?_append_left e] at h
    exact .inr ⟨e, h⟩
  · rw [List.getElem?_append_right (by omega)] at h
    by_cases e2 : i = l.length
    · subst e2
      rw [Nat.sub_self] at h
      simp at h
      exact .inl ⟨rfl, h.symm⟩
    · have : 1 ≤ i - l.length := by omega
      rw [List.getElem?_eq_none (by simpa using this)] at h
      cases h
theorem Rep0.push {M : Md} {g : Gm} {Hf : Hp} {σ : L2.St} {H : Hp} {ρ : Env} (R : Rep0 M g Hf σ H ρ) {a : Addr} {d : D} (h0 : g.H0 a = none) (hl : LocAt M Hf H d (.ref a)) (hn : ∀ (i : Nat) x, ρ[i]? = some x → x.own → σ[i]? ≠ some (some (.ref a))) :
    Rep0 M g Hf (σ ++ [some (.ref a)]) H (ρ ++ [.lo d]) := by
  have L := R.len
  have last : (σ ++ [some (V.ref a)])[ρ.length]? = some (some (.ref a)) := by rw [L]; simp
  refine ⟨by simp [L], R.sub, R.gr, R.fr, R.fz, fun i d' e => ?_, fun i d' e => ?_, fun i d' e => ?_, fun i j x y ne ex ey ox oy => ?_, R.paH, R.paO⟩
  · rcases app_last e with ⟨_, z⟩ | ⟨lt, q⟩
    · cases z
    · obtain ⟨v, h1, h2⟩ := R.im i d' q
      exact ⟨v, get_app h1, h2⟩
  · rcases app_last e with ⟨rfl, z⟩ | ⟨lt, q⟩
    · cases z; exact ⟨a, last, h0, hl⟩
    · obtain ⟨b, h1, h2, h3⟩ := R.lo i d' q
      exact ⟨b, get_app h1, h2, h3⟩
  · rcases app_last e with ⟨_, z⟩ | ⟨lt, q⟩
    · cases z
    · obtain ⟨b, h1, h2, h3⟩ := R.pa i d' q
      exact ⟨b, get_app h1, h2, h3⟩
  · rcases app_last ex with ⟨rfl, z⟩ | ⟨l1, q1⟩
    · rcases app_last ey with ⟨rfl, _⟩ | ⟨l2, q2⟩
      · exact absurd rfl ne
      · rw [last, get_left (by omega)]
        exact fun e => hn j y q2 oy e.symm
    · rcases app_last ey with ⟨rfl, z⟩ | ⟨l2, q2⟩
      · rw [last, get_left (by omega)]
        exact hn i x q1 ox
      · rw [get_left (by omega), get_left (by omega)]
        exact R.inj i j x y ne q1 q2 ox oy
theorem Rep0.pop {M : Md} {g : Gm} {Hf : Hp} {σ : L2.St} {H : Hp} {ρ : Env} {a : Addr} {d : D} (R : Rep0 M g Hf (σ ++ [some (.ref a)]) H (ρ ++ [.lo d])) :
    Rep0 M g Hf σ H ρ ∧ g.H0 a = none ∧ LocAt M Hf H d (.ref a) ∧ ∀ (i : Nat) x, ρ[i]? = some x → x.own → σ[i]? ≠ some (some (.ref a)) := by
  have L : ρ.length = σ.length := by have := R.len; simp at this; exact this
  have eρ : (ρ ++ [Sl.lo d])[ρ.length]? = some (.lo d) := by simp
  have eσ : (σ ++ [some (V.ref a)])[ρ.length]? = some (some (.ref a)) := by rw [L]; simp
  have lt : ∀ {i : Nat} {x : Sl}, ρ[i]? = some x → i < ρ.length := fun q => (List.getElem?_eq_some_iff.mp q).1
  have sg : ∀ {i : Nat} {x : Sl}, ρ[i]? = some x → (σ ++ [some (V.ref a)])[i]? = σ[i]? := fun q => get_left (by rw [← L]; exact lt q)
  obtain ⟨b, h1, h2, h3⟩ := R.lo ρ.length d eρ
  rw [eσ] at h1
  cases h1
  refine ⟨⟨L, R.sub, R.gr, R.fr, R.fz, fun i d' e => ?_, fun i d' e => ?_, fun i d' e => ?_, fun i j x y ne ex ey ox oy => ?_, R.paH, R.paO⟩, h2, h3, fun i x e o => ?_⟩
  · have := R.im i d' (get_app e)
    rw [sg e] at this; exact this
  · have := R.lo i d' (get_app e)
    rw [sg e] at this; exact this
  · have := R.pa i d' (get_app e)
    rw [sg e] at this; exact this
  · have := R.inj i j x y ne (get_app ex) (get_app ey) ox oy
    rw [sg ex, sg ey] at this; exact this
  · have := R.inj i ρ.length x (.lo d) (Nat.ne_of_lt (lt e)) (get_app e) eρ o trivial
    rw [sg e, eσ] at this; exact this
def Gh.add (Γ : Gh) (a : Addr) (d : D) : Gh := ⟨Γ.g, Γ.τ ++ [some (.ref a)], Γ.γ ++ [.lo d]⟩
section
variable {M : Md} {Γ : Gh} {Hf : Hp} {σ : L2.St} {H : Hp} {ρ : Env} {a : Addr} {d : D}
theorem Rep.push (R : Rep M Γ Hf σ H ρ) (h : RsIs M Γ Hf σ H ρ (.nw d) (.ref a)) : Rep M (Γ.add a d) Hf σ H ρ := by
  obtain ⟨b, e, h0, hl, hn⟩ := h
  cases e
  refine ⟨R.len, ?_⟩
  have := R.r0.push h0 hl hn
  rw [List.append_assoc, List.append_assoc] at this
  exact this
theorem Rep.pop (R : Rep M (Γ.add a d) Hf σ H ρ) : Rep M Γ Hf σ H ρ ∧ RsIs M Γ Hf σ H ρ (.nw d) (.ref a) := by
  have r := R.r0
  unfold Gh.add at r
  simp only at r
  rw [← List.append_assoc, ← List.append_assoc] at r
  obtain ⟨r', h0, hl, hn⟩ := r.pop
  exact ⟨⟨R.len, r'⟩, a, rfl, h0, hl, hn⟩
/-- a new list's address, at hand -/
theorem nw_of {p : Addr} {ds : List D} {vs : List V} (x : Rep M Γ Hf σ (upd H p (.lst vs)) ρ ∧ Γ.g.H0 p = none ∧ Hf p = none ∧ ∀ (i : Nat) x, (ρ ++ Γ.γ)[i]? = some x → x.own → (σ ++ Γ.τ)[i]? ≠ some (some (.ref p))) (t : HasAll M Hf ds vs) :
    RsIs M Γ Hf σ (upd H p (.lst vs)) ρ (.nw (.nd .lst ds)) (.ref p) := ⟨p, rfl, x.2.1, .lst x.2.2.1 upd_same t, x.2.2.2⟩
/-- the list held last grows -/
theorem Rep.growTop {ds : List D} (R : Rep M (Γ.add a (.nd .lst ds)) Hf σ H ρ) : ∃ vs, H a = some (.lst vs) ∧ HasAll M Hf ds vs ∧ ∀ (e : D) (v : V), Has M Hf e v → Rep M (Γ.add a (.nd .lst (ds ++ [e]))) Hf σ (upd H a (.lst (vs ++ [v]))) ρ := by
  have hl := R.pop.2
  obtain ⟨b, e, h0, hl, hn⟩ := hl
  cases e
  cases hl with
  | lst n h t =>
    rename_i vs
    refine ⟨vs, h, t, fun e v he => ⟨R.len, ?_⟩⟩
    have eρ : (ρ ++ (Γ.add a (.nd .lst ds)).γ)[(ρ ++ Γ.γ).length]? = some (.lo (.nd .lst ds)) := by
      show (ρ ++ (Γ.γ ++ [_]))[(ρ ++ Γ.γ).length]? = _
      rw [← List.append_assoc]; simp
    have eσ : (σ ++ (Γ.add a (.nd .lst ds)).τ)[(ρ ++ Γ.γ).length]? = some (some (.ref a)) := by
      have L := R.pop.1.r0.len
      show (σ ++ (Γ.τ ++ [_]))[(ρ ++ Γ.γ).length]? = _
      rw [← List.append_assoc, L]; simp
    have hw := R.r0.write (o := .lst (vs ++ [v])) (d := .nd .lst (ds ++ [e])) eρ trivial eσ (.lst n upd_same (t.append (.single he)))
    have es : (ρ ++ (Γ.add a (.nd .lst ds)).γ).set (ρ ++ Γ.γ).length (Sl.withD (.lo (.nd .lst ds)) (.nd .lst (ds ++ [e]))) = ρ ++ (Γ.add a (.nd .lst (ds ++ [e]))).γ := by
      show (ρ ++ (Γ.γ ++ [_])).set _ (Sl.lo _) = ρ ++ (Γ.γ ++ [_])
      rw [← List.append_assoc, ← List.append_assoc, List.set_append]
      simp
    rw [es] at hw
    exact hw
/-! ### slots forgotten -/
def wipeE (ρ : Env) : List Nat → Env
  | [] => ρ
  | v :: vs => (wipeE ρ vs).set v .no
theorem wipeE_length (ρ : Env) : ∀ vs : List Nat, (wipeE ρ vs).length = ρ.length
  | [] => rfl
  | v :: vs => by unfold wipeE; rw [List.length_set, wipeE_length ρ vs]
theorem wipeE_get {i : Nat} {x : Sl} : ∀ {vs : List Nat}, (wipeE ρ vs)[i]? = some x → x = .no ∨ (ρ[i]? = some x ∧ i ∉ vs)
  | [], h => .inr ⟨h, by simp⟩
  | v :: vs, h => by
    unfold wipeE at h
    rcases set_get h with ⟨rfl, z⟩ | ⟨ne, q⟩
    · exact .inl z
    · rcases wipeE_get q with z | ⟨q, n⟩
      · exact .inl z
      · exact .inr ⟨q, by simp only [List.mem_cons, not_or]; exact ⟨ne, n⟩⟩
theorem wipe_get {σ : L2.St} {i : Nat} : ∀ {vs : List Nat}, i ∉ vs → (wipe σ vs)[i]? = σ[i]?
  | [], _ => rfl
  | v :: vs, h => by
    simp only [List.mem_cons, not_or] at h
    unfold wipe
    rw [List.getElem?_set_ne (fun e => h.1 e.symm), wipe_get h.2]
theorem wipe_eq {σ σ2 : L2.St} {vs : List Nat} (hl : σ2.length = σ.length) (h : ∀ j, j ∉ vs → σ2[j]? = (wipe σ vs)[j]?) : wipe σ2 vs = wipe σ vs := by
  have key : ∀ (σ : L2.St) (vs : List Nat) (j : Nat), j ∈ vs → j < σ.length → (wipe σ vs)[j]? = some none := by
    intro σ vs
    induction vs with
    | nil => intro j hj; cases hj
    | cons v vs ih =>
      intro j hj lt
      unfold wipe
      by_cases e : j = v
      · subst e
        rw [List.getElem?_set_self (by rw [wipe_length]; exact lt)]
      · rw [List.getElem?_set_ne (fun q => e q.symm)]
        exact ih j ((List.mem_cons.mp hj).resolve_left e) lt
  apply List.ext_getElem?
  intro j
  by_cases hj : j ∈ vs
  · by_cases lt : j < σ.length
    · rw [key σ2 vs j hj (by rw [hl]; exact lt), key σ vs j hj lt]
    · rw [List.getElem?_eq_none (by rw [wipe_length, hl]; omega), List.getElem?_eq_none (by rw [wipe_length]; omega)]
  · rw [wipe_get hj]
    exact h j hj
/-- the slots vs are empty -/
def NoAt (ρ : Env) (vs : List Nat) : Prop := ∀ (i : Nat) x, i ∈ vs → ρ[i]? = some x → x = .no
theorem noAt_wipe {ρ : Env} {vs : List Nat} : NoAt (wipeE ρ vs) vs := fun i x hi e => by
  rcases wipeE_get e with z | ⟨_, n⟩
  · exact z
  · exact absurd hi n
theorem Rep.forget (R : Rep M Γ Hf σ H ρ) {σ' : L2.St} {ρ' : Env} (lσ : σ'.length = σ.length) (lρ : ρ'.length = ρ.length) (h : ∀ (i : Nat) x, ρ'[i]? = some x → x = .no ∨ (ρ[i]? = some x ∧ σ'[i]? = σ[i]?)) : Rep M Γ Hf σ' H ρ' := by
  refine ⟨by rw [lρ, lσ]; exact R.len, R.r0.forget (by simp [lσ]) (by simp [lρ]) fun i x e => ?_⟩
  have L := R.len
  by_cases lt : i < ρ'.length
  · rw [get_left lt] at e
    rcases h i x e with z | ⟨q, es⟩
    · exact .inl z
    · refine .inr ⟨get_app q, ?_⟩
      rw [get_left (by omega), get_left (by omega)]
      exact es
  · rw [List.getElem?_append_right (by omega)] at e
    refine .inr ⟨?_, ?_⟩
    · rw [List.getElem?_append_right (by omega), ← lρ]; exact e
    · rw [List.getElem?_append_right (by omega), List.getElem?_append_right (by omega), lσ]
theorem Rep.wipe (R : Rep M Γ Hf σ H ρ) (vs : List Nat) : Rep M Γ Hf σ H (wipeE ρ vs) := R.forget rfl (wipeE_length ρ vs) fun i x e => (wipeE_get e).imp id fun ⟨q, _⟩ => ⟨q, rfl⟩
theorem Rep.wipeS (R : Rep M Γ Hf σ H ρ) {vs : List Nat} (n : NoAt ρ vs) : Rep M Γ Hf (L2.wipe σ vs) H ρ := R.forget (wipe_length σ vs) rfl fun i x e => by
  by_cases hi : i ∈ vs
  · exact .inl (n i x hi e)
  · exact .inr ⟨e, wipe_get hi⟩
theorem Rep.unwipe {σ2 : L2.St} (R : Rep M Γ Hf σ2 H ρ) {vs : List Nat} (hl : σ2.length = σ.length) (h : ∀ j, j ∉ vs → σ2[j]? = σ[j]?) : Rep M Γ Hf σ H (wipeE ρ vs) := R.forget hl.symm (wipeE_length ρ vs) fun i x e => (wipeE_get e).imp id fun ⟨q, n⟩ => ⟨q, (h i n).symm⟩
end
/-! ### [e for target in iter if ..] -/
def tYes : Env → Rz (Env × Bool) := fun ρ => .ok (ρ, true)
def lcL (vs : List Nat) (tgf : D → Env → Rz Env) (tt : Env → Rz (Env × Bool)) (vf : Env → Rz (Env × D)) : List D → Env → List D → Rz (Env × List D)
  | [], ρ, acc => .ok (ρ, acc)
  | d :: ds, ρ, acc => (tgf d ρ).bind fun ρ1 => (tt ρ1).bind fun p =>
      if p.2 = true then (vf p.1).bind fun q => if sz (acc.length + 1) = true then lcL vs tgf tt vf ds (wipeE q.1 vs) (acc ++ [q.2]) else .no
      else lcL vs tgf tt vf ds (wipeE p.1 vs) acc
/-- nothing is let out -/
def noX {α : Type} : Rz α → Rz α
  | .ok a => .ok a
  | _ => .no
@[simp] theorem noX_ok {α : Type} (a : α) : noX (.ok a) = .ok a := rfl
theorem noX_wp {α : Type} {r : Rz α} {Q : α → Prop} {E : Exn → Env → Prop} (h : (noX r).wp Q E) : r.wp Q fun _ _ => False := by
  cases r <;> exact h
def eLc (vs : List Nat) (it : Env → Rz (Env × List D)) (tgf : D → Env → Rz Env) (tt : Env → Rz (Env × Bool)) (vf : Env → Rz (Env × D)) : Env → Rz (Env × Rs) := fun ρ => (it ρ).bind fun p => (noX (lcL vs tgf tt vf p.2 (wipeE p.1 vs) [])).bind fun q => .ok (q.1, .nw (.nd .lst q.2))
abbrev W0 : WX := fun _ _ _ _ => False
abbrev RTs (X : Cx) (W : WX) (ifs : List Expr) (tt : Env → Rz (Env × Bool)) : Prop := PTs X ifs (rdT ⟨X.K, X.mg⟩ W tt)
theorem pts_mono {X : Cx} {ifs : List Expr} {t t' : TT} (h : PTs X ifs t) (i : ∀ σ H Q, t' σ H Q → t σ H Q) : PTs X ifs t' := ⟨fun pins s σ H Q I q => h.run pins s σ H Q I (i σ H Q q)⟩
theorem rts_nil {X : Cx} {W : WX} : RTs X W [] tYes := pts_mono pts_nil fun σ H Q ⟨Γ, Hf, ρ, R, hw⟩ => hw Hf H (Same.refl _) R
theorem rts_one {X : Cx} {W : WX} {c : Expr} {tt : Env → Rz (Env × Bool)} (h : RT X W c tt) : RTs X W [c] tt := pts_one h
section
variable {M : Md} {W : WX} {vs is : List Nat} {itf : Env → Rz (Env × List D)} {tgf : D → Env → Rz Env} {tt : Env → Rz (Env × Bool)} {vf : Env → Rz (Env × D)}
theorem lc_imp (hv : ∀ i ∈ is, i ∈ vs) : ∀ σ H Q, rdE M W (eLc vs itf tgf tt vf) σ H Q → tLc (rdI M W itf) (rdG M W0 is tgf) (rdT M W0 tt) (rdV M W0 vf) vs σ H Q := by
  rintro σ H Q ⟨Γ, Hf, ρ, R, hw⟩
  refine ⟨Γ, Hf, ρ, R, Rz.wp_mono (Rz.wp_bind hw) (fun p hp Hf1 H1 J S1 R1 Wk L hL => ?_) fun _ _ z => z⟩
  obtain ⟨ρ1, ds⟩ := p
  have N0 := R1.layN hL (.lst [])
  have R1n := N0.1.push (nw_of N0 (.nil : HasAll M Hf1 [] []))
  have R1w := R1n.wipe vs
  have hp' := noX_wp (Rz.wp_bind hp)
  -- the state ahead of turn i
  refine ⟨fun i m H2 => m = ds.length - i ∧ i ≤ ds.length ∧ ∃ Hf2 ρ2 acc, Same Hf1 Hf2 ∧ Rep M (Γ.add L (.nd .lst acc)) Hf2 σ H2 ρ2 ∧ NoAt ρ2 vs ∧
    (lcL vs tgf tt vf (ds.drop i) ρ2 acc).wp (fun q => ∀ Hf' H' v, Same Hf2 Hf' → Rep M Γ Hf' σ H' q.1 → RsIs M Γ Hf' σ H' q.1 (.nw (.nd .lst q.2)) v → Q v H') (fun _ _ => False),
    ⟨ds.length, by simp, Nat.zero_le _, Hf1, wipeE ρ1 vs, [], Same.refl _, R1w, noAt_wipe, ?_⟩, ?_⟩
  · exact Rz.wp_mono hp' (fun q h Hf' H' v S R' h' => h Hf' H' v (S1.trans S) R' h') fun _ _ z => z
  rintro i m H2 ⟨rfl, hi, Hf2, ρ2, acc, S2, R2, n2, hq⟩
  by_cases hlt : i < ds.length
  · refine .inr ⟨Wk.go i H2 (S2.trans R2.sub) hlt, fun H' => ∃ Hf2 ρ2 acc, Same Hf1 Hf2 ∧ Rep M (Γ.add L (.nd .lst acc)) Hf2 σ H' ρ2 ∧ NoAt ρ2 vs ∧
      (lcL vs tgf tt vf (ds.drop (i + 1)) ρ2 acc).wp (fun q => ∀ Hf' H' v, Same Hf2 Hf' → Rep M Γ Hf' σ H' q.1 → RsIs M Γ Hf' σ H' q.1 (.nw (.nd .lst q.2)) v → Q v H') (fun _ _ => False),
      fun H' h => ⟨ds.length - (i + 1), by omega, rfl, hlt, h⟩, fun v H3 y => ?_⟩
    have ed : ds.drop i = ds[i] :: ds.drop (i + 1) := List.drop_eq_getElem_cons hlt
    rw [ed] at hq
    obtain ⟨Hf3, S3, R3, hd⟩ := Wk.yld i H2 v H3 ds[i] y (List.getElem?_eq_getElem hlt) _ Hf2 σ ρ2 S2 R2
    have hq1 := Rz.wp_bind (show ((tgf ds[i] ρ2).bind _).wp _ _ from hq)
    refine ⟨_, Hf3, ρ2, ds[i], R3.wipeS n2, hd, Rz.wp_mono hq1 (fun ρ3 hq3 Hf4 σ4 H4 l4 o4 S4 R4 => ?_) fun _ _ z => z.elim⟩
    have l4' : σ4.length = σ.length := by rw [l4, wipe_length]
    have o4' : ∀ j, j ∉ vs → σ4[j]? = σ[j]? := fun j hj => (o4 j fun z => hj (hv j z)).trans (wipe_get hj)
    have ew : wipe σ4 vs = wipe σ vs := wipe_eq l4' fun j hj => o4 j fun z => hj (hv j z)
    refine ⟨ew, _, Hf4, ρ3, R4, Rz.wp_mono (Rz.wp_bind hq3) (fun pb hq5 Hf5 H5 S5 R5 => ?_) fun _ _ z => z.elim⟩
    obtain ⟨ρ5, b⟩ := pb
    have S35 : Same Hf2 Hf5 := S3.trans (S4.trans S5)
    cases b with
    | false =>
      refine iteF ⟨Hf5, wipeE ρ5 vs, acc, S2.trans S35, R5.unwipe l4' o4', noAt_wipe, ?_⟩
      exact Rz.wp_mono hq5 (fun q h Hf' H' v S R' h' => h Hf' H' v (S35.trans S) R' h') fun _ _ z => z
    | true =>
      refine iteT ⟨_, Hf5, ρ5, R5, Rz.wp_mono (Rz.wp_bind (show ((vf ρ5).bind _).wp _ _ from hq5)) (fun pv hq6 Hf6 H6 y6 S6 R6 hy => ?_) fun _ _ z => z.elim⟩
      obtain ⟨ρ6, e⟩ := pv
      obtain ⟨zsz, hq6⟩ := ite_wp hq6
      have zsz := sz_ok zsz
      obtain ⟨av, hav, tav, grow⟩ := R6.growTop
      refine ⟨av, hav, ?_, Hf6, wipeE ρ6 vs, acc ++ [e], S2.trans (S35.trans S6), (grow e y6 hy).unwipe l4' o4', noAt_wipe, ?_⟩
      · have := tav.length; omega
      · exact Rz.wp_mono hq6 (fun q h Hf' H' v S R' h' => h Hf' H' v (S35.trans (S6.trans S)) R' h') fun _ _ z => z
  · have e : i = ds.length := by omega
    subst e
    rw [List.drop_length] at hq
    obtain ⟨R2', h2⟩ := R2.pop
    exact .inl ⟨Wk.stop _ H2 (S2.trans R2.sub) (Nat.le_refl _), hq Hf2 H2 _ (Same.refl _) R2' h2⟩
end
section
variable {X : Cx} {W : WX} {vs is : List Nat} {itf : Env → Rz (Env × List D)} {tgf : D → Env → Rz Env} {tt : Env → Rz (Env × Bool)} {vf : Env → Rz (Env × D)} {elt tg iter : Expr} {ifs : List Expr} {scope : Scope} {own : List (Str × Nat)} {pos spos py : Pos} {i : Nat} {y : Str}
theorem re_lc (own : List (Str × Nat)) (hc : X.calm = true) (hN : X.N.Nodup) (hi : RI X W tg iter itf) (ok : BlkOk X.N X.env.scope scope own) (hv : ∀ i ∈ is, i ∈ own.map (·.2))
    (hg : ∀ (s : Shared) (H : Hp) (C : Addr) (cl : List (Str × Addr)) (fp : List Addr), RG (X.blk s H scope (compEnvC scope cl C X.env) fp) W0 tg is tgf) (ht : ∀ (s : Shared) (H : Hp) (C : Addr) (cl : List (Str × Addr)) (fp : List Addr), RTs (X.blk s H scope (compEnvC scope cl C X.env) fp) W0 ifs tt)
    (he : ∀ (s : Shared) (H : Hp) (C : Addr) (cl : List (Str × Addr)) (fp : List Addr), RV (X.blk s H scope (compEnvC scope cl C X.env) fp) W0 elt vf) (hs : ∀ x, foldedSetIterable iter X.env x = pure x := by intro _; rfl) :
    RE X W (.ListComp elt [⟨tg, iter, ifs, 0⟩] scope pos) (eLc (own.map (·.2)) itf tgf tt vf) := pe_mono (pe_lc (own := own) hc hN hi ok hg ht he hs) (lc_imp hv)
/-- y = [..] -/
theorem rs_setLc (own : List (Str × Nat)) (hc : X.calm = true) (hN : X.N.Nodup) (hi : RI X W tg iter itf) (ok : BlkOk X.N X.env.scope scope own) (hv : ∀ i ∈ is, i ∈ own.map (·.2))
    (hg : ∀ (s : Shared) (H : Hp) (C : Addr) (cl : List (Str × Addr)) (fp : List Addr), RG (X.blk s H scope (compEnvC scope cl C X.env) fp) W0 tg is tgf) (ht : ∀ (s : Shared) (H : Hp) (C : Addr) (cl : List (Str × Addr)) (fp : List Addr), RTs (X.blk s H scope (compEnvC scope cl C X.env) fp) W0 ifs tt)
    (he : ∀ (s : Shared) (H : Hp) (C : Addr) (cl : List (Str × Addr)) (fp : List Addr), RV (X.blk s H scope (compEnvC scope cl C X.env) fp) W0 elt vf)
    (hsw : swapsWith (.ListComp elt [⟨tg, iter, ifs, 0⟩] scope pos) (some (.Name y py)) spos.line X.env = pure true)
    (hy : X.N[i]? = some y := by rfl) (hyl : X.env.scope.names.lookup y = some .local := by rfl) (hs : ∀ x, foldedSetIterable iter X.env x = pure x := by intro _; rfl) :
    RS X W (.Assign [.Name y py] (.ListComp elt [⟨tg, iter, ifs, 0⟩] scope pos) spos) (gSet i (eLc (own.map (·.2)) itf tgf tt vf)) :=
  ps_mono (ps_setLc (own := own) hc hN hy hyl hsw hi ok hg ht he hs) fun D σ H ⟨Γ, Hf, ρ, R, hw⟩ => lc_imp hv σ H _ (sbE R hw fun ρ1 r Hf1 H1 v S R1 hv hq => by
    obtain ⟨ρ', e1, hq⟩ := put_wp hq
    obtain ⟨Hf2, S2, R2⟩ := R1.store hv e1
    exact hq Hf2 (σ.set i (some v)) H1 (by simp) (S.trans S2) R2)
end
end Fx

set_option Elab.async false
set_option linter.all false
set_option maxRecDepth 100000
set_option maxHeartbeats 4000000
namespace Fx
open PySem L2
/-! ### one's own container in a slot -/
def Sl.ownD : Sl → Option D
  | .lo d => some d
  | .pa d => some d
  | _ => none
section
variable {M : Md} {Γ : Gh} {Hf : Hp} {σ : L2.St} {H : Hp} {ρ : Env}
theorem Rep.ownAt (R : Rep M Γ Hf σ H ρ) {i : Nat} {x : Sl} {d : D} (e : ρ[i]? = some x) (ed : x.ownD = some d) : x.own ∧ ∃ a, σ[i]? = some (some (.ref a)) ∧ LocAt M Hf H d (.ref a) ∧
    ∀ (d' : D) (o : HO), LocAt M Hf (upd H a o) d' (.ref a) → Rep M Γ Hf σ (upd H a o) (ρ.set i (x.withD d')) := by
  have lt : i < σ.length := by rw [← R.len]; exact (List.getElem?_eq_some_iff.mp e).1
  have lt' : i < ρ.length := (List.getElem?_eq_some_iff.mp e).1
  have e' := get_app (k := Γ.γ) e
  have fin : ∀ {a : Addr}, x.own → σ[i]? = some (some (.ref a)) → ∀ (d' : D) (o : HO), LocAt M Hf (upd H a o) d' (.ref a) → Rep M Γ Hf σ (upd H a o) (ρ.set i (x.withD d')) := fun {a} ox hs d' o hl => by
    have := R.r0.write (o := o) e' ox (get_app hs) hl
    rw [set_left lt'] at this
    exact ⟨by simpa using R.len, this⟩
  cases x with
  | no => cases ed
  | im _ => cases ed
  | lo d0 =>
    cases ed
    obtain ⟨a, h1, _, h3⟩ := R.r0.lo i _ e'
    rw [get_left lt] at h1
    exact ⟨trivial, a, h1, h3, fin trivial h1⟩
  | pa d0 =>
    cases ed
    obtain ⟨a, h1, _, h3⟩ := R.r0.pa i _ e'
    rw [get_left lt] at h1
    exact ⟨trivial, a, h1, h3, fin trivial h1⟩
/-- a list of one's own -/
theorem Rep.ownL (R : Rep M Γ Hf σ H ρ) {i : Nat} {x : Sl} {ds : List D} (e : ρ[i]? = some x) (ed : x.ownD = some (.nd .lst ds)) : ∃ a vs, σ[i]? = some (some (.ref a)) ∧ H a = some (.lst vs) ∧ HasAll M Hf ds vs ∧
    ∀ ds' vs', HasAll M Hf ds' vs' → Rep M Γ Hf σ (upd H a (.lst vs')) (ρ.set i (x.withD (.nd .lst ds'))) := by
  obtain ⟨ox, a, h1, h2, fin⟩ := R.ownAt e ed
  cases h2 with
  | lst n h t => exact ⟨a, _, h1, h, t, fun ds' vs' t' => fin _ _ (.lst n upd_same t')⟩
end
/-- the content of a slot that one may write -/
def ownC (ρ : Env) (i : Nat) : Option (Sl × D) := (ρ[i]?).bind fun x => (x.ownD).map fun d => (x, d)
theorem ownC_some {ρ : Env} {i : Nat} {p : Sl × D} (h : ownC ρ i = some p) : ρ[i]? = some p.1 ∧ p.1.ownD = some p.2 := by
  unfold ownC at h
  cases q : ρ[i]? with
  | none => rw [q] at h; cases h
  | some x =>
    rw [q] at h
    cases q2 : x.ownD with
    | none =>
      have h' : (x.ownD).map (fun d => (x, d)) = some p := h
      rw [q2] at h'; cases h'
    | some d =>
      have h' : (x.ownD).map (fun d => (x, d)) = some p := h
      rw [q2] at h'; cases h'
      exact ⟨rfl, q2⟩
/-- a method of the list in slot i that changes it: F: the items, the arguments to the new items and the result -/
def isLst : D → Bool
  | .nd .lst _ => true
  | _ => false
def eMth (i : Nat) (F : List D → List D → Option (List D × D)) (args : Env → Rz (Env × List Rs)) : Env → Rz (Env × Rs) := fun ρ => (Rz.ofO (ownC ρ i)).bind fun c0 => if isLst c0.2 = true then
  (args ρ).bind fun p => (useAll p.1 p.2).bind fun q => (Rz.ofO (ownC q.1 i)).bind fun c => match c.2 with
  | .nd .lst ds => (Rz.ofO (F ds q.2)).bind fun r => .ok (q.1.set i (c.1.withD (.nd .lst r.1)), .im r.2)
  | _ => .no
  else .no
/-- r serves F -/
def ServesM (M : Md) (r : V → List V → Hp → VK → Prop) (F : List D → List D → Option (List D × D)) : Prop := ∀ Hf H a vs ds as us p, Same Hf H → H a = some (.lst vs) → HasAll M Hf ds vs → HasAll M Hf as us → F ds as = some p →
  ∃ vs' v', HasAll M Hf p.1 vs' ∧ Has M Hf p.2 v' ∧ ∀ Q : VK, Q v' (upd H a (.lst vs')) → r (.ref a) us H Q
section
variable {X : Cx} {W : WX} {e : Expr} {es : List Expr} {apos cpos npos pos : Pos} {f : Env → Rz (Env × List Rs)} {x name : Str} {T id : String} {r : V → List V → Hp → VK → Prop} {F : List D → List D → Option (List D × D)} {i : Nat}
theorem tyV_list {K : PySem.W.Frag} {H : Hp} {a : Addr} {vs : List V} (h : H a = some (.lst vs)) : tyV K "list" (.ref a) H := .inl ⟨rfl, _, SqL.of h⟩
theorem rN_own {ρ : Env} {p : Sl × D} (h : ownC ρ i = some p) : rN i ρ = .ok (ρ, .slot i) := by
  obtain ⟨h1, h2⟩ := ownC_some h
  obtain ⟨x, d⟩ := p
  unfold rN
  rw [h1]
  cases x with
  | no => exact nomatch h2
  | im _ => exact nomatch h2
  | lo _ => rfl
  | pa _ => rfl
/-- behind the arguments -/
theorem mth_end {M : Md} (hs : ServesM M r F) {Γ : Gh} {Hf : Hp} {σ : L2.St} {H : Hp} {ρ : Env} {rs : List Rs} {us : List V} {v : V} {Q : VK} {E : Exn → Env → Prop} (R : Rep M Γ Hf σ H ρ) (hv : σ[i]? = some (some v)) (ha : HsAll M Hf σ rs us)
    (hq : ((useAll ρ rs).bind fun q => (Rz.ofO (ownC q.1 i)).bind fun c => match c.2 with
      | .nd .lst ds => (Rz.ofO (F ds q.2)).bind fun r => .ok (q.1.set i (c.1.withD (.nd .lst r.1)), Rs.im r.2)
      | _ => .no).wp (fun p => ∀ Hf' H' v, Same Hf Hf' → Rep M Γ Hf' σ H' p.1 → RsIs M Γ Hf' σ H' p.1 p.2 v → Q v H') E) : r v us H Q := by
  obtain ⟨q, u, hq⟩ := useAll_wp hq
  obtain ⟨Hf2, S2, R2, h2⟩ := R.useAll ha u
  obtain ⟨c, e1, hq⟩ := ofO_bind hq
  obtain ⟨sl, d⟩ := c
  cases d with
  | nd k ds =>
    cases k with
    | lst =>
      obtain ⟨res, e2, hq⟩ := ofO_bind hq
      obtain ⟨g1, g2⟩ := ownC_some e1
      obtain ⟨a, vs, es, ea, t, fin⟩ := R2.ownL g1 g2
      rw [hv] at es
      cases es
      obtain ⟨vs', v', t', hv', go⟩ := hs Hf2 H a vs ds q.2 us res R2.sub ea t h2 e2
      exact go Q (hq Hf2 _ v' S2 (fin _ _ t') hv')
    | _ => exact hq.elim
  | _ => exact hq.elim
theorem own_start {M : Md} {β : Type} {Γ : Gh} {Hf : Hp} {σ : L2.St} {H : Hp} {ρ : Env} {g : Rz β} {P : β → Prop} {E : Exn → Env → Prop} {Q : VK} (R : Rep M Γ Hf σ H ρ)
    (hw : ((Rz.ofO (ownC ρ i)).bind fun c0 => if isLst c0.2 = true then g else .no).wp P E)
    (k : g.wp P E → ∀ Hf1 H1 v, Same Hf Hf1 → Rep M Γ Hf1 σ H1 ρ → σ[i]? = some (some v) → (∃ a vs, v = .ref a ∧ H1 a = some (.lst vs)) → Q v H1) : rdH M W (rN i) σ H Q := by
  obtain ⟨c0, e0, hw⟩ := ofO_bind hw
  obtain ⟨z, hw⟩ := ite_wp hw
  refine ⟨Γ, Hf, ρ, R, ?_⟩
  rw [rN_own e0]
  intro Hf1 H1 v S1 R1 hv
  obtain ⟨g1, g2⟩ := ownC_some e0
  obtain ⟨sl, d⟩ := c0
  cases d with
  | nd kk ds =>
    cases kk with
    | lst =>
      obtain ⟨a, vs, es, ea, t, fin⟩ := R1.ownL g1 g2
      have hv' : σ[i]? = some (some v) := hv
      rw [hv'] at es
      cases es
      exact k hw Hf1 H1 _ S1 R1 hv ⟨a, vs, rfl, ea⟩
    | _ => cases z
  | _ => cases z
theorem mth_imp {M : Md} (hs : ServesM M r F) : ∀ σ H Q, rdE M W (eMth i F f) σ H Q → tBM M.K "list" r (rdH M W (rN i)) (rdHs M W f) σ H Q := by
  rintro σ H Q ⟨Γ, Hf, ρ, R, hw⟩
  refine own_start R hw fun hq Hf1 H1 v S1 R1 hv ⟨a, vs, ev, ea⟩ => ?_
  subst ev
  refine ⟨tyV_list ea, bindHs R1 (Rz.wp_mono hq (fun _ z => z) (EPf.up S1)) fun ρ2 rs Hf2 H2 us S2 R2 hus hq2 => ?_⟩
  exact mth_end hs R2 hv hus (Rz.wp_mono hq2 (fun p hp Hf' H' v S' R' h' => hp Hf' H' v (S1.trans (S2.trans S')) R' h') fun _ _ z => z)
/-- .. without arguments -/
theorem mth_imp0 {M : Md} (hs : ServesM M r F) : ∀ σ H Q, rdE M W (eMth i F aNil) σ H Q → tBM0 M.K "list" r (rdH M W (rN i)) σ H Q := by
  rintro σ H Q ⟨Γ, Hf, ρ, R, hw⟩
  refine own_start R hw fun hq Hf1 H1 v S1 R1 hv ⟨a, vs, ev, ea⟩ => ?_
  subst ev
  refine ⟨tyV_list ea, mth_end (rs := []) (us := []) hs R1 hv .nil (Rz.wp_mono (show ((useAll ρ []).bind _).wp _ _ from hq) (fun p hp Hf' H' v S' R' h' => hp Hf' H' v (S1.trans S') R' h') fun _ _ z => z)⟩
theorem re_mth (slot : Slot "list" name id) (hty : typeOf (.builtin id) = pure (.type "method_descriptor")) (hm : MtR X id r) (hs : ServesM ⟨X.K, X.mg⟩ r F) (ha : RHs X W (e :: es) f) (hN : X.N[i]? = some x := by rfl)
    (hv : Vis X.env.scope x := by first | exact Or.inl rfl | exact Or.inr (Or.inl rfl) | exact Or.inr (Or.inr rfl)) (hd : (x == ("__debug__" : Str)) = false := by decide) (hcd : (x == ("__classdict__" : Str)) = false := by decide)
    (hbase : attributeBase (.Name x npos) name X.env (eval (.Name x npos) X.env) = eval (.Name x npos) X.env := by rfl)
    (hfew : ((backTo cpos (starEach (e :: es) X.env)).all (fun x => !x.1) && (backToKw cpos (keywordEach [] X.env)).all (fun x => x.1.isSome)
      && decide ((e :: es).length + ([] : List Keyword).length + (if ([] : List Keyword).isEmpty then 0 else 1) < 30)) = true := by rfl)
    (hline : (apos.endLine == cpos.line) = true := by rfl) (hst : starEach (e :: es) X.env = (false, eval e X.env) :: starEach es X.env := by rfl) (hplain : (backTo cpos (starEach es X.env)).any (·.1) = false := by rfl) :
    RE X W (.Call (.Attribute (.Name x npos) name apos) (e :: es) [] cpos) (eMth i F f) :=
  pe_mono (pe_bm PySem.F.plainAttrs_list slot hty hm (rh_name i hN hv hd hcd) ha hbase hfew hline hst hplain) (mth_imp hs)
theorem re_mth0 (slot : Slot "list" name id) (hty : typeOf (.builtin id) = pure (.type "method_descriptor")) (hm : MtR X id r) (hs : ServesM ⟨X.K, X.mg⟩ r F) (hN : X.N[i]? = some x := by rfl)
    (hv : Vis X.env.scope x := by first | exact Or.inl rfl | exact Or.inr (Or.inl rfl) | exact Or.inr (Or.inr rfl)) (hd : (x == ("__debug__" : Str)) = false := by decide) (hcd : (x == ("__classdict__" : Str)) = false := by decide)
    (hbase : attributeBase (.Name x npos) name X.env (eval (.Name x npos) X.env) = eval (.Name x npos) X.env := by rfl) (hline : (apos.endLine == cpos.line) = true := by rfl) :
    RE X W (.Call (.Attribute (.Name x npos) name apos) [] [] cpos) (eMth i F aNil) :=
  pe_mono (pe_bm0 PySem.F.plainAttrs_list slot hty hm (rh_name i hN hv hd hcd) hbase hline) (mth_imp0 hs)
def mAppend : List D → List D → Option (List D × D)
  | ds, [d] => if sz (ds.length + 1) then some (ds ++ [d], .non) else none
  | _, _ => none
def mExtend : List D → List D → Option (List D × D)
  | ds, [.nd .lst es] => if sz (ds.length + es.length) then some (ds ++ es, .non) else none
  | _, _ => none
def mPop : List D → List D → Option (List D × D)
  | ds, [] => (ds.getLast?).map fun d => (ds.dropLast, d)
  | _, _ => none
theorem serves_append {M : Md} : ServesM M rAppend mAppend := fun Hf H a vs ds as us p S ea t ha h => by
  cases ha with
  | nil => cases h
  | cons h1 h2 =>
    cases h2 with
    | cons _ _ => cases h
    | nil =>
      obtain ⟨c, e⟩ := opt_ite h
      subst e
      have := sz_ok c
      rw [t.length] at this
      exact ⟨_, .non, t.append (.single h1), .non, fun Q q => ⟨a, vs, _, rfl, rfl, ea, by omega, q⟩⟩
theorem serves_extend {M : Md} : ServesM M rExtend mExtend := fun Hf H a vs ds as us p S ea t ha h => by
  cases ha with
  | nil => cases h
  | cons h1 h2 =>
    cases h2 with
    | cons _ _ => cases h1 <;> cases h
    | nil =>
      cases h1 with
      | lst s t2 =>
        obtain ⟨c, e⟩ := opt_ite h
        subst e
        have := sz_ok c
        rw [t.length, t2.length] at this
        exact ⟨_, .non, t.append t2, .non, fun Q q => ⟨a, _, vs, _, rfl, rfl, ea, S _ _ s, this, q⟩⟩
      | _ => cases h
theorem serves_pop {M : Md} : ServesM M rPop mPop := fun Hf H a vs ds as us p S ea t ha h => by
  cases ha with
  | cons _ _ => cases h
  | nil =>
    cases q : ds.getLast? with
    | none => simp [mPop, q] at h
    | some d =>
      simp [mPop, q] at h
      subst h
      have hd : ds[ds.length - 1]? = some d := by rw [← List.getLast?_eq_getElem?]; exact q
      obtain ⟨v, hv, hh⟩ := t.get hd
      exact ⟨_, v, t.dropLast, hh, fun Q q => ⟨a, vs, v, rfl, rfl, ea, by rw [← t.length]; exact hv, q⟩⟩
end
/-! ### a slot's list: xs[i] = e -/
def gSub (i : Nat) (ix : Env → Rz (Env × Rs)) (f : Env → Rz (Env × D)) : Env → Rz (Env × Fl) := fun ρ => (f ρ).bind fun p => (Rz.ofO (ownC p.1 i)).bind fun _ => (ix p.1).bind fun q => (Rz.ofO (peek q.1 q.2)).bind fun k => (Rz.ofO (ownC q.1 i)).bind fun c => match c.2, k with
  | .nd .lst ds, .int k => (Rz.ofO (ixN ds.length k)).bind fun j => .ok (q.1.set i (c.1.withD (.nd .lst (ds.set j p.2))), .nx)
  | _, _ => .no
section
variable {X : Cx} {W : WX} {e ie : Expr} {npos tpos pos : Pos} {x : Str} {i : Nat} {ix : Env → Rz (Env × Rs)} {vf : Env → Rz (Env × D)}
theorem rs_sub (i : Nat) (he : RV X W e vf) (hix : RH X W ie ix) (hN : X.N[i]? = some x := by rfl)
    (hv : Vis X.env.scope x := by first | exact Or.inl rfl | exact Or.inr (Or.inl rfl) | exact Or.inr (Or.inr rfl)) (hd : (x == ("__debug__" : Str)) = false := by decide) (hcd : (x == ("__classdict__" : Str)) = false := by decide)
    (ha : ∀ v, assign (.Subscript (.Name x npos) ie tpos) X.env v = (do
      let ov ← holding [v] (eval (.Name x npos) X.env)
      let iv ← holding [v, ov] (eval ie X.env)
      standAt tpos
      holding [v, ov, iv] (setItem ov iv v)
      release [v, ov, iv] []) := by intro _; rfl)
    (hs : swapsWithSole [.Subscript (.Name x npos) ie tpos] e pos.line X.env = pure false := by rfl) (hw : swappedStores [.Subscript (.Name x npos) ie tpos] e X.env = pure none := by rfl)
    (h1 : (assignEach [.Subscript (.Name x npos) ie tpos] X.env).map (·.2) = [assign (.Subscript (.Name x npos) ie tpos) X.env] := by rfl) :
    RS X W (.Assign [.Subscript (.Name x npos) ie tpos] e pos) (gSub i ix vf) :=
  ps_mono (ps_asg he (pg_sub (rh_name (W := W) i hN hv hd hcd) hix set_list ha) hs hw h1) fun D σ H ⟨Γ, Hf, ρ, R, hw⟩ => sbV R hw fun ρ1 d Hf1 H1 v S1 R1 hv hq => by
    obtain ⟨c0, e0, hq⟩ := ofO_bind hq
    refine ⟨Γ, Hf1, ρ1, R1, ?_⟩
    rw [rN_own e0]
    intro Hf2 H2 o S2 R2 ho
    refine sbH R2 (Rz.wp_mono hq (fun _ z => z) (EPs.up S2)) fun ρ3 r3 Hf3 H3 iv S3 R3 hiv hq3 => ?_
    obtain ⟨k, e1, hq3⟩ := ofO_bind hq3
    obtain ⟨c, e2, hq3⟩ := ofO_bind hq3
    have T := R3.peek hiv.rs e1
    obtain ⟨g1, g2⟩ := ownC_some e2
    obtain ⟨sl, dd⟩ := c
    cases dd with
    | nd kk ds =>
      cases kk with
      | lst =>
        cases T with
        | int k =>
          obtain ⟨j, e3, hq3⟩ := ofO_bind hq3
          obtain ⟨a, vs, es, ea, t, fin⟩ := R3.ownL g1 g2
          have ho' : σ[i]? = some (some o) := ho
          rw [ho'] at es
          cases es
          have hv3 : Has ⟨X.K, X.mg⟩ Hf3 d v := hv.same (S2.trans S3)
          exact ⟨a, vs, k, j, rfl, rfl, ea, by rw [← t.length]; exact e3, hq3 Hf3 σ _ rfl (S1.trans (S2.trans S3)) (fin _ _ (HasAll.set hv3 j t))⟩
        | _ => exact hq3.elim
      | _ => cases T <;> exact hq3.elim
    | _ => cases T <;> exact hq3.elim
end
/-! ### stars in displays -/
def aStar (f : Env → Rz (Env × Rs)) (g : Env → Rz (Env × List Rs)) : Env → Rz (Env × List Rs) := fun ρ => (f ρ).bind fun p => (Rz.ofO (peek p.1 p.2)).bind fun d => match d with
  | .nd .tup ds => (g p.1).bind fun q => .ok (q.1, ds.map .im ++ q.2)
  | .nd .lst ds => (g p.1).bind fun q => .ok (q.1, ds.map .im ++ q.2)
  | _ => .no
theorem HasAll.ims {M : Md} {Hf : Hp} {σ : L2.St} : ∀ {ds : List D} {vs : List V}, HasAll M Hf ds vs → HsAll M Hf σ (ds.map .im) vs
  | _, _, .nil => .nil
  | _, _, .cons h t => .cons h (HasAll.ims t)
theorem HsAll.append {M : Md} {Hf : Hp} {σ : L2.St} : ∀ {rs qs : List Rs} {vs ws : List V}, HsAll M Hf σ rs vs → HsAll M Hf σ qs ws → HsAll M Hf σ (rs ++ qs) (vs ++ ws)
  | _, _, _, _, .nil, h => h
  | _, _, _, _, .cons h t, k => .cons h (t.append k)
section
variable {X : Cx} {W : WX} {e : Expr} {es : List Expr} {p : Pos} {f : Env → Rz (Env × Rs)} {g : Env → Rz (Env × List Rs)}
theorem ra_star (ha : RH X W e f) (hr : RHs X W es g) (hs : starEach (.Starred e p :: es) X.env = (true, eval e X.env) :: starEach es X.env := by rfl) : RHs X W (.Starred e p :: es) (aStar f g) :=
  pa_mono (StX.pa_star ha hr hs) fun σ H Q ⟨Γ, Hf, ρ, R, hw⟩ => bindH R hw fun ρ1 r Hf1 H1 v S1 R1 hv hq => by
    obtain ⟨d, e1, hq⟩ := ofO_bind hq
    have T := R1.peek hv.rs e1
    cases T with
    | tup s t =>
      refine ⟨_, _, rfl, .inl (SqT.same R1.sub s), bindHs R1 hq fun ρ2 rs Hf2 H2 vs S2 R2 hvs hq2 => ?_⟩
      exact hq2 Hf2 H2 _ (S1.trans S2) R2 ((HasAll.ims (t.same S2)).append hvs)
    | lst s t =>
      refine ⟨_, _, rfl, .inr (SqL.of s), bindHs R1 hq fun ρ2 rs Hf2 H2 vs S2 R2 hvs hq2 => ?_⟩
      exact hq2 Hf2 H2 _ (S1.trans S2) R2 ((HasAll.ims (t.same S2)).append hvs)
    | _ => exact hq.elim
end
/-! ### a, b = e1, e2: values that wait -/
def QRep (M : Md) (Hf : Hp) (σ : L2.St) (H : Hp) (ρ : Env) : Gh → List Rs → List V → Prop
  | Γ, [], [] => Rep M Γ Hf σ H ρ
  | Γ, .nw d :: rs, .ref a :: vs => QRep M Hf σ H ρ (Γ.add a d) rs vs
  | Γ, .im d :: rs, v :: vs => Has M Hf d v ∧ QRep M Hf σ H ρ Γ rs vs
  | _, _, _ => False
def rdQ (M : Md) (W : WX) (f : Env → Rz (Env × List Rs)) : TA := fun σ H Q => ∃ Γ Hf ρ, Rep M Γ Hf σ H ρ ∧
  (f ρ).wp (fun p => ∀ Hf' H' vs, Same Hf Hf' → QRep M Hf' σ H' p.1 Γ p.2 vs → Q vs H') (EPf M W Γ Hf σ)
abbrev RQ (X : Cx) (W : WX) (es : List Expr) (f : Env → Rz (Env × List Rs)) : Prop := PA X es (rdQ ⟨X.K, X.mg⟩ W f)
def toNw (p : Env × Rs) : Rz (Env × Rs) := match p.2 with
  | .slot i => (use p.1 (.slot i)).bind fun q => .ok (q.1, .im q.2)
  | r => .ok (p.1, r)
def qCons (f : Env → Rz (Env × Rs)) (g : Env → Rz (Env × List Rs)) : Env → Rz (Env × List Rs) := fun ρ => (f ρ).bind fun p => (toNw p).bind fun p => (noX (g p.1)).bind fun q => .ok (q.1, p.2 :: q.2)
section
variable {X : Cx} {W : WX} {e : Expr} {es : List Expr} {p : Pos} {f : Env → Rz (Env × Rs)} {g : Env → Rz (Env × List Rs)}
theorem rq_nil : RQ X W [] aNil := pa_mono pa_nil fun σ H Q ⟨Γ, Hf, ρ, R, hw⟩ => hw Hf H [] (Same.refl _) R
theorem rq_cons (ha : RE X W e f) (hr : RQ X W es g) (hs : starEach (e :: es) X.env = (false, eval e X.env) :: starEach es X.env := by rfl) : RQ X W (e :: es) (qCons f g) :=
  pa_mono (pa_cons ha hr hs) fun σ H Q ⟨Γ, Hf, ρ, R, hw⟩ => bindE R hw fun ρ1 r Hf1 H1 v S1 R1 hv hq => by
    have main : ∀ {ρ2 : Env} {Hf2 : Hp} {d : D}, Same Hf1 Hf2 → Rep ⟨X.K, X.mg⟩ Γ Hf2 σ H1 ρ2 → Has ⟨X.K, X.mg⟩ Hf2 d v → ((noX (g ρ2)).bind fun q => Rz.ok (q.1, Rs.im d :: q.2)).wp (fun p => ∀ Hf' H' vs, Same Hf Hf' → QRep ⟨X.K, X.mg⟩ Hf' σ H' p.1 Γ p.2 vs → Q vs H') (EPf ⟨X.K, X.mg⟩ W Γ Hf1 σ) →
        rdQ ⟨X.K, X.mg⟩ W g σ H1 fun xs H2 => Q (v :: xs) H2 := fun {ρ2 Hf2 d} S2 R2 h2 hq => by
      refine ⟨Γ, Hf2, ρ2, R2, Rz.wp_mono (noX_wp (Rz.wp_bind hq)) (fun q hp Hf3 H3 vs S3 hQ => ?_) fun _ _ z => z.elim⟩
      exact hp Hf3 H3 (v :: vs) (S1.trans (S2.trans S3)) ⟨h2.same S3, hQ⟩
    cases r with
    | slot i =>
      have hq' : (((use ρ1 (.slot i)).bind fun q => Rz.ok (q.1, Rs.im q.2)).bind fun p => (noX (g p.1)).bind fun q => Rz.ok (q.1, p.2 :: q.2)).wp _ _ := hq
      cases u : use ρ1 (.slot i) with
      | no => rw [u] at hq'; exact hq'.elim
      | ex _ _ => exact absurd u use_noex
      | ok q0 =>
        rw [u] at hq'
        obtain ⟨Hf2, S2, R2, h2⟩ := R1.use (ρ' := q0.1) (d := q0.2) hv u
        exact main S2 R2 h2 hq'
    | im d => exact main (Same.refl _) R1 hv hq
    | nw d =>
      obtain ⟨a, ev, rest⟩ := hv
      subst ev
      have Rp := R1.push ⟨a, rfl, rest⟩
      refine ⟨_, Hf1, ρ1, Rp, Rz.wp_mono (noX_wp (Rz.wp_bind (show ((noX (g ρ1)).bind _).wp _ _ from hq))) (fun q hp Hf3 H3 vs S3 hQ => ?_) fun _ _ z => z.elim⟩
      exact hp Hf3 H3 (.ref a :: vs) (S1.trans S3) hQ
end
/-- stored from the right -/
def parSet : List Nat → List Rs → Env → Rz Env
  | [], [], ρ => .ok ρ
  | i :: is, r :: rs, ρ => (parSet is rs ρ).bind fun ρ' => put ρ' i r
  | _, _, _ => .no
def setAll (σ : L2.St) : List Nat → List V → L2.St
  | i :: is, v :: vs => (setAll σ is vs).set i (some v)
  | _, _ => σ
theorem setAll_length (σ : L2.St) : ∀ (is : List Nat) (vs : List V), (setAll σ is vs).length = σ.length
  | [], _ => by simp [setAll]
  | _ :: _, [] => by simp [setAll]
  | i :: is, v :: vs => by rw [setAll, List.length_set, setAll_length σ is vs]
theorem QRep.store {M : Md} {H : Hp} {σ : L2.St} : ∀ {is : List Nat} {rs : List Rs} {vs : List V} {Hf : Hp} {Γ : Gh} {ρ ρ' : Env}, QRep M Hf σ H ρ Γ rs vs → parSet is rs ρ = .ok ρ' → ∃ Hf', Same Hf Hf' ∧ Rep M Γ Hf' (setAll σ is vs) H ρ'
  | [], [], [], Hf, Γ, ρ, ρ', h, e => by
    cases e
    exact ⟨Hf, Same.refl _, h⟩
  | [], [], _ :: _, Hf, Γ, ρ, ρ', h, e => h.elim
  | [], _ :: _, _, Hf, Γ, ρ, ρ', h, e => by cases e
  | _ :: _, [], _, Hf, Γ, ρ, ρ', h, e => by cases e
  | i :: is, r :: rs, [], Hf, Γ, ρ, ρ', h, e => by cases r <;> exact h.elim
  | i :: is, r :: rs, v :: vs, Hf, Γ, ρ, ρ', h, e => by
    have e' : ((parSet is rs ρ).bind fun ρ' => put ρ' i r) = .ok ρ' := e
    cases u : parSet is rs ρ with
    | no => rw [u] at e'; cases e'
    | ex _ _ => rw [u] at e'; cases e'
    | ok ρ1 =>
      rw [u] at e'
      cases r with
      | slot j => exact h.elim
      | im d =>
        obtain ⟨h1, h2⟩ := h
        obtain ⟨Hf1, S1, R1⟩ := QRep.store h2 u
        obtain ⟨Hf2, S2, R2⟩ := R1.store (r := .im d) (v := v) (h1.same S1) e'
        exact ⟨Hf2, S1.trans S2, R2⟩
      | nw d =>
        cases v with
        | ref a =>
          have h' : QRep M Hf σ H ρ (Γ.add a d) rs vs := h
          obtain ⟨Hf1, S1, R1⟩ := QRep.store h' u
          obtain ⟨R1', hn⟩ := R1.pop
          obtain ⟨Hf2, S2, R2⟩ := R1'.store (r := .nw d) (v := .ref a) hn e'
          exact ⟨Hf2, S1.trans S2, R2⟩
        | _ => exact h.elim
theorem QRep.length {M : Md} {H : Hp} {σ : L2.St} {Hf : Hp} {ρ : Env} : ∀ {rs : List Rs} {vs : List V} {Γ : Gh}, QRep M Hf σ H ρ Γ rs vs → rs.length = vs.length
  | [], [], _, _ => rfl
  | [], _ :: _, _, h => h.elim
  | .slot _ :: _, [], _, h => h.elim
  | .slot _ :: _, _ :: _, _, h => h.elim
  | .im _ :: _, [], _, h => h.elim
  | .im _ :: _, _ :: _, _, h => congrArg (· + 1) (QRep.length h.2)
  | .nw _ :: _, [], _, h => h.elim
  | .nw d :: rs, .ref a :: vs, Γ, h => congrArg (· + 1) (QRep.length (show QRep M Hf σ H ρ (Γ.add a d) rs vs from h))
  | .nw _ :: _, .non :: _, _, h => h.elim
  | .nw _ :: _, .bl _ :: _, _, h => h.elim
  | .nw _ :: _, .int _ :: _, _, h => h.elim
  | .nw _ :: _, .str _ :: _, _, h => h.elim
  | .nw _ :: _, .byt _ :: _, _, h => h.elim
  | .nw _ :: _, .flt _ :: _, _, h => h.elim
  | .nw _ :: _, .ty _ :: _, _, h => h.elim
theorem parSet_length : ∀ {is : List Nat} {rs : List Rs} {ρ ρ' : Env}, parSet is rs ρ = .ok ρ' → rs.length = is.length
  | [], [], _, _, _ => rfl
  | [], _ :: _, _, _, e => by cases e
  | _ :: _, [], _, _, e => by cases e
  | i :: is, r :: rs, ρ, ρ', e => by
    have e' : ((parSet is rs ρ).bind fun ρ' => put ρ' i r) = .ok ρ' := e
    cases u : parSet is rs ρ with
    | no => rw [u] at e'; cases e'
    | ex _ _ => rw [u] at e'; cases e'
    | ok ρ1 => exact congrArg (· + 1) (parSet_length u)
def gPar (is : List Nat) (f : Env → Rz (Env × List Rs)) : Env → Rz (Env × Fl) := fun ρ => (f ρ).bind fun p => (parSet is p.2 p.1).bind fun ρ' => .ok (ρ', .nx)
theorem parSet_wp {β : Type} {is : List Nat} {rs : List Rs} {ρ : Env} {g : Env → Rz β} {Q : β → Prop} {E : Exn → Env → Prop} (h : ((parSet is rs ρ).bind g).wp Q E) (hx : ∀ x ρ', parSet is rs ρ ≠ .ex x ρ') : ∃ ρ', parSet is rs ρ = .ok ρ' ∧ (g ρ').wp Q E := by
  cases u : parSet is rs ρ with
  | no => rw [u] at h; exact h.elim
  | ex x ρ' => exact absurd u (hx x ρ')
  | ok ρ' => rw [u] at h; exact ⟨ρ', rfl, h⟩
theorem put_noex {ρ : Env} {i : Nat} {r : Rs} {x : Exn} {ρ' : Env} : put ρ i r ≠ .ex x ρ' := fun u => by
  have h : ((put ρ i r).bind fun ρ => Rz.ok ρ).wp (fun _ => False) (fun _ _ => True) := by rw [u]; trivial
  obtain ⟨_, _, z⟩ := put_wp h
  exact z
theorem parSet_noex : ∀ {is : List Nat} {rs : List Rs} {ρ : Env} {x : Exn} {ρ' : Env}, parSet is rs ρ ≠ .ex x ρ'
  | [], [], _, _, _, u => by cases u
  | [], _ :: _, _, _, _, u => by cases u
  | _ :: _, [], _, _, _, u => by cases u
  | i :: is, r :: rs, ρ, x, ρ', u => by
    have e' : ((parSet is rs ρ).bind fun ρ' => put ρ' i r) = .ex x ρ' := u
    cases u2 : parSet is rs ρ with
    | no => rw [u2] at e'; cases e'
    | ex _ _ => exact parSet_noex u2
    | ok ρ1 => rw [u2] at e'; exact put_noex e'
section
variable {X : Cx} {W : WX} {a b c : Expr} {f : Env → Rz (Env × List Rs)} {x y z : Str} {px py pz pt pos : Pos} {kt k2 pt2} {i j l : Nat}
theorem rs_par (i j : Nat) (hc : X.calm = true) (hN : X.N.Nodup) (hij : i ≠ j) (ha : RQ X W [a, b] f) (hw : swappedStores [.Tuple [.Name x px, .Name y py] kt pt] (.Tuple [a, b] k2 pt2) X.env = pure (some [x, y]))
    (hi : X.N[i]? = some x := by rfl) (hj : X.N[j]? = some y := by rfl) (hx : X.env.scope.names.lookup x = some .local := by rfl) (hy : X.env.scope.names.lookup y = some .local := by rfl)
    (hs : swapsWithSole [.Tuple [.Name x px, .Name y py] kt pt] (.Tuple [a, b] k2 pt2) pos.line X.env = pure false := by rfl) :
    RS X W (.Assign [.Tuple [.Name x px, .Name y py] kt pt] (.Tuple [a, b] k2 pt2) pos) (gPar [i, j] f) := ps_mono (ps_par hc hN hi hj hij hx hy ha hw hs) fun D σ H ⟨Γ, Hf, ρ, R, hw⟩ => by
  refine ⟨Γ, Hf, ρ, R, Rz.wp_mono (Rz.wp_bind hw) (fun p hp Hf1 H1 vs S1 hQ => ?_) (EPs.ex rfl)⟩
  obtain ⟨ρ', e1, hq⟩ := parSet_wp hp fun _ _ => parSet_noex
  obtain ⟨Hf2, S2, R2⟩ := hQ.store e1
  obtain ⟨ρ1, rs⟩ := p
  have fin : ∀ v w, vs = [v, w] → D.nx ((σ.set i (some v)).set j (some w)) H1 := fun v w e => by
    subst e
    have : setAll σ [i, j] [v, w] = (σ.set i (some v)).set j (some w) := by
      show (σ.set j (some w)).set i (some v) = _
      rw [List.set_comm _ _ hij.symm]
    rw [this] at R2
    exact hq Hf2 _ H1 (by simp) (S1.trans S2) R2
  have len := hQ.length
  have len2 : rs.length = 2 := parSet_length e1
  rw [len2] at len
  match vs, len with
  | [v, w], _ => exact ⟨v, w, rfl, fin v w rfl⟩
theorem rs_par3 (i j l : Nat) (hc : X.calm = true) (hN : X.N.Nodup) (hij : i ≠ j) (hil : i ≠ l) (hjl : j ≠ l) (ha : RQ X W [a, b, c] f) (hw : swappedStores [.Tuple [.Name x px, .Name y py, .Name z pz] kt pt] (.Tuple [a, b, c] k2 pt2) X.env = pure (some [x, y, z]))
    (hi : X.N[i]? = some x := by rfl) (hj : X.N[j]? = some y := by rfl) (hl : X.N[l]? = some z := by rfl) (hx : X.env.scope.names.lookup x = some .local := by rfl) (hy : X.env.scope.names.lookup y = some .local := by rfl) (hz : X.env.scope.names.lookup z = some .local := by rfl)
    (hs : swapsWithSole [.Tuple [.Name x px, .Name y py, .Name z pz] kt pt] (.Tuple [a, b, c] k2 pt2) pos.line X.env = pure false := by rfl) :
    RS X W (.Assign [.Tuple [.Name x px, .Name y py, .Name z pz] kt pt] (.Tuple [a, b, c] k2 pt2) pos) (gPar [i, j, l] f) := ps_mono (ps_par3 hc hN hi hj hl hij hil hjl hx hy hz ha hw hs) fun D σ H ⟨Γ, Hf, ρ, R, hw⟩ => by
  refine ⟨Γ, Hf, ρ, R, Rz.wp_mono (Rz.wp_bind hw) (fun p hp Hf1 H1 vs S1 hQ => ?_) (EPs.ex rfl)⟩
  obtain ⟨ρ', e1, hq⟩ := parSet_wp hp fun _ _ => parSet_noex
  obtain ⟨Hf2, S2, R2⟩ := hQ.store e1
  obtain ⟨ρ1, rs⟩ := p
  have fin : ∀ u v w, vs = [u, v, w] → D.nx (((σ.set i (some u)).set j (some v)).set l (some w)) H1 := fun u v w e => by
    subst e
    have : setAll σ [i, j, l] [u, v, w] = ((σ.set i (some u)).set j (some v)).set l (some w) := by
      show ((σ.set l (some w)).set j (some v)).set i (some u) = _
      rw [List.set_comm _ _ hjl.symm, List.set_comm _ _ hil.symm, List.set_comm _ _ hij.symm]
    rw [this] at R2
    exact hq Hf2 _ H1 (by simp) (S1.trans S2) R2
  have len := hQ.length
  have len2 : rs.length = 3 := parSet_length e1
  rw [len2] at len
  match vs, len with
  | [u, v, w], _ => exact ⟨u, v, w, rfl, fin u v w rfl⟩
end
end Fx

set_option Elab.async false
set_option linter.all false
set_option maxRecDepth 100000
set_option maxHeartbeats 4000000
namespace Fx
open PySem L2
/-! ### a def's promise by a function of its arguments' data -/
structure Args (M : Md) (H Hf : Hp) (vs : List V) (args : Env) : Prop where
  len : args.length = vs.length
  sub : Same Hf H
  ok : ∀ (i : Nat) x, args[i]? = some x → (∃ d v, x = .im d ∧ vs[i]? = some v ∧ Has M Hf d v) ∨ ∃ d a, x = .pa d ∧ vs[i]? = some (.ref a) ∧ LocAt M Hf H d (.ref a)
  inj : ∀ (i j : Nat) x y, i ≠ j → args[i]? = some x → args[j]? = some y → x.own → y.own → vs[i]? ≠ vs[j]?
structure Back (M : Md) (H Hf : Hp) (vs : List V) (args : Env) (Hf' H' : Hp) (outs : Env) : Prop where
  up : Same Hf Hf'
  sub : Same Hf' H'
  fr : ∀ b o, H b = some o → (∀ (i : Nat) d, args[i]? = some (.pa d) → vs[i]? ≠ some (.ref b)) → H' b = some o
  fz : ∀ b, Hf' b ≠ none → Hf b ≠ none ∨ H b = none
  out : ∀ (i : Nat) d, args[i]? = some (.pa d) → ∃ d' a, outs[i]? = some (.pa d') ∧ vs[i]? = some (.ref a) ∧ LocAt M Hf' H' d' (.ref a)
def ResIs (M : Md) (H Hf' H' : Hp) : Rs → V → Prop
  | .slot _, _ => False
  | .im d, v => Has M Hf' d v
  | .nw d, v => ∃ a, v = .ref a ∧ H a = none ∧ LocAt M Hf' H' d (.ref a)
def spF (M : Md) (F : Env → Rz (Env × Rs)) : Sp := fun vs H Q E => ∃ Hf args, Args M H Hf vs args ∧
  (F args).wp (fun p => ∀ Hf' H' v, Back M H Hf vs args Hf' H' p.1 → ResIs M H Hf' H' p.2 v → Q v H') (fun x outs => ∀ Hf' H' c d, Back M H Hf vs args Hf' H' outs → ExIs M Hf' H' x c d → E c d H')
/-- n arguments -/
def spN (n : Nat) (M : Md) (F : Env → Rz (Env × Rs)) : Sp := fun vs H Q E => vs.length = n ∧ spF M F vs H Q E
def retV (ρ : Env) : Rs → Rz Rs
  | .slot i => match ρ[i]? with
    | some (.im d) => .ok (.im d)
    | some (.lo d) => .ok (.nw d)
    | _ => .no
  | r => .ok r
def okOuts : Env → Env → Bool
  | [], _ => true
  | .pa _ :: args, .pa _ :: outs => okOuts args outs
  | .pa _ :: _, _ => false
  | _ :: args, _ :: outs => okOuts args outs
  | _ :: _, [] => false
def runF (n : Nat) (body : Env → Rz (Env × Fl)) (args : Env) : Rz (Env × Rs) := match body (args ++ List.replicate (n - args.length) .no) with
  | .ok (ρ', fl) => if okOuts args ρ' then match fl with
      | .nx => .ok (ρ'.take args.length, .im .non)
      | .rt r => (retV ρ' r).bind fun r' => .ok (ρ'.take args.length, r')
      | _ => .no
    else .no
  | .ex x ρ' => if okOuts args ρ' then .ex x (ρ'.take args.length) else .no
  | .no => .no
theorem okOuts_get : ∀ {args outs : Env} {i : Nat} {d : D}, okOuts args outs = true → args[i]? = some (.pa d) → ∃ d', outs[i]? = some (.pa d')
  | [], _, _, _, _, e => by simp at e
  | .pa _ :: _, .pa d' :: _, 0, _, h, e => ⟨d', rfl⟩
  | .pa _ :: args, .pa _ :: outs, i + 1, d, h, e => by
    obtain ⟨d', q⟩ := okOuts_get (args := args) (outs := outs) (i := i) (d := d) h (by simpa using e)
    exact ⟨d', by simpa using q⟩
  | .pa _ :: _, [], _, _, h, _ => by cases h
  | .pa _ :: _, .no :: _, _, _, h, _ => by cases h
  | .pa _ :: _, .im _ :: _, _, _, h, _ => by cases h
  | .pa _ :: _, .lo _ :: _, _, _, h, _ => by cases h
  | .no :: args, o :: outs, 0, d, h, e => by simp at e
  | .im _ :: args, o :: outs, 0, d, h, e => by simp at e
  | .lo _ :: args, o :: outs, 0, d, h, e => by simp at e
  | .no :: args, o :: outs, i + 1, d, h, e => by
    obtain ⟨d', q⟩ := okOuts_get (args := args) (outs := outs) (i := i) (d := d) (by cases o <;> exact h) (by simpa using e)
    exact ⟨d', by simpa using q⟩
  | .im _ :: args, o :: outs, i + 1, d, h, e => by
    obtain ⟨d', q⟩ := okOuts_get (args := args) (outs := outs) (i := i) (d := d) (by cases o <;> exact h) (by simpa using e)
    exact ⟨d', by simpa using q⟩
  | .lo _ :: args, o :: outs, i + 1, d, h, e => by
    obtain ⟨d', q⟩ := okOuts_get (args := args) (outs := outs) (i := i) (d := d) (by cases o <;> exact h) (by simpa using e)
    exact ⟨d', by simpa using q⟩
  | .no :: _, [], _, _, h, _ => by cases h
  | .im _ :: _, [], _, _, h, _ => by cases h
  | .lo _ :: _, [], _, _, h, _ => by cases h
/-- the state at a def's entry -/
def adrOf (vs : List V) (args : Env) (i : Nat) : Option Addr := match args[i]?, vs[i]? with
  | some (.pa _), some (.ref a) => some a
  | _, _ => none
theorem adrOf_some {vs : List V} {args : Env} {i : Nat} {a : Addr} (h : adrOf vs args i = some a) : ∃ d, args[i]? = some (.pa d) ∧ vs[i]? = some (.ref a) := by
  unfold adrOf at h
  split at h
  · rename_i d a' e1 e2
    cases h
    exact ⟨_, e1, e2⟩
  · cases h
theorem adrOf_mk {vs : List V} {args : Env} {i : Nat} {a : Addr} {d : D} (h1 : args[i]? = some (.pa d)) (h2 : vs[i]? = some (.ref a)) : adrOf vs args i = some a := by
  unfold adrOf; rw [h1, h2]
def ghOf (H Hf : Hp) (vs : List V) (args : Env) : Gh := ⟨⟨H, Hf, adrOf vs args⟩, [], []⟩
section
variable {M : Md} {H Hf : Hp} {vs : List V} {args : Env}
theorem Args.rep (A : Args M H Hf vs args) {N : List Str} (hN : vs.length ≤ N.length) : Rep M (ghOf H Hf vs args) Hf (L2.start N vs) H (args ++ List.replicate (N.length - args.length) .no) := by
  have L := A.len
  have cut : ∀ {i : Nat} {x : Sl}, (args ++ List.replicate (N.length - args.length) Sl.no)[i]? = some x → x = .no ∨ (args[i]? = some x ∧ i < vs.length) := fun {i x} e => by
    by_cases lt : i < args.length
    · rw [List.getElem?_append_left lt] at e; exact .inr ⟨e, by omega⟩
    · rw [List.getElem?_append_right (by omega), List.getElem?_replicate] at e
      split at e
      · cases e; exact .inl rfl
      · cases e
  have st : ∀ {i : Nat}, i < vs.length → (L2.start N vs)[i]? = (vs[i]?).map some := fun {i} lt => by
    unfold L2.start
    rw [List.getElem?_append_left (by simpa using lt), List.getElem?_map]
  refine ⟨by unfold L2.start; simp [L], ?_⟩
  show Rep0 M ⟨H, Hf, adrOf vs args⟩ Hf (start N vs ++ []) H ((args ++ List.replicate (N.length - args.length) .no) ++ [])
  rw [List.append_nil, List.append_nil]
  refine ⟨by unfold L2.start; simp [L], A.sub, Same.refl _, fun b o e _ => e, fun b e => .inl e, fun i d e => ?_, fun i d e => ?_, fun i d e => ?_, fun i j x y ne ex ey ox oy => ?_, fun a z => ?_, fun a z => ?_⟩
  · rcases cut e with z | ⟨q, lt⟩
    · cases z
    · rcases A.ok i _ q with ⟨d', v, z, h1, h2⟩ | ⟨d', a, z, _⟩
      · cases z; exact ⟨v, by rw [st lt, h1]; rfl, h2⟩
      · cases z
  · rcases cut e with z | ⟨q, lt⟩
    · cases z
    · rcases A.ok i _ q with ⟨d', v, z, h1, h2⟩ | ⟨d', a, z, _⟩ <;> cases z
  · rcases cut e with z | ⟨q, lt⟩
    · cases z
    · rcases A.ok i _ q with ⟨d', v, z, h1, h2⟩ | ⟨d', a, z, h1, h2⟩
      · cases z
      · cases z; exact ⟨a, by rw [st lt, h1]; rfl, adrOf_mk q h1, h2⟩
  · rcases cut ex with z | ⟨q1, l1⟩
    · subst z; exact ox.elim
    · rcases cut ey with z | ⟨q2, l2⟩
      · subst z; exact oy.elim
      · rw [st l1, st l2]
        intro e
        have i1 : vs[i]? = some vs[i] := List.getElem?_eq_getElem l1
        have i2 : vs[j]? = some vs[j] := List.getElem?_eq_getElem l2
        rw [i1, i2] at e
        have : vs[i] = vs[j] := by simpa using e
        exact A.inj i j x y ne q1 q2 ox oy (by rw [i1, i2, this])
  · obtain ⟨i, hi⟩ := z
    obtain ⟨d, h1, h2⟩ := adrOf_some hi
    rcases A.ok i _ h1 with ⟨d', v, z, _⟩ | ⟨d', a', z, k1, k2⟩
    · cases z
    · rw [h2] at k1
      cases k1
      obtain ⟨_, ea, n, hh⟩ := k2.ref
      cases ea
      exact ⟨hh, n⟩
  · obtain ⟨i, hi⟩ := z
    obtain ⟨d, h1, h2⟩ := adrOf_some hi
    rcases A.ok i _ h1 with ⟨d', v, z, _⟩ | ⟨d', a', z, k1, k2⟩
    · cases z
    · rw [h2] at k1
      cases k1
      obtain ⟨_, ea, n, hh⟩ := k2.ref
      cases ea
      exact hh
/-- what a state at a def's end says to the caller -/
theorem Rep.back {Hf' H' : Hp} {σ' : L2.St} {ρ' : Env} (A : Args M H Hf vs args) (R : Rep M (ghOf H Hf vs args) Hf' σ' H' ρ') (ho : okOuts args ρ' = true) : Back M H Hf vs args Hf' H' (ρ'.take args.length) := by
  have r := R.r0
  have r' : Rep0 M ⟨H, Hf, adrOf vs args⟩ Hf' σ' H' ρ' := by
    have : Rep0 M ⟨H, Hf, adrOf vs args⟩ Hf' (σ' ++ []) H' (ρ' ++ []) := r
    rwa [List.append_nil, List.append_nil] at this
  refine ⟨r'.gr, r'.sub, fun b o e h => r'.fr b o e ?_, r'.fz, fun i d e => ?_⟩
  · rintro ⟨i, hi⟩
    obtain ⟨d, h1, h2⟩ := adrOf_some hi
    exact h i d h1 h2
  · obtain ⟨d', q⟩ := okOuts_get ho e
    obtain ⟨a, h1, h2, h3⟩ := r'.pa i d' q
    obtain ⟨d2, k1, k2⟩ := adrOf_some h2
    refine ⟨d', a, ?_, k2, h3⟩
    rw [List.getElem?_take_of_lt (List.getElem?_eq_some_iff.mp e).1]
    exact q
theorem Rep.ret {Hf' H' : Hp} {σ' : L2.St} {ρ' : Env} {r r' : Rs} {v : V} (R : Rep M (ghOf H Hf vs args) Hf' σ' H' ρ') (h : RsIs M (ghOf H Hf vs args) Hf' σ' H' ρ' r v) (e : retV ρ' r = .ok r') : ResIs M H Hf' H' r' v := by
  cases r with
  | im d => cases e; exact h
  | nw d =>
    cases e
    obtain ⟨a, ev, h0, hl, _⟩ := h
    exact ⟨a, ev, h0, hl⟩
  | slot i =>
    have h' : σ'[i]? = some (some v) := h
    unfold retV at e
    cases q : ρ'[i]? with
    | none => simp [q] at e
    | some x =>
      have lt : i < σ'.length := by rw [← R.len]; exact (List.getElem?_eq_some_iff.mp q).1
      cases x with
      | no => simp [q] at e
      | pa d => simp [q] at e
      | im d =>
        simp [q] at e
        subst e
        obtain ⟨u, k1, k2⟩ := R.r0.im i d (get_app q)
        rw [get_left lt, h'] at k1
        cases k1
        exact k2
      | lo d =>
        simp [q] at e
        subst e
        obtain ⟨a, k1, k2, k3⟩ := R.r0.lo i d (get_app q)
        rw [get_left lt, h'] at k1
        cases k1
        exact ⟨a, rfl, k2, k3⟩
end
/-! ### a def by its body -/
/-- a def keeps its promise where no repr is running -/
structure FnG (P : Program) (w : World) (K : PySem.W.Frag) (mg : Str → Option Value) (base : Heap) (CX : CXT) (k : Nat) (f : Addr) (fd : FuncData) (ps : List Str) (sp : Sp) : Prop where
  len : ∀ vs H Q E, sp vs H Q E → vs.length = ps.length
  run : ∀ (A : Around) (outer : List PySem.Env) (s : Shared) (H : Hp) (args : PySem.Args) (us : List Value) (vs : List V) (Q : VK) (E : XK), Room k A → A.guards = some [] → Env0 P w K mg base A outer s H → BindsTo s fd args (ps.zip us) → Vals vs us → sp vs H Q E →
    codeAny (model P w) A (.call (.ref f) args) (CR CX outer P w H s Q E) s
theorem FnG.mono {P : Program} {w : World} {K : PySem.W.Frag} {mg : Str → Option Value} {base : Heap} {CX : CXT} {j k : Nat} {f : Addr} {fd : FuncData} {ps : List Str} {sp : Sp} (F : FnG P w K mg base CX j f fd ps sp) (h : j ≤ k) :
    FnG P w K mg base CX k f fd ps sp := ⟨F.len, fun A outer s H args us vs Q E hr => F.run A outer s H args us vs Q E (hr.mono h)⟩
theorem FnG.imp {P : Program} {w : World} {K : PySem.W.Frag} {mg : Str → Option Value} {base : Heap} {CX : CXT} {k : Nat} {f : Addr} {fd : FuncData} {ps : List Str} {sp sp' : Sp} (F : FnG P w K mg base CX k f fd ps sp)
    (h : ∀ vs H Q E, sp' vs H Q E → sp vs H Q E) : FnG P w K mg base CX k f fd ps sp' :=
  ⟨fun vs H Q E q => F.len vs H Q E (h _ _ _ _ q), fun A outer s H args us vs Q E hr hg he hb hv hs => F.run A outer s H args us vs Q E hr hg he hb hv (h _ _ _ _ hs)⟩
abbrev frameOf (qual : Str) (scope : Scope) (s : Shared) (f : Addr) (cdv : Value) : PySem.Env := PyProof.Rows.envOfC qual scope s.heap.objs.size f cdv
theorem fnG_of {CX : CXT} {P : Program} {w : World} {K : PySem.W.Frag} {mg : Str → Option Value} {base : Heap} {k : Nat} {f : Addr} {name qual : Str} {params : Arguments} {body : List Stmt} {scope : Scope} {dV kV doc pm cdv ct oc : Value} {an od : Option Addr}
    {osl : Array (Option Value)} {N ps : List Str} {sp : Sp} (look : K.lookup f = some ⟨oc, od, .func (PySem.W.fnOf name qual params body scope dV kV doc pm an cdv ct), osl⟩) (hcode : PySem.W.codeIn K cdv qual = true) (S : FnScope N ps scope)
    (len : ∀ vs H Q E, sp vs H Q E → vs.length = ps.length)
    (hbody : ∀ (A : Around) (outer : List PySem.Env) (s : Shared) (H : Hp) (vs : List V) (Q : VK) (E : XK), Room k (A.deeper (frameOf qual scope s f cdv)) → A.guards = some [] → sp vs H Q E →
      ∃ t, PSs (cxOf CX P w K mg base N qual scope f cdv A outer s H E) body t ∧ t { nx := fun _ H' => Q .non H', rt := Q } (L2.start N vs) H) :
    FnG P w K mg base CX (k + 1) f (PySem.W.fnOf name qual params body scope dV kV doc pm an cdv ct) ps sp := by
  refine ⟨len, fun A outer s H args us vs Q E room hgd st bind rel want => ?_⟩
  have lens := len _ _ _ _ want
  have inHeap : K.In s.heap := st.mod.kin.keeps fun b o z => (st.bs b o z).1
  have unlim : s.heap.NoLimit := st.mod.nolimit.keeps fun b o z => (st.bs b o z).1
  have kinds : ∀ y ∈ ps.zip us, scope.names.lookup y.1 = some .local ∨ (scope.names.lookup y.1 = some .cell ∧ ((cellsFrom (s.heap.objs.size + 1) scope.names []).lookup y.1).isSome = true) := by
    rintro ⟨n, v⟩ hy
    have hm := (List.of_mem_zip hy).1
    cases S.par n hm with
    | inl q => exact .inl q
    | inr q => exact .inr ⟨q, PySem.W.cellsFrom_some _ _ _ (.inl q)⟩
  refine codeAny_call_function room.depth (inHeap _ _ look) rfl S.co S.gen rfl (PySem.W.codeRec_of inHeap hcode) (bind _ _ _ _ ?_)
  refine wpAny_newFunctionEnv_cells S.kind kinds fun env henv s1 ent => ?_
  subst henv
  refine ⟨unlim.keeps ent.toInCall.keep, codeAny_func ?_⟩
  obtain ⟨t, ht, hq⟩ := hbody A outer s H vs Q E (room.deeper _) hgd want
  have I : Inv (cxOf CX P w K mg base N qual scope f cdv A outer s H E) [] (L2.start N vs) H s1 := inv_start S room.hd st lens rel ent
  refine wpAny_mono (ht.run [] s1 (L2.start N vs) H _ I hq) (fun fl s' done => ?_) fun _ _ z => z
  have leave : ∀ {σ' : L2.St} {H' : Hp} {v : V} {u : Value}, Inv (cxOf CX P w K mg base N qual scope f cdv A outer s H E) [] σ' H' s' → RelV v u → Q v H' → CE outer P w H s Q u s' := by
    intro σ' H' v u J rv q
    exact ⟨v, H', J.os, J.bare, J.base, J.hok, rv, q⟩
  cases fl with
  | next =>
    obtain ⟨σ', H', J, q⟩ := done
    exact leave (v := V.non) (u := Value.none) J rfl q
  | ret u =>
    obtain ⟨v, σ', H', J, rv, q⟩ := done
    exact leave J rv q
  | brk => obtain ⟨_, _, _, q⟩ := done; exact q.elim
  | cont => obtain ⟨_, _, _, q⟩ := done; exact q.elim
/-- how runF's value reaches the end of a body -/
theorem runF_ends {M : Md} {W : WX} {H : Hp} {vs : List V} {Q : VK} {E : XK} {N : List Str} {body : Env → Rz (Env × Fl)} (hN : vs.length ≤ N.length) (hW : ∀ c d σ H', E c d H' → W c d σ H') (h : spF M (runF N.length body) vs H Q E) :
    rdS M W body { nx := fun _ H' => Q .non H', rt := Q } (L2.start N vs) H := by
  obtain ⟨Hf, args, A, hw⟩ := h
  have R := A.rep hN
  refine ⟨_, Hf, _, R, ?_⟩
  unfold runF at hw
  cases u : body (args ++ List.replicate (N.length - args.length) .no) with
  | no => rw [u] at hw; exact hw.elim
  | ok p =>
    obtain ⟨ρ', fl⟩ := p
    rw [u] at hw
    simp only at hw
    obtain ⟨ho, hw⟩ := ite_wp hw
    intro Hf' σ' H' hl S' R'
    have B := R'.back A ho
    cases fl with
    | nx => exact hw Hf' H' .non B .non
    | bk => exact hw.elim
    | ct => exact hw.elim
    | rt r =>
      intro v hv
      replace hw : ((retV ρ' r).bind fun r' => Rz.ok (ρ'.take args.length, r')).wp _ _ := hw
      cases e : retV ρ' r with
      | no => rw [e] at hw; exact hw.elim
      | ex _ _ =>
        exfalso
        cases r with
        | im _ => cases e
        | nw _ => cases e
        | slot i =>
          unfold retV at e
          cases q : ρ'[i]? with
          | none => simp [q] at e
          | some y => cases y <;> simp [q] at e
      | ok r' =>
        rw [e] at hw
        exact hw Hf' H' v B (R'.ret hv e)
  | ex x ρ' =>
    rw [u] at hw
    simp only at hw
    cases ho : okOuts args ρ' with
    | false => rw [ho] at hw; exact hw.elim
    | true =>
      rw [ho] at hw
      intro Hf' σ' H' c d hl S' R' he
      exact hW c d σ' H' (hw Hf' H' c d (R'.back A ho) he)
/-- THE RULE for a def that lets no exception out, by its body's function -/
theorem fun_okG {P : Program} {w : World} {K : PySem.W.Frag} {mg : Str → Option Value} {base : Heap} {x qual : Str} {st : Stmt} {f : Addr} {fd : FuncData} {N ps : List Str} {k : Nat} {body : Env → Rz (Env × Fl)} (F : Fun K x qual st f fd) (S : FnScope N ps (defScope st)) (hps : ps.length ≤ N.length)
    (hbody : ∀ (cdv : Value) (A : Around) (outer : List PySem.Env) (s : Shared) (H : Hp) (E : XK), Room k (A.deeper (frameOf qual (defScope st) s f cdv)) → A.guards = some [] →
      RSs (cxOf CX0 P w K mg base N qual (defScope st) f cdv A outer s H E).nox W0 (defBody st) body) : FnG P w K mg base CX0 (k + 1) f fd ps (spN ps.length ⟨K, mg⟩ fun a => noX (runF N.length body a)) := by
  obtain ⟨oc, od, kV, doc, pm, an, cdv, ct, osl, rfl, lk, hcd⟩ := F.ex
  refine fnG_of lk hcd S (fun vs H Q E h => h.1) fun A outer s H vs Q E hr hg hsp => ?_
  refine ⟨_, (hbody cdv A outer s H E hr hg).nox, ?_⟩
  obtain ⟨hl, Hf, args, Ar, hw⟩ := hsp
  exact runF_ends (E := fun _ _ _ => False) (by rw [hl]; exact hps) (fun _ _ _ _ z => z) ⟨Hf, args, Ar, Rz.wp_mono (noX_wp hw) (fun _ z => z) fun _ _ z => z.elim⟩
end Fx

set_option Elab.async false
set_option linter.all false
set_option maxRecDepth 100000
set_option maxHeartbeats 4000000
namespace Fx
open PySem L2
/-! ### a call: data by value, containers of one's own by reference -/
def useIm : List Bool → Env → List Rs → Rz (Env × Env)
  | [], ρ, [] => .ok (ρ, [])
  | false :: ms, ρ, r :: rs => (use ρ r).bind fun p => (useIm ms p.1 rs).bind fun q => .ok (q.1, .im p.2 :: q.2)
  | true :: ms, ρ, _ :: rs => (useIm ms ρ rs).bind fun q => .ok (q.1, .no :: q.2)
  | _, _, _ => .no
def fillPa : List Bool → Env → List Rs → Env → Option Env
  | [], _, [], [] => some []
  | false :: ms, ρ, _ :: rs, a :: as => (fillPa ms ρ rs as).map (a :: ·)
  | true :: ms, ρ, .slot i :: rs, _ :: as => (ownC ρ i).bind fun c => (fillPa ms ρ rs as).map (.pa c.2 :: ·)
  | _, _, _, _ => none
def mutIx : List Bool → List Rs → List Nat
  | true :: ms, .slot i :: rs => i :: mutIx ms rs
  | _ :: ms, _ :: rs => mutIx ms rs
  | _, _ => []
def putBack : List Bool → List Rs → Env → Env → Env
  | true :: ms, .slot i :: rs, .pa d :: outs, ρ => putBack ms rs outs (ρ.set i (((ρ[i]?).getD .no).withD d))
  | _ :: ms, _ :: rs, _ :: outs, ρ => putBack ms rs outs ρ
  | _, _, _, ρ => ρ
def callBy (F : Env → Rz (Env × Rs)) (ms : List Bool) (ρ : Env) (rs : List Rs) : Rz (Env × Rs) := (useIm ms ρ rs).bind fun q => (Rz.ofO (fillPa ms q.1 rs q.2)).bind fun as =>
  if decide (mutIx ms rs).Nodup = true then match F as with
    | .ok r => .ok (putBack ms rs r.1 q.1, r.2)
    | .ex x outs => .ex x (putBack ms rs outs q.1)
    | .no => .no
  else .no
def eCall (F : Env → Rz (Env × Rs)) (ms : List Bool) (args : Env → Rz (Env × List Rs)) : Env → Rz (Env × Rs) := fun ρ => (args ρ).bind fun p => callBy F ms p.1 p.2
inductive ArgsR (M : Md) (Hf : Hp) (σ : L2.St) (ρ : Env) : List Bool → List Rs → List V → Env → Prop
  | nil : ArgsR M Hf σ ρ [] [] [] []
  | im {ms : List Bool} {rs : List Rs} {vs : List V} {as : Env} {r : Rs} {v : V} {d : D} : Has M Hf d v → ArgsR M Hf σ ρ ms rs vs as → ArgsR M Hf σ ρ (false :: ms) (r :: rs) (v :: vs) (.im d :: as)
  | mu {ms : List Bool} {rs : List Rs} {vs : List V} {as : Env} {i : Nat} {x : Sl} {v : V} {d : D} : ρ[i]? = some x → x.ownD = some d → σ[i]? = some (some v) → ArgsR M Hf σ ρ ms rs vs as → ArgsR M Hf σ ρ (true :: ms) (.slot i :: rs) (v :: vs) (.pa d :: as)
theorem useIm_noex : ∀ {ms : List Bool} {ρ : Env} {rs : List Rs} {x : Exn} {ρ' : Env}, useIm ms ρ rs ≠ .ex x ρ'
  | [], _, [], _, _, u => by cases u
  | [], _, _ :: _, _, _, u => by cases u
  | false :: _, _, [], _, _, u => by cases u
  | true :: _, _, [], _, _, u => by cases u
  | false :: ms, ρ, r :: rs, x, ρ', u => by
    have u' : ((use ρ r).bind fun p => (useIm ms p.1 rs).bind fun q => .ok (q.1, .im p.2 :: q.2)) = Rz.ex x ρ' := u
    cases u1 : use ρ r with
    | no => rw [u1] at u'; cases u'
    | ex _ _ => exact use_noex u1
    | ok p =>
      rw [u1, Rz.ok_bind] at u'
      cases u2 : useIm ms p.1 rs with
      | no => rw [u2] at u'; cases u'
      | ex _ _ => exact useIm_noex u2
      | ok q => rw [u2] at u'; cases u'
  | true :: ms, ρ, r :: rs, x, ρ', u => by
    have u' : ((useIm ms ρ rs).bind fun q => .ok (q.1, .no :: q.2)) = Rz.ex x ρ' := u
    cases u2 : useIm ms ρ rs with
    | no => rw [u2] at u'; cases u'
    | ex _ _ => exact useIm_noex u2
    | ok q => rw [u2] at u'; cases u'
section
variable {M : Md} {Γ : Gh} {σ : L2.St} {H : Hp}
/-- the data part: a partial list of arguments -/
inductive PartR (M : Md) (Hf : Hp) (σ : L2.St) : List Bool → List Rs → List V → Env → Prop
  | nil : PartR M Hf σ [] [] [] []
  | im {ms : List Bool} {rs : List Rs} {vs : List V} {as : Env} {r : Rs} {v : V} {d : D} : Has M Hf d v → PartR M Hf σ ms rs vs as → PartR M Hf σ (false :: ms) (r :: rs) (v :: vs) (.im d :: as)
  | mu {ms : List Bool} {rs : List Rs} {vs : List V} {as : Env} {r : Rs} {v : V} : HsIs M Hf σ r v → PartR M Hf σ ms rs vs as → PartR M Hf σ (true :: ms) (r :: rs) (v :: vs) (.no :: as)
theorem Rep.useIm : ∀ {ms : List Bool} {rs : List Rs} {vs : List V} {Hf : Hp} {ρ ρ' : Env} {as : Env}, Rep M Γ Hf σ H ρ → HsAll M Hf σ rs vs → Fx.useIm ms ρ rs = .ok (ρ', as) →
    ∃ Hf', Same Hf Hf' ∧ Rep M Γ Hf' σ H ρ' ∧ PartR M Hf' σ ms rs vs as
  | [], [], _, Hf, ρ, ρ', as, R, .nil, e => by cases e; exact ⟨Hf, Same.refl _, R, .nil⟩
  | [], _ :: _, _, _, _, _, _, _, _, e => by cases e
  | false :: _, [], _, _, _, _, _, _, _, e => by cases e
  | true :: _, [], _, _, _, _, _, _, _, e => by cases e
  | false :: ms, r :: rs, v :: vs, Hf, ρ, ρ', as, R, .cons h t, e => by
    have e' : ((Fx.use ρ r).bind fun p => (Fx.useIm ms p.1 rs).bind fun q => .ok (q.1, .im p.2 :: q.2)) = Rz.ok (ρ', as) := e
    cases u : Fx.use ρ r with
    | no => rw [u] at e'; cases e'
    | ex _ _ => exact absurd u use_noex
    | ok p =>
      rw [u, Rz.ok_bind] at e'
      obtain ⟨Hf1, S1, R1, h1⟩ := R.use (ρ' := p.1) (d := p.2) h.rs u
      cases u2 : Fx.useIm ms p.1 rs with
      | no => rw [u2] at e'; cases e'
      | ex _ _ => exact absurd u2 useIm_noex
      | ok q =>
        rw [u2] at e'
        cases e'
        obtain ⟨Hf2, S2, R2, h2⟩ := Rep.useIm R1 (t.up S1) u2
        exact ⟨Hf2, S1.trans S2, R2, .im (h1.same S2) h2⟩
  | true :: ms, r :: rs, v :: vs, Hf, ρ, ρ', as, R, .cons h t, e => by
    have e' : ((Fx.useIm ms ρ rs).bind fun q => .ok (q.1, .no :: q.2)) = Rz.ok (ρ', as) := e
    cases u2 : Fx.useIm ms ρ rs with
    | no => rw [u2] at e'; cases e'
    | ex _ _ => exact absurd u2 useIm_noex
    | ok q =>
      rw [u2] at e'
      cases e'
      obtain ⟨Hf2, S2, R2, h2⟩ := Rep.useIm R t u2
      exact ⟨Hf2, S2, R2, .mu (h.up S2) h2⟩
theorem PartR.fill {Hf : Hp} {ρ : Env} : ∀ {ms : List Bool} {rs : List Rs} {vs : List V} {as as' : Env}, PartR M Hf σ ms rs vs as → fillPa ms ρ rs as = some as' → ArgsR M Hf σ ρ ms rs vs as'
  | _, _, _, _, _, .nil, e => by cases e; exact .nil
  | _, _, _, _, as', @PartR.im _ _ _ ms rs vs as r v d h t, e => by
    have e' : (fillPa ms ρ rs as).map (Sl.im d :: ·) = some as' := e
    cases u : fillPa ms ρ rs as with
    | none => rw [u] at e'; cases e'
    | some as2 => rw [u] at e'; cases e'; exact .im h (PartR.fill t u)
  | _, _, _, _, as', @PartR.mu _ _ _ ms rs vs as r v h t, e => by
    cases r with
    | im _ => cases e
    | nw _ => cases e
    | slot i =>
      have e' : ((ownC ρ i).bind fun c => (fillPa ms ρ rs as).map (Sl.pa c.2 :: ·)) = some as' := e
      cases u0 : ownC ρ i with
      | none => rw [u0] at e'; cases e'
      | some c =>
        rw [u0, Option.bind_some] at e'
        cases u : fillPa ms ρ rs as with
        | none => rw [u] at e'; cases e'
        | some as2 =>
          rw [u] at e'
          cases e'
          obtain ⟨g1, g2⟩ := ownC_some u0
          exact .mu g1 g2 h (PartR.fill t u)
/-- where arguments lie -/
theorem ArgsR.at {Hf : Hp} {ρ : Env} : ∀ {ms : List Bool} {rs : List Rs} {vs : List V} {as : Env}, ArgsR M Hf σ ρ ms rs vs as → as.length = vs.length ∧
    ∀ (k : Nat) y, as[k]? = some y → (∃ d v, y = .im d ∧ vs[k]? = some v ∧ Has M Hf d v) ∨ ∃ d v i x, y = .pa d ∧ vs[k]? = some v ∧ rs[k]? = some (.slot i) ∧ ms[k]? = some true ∧ i ∈ mutIx ms rs ∧ ρ[i]? = some x ∧ x.ownD = some d ∧ σ[i]? = some (some v)
  | _, _, _, _, .nil => ⟨rfl, fun k y e => by simp at e⟩
  | _, _, _, _, @ArgsR.im _ _ _ _ ms rs vs as r v d h t => by
    obtain ⟨l, f⟩ := t.at
    refine ⟨by simp [l], fun k y e => ?_⟩
    cases k with
    | zero => simp at e; subst e; exact .inl ⟨d, v, rfl, rfl, h⟩
    | succ k =>
      rcases f k y (by simpa using e) with ⟨d', v', z, h1, h2⟩ | ⟨d', v', i, x, z, h1, h2, h3, h4, h5⟩
      · exact .inl ⟨d', v', z, by simpa using h1, h2⟩
      · exact .inr ⟨d', v', i, x, z, by simpa using h1, by simpa using h2, by simpa using h3, by (cases r <;> exact h4), h5⟩
  | _, _, _, _, @ArgsR.mu _ _ _ _ ms rs vs as i x v d e1 e2 e3 t => by
    obtain ⟨l, f⟩ := t.at
    refine ⟨by simp [l], fun k y e => ?_⟩
    cases k with
    | zero => simp at e; subst e; exact .inr ⟨d, v, i, x, rfl, rfl, rfl, rfl, List.mem_cons_self, e1, e2, e3⟩
    | succ k =>
      rcases f k y (by simpa using e) with ⟨d', v', z, h1, h2⟩ | ⟨d', v', i', x', z, h1, h2, h3, h4, h5⟩
      · exact .inl ⟨d', v', z, by simpa using h1, h2⟩
      · exact .inr ⟨d', v', i', x', z, by simpa using h1, by simpa using h2, by simpa using h3, List.mem_cons_of_mem _ h4, h5⟩
/-- two places of one slot are one place -/
theorem mutIx_inj : ∀ {ms : List Bool} {rs : List Rs} {k l i : Nat}, (mutIx ms rs).Nodup → ms[k]? = some true → rs[k]? = some (.slot i) → ms[l]? = some true → rs[l]? = some (.slot i) → k = l := by
  have mem : ∀ {ms : List Bool} {rs : List Rs} {k i : Nat}, ms[k]? = some true → rs[k]? = some (.slot i) → i ∈ mutIx ms rs := by
    intro ms
    induction ms with
    | nil => intro rs k i h; simp at h
    | cons m ms ih =>
      intro rs k i h1 h2
      cases rs with
      | nil => simp at h2
      | cons r rs =>
        cases k with
        | zero => simp at h1 h2; subst h1 h2; exact List.mem_cons_self
        | succ k =>
          have := ih (rs := rs) (k := k) (i := i) (by simpa using h1) (by simpa using h2)
          cases m with
          | true => cases r <;> first | exact List.mem_cons_of_mem _ this | exact this
          | false => exact this
  intro ms
  induction ms with
  | nil => intro rs k l i _ h; simp at h
  | cons m ms ih =>
    intro rs k l i nd h1 h2 h3 h4
    cases rs with
    | nil => simp at h2
    | cons r rs =>
      have tail : (mutIx ms rs).Nodup := by
        cases m with
        | true => cases r <;> first | exact (List.nodup_cons.mp nd).2 | exact nd
        | false => exact nd
      cases k with
      | zero =>
        simp at h1 h2
        subst h1 h2
        cases l with
        | zero => rfl
        | succ l =>
          have := mem (ms := ms) (rs := rs) (k := l) (i := i) (by simpa using h3) (by simpa using h4)
          exact absurd this (List.nodup_cons.mp nd).1
      | succ k =>
        cases l with
        | zero =>
          simp at h3 h4
          subst h3 h4
          have := mem (ms := ms) (rs := rs) (k := k) (i := i) (by simpa using h1) (by simpa using h2)
          exact absurd this (List.nodup_cons.mp nd).1
        | succ l => exact congrArg (· + 1) (ih (rs := rs) (k := k) (l := l) (i := i) tail (by simpa using h1) (by simpa using h2) (by simpa using h3) (by simpa using h4))
theorem own_of {x : Sl} {d : D} (h : x.ownD = some d) : x.own := by
  cases x <;> first | trivial | cases h
theorem Rep.args {Hf : Hp} {ρ : Env} {ms : List Bool} {rs : List Rs} {vs : List V} {as : Env} (R : Rep M Γ Hf σ H ρ) (A : ArgsR M Hf σ ρ ms rs vs as) (nd : (mutIx ms rs).Nodup) : Args M H Hf vs as := by
  obtain ⟨l, f⟩ := A.at
  refine ⟨l, R.sub, fun k y e => ?_, fun k j y z ne ek ej oy oz => ?_⟩
  · rcases f k y e with ⟨d, v, z, h1, h2⟩ | ⟨d, v, i, x, z, h1, h2, h3, h4, h5, h6, h7⟩
    · exact .inl ⟨d, v, z, h1, h2⟩
    · obtain ⟨ox, a, es, hl, _⟩ := R.ownAt h5 h6
      rw [h7] at es
      cases es
      exact .inr ⟨d, a, z, h1, hl⟩
  · rcases f k y ek with ⟨d, v, z, h1, h2⟩ | ⟨d, v, i, x, z, h1, h2, h3, h4, h5, h6, h7⟩
    · subst z; exact oy.elim
    · rcases f j _ ej with ⟨d2, v2, z2, k1, k2⟩ | ⟨d2, v2, i2, x2, z2, k1, k2, k3, k4, k5, k6, k7⟩
      · subst z2; exact oz.elim
      · rw [h1, k1]
        intro e
        have ev : v = v2 := by simpa using e
        subst ev
        have ni : i ≠ i2 := fun q => by
          subst q
          exact ne (mutIx_inj nd h3 h2 k3 k2)
        have lt : ∀ {i : Nat} {x : Sl}, ρ[i]? = some x → i < σ.length := fun q => by rw [← R.len]; exact (List.getElem?_eq_some_iff.mp q).1
        refine R.r0.inj i i2 x x2 ni (get_app h5) (get_app k5) (own_of h6) (own_of k6) ?_
        rw [get_left (lt h5), get_left (lt k5), h7, k7]
/-- written one after another -/
def setOuts (L : List (Nat × Addr × D)) (ρ : Env) : Env := L.foldl (fun ρ t => ρ.set t.1 (((ρ[t.1]?).getD .no).withD t.2.2)) ρ
theorem ArgsR.outs {Hf Hf' H' : Hp} {ρ : Env} : ∀ {ms : List Bool} {rs : List Rs} {vs : List V} {as outs : Env}, ArgsR M Hf σ ρ ms rs vs as → as.length ≤ outs.length →
    (∀ (k : Nat) d, as[k]? = some (.pa d) → ∃ d' a, outs[k]? = some (.pa d') ∧ vs[k]? = some (.ref a) ∧ LocAt M Hf' H' d' (.ref a)) →
    ∃ L : List (Nat × Addr × D), (∀ ρ0, putBack ms rs outs ρ0 = setOuts L ρ0) ∧ L.map (·.1) = mutIx ms rs ∧ (∀ t ∈ L, (∃ x d, ρ[t.1]? = some x ∧ x.ownD = some d) ∧ σ[t.1]? = some (some (.ref t.2.1)) ∧ LocAt M Hf' H' t.2.2 (.ref t.2.1)) ∧
      ∀ (k : Nat) d b, as[k]? = some (.pa d) → vs[k]? = some (.ref b) → b ∈ L.map (·.2.1)
  | _, _, _, _, _, .nil, _, _ => ⟨[], fun ρ0 => rfl, rfl, fun t h => (by cases h), fun k d b e => by simp at e⟩
  | _, _, _, _, [], .im _ _, h, _ => by simp at h
  | _, _, _, _, [], .mu _ _ _ _, h, _ => by simp at h
  | _, _, _, _, o :: outs, @ArgsR.im _ _ _ _ ms rs vs as r v d h t, hl, f => by
    obtain ⟨L, h1, h2, h3, h4⟩ := ArgsR.outs (Hf' := Hf') (H' := H') (outs := outs) t (by simpa using hl) fun k d e => by
      have := f (k + 1) d (by simpa using e)
      simpa using this
    refine ⟨L, fun ρ0 => ?_, by (cases r <;> exact h2), h3, fun k d b e1 e2 => ?_⟩
    · rw [← h1 ρ0]
      cases r <;> rfl
    · cases k with
      | zero => simp at e1
      | succ k => exact h4 k d b (by simpa using e1) (by simpa using e2)
  | _, _, _, _, o :: outs, @ArgsR.mu _ _ _ _ ms rs vs as i x v d e1 e2 e3 t, hl, f => by
    obtain ⟨d', a, q1, q2, q3⟩ := f 0 d rfl
    simp at q1 q2
    subst q1 q2
    obtain ⟨L, h1, h2, h3, h4⟩ := ArgsR.outs (Hf' := Hf') (H' := H') (outs := outs) t (by simpa using hl) fun k d e => by
      have := f (k + 1) d (by simpa using e)
      simpa using this
    refine ⟨(i, a, d') :: L, fun ρ0 => h1 _, by rw [List.map_cons, h2]; rfl, fun t ht => ?_, fun k d b k1 k2 => ?_⟩
    · rcases List.mem_cons.mp ht with z | z
      · subst z; exact ⟨⟨x, d, e1, e2⟩, e3, q3⟩
      · exact h3 t z
    · cases k with
      | zero => simp at k2; subst k2; exact List.mem_cons_self
      | succ k => exact List.mem_cons_of_mem _ (h4 k d b (by simpa using k1) (by simpa using k2))
/-- behind a call -/
def midH (H H' : Hp) (L : List (Nat × Addr × D)) : Hp := fun b => if b ∈ L.map (·.2.1) then H b else H' b
theorem Rep.writeAll {Hf' H' : Hp} : ∀ {L : List (Nat × Addr × D)} {ρ : Env}, (L.map (·.1)).Nodup → Rep M Γ Hf' σ (midH H H' L) ρ → (∀ t ∈ L, (∃ x d, ρ[t.1]? = some x ∧ x.ownD = some d) ∧ σ[t.1]? = some (some (.ref t.2.1)) ∧ LocAt M Hf' H' t.2.2 (.ref t.2.1)) →
    Rep M Γ Hf' σ H' (setOuts L ρ)
  | [], ρ, _, R, _ => by
    have e : midH H H' [] = H' := by funext b; simp [midH]
    rw [e] at R
    exact R
  | (i, a, d') :: L, ρ, nd, R, f => by
    obtain ⟨⟨x, d, e1, e2⟩, e3, e4⟩ := f (i, a, d') List.mem_cons_self
    simp only at e1 e3 e4
    have nd' := List.nodup_cons.mp nd
    obtain ⟨ox, a2, es, hl, fin⟩ := R.ownAt e1 e2
    rw [e3] at es
    cases es
    obtain ⟨_, ea, hn, hh⟩ := e4.ref
    cases ea
    cases ho : H' a with
    | none => exact absurd ho hh
    | some o =>
      -- no other of the places lies at a
      have na : a ∉ L.map (·.2.1) := fun hm => by
        obtain ⟨t, ht, et⟩ := List.mem_map.mp hm
        obtain ⟨⟨x', d'', k1, k2⟩, k3, _⟩ := f t (List.mem_cons_of_mem _ ht)
        have ni : i ≠ t.1 := fun q => nd'.1 (by have z := List.mem_map_of_mem (f := fun t : Nat × Addr × D => t.1) ht; rw [← q] at z; exact z)
        have lt : ∀ {i : Nat} {x : Sl}, ρ[i]? = some x → i < σ.length := fun q => by rw [← R.len]; exact (List.getElem?_eq_some_iff.mp q).1
        refine R.r0.inj i t.1 x x' ni (get_app e1) (get_app k1) (own_of e2) (own_of k2) ?_
        rw [get_left (lt e1), get_left (lt k1), e3, k3, et]
      have eu : upd (midH H H' ((i, a, d') :: L)) a o = midH H H' L := by
        funext b
        by_cases eb : b = a
        · subst eb
          rw [upd_same]
          show some o = if b ∈ L.map (·.2.1) then H b else H' b
          rw [if_neg na, ho]
        · rw [upd_ne eb]
          show (if b ∈ a :: L.map (·.2.1) then H b else H' b) = if b ∈ L.map (·.2.1) then H b else H' b
          have : (b ∈ a :: L.map (·.2.1)) ↔ b ∈ L.map (·.2.1) := by simp [eb]
          simp only [this]
      have R2 := fin d' o (e4.stay (Same.refl _) hn (by rw [upd_same, ho]))
      rw [eu] at R2
      have lt : i < ρ.length := (List.getElem?_eq_some_iff.mp e1).1
      have R3 := Rep.writeAll (L := L) (ρ := ρ.set i (x.withD d')) nd'.2 R2 fun t ht => by
        obtain ⟨⟨x', d'', k1, k2⟩, k3, k4⟩ := f t (List.mem_cons_of_mem _ ht)
        have ni : i ≠ t.1 := fun q => nd'.1 (by have z := List.mem_map_of_mem (f := fun t : Nat × Addr × D => t.1) ht; rw [← q] at z; exact z)
        exact ⟨⟨x', d'', by rw [List.getElem?_set_ne ni]; exact k1, k2⟩, k3, k4⟩
      have e5 : setOuts ((i, a, d') :: L) ρ = setOuts L (ρ.set i (x.withD d')) := by
        show setOuts L (ρ.set i (((ρ[i]?).getD .no).withD d')) = _
        rw [e1]
        rfl
      rw [e5]
      exact R3
theorem Rep.called {Hf Hf' H' : Hp} {ρ : Env} {ms : List Bool} {rs : List Rs} {vs : List V} {as outs : Env} {r : Rs} {v : V} (R : Rep M Γ Hf σ H ρ) (A : ArgsR M Hf σ ρ ms rs vs as) (nd : (mutIx ms rs).Nodup)
    (lo : as.length ≤ outs.length) (B : Back M H Hf vs as Hf' H' outs) : Rep M Γ Hf' σ H' (putBack ms rs outs ρ) ∧ (ResIs M H Hf' H' r v → RsIs M Γ Hf' σ H' (putBack ms rs outs ρ) r v) := by
  obtain ⟨L, h1, h2, h3, h4⟩ := A.outs lo B.out
  have r0 := R.r0
  have clear : ∀ {a : Addr}, Hf a = none → H a ≠ none → Hf' a = none := fun {a} n hh => by
    cases q : Hf' a with
    | none => rfl
    | some u =>
      rcases B.fz a (by rw [q]; simp) with z | z
      · exact absurd n z
      · exact absurd z hh
  have inL : ∀ {b : Addr}, b ∉ L.map (·.2.1) → ∀ o, H b = some o → H' b = some o := fun {b} hb o e => B.fr b o e fun k d e1 e2 => hb (h4 k d b e1 e2)
  have mid : ∀ {b : Addr} {o : HO}, H b = some o → midH H H' L b = some o := fun {b o} e => by
    unfold midH
    by_cases hb : b ∈ L.map (·.2.1)
    · rw [if_pos hb]; exact e
    · rw [if_neg hb]; exact inL hb o e
  have midE : ∀ {b : Addr}, H b ≠ none → midH H H' L b = H b := fun {b} hb => by
    cases q : H b with
    | none => exact absurd q hb
    | some o => exact mid q
  have R1 : Rep M Γ Hf' σ (midH H H' L) ρ := by
    refine ⟨R.len, r0.len, fun b o e => ?_, r0.gr.trans B.up, fun b o e z => mid (r0.fr b o e z), fun b e => ?_, fun i d e => ?_, fun i d e => ?_, fun i d e => ?_, r0.inj, fun a z => ?_, r0.paO⟩
    · unfold midH
      by_cases hb : b ∈ L.map (·.2.1)
      · obtain ⟨t, ht, et⟩ := List.mem_map.mp hb
        obtain ⟨_, _, k3⟩ := h3 t ht
        obtain ⟨_, ea, hn, _⟩ := k3.ref
        cases ea
        rw [← et, hn] at e
        cases e
      · rw [if_neg hb]; exact B.sub b o e
    · rcases B.fz b e with z | z
      · exact r0.fz b z
      · refine .inr ?_
        cases q : Γ.g.H0 b with
        | none => rfl
        | some o =>
          by_cases w : Γ.g.pa b
          · exact absurd z (r0.paH b w).1
          · have := r0.fr b o q w
            rw [z] at this; cases this
    · obtain ⟨v, k1, k2⟩ := r0.im i d e
      exact ⟨v, k1, k2.same B.up⟩
    · obtain ⟨a, k1, k2, k3⟩ := r0.lo i d e
      obtain ⟨_, ea, hn, hh⟩ := k3.ref
      cases ea
      exact ⟨a, k1, k2, k3.stay B.up (clear hn hh) (midE hh)⟩
    · obtain ⟨a, k1, k2, k3⟩ := r0.pa i d e
      obtain ⟨_, ea, hn, hh⟩ := k3.ref
      cases ea
      exact ⟨a, k1, k2, k3.stay B.up (clear hn hh) (midE hh)⟩
    · obtain ⟨k1, k2⟩ := r0.paH a z
      exact ⟨by rw [midE k1]; exact k1, clear k2 k1⟩
  have R2 := R1.writeAll (L := L) (by rw [h2]; exact nd) h3
  rw [← h1 ρ] at R2
  refine ⟨R2, fun hr => ?_⟩
  cases r with
  | slot i => exact hr.elim
  | im d => exact hr
  | nw d =>
    obtain ⟨a, ev, hn, hl⟩ := hr
    refine ⟨a, ev, ?_, hl, fun i x ex ox es => ?_⟩
    · cases q : Γ.g.H0 a with
      | none => rfl
      | some o =>
        by_cases w : Γ.g.pa a
        · exact absurd hn (r0.paH a w).1
        · have := r0.fr a o q w
          rw [hn] at this; cases this
    · -- the own slots' cells were there before the call
      have old : ∀ {i : Nat} {x : Sl}, (setOuts L ρ ++ Γ.γ)[i]? = some x → x.own → ∃ y, (ρ ++ Γ.γ)[i]? = some y ∧ y.own := by
        have step : ∀ (L : List (Nat × Addr × D)) (ρ : Env), (setOuts L ρ).length = ρ.length ∧ ∀ (i : Nat) x, (setOuts L ρ)[i]? = some x → x.own → ∃ y, ρ[i]? = some y ∧ y.own := by
          intro L
          induction L with
          | nil => intro ρ; exact ⟨rfl, fun i x e o => ⟨x, e, o⟩⟩
          | cons t L ih =>
            intro ρ
            obtain ⟨l1, f1⟩ := ih (ρ.set t.1 (((ρ[t.1]?).getD .no).withD t.2.2))
            refine ⟨l1.trans (by simp), fun i x e o => ?_⟩
            obtain ⟨y, k1, k2⟩ := f1 i x e o
            rcases set_get k1 with ⟨rfl, z⟩ | ⟨_, q⟩
            · subst z
              cases q : ρ[t.1]? with
              | none => rw [q] at k2; exact k2.elim
              | some w =>
                rw [q] at k2
                exact ⟨w, rfl, by cases w <;> first | trivial | exact k2.elim⟩
            · exact ⟨y, q, k2⟩
        intro i x e o
        obtain ⟨l1, f1⟩ := step L ρ
        by_cases lt : i < ρ.length
        · rw [List.getElem?_append_left (by rw [l1]; exact lt)] at e
          obtain ⟨y, k1, k2⟩ := f1 i x e o
          exact ⟨y, get_app k1, k2⟩
        · rw [List.getElem?_append_right (by rw [l1]; omega), l1] at e
          exact ⟨x, by rw [List.getElem?_append_right (by omega)]; exact e, o⟩
      rw [h1 ρ] at ex
      obtain ⟨y, k1, k2⟩ := old ex ox
      cases y with
      | no => exact k2
      | im _ => exact k2
      | lo d' =>
        obtain ⟨b, j1, _, j3⟩ := r0.lo i d' k1
        rw [es] at j1
        cases j1
        obtain ⟨_, ea, _, hh⟩ := j3.ref
        cases ea
        exact hh hn
      | pa d' =>
        obtain ⟨b, j1, _, j3⟩ := r0.pa i d' k1
        rw [es] at j1
        cases j1
        obtain ⟨_, ea, _, hh⟩ := j3.ref
        cases ea
        exact hh hn
end
end Fx

set_option Elab.async false
set_option linter.all false
set_option maxRecDepth 100000
set_option maxHeartbeats 4000000
namespace Fx
open PySem L2
section
variable {X : Cx} {CX : CXT} {k : Nat} {f : Addr} {fd : FuncData} {ps ks : List Str} {sp : Sp} {E : XK} {x : Str} {p pos : Pos} {e : Expr} {es : List Expr} {kws : List Keyword} {t tk : TA} {W : WX}
/-- the def at f runs -/
theorem goG {pins : List (Addr × Obj)} {σ : L2.St} {H : Hp} {s : Shared} {Q : VK} {args : PySem.Args} {us : List Value} {vs : List V} (F : FnG X.prog X.w X.K X.mg X.base CX k f fd ps sp) (room : Room k X.A) (hgd : X.A.guards = some []) (bind : BindsTo s fd args (ps.zip us)) (hx : Passes CX X E)
    (I : Inv X pins σ H s) (rel : Vals vs us) (want : sp vs H Q E) : wpAny (model X.prog X.w) X.A (call (.ref f) args.pos args.kw) (EP X pins σ Q) X.xe s := by
  obtain ⟨ap, ak⟩ := args
  refine wpAny_call (codeAny_mono (F.run X.A X.stack s H ⟨ap, ak⟩ us vs Q E room hgd I.env0 bind rel want) fun r s' done => ?_)
  match r, done with
  | .error e, done => exact hx pins σ H s e s' I done
  | .ok (.ret u), done => exact I.after done
  | .ok .next, done => exact done.elim
  | .ok .brk, done => exact done.elim
  | .ok .cont, done => exact done.elim
theorem pe_callG (F : FnG X.prog X.w X.K X.mg X.base CX k f fd ps sp) (room : Room k X.A) (hgd : X.A.guards = some []) (gl : Gl X x) (hm : X.mg x = some (.ref f)) (keep : PySem.W.keepIn X.K (.ref f) = true) (bind : Binds X.K fd ps []) (hx : Passes CX X E) (ha : PA X (e :: es) t)
    (hdb : (x == ("__debug__" : Str)) = false := by decide) (he : starEach (e :: es) X.env = (false, eval e X.env) :: starEach es X.env := by rfl) (hpl : (backTo pos (starEach es X.env)).any (·.1) = false := by rfl) :
    PE X (.Call (.Name x p) (e :: es) [] pos) (fun σ H Q => t σ H fun vs H1 => sp vs H1 Q E) := by
  refine ⟨fun pins s σ H Q I h => wpAny_Call_Name_kw (ld_glob I gl hm ?_ hdb)⟩
  refine PySem.W.callWith_K (h₀ := X.base) I.ok.mod.kin keep (thn (ha.run pos pins s σ H _ I h) ?_) he hpl
  rintro us s1 ⟨vs, H1, I1, rel, q⟩
  have hl : (us ++ []).length = ps.length := by
    have := F.len _ _ _ _ q
    rw [rel.length] at this
    simpa using this
  have b := bind s1 us I1.kIn hl
  rw [List.append_nil] at b
  exact ⟨I1.kIn, goG (args := ⟨us, []⟩) F room hgd b hx I1 rel q⟩
theorem pe_callG0 (F : FnG X.prog X.w X.K X.mg X.base CX k f fd ps sp) (room : Room k X.A) (hgd : X.A.guards = some []) (gl : Gl X x) (hm : X.mg x = some (.ref f)) (keep : PySem.W.keepIn X.K (.ref f) = true) (bind : Binds X.K fd ps []) (hx : Passes CX X E) (hps : ps = [])
    (hdb : (x == ("__debug__" : Str)) = false := by decide) : PE X (.Call (.Name x p) [] [] pos) (fun σ H Q => sp [] H Q E) := by
  refine ⟨fun pins s σ H Q I h => wpAny_Call_Name_kw (ld_glob I gl hm ?_ hdb)⟩
  subst hps
  have b := bind s [] I.kIn rfl
  exact PySem.W.callWith_K0 I.kIn keep (goG (args := ⟨[], []⟩) F room hgd b hx I .nil h)
/-- keywords alone, in the parameters' order by perm (its k-th parameter is the keyword at perm[k]) -/
def permV {α : Type} (perm : List Nat) (ws : List α) : List α := perm.filterMap fun i => ws[i]?
structure KwBinds (K : PySem.W.Frag) (fd : FuncData) (ps ks : List Str) (perm : List Nat) : Prop where
  to : ∀ (s : Shared) (ws : List Value), K.In s.heap → ws.length = ks.length → BindsTo s fd ⟨[], ks.zip ws⟩ (ps.zip (permV perm ws))
theorem permV_vals {vs : List V} {ws : List Value} (h : Vals vs ws) : ∀ perm : List Nat, Vals (permV perm vs) (permV perm ws)
  | [] => .nil
  | i :: perm => by
    have ih := permV_vals h perm
    unfold permV at ih ⊢
    rw [List.filterMap_cons, List.filterMap_cons]
    cases q : vs[i]? with
    | none =>
      rw [h.none_of q]
      exact ih
    | some v =>
      obtain ⟨u, hu, r⟩ := h.get q
      rw [hu]
      exact .cons r ih
theorem pe_callGK (perm : List Nat) (F : FnG X.prog X.w X.K X.mg X.base CX k f fd ps sp) (room : Room k X.A) (hgd : X.A.guards = some []) (gl : Gl X x) (hm : X.mg x = some (.ref f)) (keep : PySem.W.keepIn X.K (.ref f) = true) (bind : KwBinds X.K fd ps ks perm) (hx : Passes CX X E) (hkw : PK X kws tk)
    (hall : (backToKw pos (keywordEach kws X.env)).all (·.1.isSome) = true := by rfl) (hks : (backToKw pos (keywordEach kws X.env)).filterMap (·.1) = ks := by rfl) (hdb : (x == ("__debug__" : Str)) = false := by decide)
    (hpl : ((backTo pos (starEach [] X.env)).any (·.1) || (backToKw pos (keywordEach kws X.env)).any (·.1.isNone)) = false := by rfl) :
    PE X (.Call (.Name x p) [] kws pos) (fun σ H Q => tk σ H fun zs H1 => zs.length = ks.length ∧ sp (permV perm zs) H1 Q E) := by
  refine ⟨fun pins s σ H Q I h => wpAny_Call_Name_kw (ld_glob I gl hm ?_ hdb)⟩
  refine PySem.W.callWith_KW0 (h₀ := X.base) I.ok.mod.kin keep hall (thn (hkw.run pos pins s σ H _ I h) ?_) hpl
  rintro ws s1 ⟨zs, H1, I1, rel, hl, q⟩
  rw [hks]
  exact ⟨I1.kIn, goG (args := ⟨[], ks.zip ws⟩) F room hgd (bind.to s1 ws I1.kIn (by rw [← rel.length]; exact hl)) hx I1 (permV_vals rel perm) q⟩
end
/-- the functional reading of a call -/
theorem call_end {M : Md} {W : WX} {Fn : Env → Rz (Env × Rs)} {n : Nat} {E : XK} {Γ : Gh} {Hf : Hp} {σ : L2.St} {H : Hp} {ρ : Env} {rs : List Rs} {vs : List V} {ms : List Bool} {Q : VK} (R : Rep M Γ Hf σ H ρ) (ha : HsAll M Hf σ rs vs) (hn : vs.length = n)
    (hE : ∀ x outs, (∃ as, Fn as = .ex x outs) → ∀ c d H', W c d σ H' → E c d H') (hlen : ∀ as r, Fn as = .ok r → as.length ≤ r.1.length) (hlenX : ∀ as x o, Fn as = .ex x o → as.length ≤ o.length)
    (h : (callBy Fn ms ρ rs).wp (fun p => ∀ Hf' H' v, Same Hf Hf' → Rep M Γ Hf' σ H' p.1 → RsIs M Γ Hf' σ H' p.1 p.2 v → Q v H') (EPf M W Γ Hf σ)) : spN n M Fn vs H Q E := by
  refine ⟨hn, ?_⟩
  unfold callBy at h
  cases u : useIm ms ρ rs with
  | no => rw [u] at h; exact h.elim
  | ex _ _ => exact absurd u useIm_noex
  | ok q =>
    rw [u] at h
    obtain ⟨Hf1, S1, R1, P1⟩ := R.useIm ha (ρ' := q.1) (as := q.2) u
    obtain ⟨as, e1, h⟩ := ofO_bind h
    obtain ⟨nd, h⟩ := ite_wp h
    have nd := of_decide_eq_true nd
    have A := P1.fill e1
    refine ⟨Hf1, as, R1.args A nd, ?_⟩
    cases uf : Fn as with
    | no => rw [uf] at h; exact h.elim
    | ok r =>
      rw [uf] at h
      intro Hf' H' v B hr
      obtain ⟨R2, fin⟩ := R1.called (r := r.2) (v := v) A nd (hlen as r uf) B
      exact h Hf' H' v (S1.trans B.up) R2 (fin hr)
    | ex x o =>
      rw [uf] at h
      intro Hf' H' c d B he
      obtain ⟨R2, _⟩ := R1.called (r := .im .non) (v := .non) A nd (hlenX as x o uf) B
      exact hE x o ⟨as, uf⟩ c d H' (h Hf' H' c d (S1.trans B.up) R2 he)
/-- outs are as long as the arguments -/
def Long (F : Env → Rz (Env × Rs)) : Prop := (∀ as r, F as = .ok r → as.length ≤ r.1.length) ∧ ∀ as x o, F as = .ex x o → as.length ≤ o.length
theorem okOuts_len : ∀ {args outs : Env}, okOuts args outs = true → args.length ≤ outs.length
  | [], _, _ => Nat.zero_le _
  | .pa _ :: _, .pa _ :: outs, h => Nat.succ_le_succ (okOuts_len (outs := outs) h)
  | .pa _ :: _, [], h => by cases h
  | .pa _ :: _, .no :: _, h => by cases h
  | .pa _ :: _, .im _ :: _, h => by cases h
  | .pa _ :: _, .lo _ :: _, h => by cases h
  | .no :: _, o :: outs, h => Nat.succ_le_succ (okOuts_len (outs := outs) (by cases o <;> exact h))
  | .im _ :: _, o :: outs, h => Nat.succ_le_succ (okOuts_len (outs := outs) (by cases o <;> exact h))
  | .lo _ :: _, o :: outs, h => Nat.succ_le_succ (okOuts_len (outs := outs) (by cases o <;> exact h))
  | .no :: _, [], h => by cases h
  | .im _ :: _, [], h => by cases h
  | .lo _ :: _, [], h => by cases h
theorem long_run (n : Nat) (body : Env → Rz (Env × Fl)) : Long (runF n body) := by
  constructor
  · intro as r h
    unfold runF at h
    split at h
    · rename_i ρ' fl e
      cases ho : okOuts as ρ' with
      | false => rw [ho] at h; cases h
      | true =>
        rw [ho] at h
        have l := okOuts_len ho
        cases fl with
        | nx => cases h; simp [l]
        | bk => cases h
        | ct => cases h
        | rt r0 =>
          replace h : ((retV ρ' r0).bind fun r' => Rz.ok (ρ'.take as.length, r')) = .ok r := h
          cases e2 : retV ρ' r0 with
          | ok r' => rw [e2] at h; cases h; simp [l]
          | no => rw [e2] at h; cases h
          | ex _ _ => rw [e2] at h; cases h
    · rename_i x ρ' e
      cases ho : okOuts as ρ' with
      | false => rw [ho] at h; cases h
      | true => rw [ho] at h; cases h
    · cases h
  · intro as x o h
    unfold runF at h
    split at h
    · rename_i ρ' fl e
      cases ho : okOuts as ρ' with
      | false => rw [ho] at h; cases h
      | true =>
        rw [ho] at h
        cases fl with
        | nx => cases h
        | bk => cases h
        | ct => cases h
        | rt r0 =>
          replace h : ((retV ρ' r0).bind fun r' => Rz.ok (ρ'.take as.length, r')) = .ex x o := h
          cases e2 : retV ρ' r0 with
          | ok r' => rw [e2] at h; cases h
          | no => rw [e2] at h; cases h
          | ex x2 o2 =>
            exfalso
            cases r0 with
            | im _ => cases e2
            | nw _ => cases e2
            | slot i =>
              unfold retV at e2
              cases q : ρ'[i]? with
              | none => simp [q] at e2
              | some y => cases y <;> simp [q] at e2
    · rename_i x2 ρ' e
      cases ho : okOuts as ρ' with
      | false => rw [ho] at h; cases h
      | true =>
        rw [ho] at h
        cases h
        have l := okOuts_len ho
        simp [l]
    · cases h
theorem Long.noX {F : Env → Rz (Env × Rs)} (h : Long F) : Long fun a => noX (F a) := by
  constructor
  · intro as r e
    cases u : F as with
    | ok r' => simp [u, Fx.noX] at e; subst e; exact h.1 as r' u
    | no => simp [u, Fx.noX] at e
    | ex _ _ => simp [u, Fx.noX] at e
  · intro as x o e
    cases u : F as <;> simp [u, Fx.noX] at e
section
variable {X : Cx} {W : WX} {k : Nat} {f : Addr} {fd : FuncData} {ps ks : List Str} {x : Str} {p pos : Pos} {e : Expr} {es : List Expr} {kws : List Keyword} {Fn : Env → Rz (Env × Rs)} {args : Env → Rz (Env × List Rs)}
theorem noX_noex {α : Type} {r : Rz α} {x : Exn} {ρ : Env} : noX r ≠ .ex x ρ := by cases r <;> (intro h; cases h)
/-- a def of the module as it stands: its function object, how it binds -/
structure DefF (K : PySem.W.Frag) (mg : Str → Option Value) (x : Str) (st : Stmt) (ps : List Str) : Prop where
  ex : ∃ f fd, mg x = some (.ref f) ∧ Fun K x x st f fd ∧ Binds K fd ps []
/-- a def's facts, as a call asks them -/
structure Defd (P : Program) (w : World) (K : PySem.W.Frag) (mg : Str → Option Value) (base : Heap) (k : Nat) (x : Str) (st : Stmt) (ps : List Str) (Fn : Env → Rz (Env × Rs)) : Prop where
  ex : ∃ f fd, FnG P w K mg base CX0 k f fd ps (spN ps.length ⟨K, mg⟩ fun a => noX (Fn a)) ∧ mg x = some (.ref f) ∧ Fun K x x st f fd ∧ Binds K fd ps []
  long : Long Fn
section
variable {P : Program} {w : World} {K : PySem.W.Frag} {mg : Str → Option Value} {base : Heap} {j k : Nat} {st : Stmt} {N : List Str} {body : Env → Rz (Env × Fl)}
theorem Defd.mono (D : Defd P w K mg base j x st ps Fn) (h : j ≤ k) : Defd P w K mg base k x st ps Fn := by
  obtain ⟨⟨f, fd, F, r⟩, l⟩ := D
  exact ⟨⟨f, fd, F.mono h, r⟩, l⟩
/-- nothing is promised -/
theorem Defd.zero (D : DefF K mg x st ps) : Defd P w K mg base k x st ps fun _ => .no := by
  obtain ⟨f, fd, hm, F, b⟩ := D.ex
  refine ⟨⟨f, fd, ⟨fun vs H Q E h => h.1, fun A outer s H args us vs Q E _ _ _ _ _ h => ?_⟩, hm, F, b⟩, ⟨(fun as r e => by cases e), (fun as x o e => by cases e)⟩⟩
  obtain ⟨_, Hf, args, _, hw⟩ := h
  exact hw.elim
/-- by its body -/
theorem Defd.of {n : Nat} (D : DefF K mg x st ps) (S : FnScope N ps (defScope st)) (hn : N.length = n) (hps : ps.length ≤ N.length)
    (hbody : ∀ (cdv : Value) (A : Around) (outer : List PySem.Env) (f : Addr) (s : Shared) (H : Hp) (E : XK), Room k (A.deeper (frameOf x (defScope st) s f cdv)) → A.guards = some [] →
      RSs (cxOf CX0 P w K mg base N x (defScope st) f cdv A outer s H E).nox W0 (defBody st) body) : Defd P w K mg base (k + 1) x st ps (runF n body) := by
  subst hn
  obtain ⟨f, fd, hm, F, b⟩ := D.ex
  exact ⟨⟨f, fd, fun_okG F S hps fun cdv A outer s H E hr hg => hbody cdv A outer f s H E hr hg, hm, F, b⟩, long_run _ _⟩
end
/-- a call with n arguments -/
def eCallN (n : Nat) (F : Env → Rz (Env × Rs)) (ms : List Bool) (args : Env → Rz (Env × List Rs)) : Env → Rz (Env × Rs) := fun ρ => (args ρ).bind fun p => if decide (p.2.length = n) = true then callBy F ms p.1 p.2 else .no
theorem HsAll.length {M : Md} {Hf : Hp} {σ : L2.St} {rs : List Rs} {vs : List V} (h : HsAll M Hf σ rs vs) : rs.length = vs.length := by
  induction h with
  | nil => rfl
  | cons _ _ ih => simp [ih]
theorem re_call (ms : List Bool) {st : Stmt} {n : Nat} (D : Defd X.prog X.w X.K X.mg X.base k x st ps Fn) (room : Room k X.A) (hgd : X.A.guards = some []) (ha : RHs X W (e :: es) args) (hn : ps.length = n := by rfl) (gl : Gl X x := by rfl)
    (hdb : (x == ("__debug__" : Str)) = false := by decide) (he : starEach (e :: es) X.env = (false, eval e X.env) :: starEach es X.env := by rfl) (hpl : (backTo pos (starEach es X.env)).any (·.1) = false := by rfl) :
    RE X W (.Call (.Name x p) (e :: es) [] pos) (eCallN n (fun a => noX (Fn a)) ms args) := by
  subst hn
  obtain ⟨⟨f, fd, F, hm, FF, bind⟩, long⟩ := D
  refine pe_mono (pe_callG F room hgd gl hm FF.kp bind pass0 ha hdb he hpl) fun σ H Q ⟨Γ, Hf, ρ, R, hw⟩ => ?_
  refine ⟨Γ, Hf, ρ, R, ?_⟩
  have hw' := Rz.wp_bind hw
  cases u : args ρ with
  | no => rw [u] at hw'; exact hw'.elim
  | ex x ρ' => rw [u] at hw'; exact hw'
  | ok pr =>
    rw [u] at hw'
    obtain ⟨hl, hw'⟩ := ite_wp hw'
    have hl := of_decide_eq_true hl
    intro Hf1 H1 vs S1 R1 hvs
    exact call_end R1 hvs (by rw [← hvs.length]; exact hl) (fun x outs ⟨as, e⟩ => absurd e noX_noex) long.noX.1 long.noX.2
      (Rz.wp_mono hw' (fun p hp Hf' H' v S R h => hp Hf' H' v (S1.trans S) R h) (EPf.up S1))
/-! ### keywords -/
abbrev RHk (X : Cx) (W : WX) (kws : List Keyword) (f : Env → Rz (Env × List Rs)) : Prop := PK X kws (rdHs ⟨X.K, X.mg⟩ W f)
theorem pk_mono {t t' : TA} (h : PK X kws t) (i : ∀ σ H Q, t' σ H Q → t σ H Q) : PK X kws t' := ⟨fun pos pins s σ H Q I q => h.run pos pins s σ H Q I (i σ H Q q)⟩
theorem rk_nil : RHk X W [] aNil := pk_mono pk_nil fun σ H Q ⟨Γ, Hf, ρ, R, hw⟩ => hw Hf H [] (Same.refl _) R .nil
theorem rk_cons {nm : Option Str} {kpos : Pos} {f : Env → Rz (Env × Rs)} {g : Env → Rz (Env × List Rs)} (ha : RH X W e f) (hr : RHk X W kws g) : RHk X W (⟨nm, e, kpos⟩ :: kws) (aCons f g) :=
  pk_mono (pk_cons ha hr) fun σ H Q ⟨Γ, Hf, ρ, R, hw⟩ => bindH R hw fun ρ1 r Hf1 H1 v S1 R1 hv hq =>
    bindHs R1 hq fun ρ2 rs Hf2 H2 vs S2 R2 hvs hq2 => hq2 Hf2 H2 _ (S1.trans S2) R2 (.cons (hv.up S2) hvs)
end
end Fx

set_option Elab.async false
set_option linter.all false
set_option maxRecDepth 100000
set_option maxHeartbeats 4000000
namespace Fx
open PySem L2
theorem _root_.L2.Room.u64 {k : Nat} {A : Around} (r : Room k A) : A.units + 64 < cLine := by have := r.un; omega
theorem _root_.L2.Room.u65 {k : Nat} {A : Around} (r : Room k A) : A.units + 65 < cLine := by have := r.un; omega
theorem _root_.L2.Room.u70 {k : Nat} {A : Around} (r : Room k A) : A.units + 70 < cLine := by have := r.un; omega
section
variable {X : Cx} {W : WX} {k : Nat} {f : Addr} {fd : FuncData} {ps ks : List Str} {x : Str} {p pos : Pos} {e : Expr} {es : List Expr} {kws : List Keyword} {Fn : Env → Rz (Env × Rs)} {args : Env → Rz (Env × List Rs)}
/-- a call by keywords: n of them, m parameters -/
def eCallK (n m : Nat) (perm : List Nat) (F : Env → Rz (Env × Rs)) (ms : List Bool) (args : Env → Rz (Env × List Rs)) : Env → Rz (Env × Rs) := fun ρ => (args ρ).bind fun p =>
  if (decide (p.2.length = n) && decide ((permV perm p.2).length = m)) = true then callBy F ms p.1 (permV perm p.2) else .no
theorem HsAll.perm {M : Md} {Hf : Hp} {σ : L2.St} {rs : List Rs} {vs : List V} (h : HsAll M Hf σ rs vs) : ∀ perm : List Nat, HsAll M Hf σ (permV perm rs) (permV perm vs)
  | [] => .nil
  | i :: perm => by
    have ih := HsAll.perm h perm
    unfold permV at ih ⊢
    rw [List.filterMap_cons, List.filterMap_cons]
    have both : (rs[i]? = none ∧ vs[i]? = none) ∨ ∃ r v, rs[i]? = some r ∧ vs[i]? = some v ∧ HsIs M Hf σ r v := by
      clear ih
      induction h generalizing i with
      | nil => exact .inl ⟨by simp, by simp⟩
      | @cons r rs v vs h1 h2 ih =>
        cases i with
        | zero => exact .inr ⟨r, v, by simp, by simp, h1⟩
        | succ i => simpa using ih i
    rcases both with ⟨e1, e2⟩ | ⟨r, v, e1, e2, hv⟩
    · rw [e1, e2]; exact ih
    · rw [e1, e2]; exact .cons hv ih
theorem re_callK (ks : List Str) (perm : List Nat) (ms : List Bool) {st : Stmt} {n n2 : Nat} (D : Defd X.prog X.w X.K X.mg X.base k x st ps Fn) (room : Room k X.A) (hgd : X.A.guards = some [])
    (hb : ∀ (kV doc pm : Value) (an : Option Addr) (cdv ct : Value) (us : List Value), us.length = ks.length → bindArgs (PySem.W.fnOf x x (defArgs st) (defBody st) (defScope st) .none kV doc pm an cdv ct) ⟨[], ks.zip us⟩ = pure (ps.zip (permV perm us)))
    (ha : RHk X W kws args) (hn : ks.length = n := by rfl) (hn2 : ps.length = n2 := by rfl) (gl : Gl X x := by rfl) (hall : (backToKw pos (keywordEach kws X.env)).all (·.1.isSome) = true := by rfl) (hks : (backToKw pos (keywordEach kws X.env)).filterMap (·.1) = ks := by rfl) (hdb : (x == ("__debug__" : Str)) = false := by decide)
    (hpl : ((backTo pos (starEach [] X.env)).any (·.1) || (backToKw pos (keywordEach kws X.env)).any (·.1.isNone)) = false := by rfl) :
    RE X W (.Call (.Name x p) [] kws pos) (eCallK n n2 perm (fun a => noX (Fn a)) ms args) := by
  subst hn hn2
  obtain ⟨⟨f, fd, F, hm, FF, bind⟩, long⟩ := D
  have kb : KwBinds X.K fd ps ks perm := ⟨fun s ws _ hl => by
    obtain ⟨oc, od, kV, doc, pm, an, cdv, ct, osl, rfl, _, _⟩ := FF.ex
    exact .of_eq (hb kV doc pm an cdv ct ws hl)⟩
  refine pe_mono (pe_callGK perm F room hgd gl hm FF.kp kb pass0 ha hall hks hdb hpl) fun σ H Q ⟨Γ, Hf, ρ, R, hw⟩ => ?_
  refine ⟨Γ, Hf, ρ, R, ?_⟩
  have hw' := Rz.wp_bind hw
  cases u : args ρ with
  | no => rw [u] at hw'; exact hw'.elim
  | ex x ρ' => rw [u] at hw'; exact hw'
  | ok pr =>
    rw [u] at hw'
    obtain ⟨hl, hw'⟩ := ite_wp hw'
    rw [Bool.and_eq_true] at hl
    have h1 := of_decide_eq_true hl.1
    have h2 := of_decide_eq_true hl.2
    intro Hf1 H1 vs S1 R1 hvs
    have hp := hvs.perm perm
    refine ⟨by rw [← hvs.length]; exact h1, ?_⟩
    exact call_end R1 hp (by rw [← hp.length]; exact h2) (fun x outs ⟨as, e⟩ => absurd e noX_noex) long.noX.1 long.noX.2
      (Rz.wp_mono hw' (fun p hp Hf' H' v S R h => hp Hf' H' v (S1.trans S) R h) (EPf.up S1))
end
/-! ### what stands at the module's top -/
theorem DefF.of {K : PySem.W.Frag} {h : Heap} {mg : Str → Option Value} {x : Str} {st : Stmt} {ps : List Str} {f : Addr} {od an : Option Addr} {sl : Array (Option Value)} {oc kV dc pm cd ct : Value} (X : K.In h) (G : h.Ns mainGlobals mg)
    (a : PySem.W.nsIn K mainGlobals x = some (some (.ref f))) (l : K.lookup f = some ⟨oc, od, .func (PySem.W.fnOf x x (defArgs st) (defBody st) (defScope st) .none kV dc pm an cd ct), sl⟩) (c : PySem.W.codeIn K cd x = true) (k : PySem.W.keepIn K (.ref f) = true)
    (hb : ∀ (kV doc pm : Value) (an : Option Addr) (cdv ct : Value) (us : List Value), us.length = ps.length → bindArgs (PySem.W.fnOf x x (defArgs st) (defBody st) (defScope st) .none kV doc pm an cdv ct) ⟨us, []⟩ = pure (ps.zip us)) : DefF K mg x st ps :=
  let F := fun_mk (st := st) l c k
  ⟨⟨f, _, PySem.W.mg_of X G a, F, F.binds hb⟩⟩
/-- a constant of the module -/
structure GlobC (K : PySem.W.Frag) (mg : Str → Option Value) (x : Str) (d : D) : Prop where
  ex : ∃ v u, mg x = some u ∧ RelV v u ∧ ∀ G, Has ⟨K, mg⟩ G d v
theorem GlobC.str {K : PySem.W.Frag} {h : Heap} {mg : Str → Option Value} {x z : Str} {t : Tok} (X : K.In h) (G : h.Ns mainGlobals mg) (a : PySem.W.nsIn K mainGlobals x = some (some (.str z t))) : GlobC K mg x (.str z) :=
  ⟨⟨.str z, .str z t, PySem.W.mg_of X G a, ⟨t, rfl⟩, fun _ => .str z⟩⟩
theorem GlobC.int {K : PySem.W.Frag} {h : Heap} {mg : Str → Option Value} {x : Str} {z : Int} {t : Tok} (X : K.In h) (G : h.Ns mainGlobals mg) (a : PySem.W.nsIn K mainGlobals x = some (some (.int z t))) : GlobC K mg x (.int z) :=
  ⟨⟨.int z, .int z t, PySem.W.mg_of X G a, ⟨t, rfl⟩, fun _ => .int z⟩⟩
/-- a tuple of texts and whole numbers -/
inductive AtomIs : D → Value → Prop
  | str (z t) : AtomIs (.str z) (.str z t)
  | int (z t) : AtomIs (.int z) (.int z t)
  | non : AtomIs .non .none
  | bl (b) : AtomIs (.bl b) (.bool b)
inductive AtomsAre : List D → List Value → Prop
  | nil : AtomsAre [] []
  | cons {d ds v vs} : AtomIs d v → AtomsAre ds vs → AtomsAre (d :: ds) (v :: vs)
theorem AtomIs.v {d : D} {u : Value} (h : AtomIs d u) : ∃ v, RelV v u ∧ ∀ (M : Md) G, Has M G d v := by
  cases h with
  | str z t => exact ⟨.str z, ⟨t, rfl⟩, fun M G => .str z⟩
  | int z t => exact ⟨.int z, ⟨t, rfl⟩, fun M G => .int z⟩
  | non => exact ⟨.non, rfl, fun M G => .non⟩
  | bl b => exact ⟨.bl b, rfl, fun M G => .bl b⟩
theorem AtomsAre.vs {ds : List D} {us : List Value} (h : AtomsAre ds us) : ∃ vs, Vals vs us ∧ ∀ (M : Md) G, HasAll M G ds vs := by
  induction h with
  | nil => exact ⟨[], .nil, fun M G => .nil⟩
  | cons h _ ih =>
    obtain ⟨v, r, f⟩ := h.v
    obtain ⟨vs, rs, fs⟩ := ih
    exact ⟨v :: vs, .cons r rs, fun M G => .cons (f M G) (fs M G)⟩
theorem GlobC.tup {K : PySem.W.Frag} {h : Heap} {mg : Str → Option Value} {x : Str} {b : Addr} {ds : List D} {o : Obj} {its : Array Value} {n : Nat} (X : K.In h) (G : h.Ns mainGlobals mg) (a : PySem.W.nsIn K mainGlobals x = some (some (.ref b)))
    (l : K.lookup b = some o) (hc : o.cls = .type "tuple") (hd : o.data = .seq its n) (hs : its.size ≤ sizeLine) (e : AtomsAre ds its.toList) : GlobC K mg x (.nd .tup ds) := by
  obtain ⟨vs, r, f⟩ := e.vs
  exact ⟨⟨.ref b, .ref b, PySem.W.mg_of X G a, rfl, fun H => .tup (.inr ⟨o, its, n, l, hc, hd, hs, r⟩) (f _ _)⟩⟩
theorem rv_globC {X : Cx} {W : WX} {x : Str} {d : D} {pos : Pos} (h : GlobC X.K X.mg x d) (hg : Gl X x := by rfl) (hd : (x == ("__debug__" : Str)) = false := by decide) : RV X W (.Name x pos) (vC d) := by
  obtain ⟨v, u, e, r, hh⟩ := h.ex
  exact rv_glob hg e r hh hd
end Fx

set_option Elab.async false
set_option linter.all false
set_option maxRecDepth 100000
set_option maxHeartbeats 4000000
namespace Fx
open PySem L2
/-! ### dicts whose keys are nested tuples -/
mutual
def D.nk : D → Option NestedKey
  | .non => some .none
  | .bl b => some (.num (if b = true then 1 else 0))
  | .int i => some (.num i)
  | .str x => some (.text x)
  | .ob _ => none
  | .nd .tup xs => (D.nks xs).map .tup
  | .nd .lst _ => none
  | .nd .scr _ => none
  | .nd (.dct _) _ => none
  | .nd (.obj _ _) _ => none
  | .nd (.dcx _) _ => none
def D.nks : List D → Option (List NestedKey)
  | [] => some []
  | x :: xs => (D.nk x).bind fun k => (D.nks xs).map fun ks => k :: ks
end
section
variable {X : Cx} {pins : List (Addr × Obj)} {σ : L2.St} {H : Hp} {s : Shared}
mutual
theorem Has.key (I : Inv X pins σ H s) : ∀ {d : D} {v : V} {u : Value} {k : NestedKey}, Has ⟨X.K, X.mg⟩ H d v → D.nk d = some k → RelV v u → NestedIs s.heap k u
  | _, _, _, _, .non, e, r => by rw [D.nk] at e; cases e; cases r; exact .none
  | _, _, _, _, .bl b, e, r => by rw [D.nk] at e; cases e; cases r; exact .bool rfl
  | _, _, _, _, .int i, e, r => by rw [D.nk] at e; cases e; obtain ⟨t, rfl⟩ := r; exact .int i t
  | _, _, _, _, .str x, e, r => by rw [D.nk] at e; cases e; obtain ⟨t, rfl⟩ := r; exact .text x t
  | _, _, _, _, .ob a, e, _ => by rw [D.nk] at e; cases e
  | _, _, _, _, .tup q t, e, r => by
    rw [D.nk] at e
    obtain ⟨ks, h1, rfl⟩ := Option.map_eq_some_iff.mp e
    cases r
    obtain ⟨its, rv, ⟨o, ho, hc, n, hd⟩, _⟩ := I.tuple q
    exact .tup ho hc hd (HasAll.keys I t h1 (by simpa using rv))
  | _, _, _, _, .lst _ _, e, _ => by rw [D.nk] at e; cases e
  | _, _, _, _, .scr _ _, e, _ => by rw [D.nk] at e; cases e
  | _, _, _, _, .dct _ _, e, _ => by rw [D.nk] at e; cases e
  | _, _, _, _, .obj _ _ _, e, _ => by rw [D.nk] at e; cases e
  | _, _, _, _, .dcx _, e, _ => by rw [D.nk] at e; cases e
theorem HasAll.keys (I : Inv X pins σ H s) : ∀ {ds : List D} {vs : List V} {us : List Value} {ks : List NestedKey}, HasAll ⟨X.K, X.mg⟩ H ds vs → D.nks ds = some ks → Vals vs us → NestedAll s.heap ks us
  | _, _, _, _, .nil, e, r => by rw [D.nks] at e; cases e; cases r; exact .nil
  | _, _, _, _, .cons h t, e, r => by
    rw [D.nks] at e
    obtain ⟨k, h1, h2⟩ := Option.bind_eq_some_iff.mp e
    obtain ⟨ks, h3, rfl⟩ := Option.map_eq_some_iff.mp h2
    cases r with
    | cons r1 r2 => exact .cons (Has.key I h h1 r1) (HasAll.keys I t h3 r2)
end
end
/-- the tuple at b is the key k -/
def KeyAt (M : Md) (G : Hp) (k : NestedKey) (b : Addr) : Prop := ∃ d, Has M G d (.ref b) ∧ D.nk d = some k ∧ k.depth ≤ 8
theorem KeyAt.same {M : Md} {G G' : Hp} {k : NestedKey} {b : Addr} (h : KeyAt M G k b) (S : Same G G') : KeyAt M G' k b := by
  obtain ⟨d, h1, h2⟩ := h
  exact ⟨d, h1.same S, h2⟩
abbrev entN (P : Program) (w : World) (x : NestedKey × Addr × Value) : DictEntry := entryOfKey (nestedKind P w) x
section
variable {X : Cx}
/-- {} -/
def tDN : TE := fun _ H Q => ∀ p, H p = none → Q (.ref p) (upd H p (.ext (dcxRaw p [])))
theorem dcx_ok {P : Program} {w : World} {H : Hp} {h : Heap} {a : Addr} {es : List DictEntry} (x : dcxRaw a es h) : ObjOk P w H h a (.ext (dcxRaw a es)) := by
  refine ⟨x, ?_, fun h1 h2 q k => ?_⟩
  · obtain ⟨_, o, _, _, e, _⟩ := x
    exact ⟨o, e⟩
  · obtain ⟨n, o, arr, ep, e, r⟩ := q
    exact ⟨n, o, arr, ep, k o e, r⟩
theorem pe_dN {pos : Pos} : PE X (.Dict [] [] pos) tDN := ⟨fun pins s σ H Q I h => by
  have n : (s.heap.objs.size == sysModules) = false := by
    exact beq_eq_false_iff_ne.mpr (Nat.ne_of_gt I.big)
  refine wpAny_Dict_empty ⟨.ref s.heap.objs.size, _, I.laid (a := s.heap.objs.size) (t' := s.toks) (fun _ _ q => Heap.get?_push_of_some _ q) (Nat.le_refl _) (dcx_ok ⟨n, _, #[], 0, Heap.get?_push_size _ rfl, ⟨rfl, rfl, rfl⟩, rfl, rfl⟩), rfl, h _ (I.hok.fresh (Nat.le_refl _))⟩⟩
def eDn : Env → Rz (Env × Rs) := fun ρ => .ok (ρ, .nw (.nd (.dcx []) []))
theorem re_dn {W : WX} {pos : Pos} : RE X W (.Dict [] [] pos) eDn := pe_mono pe_dN fun σ H Q ⟨Γ, Hf, ρ, R, hw⟩ p hp => by
  obtain ⟨R2, h0, hf, hn⟩ := R.layN hp (.ext (dcxRaw p []))
  exact hw Hf _ _ (Same.refl _) R2 ⟨p, rfl, h0, .dcx hf upd_same, hn⟩
/-- d.setdefault(k, v) -/
def rSD (P : Program) (w : World) (M : Md) : V → List V → Hp → VK → Prop := fun x xs H Q => ∃ (a kb : Addr) (dv : V) (k : NestedKey) (ents : List (NestedKey × Addr × Value)), x = .ref a ∧ xs = [.ref kb, dv] ∧ H a = some (.ext (dcxRaw a (ents.map (entN P w)))) ∧
  (ents.map (·.1)).Nodup ∧ ents.length < sizeLine ∧ (∀ e ∈ ents, KeyAt M H e.1 e.2.1) ∧ KeyAt M H k kb ∧ (∀ p, atKey ents k = some p → ∀ v, RelV v p.2 → Q v H) ∧ (∀ p, atKey ents k = some p → ∃ v, RelV v p.2) ∧
  (atKey ents k = none → ∀ u, RelV dv u → Q dv (upd H a (.ext (dcxRaw a ((ents ++ [(k, kb, u)]).map (entN P w))))))
theorem mt_sd (hu : X.A.units + 64 < cLine) : MtR X "dict.setdefault" (rSD X.prog X.w ⟨X.K, X.mg⟩) := by
  intro pins s σ H x xs v us Q I rx rxs h
  obtain ⟨a, kb, dv, k, ents, rfl, rfl, ha, nd, hl, hk, hkb, q1, q0, q2⟩ := h
  cases rx
  obtain ⟨u1, u2, rfl, r1, r2⟩ := vals2 rxs
  cases r1
  obtain ⟨⟨hd, o, arr, ep, ho, hc, hdat, hes⟩, _, _⟩ := I.hok a _ ha
  have isK : ∀ {k : NestedKey} {b : Addr}, KeyAt ⟨X.K, X.mg⟩ H k b → (nestedKind X.prog X.w).is s.heap k b := fun {k b} ⟨d, h1, h2, h3⟩ => ⟨Has.key I h1 h2 rfl, h3⟩
  have dd : s.heap.DictOfH (nestedKind X.prog X.w) a ents := ⟨o, arr, ep, ho, hc, hdat, hes, fun e he => isK (hk e he), nd⟩
  refine call_setdefault_heap (hsz := Nat.le_of_lt hl) (by show X.A.in1.units + 8 < cLine; show X.A.units + 1 + 8 < cLine; omega) (isK hkb) hd dd (fun p hp => ?_) fun hn h' dd' hs => ?_
  · obtain ⟨v, rv⟩ := q0 p hp
    show EP X pins σ Q p.2 _
    exact ⟨v, H, I.tok _, rv, q1 p hp v rv⟩
  · rw [storedH_new hn] at dd'
    obtain ⟨o2, arr2, ep2, ho2, hc2, hdat2, hes2, _, nd2⟩ := dd'
    have I2 := d_write (t' := s.toks + (nestedKind X.prog X.w).draws k) (ob := .ext (dcxRaw a ((ents ++ [(k, kb, u2)]).map (entN X.prog X.w)))) I (by rw [ha]; exact True.intro) hs ⟨o2, ho2⟩ (dcx_ok ⟨hd, o2, arr2, ep2, ho2, hc2, hdat2, hes2⟩)
    show EP X pins σ Q u2 _
    exact ⟨dv, _, I2, r2, q2 hn u2 r2⟩
/-- the method's object is such a dict -/
def tSD (r : V → List V → Hp → VK → Prop) (to : TE) (t : TA) : TE := fun σ H Q => to σ H fun x H1 => (∃ a es, x = .ref a ∧ H1 a = some (.ext (dcxRaw a es))) ∧ t σ H1 fun xs H2 => r x xs H2 Q
theorem pe_sd {r : V → List V → Hp → VK → Prop} {o e : Expr} {es : List Expr} {to : TE} {t : TA} {apos cpos : Pos} {name : Str} {id : String} (slot : Slot "dict" name id) (hty : typeOf (.builtin id) = pure (.type "method_descriptor")) (hm : MtR X id r) (ho : PE X o to) (ha : PA X (e :: es) t)
    (hbase : attributeBase o name X.env (eval o X.env) = eval o X.env := by rfl)
    (hfew : ((backTo cpos (starEach (e :: es) X.env)).all (fun x => !x.1) && (backToKw cpos (keywordEach [] X.env)).all (fun x => x.1.isSome) && decide ((e :: es).length + ([] : List Keyword).length + (if ([] : List Keyword).isEmpty then 0 else 1) < 30)) = true := by rfl)
    (hline : (apos.endLine == cpos.line) = true := by rfl) (hs : starEach (e :: es) X.env = (false, eval e X.env) :: starEach es X.env := by rfl) (hplain : (backTo cpos (starEach es X.env)).any (·.1) = false := by rfl) :
    PE X (.Call (.Attribute o name apos) (e :: es) [] cpos) (tSD r to t) := by
  refine ⟨fun pins s σ H Q I h => wpAny_Call_method_late hbase hfew hline rfl (thn (ho.run pins s σ H _ I h) ?_)⟩
  rintro v s1 ⟨x, H1, I1, r1, ⟨a, es2, rfl, ea⟩, q1⟩
  obtain ⟨⟨hd, ob, arr, ep, hob, hc, hdat, _⟩, _, _⟩ := I1.hok a _ ea
  have r1' := r1
  cases r1
  refine ⟨"dict", id, PySem.F.plainAttrs_dict, slot, hty, ⟨ob, hob, hc.1⟩, fun b e => (by cases e; exact ⟨ob, hob, hc.2.1⟩), ?_⟩
  have hA := ha.run cpos pins s1 σ H1 _ I1 q1
  rw [hs] at hA ⊢
  refine Calls.callWith_builtin (by show (false || (backTo cpos (starEach es X.env)).any (·.1)) = false; rw [hplain] <;> rfl) (Calls.evalArgs_plain (thn hA ?_))
  rintro us s2 ⟨vs, H2, I2, r2, q2⟩
  exact hm pins s2 σ H2 _ vs _ us Q I2 r1' r2 q2
end
end Fx

set_option Elab.async false
set_option linter.all false
set_option maxRecDepth 100000
set_option maxHeartbeats 4000000
namespace Fx
open PySem L2 PySem.Spec PyProof.Rows
/-! ### the end: the law's def is called with the script -/
/-- what may be tracked ahead of the call: nothing but the script -/
structure Alone (H : Hp) (h : Heap) (a : Addr) : Prop where
  only : ∀ b o, H b = some o → b = a
  frz : ∀ b o, H b = some o → ∃ ob xs, o = .frz ob (.lst xs)
/-- the promise at the heap behind the module's top, by any abstract heap in which nothing but the script is tracked -/
theorem called {P : Program} {w : World} {K : PySem.W.Frag} {mg mb : Str → Option Value} {k : Nat} {fa a : Addr} {fd : FuncData} {x : Str} {sp : Sp} {s : Shared} {ob : Obj} {H : Hp} {es : List Value} {c : Nat} (KX : K.In s.heap) (g : s.heap.Ns mainGlobals mg)
    (nb : s.heap.Ns builtinsNs mb) (hmb : ∀ y : Str, y ≠ "__name__" → mb y = bootBuiltins y) (nl : s.heap.NoLimit) (hg : s.gens = #[]) (ea : s.heap.get? a = some ob) (eseq : ob.data = .seq es.toArray c) (room : Room k callerA)
    (F : ∀ base : Heap, K.In base → base.Ns mainGlobals mg → FnG P w K mg base CX0 k fa fd [x] sp) (bd : ∀ (s : Shared) (u : Value), BindsTo s fd ⟨[u], []⟩ [(x, u)]) (al : Alone H s.heap a) (ok : HOk P w H s.heap) (free : H a ≠ none → K.lookup a = none)
    (want : sp [.ref a] H (fun v _ => v = .bl true) fun _ _ _ => False) : codeAny (model P w) callerA (.call (.ref fa) ⟨[.ref a], []⟩) (fun r s' => r = .ok (.ret (.bool true)) ∧ OldK s.heap s'.heap ∧ s'.os = s.os ∧ AllBare s'.gens) s := by
  -- an object that is no list stays in the hidden heap
  have dictFree : ∀ {b : Addr} {o : Obj} {ds : Array DictEntry} {ep : Nat}, s.heap.get? b = some o → o.data = .dict ds ep → H b = none := fun {b o ds ep} e d => by
    cases q : H b with
    | none => rfl
    | some u => rw [al.only b u q, ea] at e; cases e; rw [eseq] at d; cases d
  have ns : ∀ {b : Addr} {m : Str → Option Value}, s.heap.Ns b m → (hidT s.heap H).Ns b m := fun ⟨o, ds, ep, e, d, r⟩ => ⟨o, ds, ep, hidT_get e (dictFree e d), d, r⟩
  have kIn : K.In (hidT s.heap H) := fun b o e => hidT_get (KX b o e) (by
    cases q : H b with
    | none => rfl
    | some u =>
      have eb := al.only b u q
      rw [eb, free (by rw [← eb, q]; simp)] at e; cases e)
  have st : Env0 P w K mg (hidT s.heap H) callerA [] s H :=
    { frames := rfl, mod := ⟨kIn, ns g, ⟨mb, ns nb, hmb⟩, nl.elim fun mc z => ⟨mc, ns z.1, z.2⟩⟩, bs := fun b o e => of_hidT e, bsz := Nat.le_of_eq (hidT_size _ _), funs := trivial, frf := (fun b z => absurd z List.not_mem_nil), hok := ok, bare := .of_eq hg }
  have run := (F _ kIn (ns g)).run callerA [] s H ⟨[.ref a], []⟩ [.ref a] [.ref a] _ _ room rfl st (bd s (.ref a)) (.cons rfl .nil) want
  refine codeAny_mono run fun r s' done => ?_
  match r, done with
  | .error _, done => exact done.elim
  | .ok .next, done => exact done.elim
  | .ok .brk, done => exact done.elim
  | .ok .cont, done => exact done.elim
  | .ok (.ret u), ⟨v, H', os, bare, un, ok', rv, (q : v = .bl true)⟩ =>
    subst q
    refine ⟨by rw [show u = Value.bool true from rv], OldK.of_keep fun b o e => ?_, os, bare⟩
    cases z : H b with
    | none => exact un.keep b o e z (fun t => absurd t List.not_mem_nil) (fun t => absurd t List.not_mem_nil)
    | some u =>
      obtain ⟨o2, xs, rfl⟩ := al.frz b u z
      have e1 := (ok b _ z).1
      rw [e] at e1
      cases e1
      exact (ok' b _ (un.frzs b o _ z)).1
/-- the goal of the row's walk, from the promise of the law's def -/
theorem walkG {l : PySem.W.OpenLaw} {n k : Nat} {q : Program} {loose : List Str} {XP : (Str → Option Value) → Heap → Prop} {YP : World → Heap → Prop} {d : DefRec} {K : Params → PySem.W.Frag} {sp : World → (Str → Option Value) → Sp} {x : Str} (hn : l.most = some n) (n2 : n ≤ sizeLine) (hdf : d.params.defaults = [])
    (room : Room k callerA) (hY : ∀ (w : World) (h : Heap), YP w h → (K w.params).In h)
    (F : ∀ (w : World) (mg : Str → Option Value) (fa : Addr) (h : Heap), (K w.params).In h → h.Ns mainGlobals mg → mg d.name = some (.ref fa) → ∃ fd : FuncData, (∀ (s : Shared) (u : Value), BindsTo s fd ⟨[u], []⟩ [(x, u)]) ∧
      ∀ base : Heap, (K w.params).In base → base.Ns mainGlobals mg → FnG l.prog w (K w.params) mg base CX0 k fa fd [x] (sp w mg))
    (want : ∀ (w : World) (mg : Str → Option Value) (H : Hp) (a : Addr) (ns : List Int), ns.length ≤ n → (∀ z ∈ ns, Builtin.Int.intBits z ≤ 1048576) → SqL (K w.params) H a (ns.map V.int) → sp w mg [.ref a] H (fun v _ => v = .bl true) fun _ _ _ => False) :
    PySem.W.WalkO q loose XP YP l.row.toRowW d [] (fun f vs => PySem.call f vs) := by
  refine Att.attach_callB hn hdf fun w s0 s1 mg mb fa o pm cd doc a vs ns G Y _ _ _ hmg ea hi hl bits hg => ?_
  have KX := hY w _ Y
  obtain ⟨fd, bd, FF⟩ := F w mg fa _ KX G.T.g hmg
  have rv := vals_ints hi
  have len : vs.length ≤ sizeLine := by rw [hi.length]; exact Nat.le_trans hl n2
  cases hk : (K w.params).lookup a with
  | some o2 =>
    -- the script is an object of the module's own
    have e := KX a o2 hk
    rw [ea] at e
    cases e
    exact called (H := fun _ => none) KX G.T.g G.T.b G.T.builtins G.T.nolimit hg ea rfl room FF bd ⟨(fun b u z => nomatch z), (fun b u z => nomatch z)⟩ (fun b u z => nomatch z) (fun z => absurd rfl z)
      (want w mg _ a ns hl bits (.inr ⟨_, vs.toArray, _, hk, rfl, rfl, rfl, by simpa using len, by simpa using rv⟩))
  | none =>
    have only : ∀ b u, (if b = a then some (HO.frz { cls := .type "list", data := .seq vs.toArray } (.lst (ns.map V.int))) else none) = some u → b = a ∧ u = .frz { cls := .type "list", data := .seq vs.toArray } (.lst (ns.map V.int)) := fun b u z => by
      by_cases c : b = a
      · rw [if_pos c] at z; exact ⟨c, (Option.some.inj z).symm⟩
      · rw [if_neg c] at z; cases z
    refine called (H := fun b => if b = a then some (.frz { cls := .type "list", data := .seq vs.toArray } (.lst (ns.map V.int))) else none) KX G.T.g G.T.b G.T.builtins G.T.nolimit hg ea rfl room FF bd
      ⟨fun b u z => (only b u z).1, fun b u z => ⟨_, _, (only b u z).2⟩⟩ (fun b u z => ?_) (fun _ => hk) (want w mg _ a ns hl bits (.inl (.inr ⟨_, if_pos rfl⟩)))
    obtain ⟨rfl, rfl⟩ := only b u z
    exact ⟨ea, by rw [List.length_map]; exact Nat.le_trans hl n2, vs, _, rv, ea⟩
/-- the promise, by the function's value -/
theorem spN_true {K : PySem.W.Frag} {mg : Str → Option Value} {F : Env → Rz (Env × Rs)} {H : Hp} {a : Addr} {ns : List Int} (S : SqL K H a (ns.map V.int)) {o : Env} (h : F [.im (.nd .scr (ns.map D.int))] = .ok (o, .im (.bl true))) :
    spN 1 ⟨K, mg⟩ F [.ref a] H (fun v _ => v = .bl true) fun _ _ _ => False := by
  have allI : ∀ ns : List Int, HasAll ⟨K, mg⟩ H (ns.map D.int) (ns.map V.int) := fun ns => by
    induction ns with
    | nil => exact .nil
    | cons i ns ih => exact .cons (.int i) ih
  refine ⟨rfl, H, [.im (.nd .scr (ns.map D.int))], ⟨rfl, Same.refl _, fun i x e => ?_, fun i j x y ne ex ey ox oy => ?_⟩, ?_⟩
  · match i, e with
    | 0, e => exact .inl ⟨_, _, (Option.some.inj e).symm, rfl, .scr S (allI ns)⟩
    | i + 1, e => simp at e
  · match i, ex with
    | 0, ex => rw [← Option.some.inj ex] at ox; exact ox.elim
    | i + 1, ex => simp at ex
  · rw [h]
    intro Hf' H' v B hr
    cases (show Has _ _ _ _ from hr)
    rfl
end Fx

set_option Elab.async false
set_option linter.all false
set_option maxRecDepth 100000
set_option maxHeartbeats 4000000
namespace Fx
open PySem L2
/-! ### plain data that can be shown and compared -/
theorem sok_app {a b : Str} (ha : PyData.strOk a = true) (hb : PyData.strOk b = true) : PyData.strOk (a ++ b) = true := by
  unfold PyData.strOk at *
  rw [Str.cps_append, Array.all_append, ha, hb]
  rfl
theorem sok_of (s : String) : PyData.strOk (Str.ofString s) = true := by
  unfold PyData.strOk
  rw [Str.ofString_eq_toList, List.all_toArray, List.all_map, List.all_eq_true]
  intro c _
  simp only [Function.comp, decide_eq_true_eq]
  have := c.valid
  rcases this with h | h
  · exact Nat.lt_trans h (by decide)
  · exact h.2
theorem len_of (s : String) : (Str.ofString s).length = s.length := by
  rw [Str.ofString_eq_toList]
  show (List.map Char.toNat s.toList).toArray.size = _
  rw [List.size_toArray, List.length_map]
  exact String.length_toList
/-- what is told of each part -/
structure Tells (n : Nat) (x : Str) : Prop where
  len : x.length ≤ n
  ok : PyData.strOk x = true
def pile (ns : List Nat) : Nat := (ns.map (· + 2)).sum
mutual
/-- atoms are such as a row bears -/
def D.sound : D → Bool
  | .non => true
  | .bl _ => true
  | .int i => decide (i.natAbs < 10 ^ 20)
  | .str x => PyData.strOk x && (decide ((reprText x).length ≤ 64) && PyData.strOk (reprText x))
  | .ob _ => false
  | .nd .tup xs => D.sounds xs
  | .nd .lst xs => D.sounds xs
  | .nd .scr _ => false
  | .nd (.dct _) _ => false
  | .nd (.obj _ _) _ => false
  | .nd (.dcx _) _ => false
def D.sounds : List D → Bool
  | [] => true
  | x :: xs => D.sound x && D.sounds xs
end
mutual
def D.wt : D → Nat
  | .nd _ xs => 4 + D.wts xs
  | .non => 64
  | .bl _ => 64
  | .int _ => 64
  | .str _ => 64
  | .ob _ => 64
def D.wts : List D → Nat
  | [] => 0
  | x :: xs => (D.wt x + 2) + D.wts xs
end
mutual
def D.dp : D → Nat
  | .nd _ xs => D.dps xs + 1
  | .non => 0
  | .bl _ => 0
  | .int _ => 0
  | .str _ => 0
  | .ob _ => 0
def D.dps : List D → Nat
  | [] => 0
  | x :: xs => max (D.dp x) (D.dps xs)
end
theorem textFrom_tells : ∀ (ts : List Str) (k : Nat) (acc : Str), PyData.strOk acc = true → (∀ t ∈ ts, PyData.strOk t = true) → PyData.strOk (textFrom k acc ts) = true ∧ (textFrom k acc ts).length ≤ acc.length + (ts.map fun t => t.length + 2).sum
  | [], k, acc, h, _ => ⟨h, by simp [textFrom]⟩
  | t :: ts, k, acc, h, ht => by
    have sep : PyData.strOk ((if k > 0 then ", " else "" : String) : Str) = true ∧ ((if k > 0 then ", " else "" : String) : Str).length ≤ 2 := by split <;> decide +kernel
    have h2 : PyData.strOk (acc ++ ((if k > 0 then ", " else "" : String) : Str) ++ t) = true := sok_app (sok_app h sep.1) (ht t List.mem_cons_self)
    obtain ⟨q1, q2⟩ := textFrom_tells ts (k + 1) _ h2 fun u hu => ht u (List.mem_cons_of_mem _ hu)
    refine ⟨q1, ?_⟩
    unfold textFrom
    refine Nat.le_trans q2 ?_
    rw [Str.length_append, Str.length_append, List.map_cons, List.sum_cons]
    have := sep.2
    omega
theorem listText_tells {ts : List Str} (ht : ∀ t ∈ ts, PyData.strOk t = true) : PyData.strOk (listText ts) = true ∧ (listText ts).length ≤ 2 + (ts.map fun t => t.length + 2).sum := by
  obtain ⟨q1, q2⟩ := textFrom_tells ts 0 "[" (by decide +kernel) ht
  unfold listText
  refine ⟨sok_app q1 (by decide +kernel), ?_⟩
  rw [Str.length_append]
  have e1 : (("[" : String) : Str).length = 1 := rfl
  have e2 : (("]" : String) : Str).length = 1 := rfl
  omega
theorem join_tells : ∀ {ts : List Str}, (∀ t ∈ ts, PyData.strOk t = true) → PyData.strOk (Str.join ", " ts) = true ∧ (Str.join ", " ts).length ≤ (ts.map fun t => t.length + 2).sum
  | [], _ => ⟨by decide +kernel, by show 0 ≤ _; exact Nat.zero_le _⟩
  | [x], h => ⟨h x List.mem_cons_self, by show x.length ≤ _; simp⟩
  | x :: y :: r, h => by
    obtain ⟨q1, q2⟩ := join_tells (ts := y :: r) fun t ht => h t (List.mem_cons_of_mem _ ht)
    refine ⟨sok_app (sok_app (h x List.mem_cons_self) (by decide +kernel)) q1, ?_⟩
    show (x ++ ", " ++ Str.join ", " (y :: r)).length ≤ _
    have e2 : ((", " : String) : Str).length = 2 := rfl
    rw [Str.length_append, Str.length_append, e2, List.map_cons, List.sum_cons]
    omega
theorem tupleText_tells {ts : List Str} (ht : ∀ t ∈ ts, PyData.strOk t = true) : PyData.strOk (tupleText ts) = true ∧ (tupleText ts).length ≤ 3 + (ts.map fun t => t.length + 2).sum := by
  obtain ⟨q1, q2⟩ := join_tells ht
  have e3 : PyData.strOk ((if ts.length == 1 then ",)" else ")" : String) : Str) = true ∧ ((if ts.length == 1 then ",)" else ")" : String) : Str).length ≤ 2 := by split <;> decide +kernel
  unfold tupleText
  refine ⟨sok_app (sok_app (by decide +kernel) q1) e3.1, ?_⟩
  have e1 : (("(" : String) : Str).length = 1 := rfl
  have := e3.2
  rw [Str.length_append, Str.length_append]
  omega
mutual
theorem D.sound_tells : ∀ {d : D}, d.sound = true → Tells d.wt d.py.shown
  | .non, _ => ⟨by rw [D.py, D.wt]; decide +kernel, by rw [D.py]; decide +kernel⟩
  | .bl b, _ => by cases b <;> exact ⟨by rw [D.py, D.wt]; decide +kernel, by rw [D.py]; decide +kernel⟩
  | .int i, h => by
    rw [D.sound] at h
    have h := of_decide_eq_true h
    refine ⟨?_, ?_⟩
    · rw [D.py, D.wt, PyData.shown]
      have := int_text_length_le10 (k := 20) (by decide) h
      rw [len_of]
      omega
    · rw [D.py, PyData.shown]; exact sok_of _
  | .str x, h => by
    rw [D.sound, Bool.and_eq_true, Bool.and_eq_true] at h
    exact ⟨by rw [D.py, D.wt, PyData.shown]; exact of_decide_eq_true h.2.1, by rw [D.py, PyData.shown]; exact h.2.2⟩
  | .ob _, h => by rw [D.sound] at h; cases h
  | .nd .tup xs, h => by
    rw [D.sound] at h
    obtain ⟨q1, q2⟩ := D.sounds_tell h
    obtain ⟨t1, t2⟩ := tupleText_tells q1
    rw [D.py, D.wt, PyData.shown]
    exact ⟨by omega, t1⟩
  | .nd .lst xs, h => by
    rw [D.sound] at h
    obtain ⟨q1, q2⟩ := D.sounds_tell h
    obtain ⟨t1, t2⟩ := listText_tells q1
    rw [D.py, D.wt, PyData.shown]
    exact ⟨by omega, t1⟩
  | .nd .scr _, h => by rw [D.sound] at h; cases h
  | .nd (.dct _) _, h => by rw [D.sound] at h; cases h
  | .nd (.obj _ _) _, h => by rw [D.sound] at h; cases h
  | .nd (.dcx _) _, h => by rw [D.sound] at h; cases h
theorem D.sounds_tell : ∀ {xs : List D}, D.sounds xs = true → (∀ t ∈ PyData.shownAll (D.pys xs), PyData.strOk t = true) ∧ ((PyData.shownAll (D.pys xs)).map fun t => t.length + 2).sum ≤ D.wts xs
  | [], _ => by
    rw [D.pys, PyData.shownAll]
    exact ⟨(fun t ht => by cases ht), Nat.zero_le _⟩
  | x :: xs, h => by
    rw [D.sounds, Bool.and_eq_true] at h
    have a := D.sound_tells h.1
    obtain ⟨q1, q2⟩ := D.sounds_tell h.2
    rw [D.pys, PyData.shownAll, D.wts]
    refine ⟨fun t ht => ?_, ?_⟩
    · rcases List.mem_cons.mp ht with z | z
      · subst z; exact a.ok
      · exact q1 t z
    · rw [List.map_cons, List.sum_cons]
      have := a.len
      omega
end
mutual
theorem D.sound_plain : ∀ {d : D}, d.sound = true → d.plain = true ∧ d.py.canLay0 = true ∧ d.py.showable = true ∧ d.py.depth = d.dp
  | .non, _ => by rw [D.plain, D.py, D.dp]; exact ⟨rfl, rfl, rfl, rfl⟩
  | .bl b, _ => by rw [D.plain, D.py, D.dp]; exact ⟨rfl, rfl, rfl, rfl⟩
  | .int i, h => by
    rw [D.sound] at h
    have h := of_decide_eq_true h
    rw [D.plain, D.py, D.dp]
    refine ⟨rfl, rfl, ?_, rfl⟩
    rw [PyData.showable]
    refine decide_eq_true ?_
    have h2 : i.natAbs < 2 ^ 1920 := Nat.lt_trans h (by decide +kernel)
    by_cases z : i.natAbs = 0
    · rw [z]; decide
    · exact (Nat.log2_lt z).mpr h2
  | .str x, h => by
    rw [D.sound, Bool.and_eq_true] at h
    rw [D.plain, D.py, D.dp]
    exact ⟨rfl, h.1, rfl, rfl⟩
  | .ob _, h => by rw [D.sound] at h; cases h
  | .nd .tup xs, h => by
    rw [D.sound] at h
    obtain ⟨q1, q2, q3, q4⟩ := D.sounds_plain h
    rw [D.plain, D.py, D.dp, PyData.canLay0, PyData.showable, PyData.depth]
    exact ⟨q1, q2, q3, by rw [q4]⟩
  | .nd .lst xs, h => by
    rw [D.sound] at h
    obtain ⟨q1, q2, q3, q4⟩ := D.sounds_plain h
    rw [D.plain, D.py, D.dp, PyData.canLay0, PyData.showable, PyData.depth]
    exact ⟨q1, q2, q3, by rw [q4]⟩
  | .nd .scr _, h => by rw [D.sound] at h; cases h
  | .nd (.dct _) _, h => by rw [D.sound] at h; cases h
  | .nd (.obj _ _) _, h => by rw [D.sound] at h; cases h
  | .nd (.dcx _) _, h => by rw [D.sound] at h; cases h
theorem D.sounds_plain : ∀ {xs : List D}, D.sounds xs = true → D.plains xs = true ∧ PyData.canLayAll0 (D.pys xs) = true ∧ PyData.showableAll (D.pys xs) = true ∧ PyData.depthAll (D.pys xs) = D.dps xs
  | [], _ => by rw [D.plains, D.pys, D.dps]; exact ⟨rfl, rfl, rfl, rfl⟩
  | x :: xs, h => by
    rw [D.sounds, Bool.and_eq_true] at h
    obtain ⟨a1, a2, a3, a4⟩ := D.sound_plain h.1
    obtain ⟨q1, q2, q3, q4⟩ := D.sounds_plain h.2
    rw [D.plains, D.pys, D.dps, PyData.canLayAll0, PyData.showableAll, PyData.depthAll, a1, a2, a3, a4, q1, q2, q3, q4]
    exact ⟨rfl, rfl, rfl, rfl⟩
end
theorem D.fit_of {d : D} (h : d.sound = true) (hd : d.dp ≤ 64) : d.fit = true := by
  obtain ⟨h1, h2, h3, h4⟩ := D.sound_plain h
  unfold D.fit SeqAt.shaped
  rw [h1, h2, h4, decide_eq_true hd]
  rfl
theorem D.showable_of {d : D} (h : d.sound = true) (hd : d.dp ≤ 64) (hw : d.wt ≤ sizeLine) : d.showable = true := by
  obtain ⟨h1, h2, h3, h4⟩ := D.sound_plain h
  have t := (D.sound_tells h).len
  unfold D.showable sz
  rw [h1, h3, h4, decide_eq_true hd, decide_eq_true (Nat.le_trans t hw)]
  rfl
end Fx

set_option Elab.async false
set_option linter.all false
set_option maxRecDepth 100000
set_option maxHeartbeats 4000000
namespace Fx
open PySem L2
/-! ### data without truths: == is equality -/
mutual
def D.nob : D → Bool
  | .non => true
  | .bl _ => false
  | .int _ => true
  | .str _ => true
  | .ob _ => false
  | .nd .tup xs => D.nobs xs
  | .nd .lst xs => D.nobs xs
  | .nd .scr _ => false
  | .nd (.dct _) _ => false
  | .nd (.obj _ _) _ => false
  | .nd (.dcx _) _ => false
def D.nobs : List D → Bool
  | [] => true
  | x :: xs => D.nob x && D.nobs xs
end
mutual
theorem eqv_nob : ∀ {d e : D}, d.nob = true → e.nob = true → (D.eqv d e = true ↔ d = e)
  | .non, e, _, he => by
    cases e with
    | nd k xs => cases k <;> simp_all [D.eqv, D.py, PyData.eqv, D.nob]
    | _ => simp_all [D.eqv, D.py, PyData.eqv, D.nob]
  | .int i, e, _, he => by
    cases e with
    | nd k xs => cases k <;> simp_all [D.eqv, D.py, PyData.eqv, D.nob]
    | _ => simp_all [D.eqv, D.py, PyData.eqv, D.nob]
  | .str x, e, _, he => by
    cases e with
    | nd k xs => cases k <;> simp_all [D.eqv, D.py, PyData.eqv, D.nob]
    | _ => simp_all [D.eqv, D.py, PyData.eqv, D.nob]
  | .nd .tup xs, e, hd, he => by
    cases e with
    | nd k ys =>
      cases k with
      | tup =>
        rw [D.nob] at hd he
        have := eqvs_nob hd he
        simp [D.eqv, D.py, PyData.eqv, this]
      | lst => simp [D.eqv, D.py, PyData.eqv]
      | _ => rw [D.nob] at he; cases he
    | _ => simp_all [D.eqv, D.py, PyData.eqv, D.nob]
  | .nd .lst xs, e, hd, he => by
    cases e with
    | nd k ys =>
      cases k with
      | lst =>
        rw [D.nob] at hd he
        have := eqvs_nob hd he
        simp [D.eqv, D.py, PyData.eqv, this]
      | tup => simp [D.eqv, D.py, PyData.eqv]
      | _ => rw [D.nob] at he; cases he
    | _ => simp_all [D.eqv, D.py, PyData.eqv, D.nob]
  | .bl _, _, h, _ => by rw [D.nob] at h; cases h
  | .ob _, _, h, _ => by rw [D.nob] at h; cases h
  | .nd .scr _, _, h, _ => by rw [D.nob] at h; cases h
  | .nd (.dct _) _, _, h, _ => by rw [D.nob] at h; cases h
  | .nd (.obj _ _) _, _, h, _ => by rw [D.nob] at h; cases h
  | .nd (.dcx _) _, _, h, _ => by rw [D.nob] at h; cases h
theorem eqvs_nob : ∀ {xs ys : List D}, D.nobs xs = true → D.nobs ys = true → (PyData.eqvAll (D.pys xs) (D.pys ys) = true ↔ xs = ys)
  | [], [], _, _ => by simp [D.pys, PyData.eqvAll]
  | [], y :: ys, _, _ => by simp [D.pys, PyData.eqvAll]
  | x :: xs, [], _, _ => by simp [D.pys, PyData.eqvAll]
  | x :: xs, y :: ys, hx, hy => by
    rw [D.nobs, Bool.and_eq_true] at hx hy
    have h1 := eqv_nob hx.1 hy.1
    have h2 := eqvs_nob hx.2 hy.2
    rw [D.pys, D.pys, PyData.eqvAll, Bool.and_eq_true, h2, List.cons.injEq]
    rw [show (PyData.eqv x.py y.py = true) = (D.eqv x y = true) from rfl, h1]
end
theorem eqv_self {d : D} (h : d.nob = true) : D.eqv d d = true := (eqv_nob h h).mpr rfl
/-- good data: what may be compared and shown -/
structure Good (d : D) : Prop where
  snd : d.sound = true
  nob : d.nob = true
  dp : d.dp ≤ 64
theorem Good.fit {d : D} (h : Good d) : d.fit = true := D.fit_of h.snd h.dp
theorem dEq_good {d e : D} (hd : Good d) (he : Good e) : dEq d e = some (D.eqv d e) := by
  unfold dEq
  rw [hd.fit, he.fit]
  rfl
theorem dNe_same {d : D} (hd : Good d) : dNe d d = some false := by
  unfold dNe
  rw [hd.fit, eqv_self hd.nob]
  rfl
/-- one text with itself -/
theorem dNe_str {x : Str} (h : PyData.strOk x = true) : dNe (.str x) (.str x) = some false := by
  have f : (D.str x).fit = true := by
    unfold D.fit SeqAt.shaped
    rw [D.plain, D.py, PyData.canLay0, PyData.depth, h]
    decide
  unfold dNe
  rw [f, eqv_self (by rw [D.nob])]
  rfl
/-- the texts of one datum -/
theorem dRepr_good {d : D} (h : Good d) (hw : d.wt ≤ sizeLine) : dRepr [d] = some (.im (.str d.py.shown)) := by
  show (if d.showable = true then some (Rs.im (.str d.py.shown)) else none) = _
  rw [D.showable_of h.snd h.dp hw]
  rfl
theorem Good.ok {d : D} (h : Good d) : PyData.strOk d.py.shown = true := (D.sound_tells h.snd).ok
theorem sounds_all {xs : List D} : D.sounds xs = true ↔ ∀ x ∈ xs, x.sound = true := by
  induction xs with
  | nil => simp [D.sounds]
  | cons x xs ih => simp [D.sounds, ih]
theorem nobs_all {xs : List D} : D.nobs xs = true ↔ ∀ x ∈ xs, x.nob = true := by
  induction xs with
  | nil => simp [D.nobs]
  | cons x xs ih => simp [D.nobs, ih]
theorem dps_all {xs : List D} {n : Nat} : D.dps xs ≤ n ↔ ∀ x ∈ xs, x.dp ≤ n := by
  induction xs with
  | nil => simp [D.dps]
  | cons x xs ih => simp [D.dps, ih, Nat.max_le]
theorem good_tup {xs : List D} (h : ∀ x ∈ xs, Good x ∧ x.dp ≤ 63) : Good (.nd .tup xs) :=
  ⟨by rw [D.sound]; exact sounds_all.mpr fun x hx => (h x hx).1.snd, by rw [D.nob]; exact nobs_all.mpr fun x hx => (h x hx).1.nob, by rw [D.dp]; exact Nat.succ_le_succ (dps_all.mpr fun x hx => (h x hx).2)⟩
theorem good_lst {xs : List D} (h : ∀ x ∈ xs, Good x ∧ x.dp ≤ 63) : Good (.nd .lst xs) :=
  ⟨by rw [D.sound]; exact sounds_all.mpr fun x hx => (h x hx).1.snd, by rw [D.nob]; exact nobs_all.mpr fun x hx => (h x hx).1.nob, by rw [D.dp]; exact Nat.succ_le_succ (dps_all.mpr fun x hx => (h x hx).2)⟩
theorem good_int {i : Int} (h : i.natAbs < 10 ^ 20) : Good (.int i) := ⟨by rw [D.sound]; exact decide_eq_true h, by rw [D.nob], by rw [D.dp]; omega⟩
theorem good_non : Good .non := ⟨by rw [D.sound], by rw [D.nob], by rw [D.dp]; omega⟩
/-- a text of a few plain signs -/
def strGood (x : Str) : Bool := PyData.strOk x && (decide ((reprText x).length ≤ 64) && PyData.strOk (reprText x))
theorem good_str {x : Str} (h : strGood x = true) : Good (.str x) := ⟨by rw [D.sound]; exact h, by rw [D.nob], by rw [D.dp]; omega⟩
/-- membership among good data -/
theorem any_good [DecidableEq D] {x : D} {xs : List D} (hx : x.nob = true) (h : ∀ z ∈ xs, z.nob = true) : (xs.any fun z => z.eqv x) = decide (x ∈ xs) := by
  rw [Bool.eq_iff_iff, List.any_eq_true, decide_eq_true_iff]
  constructor
  · rintro ⟨z, hz, e⟩
    rw [← (eqv_nob (h z hz) hx).mp e]
    exact hz
  · exact fun hm => ⟨x, hm, eqv_self hx⟩
end Fx

set_option Elab.async false
set_option linter.all false
set_option maxRecDepth 100000
set_option maxHeartbeats 4000000
namespace Fx
open PySem L2
/-! ### how the mirrors go, step by step -/
section
variable {ρ ρ1 ρ2 : Env} {f g : Env → Rz (Env × Fl)} {t : Env → Rz (Env × Bool)} {e : Env → Rz (Env × Rs)} {v : Env → Rz (Env × D)} {fl : Fl} {r : Rs} {n i : Nat}
theorem seq_nx (h : f ρ = .ok (ρ1, .nx)) : gSeq f g ρ = g ρ1 := by unfold gSeq; rw [h]; rfl
theorem seq_rt (h : f ρ = .ok (ρ1, .rt r)) : gSeq f g ρ = .ok (ρ1, .rt r) := by unfold gSeq; rw [h]; rfl
theorem seq_ct (h : f ρ = .ok (ρ1, .ct)) : gSeq f g ρ = .ok (ρ1, .ct) := by unfold gSeq; rw [h]; rfl
theorem seq_bk (h : f ρ = .ok (ρ1, .bk)) : gSeq f g ρ = .ok (ρ1, .bk) := by unfold gSeq; rw [h]; rfl
theorem if_t (h : t ρ = .ok (ρ1, true)) : gIf t f g ρ = f ρ1 := by unfold gIf; rw [h]; rfl
theorem if_f (h : t ρ = .ok (ρ1, false)) : gIf t f g ρ = g ρ1 := by unfold gIf; rw [h]; rfl
theorem while_stop (h : t ρ = .ok (ρ1, false)) : gWhile t f (n + 1) ρ = .ok (ρ1, .nx) := by
  show ((t ρ).bind _) = _
  rw [h]; rfl
theorem while_go (h : t ρ = .ok (ρ1, true)) (h2 : f ρ1 = .ok (ρ2, .nx)) : gWhile t f (n + 1) ρ = gWhile t f n ρ2 := by
  show ((t ρ).bind _) = _
  rw [h]
  show ((f ρ1).bind _) = _
  rw [h2]; rfl
theorem ret_ok (h : e ρ = .ok (ρ1, r)) : gRet e ρ = .ok (ρ1, .rt r) := by unfold gRet; rw [h]; rfl
theorem expr_ok (h : e ρ = .ok (ρ1, r)) : gExpr e ρ = .ok (ρ1, .nx) := by unfold gExpr; rw [h]; rfl
theorem set_ok (h : e ρ = .ok (ρ1, r)) (h2 : put ρ1 i r = .ok ρ2) : gSet i e ρ = .ok (ρ2, .nx) := by
  unfold gSet; rw [h]
  show ((put ρ1 i r).bind _) = _
  rw [h2]; rfl
theorem vif_t {a b : Env → Rz (Env × D)} (h : t ρ = .ok (ρ1, true)) : vIf t a b ρ = a ρ1 := by unfold vIf; rw [h]; rfl
theorem vif_f {a b : Env → Rz (Env × D)} (h : t ρ = .ok (ρ1, false)) : vIf t a b ρ = b ρ1 := by unfold vIf; rw [h]; rfl
theorem eif_t {a b : Env → Rz (Env × Rs)} (h : t ρ = .ok (ρ1, true)) : eIf t a b ρ = a ρ1 := by unfold eIf; rw [h]; rfl
theorem eif_f {a b : Env → Rz (Env × Rs)} (h : t ρ = .ok (ρ1, false)) : eIf t a b ρ = b ρ1 := by unfold eIf; rw [h]; rfl
theorem cons_ok {a : Env → Rz (Env × Rs)} {as : Env → Rz (Env × List Rs)} {q : List Rs} (h : a ρ = .ok (ρ1, r)) (h2 : as ρ1 = .ok (ρ2, q)) : aCons a as ρ = .ok (ρ2, r :: q) := by
  unfold aCons; rw [h]
  show ((as ρ1).bind _) = _
  rw [h2]; rfl
theorem hV_ok {d : D} (h : v ρ = .ok (ρ1, d)) : hV v ρ = .ok (ρ1, .im d) := by unfold hV; rw [h]; rfl
theorem hH_ok (h : e ρ = .ok (ρ1, r)) : hH e ρ = .ok (ρ1, r.hold) := by unfold hH; rw [h]; rfl
theorem hH_im {d : D} (h : e ρ = .ok (ρ1, .im d)) : hH e ρ = .ok (ρ1, .im d) := hH_ok h
theorem hH_nw {d : D} (h : e ρ = .ok (ρ1, .nw d)) : hH e ρ = .ok (ρ1, .im d) := hH_ok h
theorem vU_im {d : D} (h : e ρ = .ok (ρ1, .im d)) : vU e ρ = .ok (ρ1, d) := by unfold vU; rw [h]; rfl
theorem vU_nw {d : D} (h : e ρ = .ok (ρ1, .nw d)) : vU e ρ = .ok (ρ1, d) := by unfold vU; rw [h]; rfl
theorem rN_ok' {x : Sl} (h : ρ[i]? = some x) (hx : x.peek ≠ none) : rN i ρ = .ok (ρ, .slot i) := by
  unfold rN
  rw [h]
  cases x <;> first | rfl | exact absurd rfl hx
theorem two_ok {a b : Env → Rz (Env × Rs)} {F : D → D → Option D} {x y : Rs} {d c z : D} (ha : a ρ = .ok (ρ1, x)) (hb : b ρ1 = .ok (ρ2, y)) (h1 : peek ρ2 x = some d) (h2 : peek ρ2 y = some c) (h : F d c = some z) : v2 F a b ρ = .ok (ρ2, z) := by
  unfold v2; rw [ha]
  show ((b ρ1).bind _) = _
  rw [hb]
  show ((Rz.ofO (peek ρ2 x)).bind _) = _
  rw [h1]
  show ((Rz.ofO (peek ρ2 y)).bind _) = _
  rw [h2]
  show ((Rz.ofO (F d c)).bind _) = _
  rw [h]; rfl
theorem tst_ok {a b : Env → Rz (Env × Rs)} {F : D → D → Option Bool} {x y : Rs} {d c : D} {z : Bool} (ha : a ρ = .ok (ρ1, x)) (hb : b ρ1 = .ok (ρ2, y)) (h1 : peek ρ2 x = some d) (h2 : peek ρ2 y = some c) (h : F d c = some z) : t2 F a b ρ = .ok (ρ2, z) := by
  unfold t2; rw [ha]
  show ((b ρ1).bind _) = _
  rw [hb]
  show ((Rz.ofO (peek ρ2 x)).bind _) = _
  rw [h1]
  show ((Rz.ofO (peek ρ2 y)).bind _) = _
  rw [h2]
  show ((Rz.ofO (F d c)).bind _) = _
  rw [h]; rfl
theorem add_ok {a b : Env → Rz (Env × Rs)} {F : D → D → Option Rs} {x y : Rs} {d c : D} {z : Rs} (ha : a ρ = .ok (ρ1, x)) (hb : b ρ1 = .ok (ρ2, y)) (h1 : peek ρ2 x = some d) (h2 : peek ρ2 y = some c) (h : F d c = some z) : e2 F a b ρ = .ok (ρ2, z) := by
  unfold e2; rw [ha]
  show ((b ρ1).bind _) = _
  rw [hb]
  show ((Rz.ofO (peek ρ2 x)).bind _) = _
  rw [h1]
  show ((Rz.ofO (peek ρ2 y)).bind _) = _
  rw [h2]
  show ((Rz.ofO (F d c)).bind _) = _
  rw [h]; rfl
theorem blt_ok {F : List D → Option Rs} {as : Env → Rz (Env × List Rs)} {q : List Rs} {ds : List D} {z : Rs} (ha : as ρ = .ok (ρ1, q)) (h1 : peekAll ρ1 q = some ds) (h : F ds = some z) : eB F as ρ = .ok (ρ1, z) := by
  unfold eB; rw [ha]
  show ((Rz.ofO (peekAll ρ1 q)).bind _) = _
  rw [h1]
  show ((Rz.ofO (F ds)).bind _) = _
  rw [h]; rfl
theorem tup_ok {as : Env → Rz (Env × List Rs)} {q : List Rs} {ds : List D} (ha : as ρ = .ok (ρ1, q)) (h1 : useAll ρ1 q = .ok (ρ2, ds)) (h : ds.length ≤ 1000) : vTup as ρ = .ok (ρ2, .nd .tup ds) := by
  unfold vTup; rw [ha]
  show ((useAll ρ1 q).bind _) = _
  rw [h1]
  show (if sz ds.length = true then _ else _) = _
  rw [if_pos (show sz ds.length = true from decide_eq_true (Nat.le_trans h (by decide)))]
theorem lst_ok {as : Env → Rz (Env × List Rs)} {q : List Rs} {ds : List D} (ha : as ρ = .ok (ρ1, q)) (h1 : useAll ρ1 q = .ok (ρ2, ds)) (h : ds.length ≤ 1000) : eLst as ρ = .ok (ρ2, .nw (.nd .lst ds)) := by
  unfold eLst; rw [ha]
  show ((useAll ρ1 q).bind _) = _
  rw [h1]
  show (if sz ds.length = true then _ else _) = _
  rw [if_pos (show sz ds.length = true from decide_eq_true (Nat.le_trans h (by decide)))]
end
theorem atI_last {α : Type} {xs : List α} {x : α} (h : xs.getLast? = some x) : atI xs (-1) = some x := by
  have hl : 0 < xs.length := by
    cases xs with
    | nil => cases h
    | cons _ _ => simp
  unfold atI ixN
  rw [if_neg (by omega), if_pos (by omega)]
  show xs[((-1 : Int) + (xs.length : Int)).toNat]? = some x
  rw [show ((-1 : Int) + (xs.length : Int)).toNat = xs.length - 1 by omega, ← List.getLast?_eq_getElem?]
  exact h
theorem atI_nat' {α : Type} {xs : List α} {i : Nat} {x : α} (h : xs[i]? = some x) : atI xs (i : Int) = some x := by
  have hl : i < xs.length := (List.getElem?_eq_some_iff.mp h).1
  unfold atI ixN
  rw [if_pos (by omega), if_pos (by omega)]
  show xs[((i : Int)).toNat]? = some x
  rw [Int.toNat_natCast]
  exact h
theorem cut_last {α : Type} (xs : List α) : cutA xs none (some (-1)) = xs.dropLast := by
  have e : HT.sIx xs.length xs.length (some (-1)) = xs.length - 1 := by
    show (if (-1 : Int) < 0 then ((-1 : Int) + (xs.length : Int)).toNat else min (-1 : Int).toNat xs.length) = _
    rw [if_pos (by omega)]
    omega
  unfold cutA
  rw [e, HT.sIx_none, List.drop_zero, List.dropLast_eq_take, Nat.sub_zero]
theorem cut_take {α : Type} (xs : List α) (k : Nat) : cutA xs none (some (k : Int)) = xs.take k := by
  unfold cutA
  rw [HT.sIx_nat, HT.sIx_none, List.drop_zero, Nat.sub_zero]
  by_cases h : k ≤ xs.length
  · rw [Nat.min_eq_left h]
  · rw [Nat.min_eq_right (by omega), List.take_of_length_le (by omega), List.take_of_length_le (by omega)]
theorem star_ok {a : Env → Rz (Env × Rs)} {as : Env → Rz (Env × List Rs)} {ρ ρ1 ρ2 : Env} {x : Rs} {ds : List D} {q : List Rs} (ha : a ρ = .ok (ρ1, x)) (hx : peek ρ1 x = some (.nd .lst ds)) (h2 : as ρ1 = .ok (ρ2, q)) : aStar a as ρ = .ok (ρ2, ds.map .im ++ q) := by
  unfold aStar; rw [ha]
  show ((Rz.ofO (peek ρ1 x)).bind _) = _
  rw [hx]
  show ((as ρ1).bind _) = _
  rw [h2]; rfl
theorem use_ims (ρ : Env) : ∀ ds : List D, useAll ρ (ds.map .im) = .ok (ρ, ds)
  | [] => rfl
  | d :: ds => by
    show ((use ρ (.im d)).bind _) = _
    show ((useAll ρ (ds.map .im)).bind _) = _
    rw [use_ims ρ ds]
    rfl
theorem sl_ok {a : Env → Rz (Env × Rs)} {l h : Env → Rz (Env × Option Int)} {ρ ρ1 ρ2 ρ3 : Env} {x : Rs} {d : D} {lo hi : Option Int} {r : Rs} (ha : a ρ = .ok (ρ1, x)) (hl : l ρ1 = .ok (ρ2, lo)) (hh : h ρ2 = .ok (ρ3, hi)) (hp : peek ρ3 x = some d) (hs : dSl d lo hi = some r) : eSl a l h ρ = .ok (ρ3, r) := by
  unfold eSl; rw [ha]
  show ((l ρ1).bind _) = _
  rw [hl]
  show ((h ρ2).bind _) = _
  rw [hh]
  show ((Rz.ofO (peek ρ3 x)).bind _) = _
  rw [hp]
  show ((Rz.ofO (dSl d lo hi)).bind _) = _
  rw [hs]; rfl
theorem neg_ok {a : Env → Rz (Env × Rs)} {ρ ρ1 : Env} {x : Rs} {i : Int} (ha : a ρ = .ok (ρ1, x)) (hp : peek ρ1 x = some (.int i)) : v1 dNeg a ρ = .ok (ρ1, .int (-i)) := by
  unfold v1; rw [ha]
  show ((Rz.ofO (peek ρ1 x)).bind _) = _
  rw [hp]; rfl
theorem som_ok {v : Env → Rz (Env × D)} {ρ ρ1 : Env} {i : Int} (h : v ρ = .ok (ρ1, .int i)) : oSome v ρ = .ok (ρ1, some i) := by
  unfold oSome; rw [h]; rfl
/-- a comprehension -/
theorem lc_ok {vs : List Nat} {tgf : D → Env → Rz Env} {tt : Env → Rz (Env × Bool)} {vf : Env → Rz (Env × D)} {ρ : Env} (p : D → Bool) (g : D → D) : ∀ (ds acc : List D), acc.length + ds.length ≤ 1000 →
    (∀ d ∈ ds, ∃ ρ1, tgf d ρ = .ok ρ1 ∧ tt ρ1 = .ok (ρ1, p d) ∧ wipeE ρ1 vs = ρ ∧ (p d = true → vf ρ1 = .ok (ρ1, g d))) → lcL vs tgf tt vf ds ρ acc = .ok (ρ, acc ++ (ds.filter p).map g)
  | [], acc, _, _ => by simp [lcL]
  | d :: ds, acc, hl, h => by
    obtain ⟨ρ1, h1, h2, h3, h4⟩ := h d List.mem_cons_self
    have rest := fun acc' hl' => lc_ok (vs := vs) (tgf := tgf) (tt := tt) (vf := vf) (ρ := ρ) p g ds acc' hl' fun e he => h e (List.mem_cons_of_mem _ he)
    rw [List.length_cons] at hl
    show ((tgf d ρ).bind _) = _
    rw [h1]
    show ((tt ρ1).bind _) = _
    rw [h2]
    cases c : p d with
    | false =>
      show lcL vs tgf tt vf ds (wipeE ρ1 vs) acc = _
      rw [h3, rest acc (by omega), List.filter_cons_of_neg (by simp [c])]
    | true =>
      show ((vf ρ1).bind _) = _
      rw [h4 c]
      show (if sz (acc.length + 1) = true then _ else _) = _
      rw [if_pos (show sz (acc.length + 1) = true from decide_eq_true (Nat.le_trans (show acc.length + 1 ≤ 1000 by omega) (by decide)))]
      show lcL vs tgf tt vf ds (wipeE ρ1 vs) (acc ++ [g d]) = _
      rw [h3, rest (acc ++ [g d]) (by simp; omega), List.filter_cons_of_pos (by simp [c])]
      simp
theorem elc_ok {vs : List Nat} {it : Env → Rz (Env × List D)} {tgf : D → Env → Rz Env} {tt : Env → Rz (Env × Bool)} {vf : Env → Rz (Env × D)} {ρ ρ0 : Env} {ds : List D} (p : D → Bool) (g : D → D) (hi : it ρ0 = .ok (ρ, ds)) (hw : wipeE ρ vs = ρ) (hl : ds.length ≤ 1000)
    (h : ∀ d ∈ ds, ∃ ρ1, tgf d ρ = .ok ρ1 ∧ tt ρ1 = .ok (ρ1, p d) ∧ wipeE ρ1 vs = ρ ∧ (p d = true → vf ρ1 = .ok (ρ1, g d))) : eLc vs it tgf tt vf ρ0 = .ok (ρ, .nw (.nd .lst ((ds.filter p).map g))) := by
  unfold eLc
  rw [hi]
  show ((noX (lcL vs tgf tt vf ds (wipeE ρ vs) [])).bind _) = _
  rw [hw, lc_ok p g ds [] (by simpa using hl) h]
  rfl
theorem rng_at {F : List D → Option (List D)} {as : Env → Rz (Env × List Rs)} {ρ ρ1 : Env} {q : List Rs} {ds es : List D} (ha : as ρ = .ok (ρ1, q)) (h1 : peekAll ρ1 q = some ds) (h : F ds = some es) : iRng F as ρ = .ok (ρ1, es) := by
  unfold iRng; rw [ha]
  show ((Rz.ofO (peekAll ρ1 q)).bind _) = _
  rw [h1]
  show ((Rz.ofO (F ds)).bind _) = _
  rw [h]; rfl
theorem for_ok {it : Env → Rz (Env × List D)} {tgf : D → Env → Rz Env} {g : Env → Rz (Env × Fl)} {ρ ρ1 : Env} {ds : List D} {z : Rz (Env × Fl)} (hi : it ρ = .ok (ρ1, ds)) (h : gForL tgf g ds ρ1 = z) : gFor it tgf g ρ = z := by
  unfold gFor; rw [hi]; exact h
theorem rng1 {n : Nat} (h : n ≤ 1000000) : dRng1 [.int (n : Int)] = some (intsD 0 n) := by
  show (if rngOk (n : Int) = true then some (intsD 0 (n : Int).toNat) else none) = _
  rw [if_pos (by unfold rngOk; rw [Bool.and_eq_true]; exact ⟨decide_eq_true (by omega), decide_eq_true (by omega)⟩), Int.toNat_natCast]
/-- an own list grows by a list -/
theorem ext_ok {i : Nat} {ρ ρ1 : Env} {acc ds : List D} {as : Env → Rz (Env × List Rs)} {q : List Rs} (h0 : ρ[i]? = some (.lo (.nd .lst acc))) (h : ρ1[i]? = some (.lo (.nd .lst acc))) (ha : as ρ = .ok (ρ1, q)) (hu : useAll ρ1 q = .ok (ρ1, [.nd .lst ds])) (hz : acc.length + ds.length ≤ 100000) :
    gExpr (eMth i mExtend as) ρ = .ok (ρ1.set i (.lo (.nd .lst (acc ++ ds))), .nx) := by
  have own0 : ownC ρ i = some (.lo (.nd .lst acc), .nd .lst acc) := by unfold ownC; rw [h0]; rfl
  have own : ownC ρ1 i = some (.lo (.nd .lst acc), .nd .lst acc) := by unfold ownC; rw [h]; rfl
  have s : sz (acc.length + ds.length) = true := decide_eq_true (Nat.le_trans hz (by decide))
  simp [gExpr, eMth, own0, own, isLst, ha, hu, mExtend, s, Sl.withD, Rz.bind]
theorem app_ok {i : Nat} {ρ : Env} {acc : List D} {d : D} {as : Env → Rz (Env × List Rs)} {q : List Rs} (h : ρ[i]? = some (.lo (.nd .lst acc))) (ha : as ρ = .ok (ρ, q)) (hu : useAll ρ q = .ok (ρ, [d])) (hz : acc.length ≤ 100000) :
    gExpr (eMth i mAppend as) ρ = .ok (ρ.set i (.lo (.nd .lst (acc ++ [d]))), .nx) := by
  have own : ownC ρ i = some (.lo (.nd .lst acc), .nd .lst acc) := by unfold ownC; rw [h]; rfl
  have s : sz (acc.length + 1) = true := decide_eq_true (Nat.le_trans (Nat.succ_le_succ hz) (by decide))
  simp [gExpr, eMth, own, isLst, ha, hu, mAppend, s, Sl.withD, Rz.bind]
/-- a def's run -/
theorem run_rt {n : Nat} {body : Env → Rz (Env × Fl)} {args ρ' : Env} {r r' : Rs} (h : body (args ++ List.replicate (n - args.length) .no) = .ok (ρ', .rt r)) (ho : okOuts args ρ' = true) (hr : retV ρ' r = .ok r') : noX (runF n body args) = .ok (ρ'.take args.length, r') := by
  unfold runF
  rw [h]
  simp only
  rw [if_pos ho, hr]
  rfl
/-- a call by one frozen value -/
theorem call_at {F : Env → Rz (Env × Rs)} {a : Env → Rz (Env × Rs)} {ρ ρ1 : Env} {x : Rs} {d : D} {o : Env} {r : Rs} (ha : a ρ = .ok (ρ1, x)) (hu : use ρ1 x = .ok (ρ1, d)) (h : F [.im d] = .ok (o, r)) (hl : 1 ≤ o.length) : eCallN 1 F [false] (aCons a aNil) ρ = .ok (ρ1, r) := by
  cases o with
  | nil => simp at hl
  | cons y o =>
    unfold eCallN
    rw [cons_ok ha (show aNil ρ1 = .ok (ρ1, []) from rfl)]
    have e : (useIm [false] ρ1 [x]) = .ok (ρ1, [.im d]) := by simp [useIm, hu]
    have m : mutIx [false] [x] = [] := by cases x <;> rfl
    simp only [Rz.ok_bind]
    show (if decide (1 = 1) = true then _ else _) = _
    rw [if_pos (decide_eq_true rfl)]
    unfold callBy
    rw [e, m]
    cases x <;> simp [fillPa, h, putBack]
end Fx

set_option Elab.async false
set_option linter.all false
set_option maxRecDepth 100000
set_option maxHeartbeats 4000000
namespace Fx
open PySem L2
/-! ### texts in order: the same from any order -/
theorem le_anti {a b : D} (ha : ∃ x, a = .str x) (hb : ∃ x, b = .str x) (h1 : PySem.W.dataLe false D.py a b = true) (h2 : PySem.W.dataLe false D.py b a = true) : a = b := by
  obtain ⟨x, rfl⟩ := ha
  obtain ⟨y, rfl⟩ := hb
  unfold PySem.W.dataLe PySem.W.sortLe at h1 h2
  simp only [cond_false, Bool.not_eq_true'] at h1 h2
  have e := PyProof.Rows.lex_total (O := PyProof.Rows.itemOrd) _ _ h2 h1
  rw [D.py, D.py, PySem.W.keyToks, PySem.W.keyToks] at e
  have e2 : x.cps.toList = y.cps.toList := by simpa using e
  have e3 : x.cps = y.cps := Array.toList_inj.mp e2
  cases x
  cases y
  simp at e3
  rw [e3]
theorem sort_perm {xs ys : List D} (hx : ∀ a ∈ xs, ∃ x, a = .str x) (hy : ∀ a ∈ ys, ∃ x, a = .str x) (h : xs.Perm ys) : sortD xs = sortD ys := by
  have T : PySem.W.TotalLe (PySem.W.dataLe false D.py) := PySem.W.sortLe_total _ false _
  refine List.Perm.eq_of_pairwise (le := fun a b => PySem.W.dataLe false D.py a b = true) (fun a b ha hb h1 h2 => ?_) (List.pairwise_mergeSort T.trans (fun a b => by rw [Bool.or_eq_true]; exact T.total a b) xs) (List.pairwise_mergeSort T.trans (fun a b => by rw [Bool.or_eq_true]; exact T.total a b) ys) (((List.mergeSort_perm xs _).trans h).trans (List.mergeSort_perm ys _).symm)
  exact le_anti (hx a ((List.mergeSort_perm xs _).mem_iff.mp ha)) (hy b ((List.mergeSort_perm ys _).mem_iff.mp hb)) h1 h2
theorem sortOk_strs : ∀ {xs : List D}, (∀ a ∈ xs, ∃ x, a = .str x) → sortOk xs = true := by
  intro xs h
  have p : D.plains xs = true := by
    induction xs with
    | nil => rw [D.plains]
    | cons a xs ih =>
      obtain ⟨x, rfl⟩ := h a List.mem_cons_self
      rw [D.plains, D.plain, ih fun b hb => h b (List.mem_cons_of_mem _ hb)]
      rfl
  have a : allAlike xs = true := by
    unfold allAlike
    rw [List.all_eq_true]
    intro d hd
    rw [List.all_eq_true]
    intro e he
    obtain ⟨x, rfl⟩ := h d hd
    obtain ⟨y, rfl⟩ := h e he
    unfold D.alike
    rw [D.py, D.py, PySem.W.alike]
  have s : sortableD xs = true := by
    unfold sortableD
    rw [Bool.or_eq_true]
    refine .inr ?_
    rw [List.all_eq_true]
    intro d hd
    obtain ⟨x, rfl⟩ := h d hd
    rfl
  unfold sortOk
  rw [p, a, s]
  show (xs.all fun d => decide (d.py.depth ≤ 64)) = true
  rw [List.all_eq_true]
  intro d hd
  obtain ⟨x, rfl⟩ := h d hd
  rw [D.py, PyData.depth]
  rfl
end Fx

set_option Elab.async false
set_option linter.all false
set_option maxRecDepth 100000
set_option maxHeartbeats 4000000
namespace Fx.K04
open PySem L2
def top (i : Nat) : Stmt := PySem.Challenge.pw_asonerun_k04_rows_by_own_walks.main.body.getD i (.Pass ⟨0, 0, 0, 0⟩)
abbrev k_MAP : D := (.str "map")
abbrev k_STAMP : D := (.str "stamp")
abbrev k_MIX : D := (.str "mix")
abbrev k_FOLD : D := (.str "fold")
abbrev k_WINDOW : D := (.str "window")
abbrev k_ROWWISE : D := (.nd .tup [(.str "map"), (.str "stamp"), (.str "mix")])
abbrev k_ROW : D := (.str "row")
structure Mods (K : PySem.W.Frag) (mg : Str → Option Value) : Prop where
  c_MAP : GlobC K mg "MAP" k_MAP
  c_STAMP : GlobC K mg "STAMP" k_STAMP
  c_MIX : GlobC K mg "MIX" k_MIX
  c_FOLD : GlobC K mg "FOLD" k_FOLD
  c_WINDOW : GlobC K mg "WINDOW" k_WINDOW
  c_ROWWISE : GlobC K mg "ROWWISE" k_ROWWISE
  c_ROW : GlobC K mg "ROW" k_ROW
  d_head_of : DefF K mg "head_of" (top 8) ["row"]
  d_inside : DefF K mg "inside" (top 9) ["row"]
  d_base_of : DefF K mg "base_of" (top 10) ["row"]
  d_sides_of : DefF K mg "sides_of" (top 11) ["row"]
  d_number_of : DefF K mg "number_of" (top 12) ["base"]
  d_name_of : DefF K mg "name_of" (top 13) ["row"]
  d_way_of : DefF K mg "way_of" (top 14) ["row"]
  d_time_of : DefF K mg "time_of" (top 15) ["row"]
  d_place_of : DefF K mg "place_of" (top 16) ["row"]
  d_parts_of : DefF K mg "parts_of" (top 17) ["row"]
  d_within : DefF K mg "within" (top 18) ["rows"]
  d_stamped : DefF K mg "stamped" (top 19) ["row"]
  d_passed : DefF K mg "passed" (top 20) ["row"]
  d__law_pen : DefF K mg "_law_pen" (top 22) ["script"]
  d__law_draw : DefF K mg "_law_draw" (top 23) ["pen", "many"]
  d__law_pick : DefF K mg "_law_pick" (top 24) ["pen", "some"]
  d__law_base : DefF K mg "_law_base" (top 25) ["row"]
  d__law_sides : DefF K mg "_law_sides" (top 26) ["row"]
  d__law_name : DefF K mg "_law_name" (top 27) ["row"]
  d__law_within : DefF K mg "_law_within" (top 28) ["rows"]
  d__law_a_row : DefF K mg "_law_a_row" (top 29) ["pen", "deep", "folds"]
  d__law_passed : DefF K mg "_law_passed" (top 30) ["row"]
  d_law : DefF K mg "law" (top 31) ["script"]
  b_abs : mg "abs" = none
  b_int : mg "int" = none
  b_len : mg "len" = none
  b_list : mg "list" = none
  b_range : mg "range" = none
  b_repr : mg "repr" = none
  b_sorted : mg "sorted" = none
  b_tuple : mg "tuple" = none
section
variable {P : Program} {w : World} {K : PySem.W.Frag} {mg : Str → Option Value} {base : Heap}
theorem sc_head_of : FnScope ["row"] ["row"] (defScope (top 8)) := ⟨rfl, rfl, rfl, by decide +kernel, rfl, by decide +kernel, by decide +kernel⟩
def g_head_of : Env → Rz (Env × Fl) := (gRet (hV (v2 dIx (rN 0) (hC (.int 1)))))
def m_head_of : Env → Rz (Env × Rs) := runF 1 g_head_of
theorem d_head_of (m : Mods K mg) : Defd P w K mg base 1 "head_of" (top 8) ["row"] m_head_of := by
  have sc := sc_head_of
  unfold m_head_of
  refine Defd.of (k := 0) (body := g_head_of) m.d_head_of sc_head_of rfl (by decide) fun cdv A outer f s H E hr hgd => ?_
  have hu64 := hr.u64; have hu65 := hr.u65; have hu70 := hr.u70
  exact (rss_one (rs_ret (re_of (rv_ix (rh_name 0) (rh_c rv_int)))))
theorem sc_inside : FnScope ["row"] ["row"] (defScope (top 9)) := ⟨rfl, rfl, rfl, by decide +kernel, rfl, by decide +kernel, by decide +kernel⟩
def g_inside : Env → Rz (Env × Fl) := (gRet (hV (vIf (t2 dEq (hV (v2 dIx (rN 0) (hC (.int 0)))) (hC k_MIX)) (v2 dIx (rN 0) (hC (.int 3))) (v2 dIx (rN 0) (hC (.int 2))))))
def m_inside : Env → Rz (Env × Rs) := runF 1 g_inside
theorem d_inside (m : Mods K mg) : Defd P w K mg base 1 "inside" (top 9) ["row"] m_inside := by
  have sc := sc_inside
  unfold m_inside
  refine Defd.of (k := 0) (body := g_inside) m.d_inside sc_inside rfl (by decide) fun cdv A outer f s H E hr hgd => ?_
  have hu64 := hr.u64; have hu65 := hr.u65; have hu70 := hr.u70
  exact (rss_one (rs_ret (re_of (rv_if (rt_eq hu64 (rh_rv (rv_ix (rh_name 0) (rh_c rv_int))) (rh_c (rv_globC m.c_MIX))) (rv_ix (rh_name 0) (rh_c rv_int)) (rv_ix (rh_name 0) (rh_c rv_int))))))
theorem sc_base_of : FnScope ["row"] ["row"] (defScope (top 10)) := ⟨rfl, rfl, rfl, by decide +kernel, rfl, by decide +kernel, by decide +kernel⟩
def g_base_of : Env → Rz (Env × Fl) := (gSeq (gWhile (t2 dIn (hV (v2 dIx (rN 0) (hC (.int 0)))) (hC k_ROWWISE)) (gSet 0 (eCallN 1 (fun a => noX (m_inside a)) [false] (aCons (rN 0) aNil))) 100)
    (gRet (rN 0)))
def m_base_of : Env → Rz (Env × Rs) := runF 1 g_base_of
theorem d_base_of (m : Mods K mg) (D_inside : Defd P w K mg base 1 "inside" (top 9) ["row"] m_inside) : Defd P w K mg base 2 "base_of" (top 10) ["row"] m_base_of := by
  have sc := sc_base_of
  unfold m_base_of
  refine Defd.of (k := 1) (body := g_base_of) m.d_base_of sc_base_of rfl (by decide) fun cdv A outer f s H E hr hgd => ?_
  have hu64 := hr.u64; have hu65 := hr.u65; have hu70 := hr.u70
  exact (rss_cons (rs_while 100 .never (rt_in hu65 (rh_rv (rv_ix (rh_name 0) (rh_c rv_int))) (rh_c (rv_globC m.c_ROWWISE))) (rss_one (rs_set (i := 0) sc.nd (re_call [false] D_inside (hr.mono (j := 1) (by decide)) hgd (ra_cons (rh_name 0) ra_nil)))))
    (rss_one (rs_ret (re_name 0))))
theorem sc_sides_of : FnScope ["row", "found"] ["row"] (defScope (top 11)) := ⟨rfl, rfl, rfl, by decide +kernel, rfl, by decide +kernel, by decide +kernel⟩
def g_sides_of : Env → Rz (Env × Fl) := (gSeq (gSet 1 (eLst aNil))
    (gSeq (gWhile (t2 dIn (hV (v2 dIx (rN 0) (hC (.int 0)))) (hC k_ROWWISE)) (gSeq (gIf (t2 dEq (hV (v2 dIx (rN 0) (hC (.int 0)))) (hC k_MIX)) (gExpr (eMth 1 mAppend (aCons (hV (vTup (aCons (hV (v2 dIx (rN 0) (hC (.int 1)))) (aCons (hV (v2 dIx (rN 0) (hC (.int 2)))) aNil)))) aNil))) gNext)
    (gSet 0 (eCallN 1 (fun a => noX (m_inside a)) [false] (aCons (rN 0) aNil)))) 100)
    (gRet (eB dTuple (aCons (hH (eRev (rN 1))) aNil)))))
def m_sides_of : Env → Rz (Env × Rs) := runF 2 g_sides_of
theorem d_sides_of (m : Mods K mg) (D_inside : Defd P w K mg base 1 "inside" (top 9) ["row"] m_inside) : Defd P w K mg base 2 "sides_of" (top 11) ["row"] m_sides_of := by
  have sc := sc_sides_of
  unfold m_sides_of
  refine Defd.of (k := 1) (body := g_sides_of) m.d_sides_of sc_sides_of rfl (by decide) fun cdv A outer f s H E hr hgd => ?_
  have hu64 := hr.u64; have hu65 := hr.u65; have hu70 := hr.u70
  exact (rss_cons (rs_set (i := 1) sc.nd (re_lst ra_nil))
    (rss_cons (rs_while 100 .never (rt_in hu65 (rh_rv (rv_ix (rh_name 0) (rh_c rv_int))) (rh_c (rv_globC m.c_ROWWISE))) (rss_cons (rs_if (rt_eq hu64 (rh_rv (rv_ix (rh_name 0) (rh_c rv_int))) (rh_c (rv_globC m.c_MIX))) (rss_one (rs_expr (re_mth (i := 1) PySem.F.slot_list_append rfl mt_append serves_append (ra_cons (rh_rv (rv_tup (ra_cons (rh_rv (rv_ix (rh_name 0) (rh_c rv_int))) (ra_cons (rh_rv (rv_ix (rh_name 0) (rh_c rv_int))) ra_nil)))) ra_nil)))) rss_nil)
    (rss_one (rs_set (i := 0) sc.nd (re_call [false] D_inside (hr.mono (j := 1) (by decide)) hgd (ra_cons (rh_name 0) ra_nil))))))
    (rss_one (rs_ret (re_callT call_tuple_of serves_tuple rfl m.b_tuple rfl (ra_cons (rh_re (re_rev (rh_name 1))) ra_nil))))))
theorem sc_number_of : FnScope ["base"] ["base"] (defScope (top 12)) := ⟨rfl, rfl, rfl, by decide +kernel, rfl, by decide +kernel, by decide +kernel⟩
def g_number_of : Env → Rz (Env × Fl) := (gRet (hV (vIf (t2 dEq (hV (v2 dIx (rN 0) (hC (.int 0)))) (hC k_FOLD)) (v2 dSub (hH (eB dLen (aCons (hV (v2 dIx (rN 0) (hC (.int 2)))) aNil))) (hC (.int 1))) (v2 dIx (rN 0) (hC (.int 2))))))
def m_number_of : Env → Rz (Env × Rs) := runF 1 g_number_of
theorem d_number_of (m : Mods K mg) : Defd P w K mg base 1 "number_of" (top 12) ["base"] m_number_of := by
  have sc := sc_number_of
  unfold m_number_of
  refine Defd.of (k := 0) (body := g_number_of) m.d_number_of sc_number_of rfl (by decide) fun cdv A outer f s H E hr hgd => ?_
  have hu64 := hr.u64; have hu65 := hr.u65; have hu70 := hr.u70
  exact (rss_one (rs_ret (re_of (rv_if (rt_eq hu64 (rh_rv (rv_ix (rh_name 0) (rh_c rv_int))) (rh_c (rv_globC m.c_FOLD))) (rv_sub (rh_re (re_callB call_len serves_len rfl m.b_len rfl (ra_cons (rh_rv (rv_ix (rh_name 0) (rh_c rv_int))) ra_nil))) (rh_c rv_int)) (rv_ix (rh_name 0) (rh_c rv_int))))))
theorem sc_name_of : FnScope ["row", "base"] ["row"] (defScope (top 13)) := ⟨rfl, rfl, rfl, by decide +kernel, rfl, by decide +kernel, by decide +kernel⟩
def g_name_of : Env → Rz (Env × Fl) := (gSeq (gSet 1 (eCallN 1 (fun a => noX (m_base_of a)) [false] (aCons (rN 0) aNil)))
    (gRet (hV (vTup (aCons (hV (v2 dIx (rN 1) (hC (.int 1)))) (aCons (hH (eCallN 1 (fun a => noX (m_number_of a)) [false] (aCons (rN 1) aNil))) (aCons (hH (eCallN 1 (fun a => noX (m_sides_of a)) [false] (aCons (rN 0) aNil))) aNil)))))))
def m_name_of : Env → Rz (Env × Rs) := runF 2 g_name_of
theorem d_name_of (m : Mods K mg) (D_base_of : Defd P w K mg base 2 "base_of" (top 10) ["row"] m_base_of) (D_sides_of : Defd P w K mg base 2 "sides_of" (top 11) ["row"] m_sides_of) (D_number_of : Defd P w K mg base 1 "number_of" (top 12) ["base"] m_number_of) : Defd P w K mg base 3 "name_of" (top 13) ["row"] m_name_of := by
  have sc := sc_name_of
  unfold m_name_of
  refine Defd.of (k := 2) (body := g_name_of) m.d_name_of sc_name_of rfl (by decide) fun cdv A outer f s H E hr hgd => ?_
  have hu64 := hr.u64; have hu65 := hr.u65; have hu70 := hr.u70
  exact (rss_cons (rs_set (i := 1) sc.nd (re_call [false] D_base_of (hr.mono (j := 2) (by decide)) hgd (ra_cons (rh_name 0) ra_nil)))
    (rss_one (rs_ret (re_of (rv_tup (ra_cons (rh_rv (rv_ix (rh_name 1) (rh_c rv_int))) (ra_cons (rh_re (re_call [false] D_number_of (hr.mono (j := 1) (by decide)) hgd (ra_cons (rh_name 1) ra_nil))) (ra_cons (rh_re (re_call [false] D_sides_of (hr.mono (j := 2) (by decide)) hgd (ra_cons (rh_name 0) ra_nil))) ra_nil))))))))
theorem sc_way_of : FnScope ["row"] ["row"] (defScope (top 14)) := ⟨rfl, rfl, rfl, by decide +kernel, rfl, by decide +kernel, by decide +kernel⟩
def g_way_of : Env → Rz (Env × Fl) := (gRet (hV (vTup (aCons (hV (v2 dIx (hH (eCallN 1 (fun a => noX (m_base_of a)) [false] (aCons (rN 0) aNil))) (hC (.int 1)))) (aCons (hH (eCallN 1 (fun a => noX (m_sides_of a)) [false] (aCons (rN 0) aNil))) aNil)))))
def m_way_of : Env → Rz (Env × Rs) := runF 1 g_way_of
theorem d_way_of (m : Mods K mg) (D_base_of : Defd P w K mg base 2 "base_of" (top 10) ["row"] m_base_of) (D_sides_of : Defd P w K mg base 2 "sides_of" (top 11) ["row"] m_sides_of) : Defd P w K mg base 3 "way_of" (top 14) ["row"] m_way_of := by
  have sc := sc_way_of
  unfold m_way_of
  refine Defd.of (k := 2) (body := g_way_of) m.d_way_of sc_way_of rfl (by decide) fun cdv A outer f s H E hr hgd => ?_
  have hu64 := hr.u64; have hu65 := hr.u65; have hu70 := hr.u70
  exact (rss_one (rs_ret (re_of (rv_tup (ra_cons (rh_rv (rv_ix (rh_re (re_call [false] D_base_of (hr.mono (j := 2) (by decide)) hgd (ra_cons (rh_name 0) ra_nil))) (rh_c rv_int))) (ra_cons (rh_re (re_call [false] D_sides_of (hr.mono (j := 2) (by decide)) hgd (ra_cons (rh_name 0) ra_nil))) ra_nil))))))
theorem sc_time_of : FnScope ["row", "base"] ["row"] (defScope (top 15)) := ⟨rfl, rfl, rfl, by decide +kernel, rfl, by decide +kernel, by decide +kernel⟩
def g_time_of : Env → Rz (Env × Fl) := (gSeq (gSet 1 (eCallN 1 (fun a => noX (m_base_of a)) [false] (aCons (rN 0) aNil)))
    (gRet (hV (vIf (t2 dEq (hV (v2 dIx (rN 1) (hC (.int 0)))) (hC k_ROW)) (v2 dIx (rN 1) (hC (.int 3))) (vC .non)))))
def m_time_of : Env → Rz (Env × Rs) := runF 2 g_time_of
theorem d_time_of (m : Mods K mg) (D_base_of : Defd P w K mg base 2 "base_of" (top 10) ["row"] m_base_of) : Defd P w K mg base 3 "time_of" (top 15) ["row"] m_time_of := by
  have sc := sc_time_of
  unfold m_time_of
  refine Defd.of (k := 2) (body := g_time_of) m.d_time_of sc_time_of rfl (by decide) fun cdv A outer f s H E hr hgd => ?_
  have hu64 := hr.u64; have hu65 := hr.u65; have hu70 := hr.u70
  exact (rss_cons (rs_set (i := 1) sc.nd (re_call [false] D_base_of (hr.mono (j := 2) (by decide)) hgd (ra_cons (rh_name 0) ra_nil)))
    (rss_one (rs_ret (re_of (rv_if (rt_eq hu64 (rh_rv (rv_ix (rh_name 1) (rh_c rv_int))) (rh_c (rv_globC m.c_ROW))) (rv_ix (rh_name 1) (rh_c rv_int)) rv_non)))))
theorem sc_place_of : FnScope ["row"] ["row"] (defScope (top 16)) := ⟨rfl, rfl, rfl, by decide +kernel, rfl, by decide +kernel, by decide +kernel⟩
def g_place_of : Env → Rz (Env × Fl) := (gRet (hV (vTup (aCons (hV (v2 dIx (rN 0) (hC (.int 1)))) (aCons (hH (eCallN 1 (fun a => noX (m_name_of a)) [false] (aCons (rN 0) aNil))) aNil)))))
def m_place_of : Env → Rz (Env × Rs) := runF 1 g_place_of
theorem d_place_of (m : Mods K mg) (D_name_of : Defd P w K mg base 3 "name_of" (top 13) ["row"] m_name_of) : Defd P w K mg base 4 "place_of" (top 16) ["row"] m_place_of := by
  have sc := sc_place_of
  unfold m_place_of
  refine Defd.of (k := 3) (body := g_place_of) m.d_place_of sc_place_of rfl (by decide) fun cdv A outer f s H E hr hgd => ?_
  have hu64 := hr.u64; have hu65 := hr.u65; have hu70 := hr.u70
  exact (rss_one (rs_ret (re_of (rv_tup (ra_cons (rh_rv (rv_ix (rh_name 0) (rh_c rv_int))) (ra_cons (rh_re (re_call [false] D_name_of (hr.mono (j := 3) (by decide)) hgd (ra_cons (rh_name 0) ra_nil))) ra_nil))))))
theorem sc_parts_of : FnScope ["row", "earlier"] ["row"] (defScope (top 17)) := ⟨rfl, rfl, rfl, by decide +kernel, rfl, by decide +kernel, by decide +kernel⟩
def g_parts_of : Env → Rz (Env × Fl) := (gSeq (gIf (t2 dEq (hV (v2 dIx (rN 0) (hC (.int 0)))) (hC k_ROW)) (gRet (eLst aNil)) gNext)
    (gSeq (gIf (t2 dIn (hV (v2 dIx (rN 0) (hC (.int 0)))) (hC k_ROWWISE)) (gRet (eLst (aCons (hH (eCallN 1 (fun a => noX (m_inside a)) [false] (aCons (rN 0) aNil))) aNil))) gNext)
    (gSeq (gIf (t2 dEq (hV (v2 dIx (rN 0) (hC (.int 0)))) (hC k_WINDOW)) (gRet (eB dList (aCons (hV (v2 dIx (rN 0) (hC (.int 3)))) aNil))) gNext)
    (gSeq (gSet 1 (eIf (t2 dGt (hH (eB dLen (aCons (hV (v2 dIx (rN 0) (hC (.int 2)))) aNil))) (hC (.int 1))) (eLst (aCons (hV (vTup (aCons (hC k_FOLD) (aCons (hV (v2 dIx (rN 0) (hC (.int 1)))) (aCons (hH (eSl (hV (v2 dIx (rN 0) (hC (.int 2)))) oNone (oSome (v1 dNeg (hC (.int 1)))))) aNil))))) aNil)) (eLst aNil)))
    (gRet (eLst (aCons (hV (v2 dIx (hV (v2 dIx (rN 0) (hC (.int 2)))) (hV (v1 dNeg (hC (.int 1)))))) (aStar (rN 1) aNil))))))))
def m_parts_of : Env → Rz (Env × Rs) := runF 2 g_parts_of
theorem d_parts_of (m : Mods K mg) (D_inside : Defd P w K mg base 1 "inside" (top 9) ["row"] m_inside) : Defd P w K mg base 2 "parts_of" (top 17) ["row"] m_parts_of := by
  have sc := sc_parts_of
  unfold m_parts_of
  refine Defd.of (k := 1) (body := g_parts_of) m.d_parts_of sc_parts_of rfl (by decide) fun cdv A outer f s H E hr hgd => ?_
  have hu64 := hr.u64; have hu65 := hr.u65; have hu70 := hr.u70
  exact (rss_cons (rs_if (rt_eq hu64 (rh_rv (rv_ix (rh_name 0) (rh_c rv_int))) (rh_c (rv_globC m.c_ROW))) (rss_one (rs_ret (re_lst ra_nil))) rss_nil)
    (rss_cons (rs_if (rt_in hu65 (rh_rv (rv_ix (rh_name 0) (rh_c rv_int))) (rh_c (rv_globC m.c_ROWWISE))) (rss_one (rs_ret (re_lst (ra_cons (rh_re (re_call [false] D_inside (hr.mono (j := 1) (by decide)) hgd (ra_cons (rh_name 0) ra_nil))) ra_nil)))) rss_nil)
    (rss_cons (rs_if (rt_eq hu64 (rh_rv (rv_ix (rh_name 0) (rh_c rv_int))) (rh_c (rv_globC m.c_WINDOW))) (rss_one (rs_ret (re_callT call_list_of serves_list rfl m.b_list rfl (ra_cons (rh_rv (rv_ix (rh_name 0) (rh_c rv_int))) ra_nil)))) rss_nil)
    (rss_cons (rs_set (i := 1) sc.nd (re_if (rt_gt (rh_re (re_callB call_len serves_len rfl m.b_len rfl (ra_cons (rh_rv (rv_ix (rh_name 0) (rh_c rv_int))) ra_nil))) (rh_c rv_int)) (re_lst (ra_cons (rh_rv (rv_tup (ra_cons (rh_c (rv_globC m.c_FOLD)) (ra_cons (rh_rv (rv_ix (rh_name 0) (rh_c rv_int))) (ra_cons (rh_re (re_slice (rh_rv (rv_ix (rh_name 0) (rh_c rv_int))) ro_none (ro_some (rv_neg (rh_c rv_int))))) ra_nil))))) ra_nil)) (re_lst ra_nil)))
    (rss_one (rs_ret (re_lst (ra_cons (rh_rv (rv_ix (rh_rv (rv_ix (rh_name 0) (rh_c rv_int))) (rh_rv (rv_neg (rh_c rv_int))))) (ra_star (rh_name 1) ra_nil)))))))))
end
end Fx.K04

set_option Elab.async false
set_option linter.all false
set_option maxRecDepth 100000
set_option maxHeartbeats 4000000
namespace Fx
open PySem L2
/-! ### a dict of lists: the lists are held aside -/
structure Ent where
  k : NestedKey
  kb : Addr
  q : Addr
  rows : List D
def Ent.raw (e : Ent) : NestedKey × Addr × Value := (e.k, e.kb, .ref e.q)
def Gh.addAll (Γ : Gh) (es : List Ent) : Gh := ⟨Γ.g, Γ.τ ++ es.map (fun e => some (V.ref e.q)), Γ.γ ++ es.map (fun e => Sl.lo (.nd .lst e.rows))⟩
theorem addAll_nil (Γ : Gh) : Γ.addAll [] = Γ := by
  obtain ⟨g, τ, γ⟩ := Γ
  simp [Gh.addAll]
theorem addAll_snoc (Γ : Gh) (es : List Ent) (e : Ent) : Γ.addAll (es ++ [e]) = (Γ.addAll es).add e.q (.nd .lst e.rows) := by
  simp [Gh.addAll, Gh.add]
section
variable {M : Md} {Γ : Gh} {Hf : Hp} {σ : L2.St} {H : Hp} {ρ : Env}
/-- all are let go -/
theorem Rep.popAll : ∀ {n : Nat} {es : List Ent}, es.length = n → Rep M (Γ.addAll es) Hf σ H ρ → Rep M Γ Hf σ H ρ
  | 0, es, h, R => by
    cases es with
    | nil => rw [addAll_nil] at R; exact R
    | cons _ _ => cases h
  | n + 1, es, h, R => by
    have hne : es ≠ [] := fun z => by subst z; cases h
    rw [← List.dropLast_concat_getLast hne, addAll_snoc] at R
    exact Rep.popAll (n := n) (by rw [List.length_dropLast]; omega) R.pop.1
/-- slots forgotten -/
theorem Rep.blank (R : Rep M Γ Hf σ H ρ) {ρ' : Env} (len : ρ'.length = ρ.length) (sl : ∀ (i : Nat) x, ρ'[i]? = some x → x = .no ∨ ρ[i]? = some x) : Rep M Γ Hf σ H ρ' := by
  refine ⟨len.trans R.len, R.r0.grow (Same.refl _) R.r0.sub R.r0.fz (by simp [len]) (fun i x e => ?_) fun a z => (R.r0.paH a z).2⟩
  have back : (ρ ++ Γ.γ)[i]? = some x → x.own → ∀ a, (σ ++ Γ.τ)[i]? = some (some (.ref a)) → Hf a = none := fun e o a es => by
    cases x with
    | no => exact o.elim
    | im d => exact o.elim
    | lo d =>
      obtain ⟨b, h1, _, h3⟩ := R.r0.lo i d e
      rw [es] at h1; cases h1
      obtain ⟨_, ea, hn, _⟩ := h3.ref
      cases ea; exact hn
    | pa d =>
      obtain ⟨b, h1, _, h3⟩ := R.r0.pa i d e
      rw [es] at h1; cases h1
      obtain ⟨_, ea, hn, _⟩ := h3.ref
      cases ea; exact hn
  by_cases lt : i < ρ'.length
  · rw [List.getElem?_append_left lt] at e
    rcases sl i x e with z | z
    · exact .inl z
    · exact .inr (.inr ⟨get_app z, back (get_app z)⟩)
  · rw [List.getElem?_append_right (by omega), len] at e
    have e' : (ρ ++ Γ.γ)[i]? = some x := by rw [List.getElem?_append_right (by omega)]; exact e
    exact .inr (.inr ⟨e', back e'⟩)
/-- a list held aside -/
theorem Rep.aside {A B : List Ent} {e : Ent} (R : Rep M (Γ.addAll (A ++ e :: B)) Hf σ H ρ) : LocAt M Hf H (.nd .lst e.rows) (.ref e.q) ∧
    ∀ (rows : List D) (o : HO), LocAt M Hf (upd H e.q o) (.nd .lst rows) (.ref e.q) → Rep M (Γ.addAll (A ++ { e with rows := rows } :: B)) Hf σ (upd H e.q o) ρ := by
  have L := R.len
  have L2 : (Γ.τ).length = Γ.γ.length := by
    have := R.r0.len
    simp [Gh.addAll] at this
    omega
  have eρ : (ρ ++ (Γ.addAll (A ++ e :: B)).γ)[ρ.length + Γ.γ.length + A.length]? = some (.lo (.nd .lst e.rows)) := by
    show (ρ ++ (Γ.γ ++ List.map _ (A ++ e :: B)))[_]? = _
    rw [List.getElem?_append_right (by omega), List.getElem?_append_right (by omega), List.map_append, List.getElem?_append_right (by simp; omega)]
    have : ρ.length + Γ.γ.length + A.length - ρ.length - Γ.γ.length - (A.map fun e => Sl.lo (.nd .lst e.rows)).length = 0 := by simp; omega
    rw [this]
    rfl
  have eσ : (σ ++ (Γ.addAll (A ++ e :: B)).τ)[ρ.length + Γ.γ.length + A.length]? = some (some (.ref e.q)) := by
    show (σ ++ (Γ.τ ++ List.map _ (A ++ e :: B)))[_]? = _
    rw [List.getElem?_append_right (by omega), List.getElem?_append_right (by omega), List.map_append, List.getElem?_append_right (by simp; omega)]
    have : ρ.length + Γ.γ.length + A.length - σ.length - Γ.τ.length - (A.map fun e => some (V.ref e.q)).length = 0 := by simp; omega
    rw [this]
    rfl
  obtain ⟨a, h1, _, h3⟩ := R.r0.lo _ _ eρ
  rw [eσ] at h1
  cases h1
  refine ⟨h3, fun rows o hl => ⟨L, ?_⟩⟩
  have hw := R.r0.write (o := o) (d := .nd .lst rows) eρ trivial eσ hl
  have es : (ρ ++ (Γ.addAll (A ++ e :: B)).γ).set (ρ.length + Γ.γ.length + A.length) (Sl.withD (.lo (.nd .lst e.rows)) (.nd .lst rows)) = ρ ++ (Γ.addAll (A ++ { e with rows := rows } :: B)).γ := by
    show (ρ ++ (Γ.γ ++ List.map _ (A ++ e :: B))).set _ (Sl.lo _) = ρ ++ (Γ.γ ++ List.map _ (A ++ _ :: B))
    rw [List.set_append_right _ _ (by omega), List.set_append_right _ _ (by omega), List.map_append, List.map_append, List.set_append_right _ _ (by simp; omega)]
    have : ρ.length + Γ.γ.length + A.length - ρ.length - Γ.γ.length - (A.map fun e => Sl.lo (.nd .lst e.rows)).length = 0 := by simp; omega
    rw [this]
    rfl
  rw [es] at hw
  have eτ : (Γ.addAll (A ++ { e with rows := rows } :: B)).τ = (Γ.addAll (A ++ e :: B)).τ := by simp [Gh.addAll]
  rw [eτ]
  exact hw
/-- one step of statements that are read by a function -/
theorem rdS_go {g : Env → Rz (Env × Fl)} {ρ1 : Env} {D : Ends} (R : Rep M Γ Hf σ H ρ) (e : g ρ = .ok (ρ1, .nx)) (k : ∀ Hf1 σ1 H1, σ1.length = σ.length → Same Hf Hf1 → Rep M Γ Hf1 σ1 H1 ρ1 → D.nx σ1 H1) : rdS M W0 g D σ H :=
  ⟨Γ, Hf, ρ, R, by rw [e]; exact fun Hf' σ' H' hl S R' => k Hf' σ' H' hl S R'⟩
theorem rdH_go {f : Env → Rz (Env × Rs)} {ρ1 : Env} {r : Rs} {Q : VK} (R : Rep M Γ Hf σ H ρ) (e : f ρ = .ok (ρ1, r)) (k : ∀ Hf1 H1 v, Same Hf Hf1 → Rep M Γ Hf1 σ H1 ρ1 → HsIs M Hf1 σ r v → Q v H1) : rdH M W0 f σ H Q :=
  ⟨Γ, Hf, ρ, R, by rw [e]; exact k⟩
theorem rdHs_go {f : Env → Rz (Env × List Rs)} {ρ1 : Env} {r : List Rs} {Q : List V → Hp → Prop} (R : Rep M Γ Hf σ H ρ) (e : f ρ = .ok (ρ1, r)) (k : ∀ Hf1 H1 v, Same Hf Hf1 → Rep M Γ Hf1 σ H1 ρ1 → HsAll M Hf1 σ r v → Q v H1) : rdHs M W0 f σ H Q :=
  ⟨Γ, Hf, ρ, R, by rw [e]; exact k⟩
theorem rdT_go {f : Env → Rz (Env × Bool)} {ρ1 : Env} {r : Bool} {Q : Bool → Hp → Prop} (R : Rep M Γ Hf σ H ρ) (e : f ρ = .ok (ρ1, r)) (k : ∀ Hf1 H1, Same Hf Hf1 → Rep M Γ Hf1 σ H1 ρ1 → Q r H1) : rdT M W0 f σ H Q :=
  ⟨Γ, Hf, ρ, R, by rw [e]; exact k⟩
theorem rdQ_go {f : Env → Rz (Env × List Rs)} {ρ1 : Env} {r : List Rs} {Q : List V → Hp → Prop} (R : Rep M Γ Hf σ H ρ) (e : f ρ = .ok (ρ1, r)) (k : ∀ Hf1 H1 v, Same Hf Hf1 → QRep M Hf1 σ H1 ρ1 Γ r v → Q v H1) : rdQ M W0 f σ H Q :=
  ⟨Γ, Hf, ρ, R, by rw [e]; exact k⟩
end
end Fx
namespace Fx.K04
open PySem L2
/-! ### within, by its function -/
def wKey (row : D) : Option NestedKey := match noX (m_place_of [.im row]) with
  | .ok (_, .im (.nd .tup xs)) => (D.nk (.nd .tup xs)).bind fun k => if decide (k.depth ≤ 8) = true then some k else none
  | _ => none
def wParts (row : D) : Option (List D) := match noX (m_parts_of [.im row]) with
  | .ok (_, .nw (.nd .lst ds)) => some ds
  | _ => none
def atS (seen : List (NestedKey × List D)) (k : NestedKey) : Option (List D) := (seen.find? fun x => decide (x.1 = k)).map (·.2)
def addS (seen : List (NestedKey × List D)) (k : NestedKey) (row : D) : List (NestedKey × List D) := seen.map fun x => if x.1 = k then (x.1, x.2 ++ [row]) else x
def seenAt (seen : List (NestedKey × List D)) (k : NestedKey) : List (NestedKey × List D) := match atS seen k with
  | none => seen ++ [(k, [])]
  | some _ => seen
def wLoop : Nat → List D → List (NestedKey × List D) → List D → Rz (List D)
  | 0, _, _, _ => .no
  | n + 1, found, seen, line => (Rz.ofO (dNe (.nd .lst line) (.nd .lst []))).bind fun b => if b = true then
      (Rz.ofO line.getLast?).bind fun row => (Rz.ofO (wKey row)).bind fun k => if decide (seen.length < sizeLine) = true then
        (Rz.ofO (dNotIn row (.nd .lst ((atS seen k).getD [])))).bind fun c => if c = true then
          if decide (((atS seen k).getD []).length < sizeLine) = true then
            (Rz.ofO (mAppend found [row])).bind fun f => (Rz.ofO (wParts row)).bind fun ds => (Rz.ofO (mExtend line.dropLast [.nd .lst ds.reverse])).bind fun l =>
              wLoop n f.1 (addS (seenAt seen k) k row) l.1
          else .no
        else wLoop n found (seenAt seen k) line.dropLast
      else .no
    else .ok found
def rowsOf : D → Option (List D)
  | .nd .tup ds => some ds
  | .nd .lst ds => some ds
  | .nd .scr ds => some ds
  | _ => none
def wFuel : Nat := 100000
def g_within : Env → Rz (Env × Fl)
  | [.im rd, .no, .no, .no, .no, .no] => (Rz.ofO (dList [rd])).bind fun r => match r with
    | .nw (.nd .lst ds) => (wLoop wFuel [] [] ds.reverse).bind fun found => if sz found.length = true then .ok ([.im rd, .no, .no, .no, .no, .no], .rt (.im (.nd .tup found))) else .no
    | _ => .no
  | _ => .no
def m_within : Env → Rz (Env × Rs) := runF 6 g_within
def rawD (P : Program) (w : World) (es : List Ent) : D := .nd (.dcx ((es.map Ent.raw).map (entN P w))) []
structure WI (P : Program) (w : World) (M : Md) (Γ0 : Gh) (Hf0 : Hp) (l : Nat) (rd : D) (found : List D) (seen : List (NestedKey × List D)) (line : List D) (σ : L2.St) (H : Hp) : Prop where
  ex : ∃ (es : List Ent) (Hf : Hp) (r4 r5 : Sl), Same Hf0 Hf ∧ Rep M (Γ0.addAll es) Hf σ H [.im rd, .lo (.nd .lst found), .lo (rawD P w es), .lo (.nd .lst line), r4, r5] ∧
    (r4 = .no ∨ ∃ d, r4 = .im d) ∧ (r5 = .no ∨ ∃ d, r5 = .im d) ∧ es.map (fun e => (e.k, e.rows)) = seen ∧ (es.map (·.k)).Nodup ∧ (∀ e ∈ es, KeyAt M Hf e.k e.kb) ∧ σ.length = l
section
variable {P : Program} {w : World} {K : PySem.W.Frag} {mg : Str → Option Value} {base : Heap}
theorem put_im {ρ : Env} {i : Nat} {x : Sl} {d : D} (e : ρ[i]? = some x) (h : x = .no ∨ ∃ d, x = .im d) : put ρ i (.im d) = .ok (ρ.set i (.im d)) := by
  unfold put
  rw [e]
  rcases h with rfl | ⟨d', rfl⟩ <;> rfl
theorem wKey_some {row : D} {k : NestedKey} (h : wKey row = some k) : ∃ o xs, noX (m_place_of [.im row]) = .ok (o, .im (.nd .tup xs)) ∧ D.nk (.nd .tup xs) = some k ∧ k.depth ≤ 8 := by
  unfold wKey at h
  split at h
  · rename_i o xs e
    obtain ⟨k', h1, h2⟩ := Option.bind_eq_some_iff.mp h
    obtain ⟨c, e2⟩ := opt_ite h2
    subst e2
    exact ⟨o, xs, e, h1, of_decide_eq_true c⟩
  · cases h
theorem wParts_some {row : D} {ds : List D} (h : wParts row = some ds) : ∃ o, noX (m_parts_of [.im row]) = .ok (o, .nw (.nd .lst ds)) := by
  unfold wParts at h
  split at h
  · rename_i o xs e
    cases h
    exact ⟨o, e⟩
  · cases h
/-- a call by one frozen value -/
theorem call_im {F : Env → Rz (Env × Rs)} {ρ : Env} {i : Nat} {d : D} {o : Env} {r : Rs} (e : ρ[i]? = some (.im d)) (h : F [.im d] = .ok (o, r)) (hl : 1 ≤ o.length) : eCallN 1 F [false] (aCons (rN i) aNil) ρ = .ok (ρ, r) := by
  cases o with
  | nil => simp at hl
  | cons x o =>
    have e1 : rN i ρ = .ok (ρ, .slot i) := by unfold rN; rw [e]
    have e2 : use ρ (.slot i) = .ok (ρ, d) := by show (match ρ[i]? with | some (.im d) => Rz.ok (ρ, d) | some (.lo d) => Rz.ok (ρ.set i (.im d), d) | _ => Rz.no) = _; rw [e]
    simp [eCallN, aCons, aNil, e1, callBy, useIm, e2, fillPa, mutIx, h, putBack]
theorem atS_none {es : List Ent} {k : NestedKey} (h : atS (es.map fun e => (e.k, e.rows)) k = none) : atKey (es.map Ent.raw) k = none ∧ ∀ e ∈ es, e.k ≠ k := by
  unfold atS at h
  rw [Option.map_eq_none_iff, List.find?_eq_none] at h
  have h' : ∀ e ∈ es, e.k ≠ k := fun e he z => h (e.k, e.rows) (List.mem_map.mpr ⟨e, he, rfl⟩) (by simpa using z)
  refine ⟨?_, h'⟩
  unfold atKey
  rw [Option.map_eq_none_iff, List.find?_eq_none]
  intro x hx
  obtain ⟨e, he, rfl⟩ := List.mem_map.mp hx
  simp [Ent.raw, h' e he]
theorem atS_some {es : List Ent} {k : NestedKey} {rows : List D} (nd : (es.map (·.k)).Nodup) (h : atS (es.map fun e => (e.k, e.rows)) k = some rows) : ∃ A e B, es = A ++ e :: B ∧ e.k = k ∧ e.rows = rows ∧ atKey (es.map Ent.raw) k = some (e.kb, .ref e.q) ∧ (∀ x ∈ A, x.k ≠ k) ∧ ∀ x ∈ B, x.k ≠ k := by
  induction es with
  | nil => simp [atS] at h
  | cons e es ih =>
    rw [List.map_cons, List.nodup_cons] at nd
    by_cases c : e.k = k
    · have h' : rows = e.rows := by simpa [atS, c] using h.symm
      refine ⟨[], e, es, rfl, c, h'.symm, by simp [atKey, Ent.raw, c], by simp, fun x hx z => nd.1 (List.mem_map.mpr ⟨x, hx, z.trans c.symm⟩)⟩
    · have h' : atS (es.map fun e => (e.k, e.rows)) k = some rows := by simpa [atS, c] using h
      obtain ⟨A, e', B, rfl, h1, h2, h3, h4, h5⟩ := ih nd.2 h'
      refine ⟨e :: A, e', B, rfl, h1, h2, ?_, fun x hx => ?_, h5⟩
      · simpa [atKey, Ent.raw, c] using h3
      · rcases List.mem_cons.mp hx with z | z
        · subst z; exact c
        · exact h4 x z
theorem mapA {A : List Ent} {k : NestedKey} {row : D} (h : ∀ x ∈ A, x.k ≠ k) : (A.map fun e => (e.k, e.rows)).map (fun x => if x.1 = k then (x.1, x.2 ++ [row]) else x) = A.map fun e => (e.k, e.rows) := by
  rw [List.map_map]
  refine List.map_congr_left fun x hx => ?_
  simp [h x hx]
/-- behind the appending -/
theorem addS_at {A B : List Ent} {e : Ent} {k : NestedKey} {row : D} (hk : e.k = k) (hA : ∀ x ∈ A, x.k ≠ k) (hB : ∀ x ∈ B, x.k ≠ k) :
    addS ((A ++ e :: B).map fun e => (e.k, e.rows)) k row = (A ++ { e with rows := e.rows ++ [row] } :: B).map fun e => (e.k, e.rows) := by
  unfold addS
  rw [List.map_append, List.map_append, List.map_append, List.map_cons, List.map_cons, List.map_cons, mapA hA, mapA hB]
  simp [hk]
theorem wLoop_noex : ∀ {n : Nat} {found : List D} {seen : List (NestedKey × List D)} {line : List D} {x : Exn} {o : Env}, wLoop n found seen line ≠ .ex x o
  | 0, _, _, _, _, _, h => by cases h
  | n + 1, found, seen, line, x, o, h => by
    unfold wLoop at h
    cases e1 : dNe (.nd .lst line) (.nd .lst []) with
    | none => rw [e1] at h; cases h
    | some b =>
      rw [e1] at h
      simp only [Rz.ofO_some, Rz.ok_bind] at h
      split at h
      · cases e2 : line.getLast? with
        | none => rw [e2] at h; cases h
        | some row =>
          rw [e2] at h
          simp only [Rz.ofO_some, Rz.ok_bind] at h
          cases e3 : wKey row with
          | none => rw [e3] at h; cases h
          | some k =>
            rw [e3] at h
            simp only [Rz.ofO_some, Rz.ok_bind] at h
            split at h
            · cases e4 : dNotIn row (.nd .lst ((atS seen k).getD [])) with
              | none => rw [e4] at h; cases h
              | some c =>
                rw [e4] at h
                simp only [Rz.ofO_some, Rz.ok_bind] at h
                split at h
                · split at h
                  · cases e5 : mAppend found [row] with
                    | none => rw [e5] at h; cases h
                    | some f =>
                      rw [e5] at h
                      simp only [Rz.ofO_some, Rz.ok_bind] at h
                      cases e6 : wParts row with
                      | none => rw [e6] at h; cases h
                      | some ps =>
                        rw [e6] at h
                        simp only [Rz.ofO_some, Rz.ok_bind] at h
                        cases e7 : mExtend line.dropLast [.nd .lst ps.reverse] with
                        | none => rw [e7] at h; cases h
                        | some l => rw [e7] at h; exact wLoop_noex h
                  · cases h
                · exact wLoop_noex h
            · cases h
      · cases h
theorem _root_.Fx.Rep.imAt {M : Md} {Γ : Gh} {Hf : Hp} {σ : L2.St} {H : Hp} {ρ : Env} {i : Nat} {d : D} {v : V} (R : Rep M Γ Hf σ H ρ) (e : ρ[i]? = some (.im d)) (hv : σ[i]? = some (some v)) : Has M Hf d v := by
  obtain ⟨u, h1, h2⟩ := R.r0.im i d (get_app e)
  rw [get_app hv] at h1
  cases h1
  exact h2
theorem _root_.Fx.Rep.loAt {M : Md} {Γ : Gh} {Hf : Hp} {σ : L2.St} {H : Hp} {ρ : Env} {i : Nat} {d : D} {v : V} (R : Rep M Γ Hf σ H ρ) (e : ρ[i]? = some (.lo d)) (hv : σ[i]? = some (some v)) : ∃ a, v = .ref a ∧ LocAt M Hf H d (.ref a) ∧
    ∀ (d' : D) (o : HO), LocAt M Hf (upd H a o) d' (.ref a) → Rep M Γ Hf σ (upd H a o) (ρ.set i (.lo d')) := by
  obtain ⟨_, a, h1, h2, h3⟩ := R.ownAt e rfl
  rw [hv] at h1
  cases h1
  exact ⟨a, rfl, h2, h3⟩
theorem raw_at {M : Md} {Hf H : Hp} {es : List Ent} {a : Addr} (h : LocAt M Hf H (rawD P w es) (.ref a)) : Hf a = none ∧ H a = some (.ext (dcxRaw a ((es.map Ent.raw).map (entN P w)))) := by
  unfold rawD at h
  cases h with
  | dcx n h => exact ⟨n, h⟩
theorem set_step {F : Env → Rz (Env × Rs)} {rest : TS} {Dx : Ends} {Γ : Gh} {Hf Hf4 : Hp} {σ : L2.St} {H : Hp} {es : List Ent} {rd row r5 found line : _} {k : NestedKey} {o : Env} {xs : List D} (S : Same Hf Hf4)
    (R4 : Rep ⟨K, mg⟩ (Γ.addAll es) Hf4 σ H [.im rd, .lo found, .lo (rawD P w es), .lo line, .im row, r5]) (h5 : r5 = .no ∨ ∃ d, r5 = .im d) (nd : (es.map (·.k)).Nodup) (hk : ∀ e ∈ es, KeyAt ⟨K, mg⟩ Hf4 e.k e.kb)
    (eF : F [.im row] = .ok (o, .im (.nd .tup xs))) (hF : 1 ≤ o.length) (enk : D.nk (.nd .tup xs) = some k) (hd : k.depth ≤ 8) (hz : es.length < sizeLine)
    (after : ∀ (A B : List Ent) (e : Ent) (Hf7 : Hp) (σ7 : L2.St) (H7 : Hp), σ7.length = σ.length → Same Hf4 Hf7 → Rep ⟨K, mg⟩ (Γ.addAll (A ++ e :: B)) Hf7 σ7 H7 [.im rd, .lo found, .lo (rawD P w (A ++ e :: B)), .lo line, .im row, .im (.ob e.q)] →
      e.k = k → (∀ x ∈ A, x.k ≠ k) → (∀ x ∈ B, x.k ≠ k) → e.rows = (atS (es.map fun e => (e.k, e.rows)) k).getD [] → (A ++ e :: B).map (fun e => (e.k, e.rows)) = seenAt (es.map fun e => (e.k, e.rows)) k → ((A ++ e :: B).map (·.k)).Nodup → (∀ x ∈ A ++ e :: B, KeyAt ⟨K, mg⟩ Hf7 x.k x.kb) → rest Dx σ7 H7) :
    tSeq (tAsg (tSD (rSD P w ⟨K, mg⟩) (rdH ⟨K, mg⟩ W0 (rN 2)) (rdQ ⟨K, mg⟩ W0 (qCons (eCallN 1 F [false] (aCons (rN 4) aNil)) (qCons (eLst aNil) aNil)))) (gName 5)) rest Dx σ H := by
  refine rdH_go R4 (f := rN 2) (r := .slot 2) (ρ1 := [.im rd, .lo found, .lo (rawD P w es), .lo line, .im row, r5]) rfl fun Hf5 H5 v S5 R5 hv => ⟨?_, ?_⟩
  · obtain ⟨a, rfl, hl, _⟩ := R5.loAt (i := 2) rfl hv
    exact ⟨a, _, rfl, (raw_at hl).2⟩
  have ecall : eCallN 1 F [false] (aCons (rN 4) aNil) [.im rd, .lo found, .lo (rawD P w es), .lo line, .im row, r5] = .ok ([.im rd, .lo found, .lo (rawD P w es), .lo line, .im row, r5], .im (.nd .tup xs)) := call_im rfl eF hF
  refine rdQ_go R5 (ρ1 := [.im rd, .lo found, .lo (rawD P w es), .lo line, .im row, r5]) (r := [.im (.nd .tup xs), .nw (.nd .lst [])]) (by
    simp [qCons, ecall, toNw, eLst, aNil, useAll, sz, Rz.bind]) fun Hf6 H6 us S6 Q6 => ?_
  match us, Q6 with
  | [v1, .ref q], Q6 =>
  obtain ⟨hv1, R6⟩ := Q6
  replace R6 : Rep ⟨K, mg⟩ ((Γ.addAll es).add q (.nd .lst [])) Hf6 σ H6 [.im rd, .lo found, .lo (rawD P w es), .lo line, .im row, r5] := R6
  have S46 : Same Hf4 Hf6 := S5.trans S6
  obtain ⟨a, rfl, hl, hwr⟩ := R6.loAt (i := 2) rfl hv
  obtain ⟨hn, ha⟩ := raw_at hl
  have hk6 : ∀ e ∈ es, KeyAt ⟨K, mg⟩ Hf6 e.k e.kb := fun e he => (hk e he).same S46
  obtain ⟨kb, rfl⟩ : ∃ kb, v1 = .ref kb := by cases hv1; exact ⟨_, rfl⟩
  have pl : ∀ {d : D}, put [.im rd, .lo found, .lo (rawD P w es), .lo line, .im row, r5] 5 (.im d) = .ok [.im rd, .lo found, .lo (rawD P w es), .lo line, .im row, .im d] := fun {d} => put_im rfl h5
  refine ⟨a, kb, .ref q, k, es.map Ent.raw, rfl, rfl, ha, ?_, by simpa using hz, ?_, ⟨_, hv1.same R6.sub, enk, hd⟩, ?_, ?_, ?_⟩
  · rw [List.map_map]; exact nd
  · intro e he
    obtain ⟨x, hx, rfl⟩ := List.mem_map.mp he
    exact (hk6 x hx).same R6.sub
  · intro p hp v rv
    cases eS : atS (es.map fun e => (e.k, e.rows)) k with
    | none => rw [(atS_none eS).1] at hp; cases hp
    | some rows =>
      obtain ⟨A, e, B, rfl, e1, e2, e3, e4, e5⟩ := atS_some nd eS
      rw [e3] at hp
      cases hp
      have rv' : v = .ref e.q := by
        have rv2 : RelV v (Value.ref e.q) := rv
        cases v with
        | ref x => cases rv2; rfl
        | non => cases rv2
        | bl _ => cases rv2
        | _ => (obtain ⟨_, z⟩ := rv2) <;> exact nomatch z
      subst rv'
      obtain ⟨Hf7, S7, R7⟩ := R6.pop.1.store (r := .im (.ob e.q)) (v := .ref e.q) (show Has _ _ _ _ from .ob _) pl
      exact after A B e Hf7 _ H6 (by simp) (S46.trans S7) R7 e1 e4 e5 (by rw [eS]; exact e2) (by unfold seenAt; rw [eS]) nd fun x hx => (hk6 x hx).same S7
  · intro p hp
    cases eS : atS (es.map fun e => (e.k, e.rows)) k with
    | none => rw [(atS_none eS).1] at hp; cases hp
    | some rows =>
      obtain ⟨A, e, B, rfl, e1, e2, e3, e4, e5⟩ := atS_some nd eS
      rw [e3] at hp
      cases hp
      exact ⟨.ref e.q, rfl⟩
  · intro hno u ru
    obtain rfl : u = Value.ref q := ru.symm ▸ rfl
    cases eS : atS (es.map fun e => (e.k, e.rows)) k with
    | some rows =>
      obtain ⟨A, e, B, rfl, e1, e2, e3, e4, e5⟩ := atS_some nd eS
      rw [e3] at hno; cases hno
    | none =>
      have hne := (atS_none eS).2
      have R7 := hwr (rawD P w (es ++ [⟨k, kb, q, []⟩])) (.ext (dcxRaw a (((es ++ [(⟨k, kb, q, []⟩ : Ent)]).map Ent.raw).map (entN P w)))) (.dcx hn upd_same)
      have ea : (Γ.addAll es).add q (.nd .lst []) = Γ.addAll (es ++ [⟨k, kb, q, []⟩]) := (addAll_snoc Γ es ⟨k, kb, q, []⟩).symm
      rw [ea] at R7
      obtain ⟨Hf8, S8, R8⟩ := R7.store (i := 5) (r := .im (.ob q)) (v := .ref q) (show Has _ _ _ _ from .ob _) (put_im (x := r5) rfl h5)
      have eraw : ((es ++ [(⟨k, kb, q, []⟩ : Ent)]).map Ent.raw).map (entN P w) = ((es.map Ent.raw) ++ [(k, kb, Value.ref q)]).map (entN P w) := by simp [Ent.raw]
      rw [eraw] at R8
      refine after es [] ⟨k, kb, q, []⟩ Hf8 _ _ (by simp) (S46.trans S8) R8 rfl hne (by simp) (by rw [eS]; rfl) (by unfold seenAt; rw [eS]; simp) ?_ ?_
      · rw [List.map_append, List.nodup_append]
        refine ⟨nd, by simp, fun x hx y hy => ?_⟩
        obtain ⟨e, he, rfl⟩ := List.mem_map.mp hx
        have : y = k := by simpa using hy
        subst this
        exact hne e he
      · intro x hx
        rcases List.mem_append.mp hx with z | z
        · exact (hk6 x z).same S8
        · have : x = ⟨k, kb, q, []⟩ := by simpa using z
          subst this
          exact ⟨_, hv1.same S8, enk, hd⟩
theorem sc_within : FnScope ["rows", "found", "seen", "line", "row", "others"] ["rows"] (defScope (top 18)) := ⟨rfl, rfl, rfl, by decide +kernel, rfl, by decide +kernel, by decide +kernel⟩
/-- what is told at the end -/
def Fin (M : Md) (Γ : Gh) (Hf0 : Hp) (l : Nat) (rd : D) (Dn : Ends) (found : List D) : Prop := sz found.length = true ∧
  ∀ Hf' σ' H', σ'.length = l → Same Hf0 Hf' → Rep M Γ Hf' σ' H' [.im rd, .no, .no, .no, .no, .no] → ∀ v, RsIs M Γ Hf' σ' H' [.im rd, .no, .no, .no, .no, .no] (.im (.nd .tup found)) v → Dn.rt v H'
theorem d_within (m : Mods K mg) (D_place_of : Defd P w K mg base 4 "place_of" (top 16) ["row"] m_place_of) (D_parts_of : Defd P w K mg base 2 "parts_of" (top 17) ["row"] m_parts_of) : Defd P w K mg base 5 "within" (top 18) ["rows"] m_within := by
  have sc := sc_within
  unfold m_within
  refine Defd.of (k := 4) (body := g_within) m.d_within sc_within rfl (by decide) fun cdv A outer f s H E hr hgd => ?_
  have hu64 := hr.u64; have hu65 := hr.u65; have hu70 := hr.u70
  refine pss_mono (pss_cons (rs_par3 (W := W0) 1 2 3 rfl sc.nd (by decide) (by decide) (by decide) (rq_cons (re_lst ra_nil) (rq_cons re_dn (rq_cons (re_rev (rh_re (re_callT call_list_of serves_list rfl m.b_list rfl (ra_cons (rh_name 0) ra_nil)))) rq_nil))) rfl)
    (pss_cons (ps_while .never (rt_ne (W := W0) hu64 (rh_name 3) (rh_re (re_lst ra_nil)))
      (pss_cons (rs_set (W := W0) (i := 4) sc.nd (re_mth0 (i := 3) PySem.F.slot_list_pop rfl mt_pop serves_pop))
      (pss_cons (ps_set (i := 5) sc.nd rfl (Or.inl rfl) (pe_sd PySem.F.slot_dict_setdefault rfl (mt_sd hu64) (rh_name (W := W0) 2) (rq_cons (W := W0) (re_call [false] D_place_of (hr.mono (j := 4) (by decide)) hgd (ra_cons (rh_name 4) ra_nil)) (rq_cons (re_lst ra_nil) rq_nil))))
      (pss_one (ps_if (pt_cmpR (op_notInAll hu65) (rh_name (W := W0) 4) (rh_name (W := W0) 5) (by rfl))
        (pss_cons (ps_expr (pe_bm PySem.F.plainAttrs_list PySem.F.slot_list_append rfl mt_append (rh_name (W := W0) 5) (ra_cons (W := W0) (rh_name 4) ra_nil)))
        (rss_cons (W := W0) (rs_expr (re_mth (i := 1) PySem.F.slot_list_append rfl mt_append serves_append (ra_cons (rh_name 4) ra_nil)))
        (rss_one (rs_expr (re_mth (i := 3) PySem.F.slot_list_extend rfl mt_extend serves_extend (ra_cons (rh_re (re_rev (rh_re (re_call [false] D_parts_of (hr.mono (j := 2) (by decide)) hgd (ra_cons (rh_name 4) ra_nil))))) ra_nil))))))
        pss_nil)))))
    (pss_one (rs_ret (W := W0) (re_callT call_tuple_of serves_tuple rfl m.b_tuple rfl (ra_cons (rh_name 1) ra_nil)))))) ?_
  rintro Dn σ Hh ⟨Γ, Hf, ρ, R, hw⟩
  unfold g_within at hw
  split at hw
  case h_2 => exact hw.elim
  rename_i rd
  obtain ⟨r0, er, hw⟩ := ofO_bind hw
  split at hw
  case h_2 => exact hw.elim
  rename_i ds
  -- the loop's function, for all that comes behind
  have hfin : (wLoop wFuel [] [] ds.reverse).wp (fun found => Fin ⟨K, mg⟩ Γ Hf σ.length rd Dn found) fun _ _ => False := by
    cases u : wLoop wFuel [] [] ds.reverse with
    | no => rw [u] at hw; exact hw.elim
    | ex x o => exact absurd u wLoop_noex
    | ok found =>
      rw [u] at hw
      replace hw : (if sz found.length = true then Rz.ok (([Sl.im rd, .no, .no, .no, .no, .no] : Env), Fl.rt (.im (.nd .tup found))) else Rz.no).wp _ _ := hw
      obtain ⟨c, hw⟩ := ite_wp hw
      exact ⟨c, fun Hf' σ' H' hl S R' v hv => hw Hf' σ' H' hl S R' v hv⟩
  refine rdS_go R (ρ1 := [.im rd, .lo (.nd .lst []), .lo (.nd (.dcx []) []), .lo (.nd .lst ds.reverse), .no, .no]) (by
    have : peekAll [Sl.im rd, .no, .no, .no, .no, .no] [.slot 0] = some [rd] := rfl
    simp [gPar, qCons, eLst, aNil, useAll, sz, toNw, eDn, eRev, hH, eB, aCons, rN, this, er, Rs.hold, peek, dRev, parSet, put, Rz.bind]) fun Hf1 σ1 H1 l1 S1 R1 => ?_
  refine Exists.intro (fun n σ2 H2 => ∃ found seen line, WI P w ⟨K, mg⟩ Γ Hf σ.length rd found seen line σ2 H2 ∧ (wLoop n found seen line).wp (fun fd => Fin ⟨K, mg⟩ Γ Hf σ.length rd Dn fd) fun _ _ => False)
    (And.intro ⟨wFuel, [], [], ds.reverse, ⟨⟨[], Hf1, .no, .no, S1, by rw [addAll_nil]; exact R1, .inl rfl, .inl rfl, rfl, by simp, by simp, l1⟩⟩, hfin⟩ ?_)
  rintro n σ2 H2 ⟨found, seen, line, ⟨es, Hf2, r4, r5, S2, R2, h4, h5, rfl, nd, hk, l2⟩, hl⟩
  cases n with
  | zero => exact hl.elim
  | succ n =>
  unfold wLoop at hl
  obtain ⟨b, eb, hl⟩ := ofO_bind hl
  -- line != []
  refine rdT_go R2 (r := b) (ρ1 := [.im rd, .lo (.nd .lst found), .lo (rawD P w es), .lo (.nd .lst line), r4, r5]) (by
    simp [t2, rN, hH, eLst, aNil, useAll, sz, Rs.hold, peek, Sl.peek, eb, Rz.bind]) fun Hf3 H3 S3 R3 => ?_
  cases b with
  | false =>
    refine iteF ?_
    replace hl : Fin ⟨K, mg⟩ Γ Hf σ.length rd Dn found := hl
    obtain ⟨c, hl⟩ := hl
    refine ⟨_, _, _, R3, ?_⟩
    have e : gRet (eB dTuple (aCons (rN 1) aNil)) [.im rd, .lo (.nd .lst found), .lo (rawD P w es), .lo (.nd .lst line), r4, r5] =
        .ok ([.im rd, .lo (.nd .lst found), .lo (rawD P w es), .lo (.nd .lst line), r4, r5], .rt (.im (.nd .tup found))) := by
      have : peekAll [Sl.im rd, .lo (.nd .lst found), .lo (rawD P w es), .lo (.nd .lst line), r4, r5] [.slot 1] = some [.nd .lst found] := rfl
      simp [gRet, eB, aCons, aNil, rN, this, dTuple, c, Rz.bind]
    rw [e]
    intro Hf4 σ4 H4 l4 S4 R4 v hv
    refine hl Hf4 σ4 H4 (l4.trans l2) (S2.trans (S3.trans S4)) ?_ v hv
    refine (R4.popAll rfl).blank rfl fun i x ex => ?_
    match i, ex with
    | 0, ex => exact .inr ex
    | 1, ex => exact .inl (by simpa using ex.symm)
    | 2, ex => exact .inl (by simpa using ex.symm)
    | 3, ex => exact .inl (by simpa using ex.symm)
    | 4, ex => exact .inl (by simpa using ex.symm)
    | 5, ex => exact .inl (by simpa using ex.symm)
    | i + 6, ex => simp at ex
  | true =>
    refine iteT ?_
    rw [if_pos rfl] at hl
    obtain ⟨row, erow, hl⟩ := ofO_bind hl
    obtain ⟨k, ek, hl⟩ := ofO_bind hl
    obtain ⟨clt, hl⟩ := ite_wp hl
    obtain ⟨cc, ec, hl⟩ := ofO_bind hl
    refine ⟨fun σ' H' => ∃ found seen line, WI P w ⟨K, mg⟩ Γ Hf σ.length rd found seen line σ' H' ∧ (wLoop n found seen line).wp (fun fd => Fin ⟨K, mg⟩ Γ Hf σ.length rd Dn fd) (fun _ _ => False), fun σ' H' h => ⟨n, Nat.lt_succ_self n, h⟩, ?_⟩
    have e4 : gSet 4 (eMth 3 mPop aNil) [.im rd, .lo (.nd .lst found), .lo (rawD P w es), .lo (.nd .lst line), r4, r5] = .ok ([.im rd, .lo (.nd .lst found), .lo (rawD P w es), .lo (.nd .lst line.dropLast), .im row, r5], .nx) := by
      have own : ownC [.im rd, .lo (.nd .lst found), .lo (rawD P w es), .lo (.nd .lst line), r4, r5] 3 = some (.lo (.nd .lst line), .nd .lst line) := rfl
      have pt : put [.im rd, .lo (.nd .lst found), .lo (rawD P w es), .lo (.nd .lst line.dropLast), r4, r5] 4 (.im row) = .ok [.im rd, .lo (.nd .lst found), .lo (rawD P w es), .lo (.nd .lst line.dropLast), .im row, r5] := put_im rfl h4
      simp [gSet, eMth, own, isLst, aNil, useAll, mPop, erow, Sl.withD, pt, Rz.bind]
    refine rdS_go R3 e4 fun Hf4 σ4 H4 l4 S4 R4 => ?_
    obtain ⟨o1, xs, epl, enk, hdep⟩ := wKey_some ek
    have S24 : Same Hf2 Hf4 := S3.trans S4
    refine set_step (S2.trans S24) R4 h5 nd (fun e he => (hk e he).same S24) epl (by have := (long_run 1 g_place_of).noX.1 _ _ epl; simpa using this) enk hdep (by have := of_decide_eq_true clt; simpa using this) ?_
    intro A B e Hf7 σ7 H7 l7 S7 R7 hek hA hB hrows hseen nd7 hk7
    have lens : σ7.length = σ.length := l7.trans (l4.trans l2)
    have S27 : Same Hf Hf7 := S2.trans (S24.trans S7)
    refine rdH_go R7 (f := rN 4) (r := .slot 4) (ρ1 := [.im rd, .lo (.nd .lst found), .lo (rawD P w (A ++ e :: B)), .lo (.nd .lst line.dropLast), .im row, .im (.ob e.q)]) rfl fun Hf8 H8 v8 S8 R8 hv8 =>
      rdH_go R8 (f := rN 5) (r := .slot 5) (ρ1 := [.im rd, .lo (.nd .lst found), .lo (rawD P w (A ++ e :: B)), .lo (.nd .lst line.dropLast), .im row, .im (.ob e.q)]) rfl fun Hf9 H9 v9 S9 R9 hv9 => ?_
    have hrow := R9.imAt (i := 4) rfl hv8
    have hob := R9.imAt (i := 5) rfl hv9
    obtain rfl : v9 = .ref e.q := by cases hob; rfl
    obtain ⟨hloc, hwr⟩ := R9.aside
    rw [← hrows] at ec hl
    refine serves_in true Hf9 H9 v8 (.ref e.q) row (.nd .lst e.rows) cc (Has.top R9.sub hrow) hloc.top R9.sub ec _ ⟨cc, rfl, ?_⟩
    have S79 : Same Hf7 Hf9 := S8.trans S9
    cases cc with
    | false =>
      refine iteF ?_
      exact ⟨found, _, line.dropLast, ⟨⟨A ++ e :: B, Hf9, .im row, .im (.ob e.q), S27.trans S79, R9, .inr ⟨_, rfl⟩, .inr ⟨_, rfl⟩, hseen, nd7, fun x hx => (hk7 x hx).same S79, lens⟩⟩, hl⟩
    | true =>
      refine iteT ?_
      rw [if_pos rfl] at hl
      obtain ⟨csz, hl⟩ := ite_wp hl
      obtain ⟨f1, ef, hl⟩ := ofO_bind hl
      obtain ⟨ds2, eds, hl⟩ := ofO_bind hl
      obtain ⟨l1', el, hl⟩ := ofO_bind hl
      obtain ⟨o2, epp⟩ := wParts_some eds
      refine rdH_go R9 (f := rN 5) (r := .slot 5) (ρ1 := [.im rd, .lo (.nd .lst found), .lo (rawD P w (A ++ e :: B)), .lo (.nd .lst line.dropLast), .im row, .im (.ob e.q)]) rfl fun Hf10 H10 v10 S10 R10 hv10 => ⟨?_, ?_⟩
      · have hob := R10.imAt (i := 5) rfl hv10
        obtain rfl : v10 = .ref e.q := by cases hob; rfl
        obtain ⟨hloc, _⟩ := R10.aside
        cases hloc with
        | lst n h t => exact tyV_list h
      have hob := R10.imAt (i := 5) rfl hv10
      obtain rfl : v10 = .ref e.q := by cases hob; rfl
      refine rdHs_go R10 (r := [.slot 4]) (ρ1 := [.im rd, .lo (.nd .lst found), .lo (rawD P w (A ++ e :: B)), .lo (.nd .lst line.dropLast), .im row, .im (.ob e.q)]) rfl fun Hf11 H11 us S11 R11 hus => ?_
      cases hus with
      | cons hu1 hu2 =>
      cases hu2
      rename_i y
      have hy := R11.imAt (i := 4) rfl hu1
      obtain ⟨hloc, hwr⟩ := R11.aside
      have S711 : Same Hf7 Hf11 := S79.trans (S10.trans S11)
      cases hloc with
      | @lst _ vs _ hfn hq ht =>
      refine ⟨e.q, vs, y, rfl, rfl, hq, by rw [← ht.length]; exact of_decide_eq_true csz, ?_⟩
      have R12 := hwr (e.rows ++ [row]) (.lst (vs ++ [y])) (.lst hfn upd_same (ht.append (.single hy)))
      have er : rawD P w (A ++ e :: B) = rawD P w (A ++ { e with rows := e.rows ++ [row] } :: B) := by simp [rawD, Ent.raw]
      rw [er] at R12
      have ecp : ∀ ρ : Env, ρ[4]? = some (.im row) → eCallN 1 (fun a => noX (m_parts_of a)) [false] (aCons (rN 4) aNil) ρ = .ok (ρ, .nw (.nd .lst ds2)) := fun ρ e => call_im e epp (by have := (long_run 2 g_parts_of).noX.1 _ _ epp; simpa using this)
      refine rdS_go R12 (ρ1 := [.im rd, .lo (.nd .lst f1.1), .lo (rawD P w (A ++ { e with rows := e.rows ++ [row] } :: B)), .lo (.nd .lst l1'.1), .im row, .im (.ob e.q)]) ?_ fun Hf13 σ13 H13 l13 S13 R13 => ?_
      · have own1 : ownC [.im rd, .lo (.nd .lst found), .lo (rawD P w (A ++ { e with rows := e.rows ++ [row] } :: B)), .lo (.nd .lst line.dropLast), .im row, .im (.ob e.q)] 1 = some (.lo (.nd .lst found), .nd .lst found) := rfl
        have own2 : ownC [.im rd, .lo (.nd .lst f1.1), .lo (rawD P w (A ++ { e with rows := e.rows ++ [row] } :: B)), .lo (.nd .lst line.dropLast), .im row, .im (.ob e.q)] 3 = some (.lo (.nd .lst line.dropLast), .nd .lst line.dropLast) := rfl
        have c2 := ecp [.im rd, .lo (.nd .lst f1.1), .lo (rawD P w (A ++ { e with rows := e.rows ++ [row] } :: B)), .lo (.nd .lst line.dropLast), .im row, .im (.ob e.q)] rfl
        have st1 : gExpr (eMth 1 mAppend (aCons (rN 4) aNil)) [.im rd, .lo (.nd .lst found), .lo (rawD P w (A ++ { e with rows := e.rows ++ [row] } :: B)), .lo (.nd .lst line.dropLast), .im row, .im (.ob e.q)] =
            .ok ([.im rd, .lo (.nd .lst f1.1), .lo (rawD P w (A ++ { e with rows := e.rows ++ [row] } :: B)), .lo (.nd .lst line.dropLast), .im row, .im (.ob e.q)], .nx) := by
          simp [gExpr, eMth, own1, isLst, aNil, aCons, rN, useAll, use, ef, Sl.withD, Rz.bind]
        have st2 : gExpr (eMth 3 mExtend (aCons (hH (eRev (hH (eCallN 1 (fun a => noX (m_parts_of a)) [false] (aCons (rN 4) aNil))))) aNil)) [.im rd, .lo (.nd .lst f1.1), .lo (rawD P w (A ++ { e with rows := e.rows ++ [row] } :: B)), .lo (.nd .lst line.dropLast), .im row, .im (.ob e.q)] =
            .ok ([.im rd, .lo (.nd .lst f1.1), .lo (rawD P w (A ++ { e with rows := e.rows ++ [row] } :: B)), .lo (.nd .lst l1'.1), .im row, .im (.ob e.q)], .nx) := by
          simp [gExpr, eMth, own2, isLst, aNil, aCons, hH, eRev, c2, Rs.hold, peek, dRev, useAll, use, el, Sl.withD, Rz.bind]
        unfold gSeq
        rw [st1]
        exact st2
      refine ⟨f1.1, _, l1'.1, ⟨⟨A ++ { e with rows := e.rows ++ [row] } :: B, Hf13, .im row, .im (.ob e.q), S27.trans (S711.trans S13), R13, .inr ⟨_, rfl⟩, .inr ⟨_, rfl⟩, ?_, ?_, fun x hx => ?_, l13.trans lens⟩⟩, hl⟩
      · rw [← hseen]; exact (addS_at hek hA hB).symm
      · simpa using nd7
      · rcases List.mem_append.mp hx with z | z
        · exact (hk7 x (List.mem_append_left _ z)).same (S711.trans S13)
        · rcases List.mem_cons.mp z with z | z
          · subst z
            exact (hk7 e (List.mem_append_right _ List.mem_cons_self)).same (S711.trans S13)
          · exact (hk7 x (List.mem_append_right _ (List.mem_cons_of_mem _ z))).same (S711.trans S13)
end
end Fx.K04

set_option Elab.async false
set_option linter.all false
set_option maxRecDepth 100000
set_option maxHeartbeats 4000000
namespace Fx.K04
open PySem L2
section
variable {P : Program} {w : World} {K : PySem.W.Frag} {mg : Str → Option Value} {base : Heap}
theorem sc_stamped : FnScope ["row", "found"] ["row"] (defScope (top 19)) := ⟨rfl, rfl, rfl, by decide +kernel, rfl, by decide +kernel, by decide +kernel⟩
def g_stamped : Env → Rz (Env × Fl) := (gSeq (gSet 1 (eLst aNil))
    (gSeq (gWhile (t2 dIn (hV (v2 dIx (rN 0) (hC (.int 0)))) (hC k_ROWWISE)) (gSeq (gIf (t2 dEq (hV (v2 dIx (rN 0) (hC (.int 0)))) (hC k_STAMP)) (gExpr (eMth 1 mAppend (aCons (hV (vTup (aCons (hV (v2 dIx (rN 0) (hC (.int 1)))) (aCons (hH (eCallN 1 (fun a => noX (m_name_of a)) [false] (aCons (rN 0) aNil))) (aCons (hV (v2 dIx (rN 0) (hC (.int 3)))) aNil))))) aNil))) gNext)
    (gSet 0 (eCallN 1 (fun a => noX (m_inside a)) [false] (aCons (rN 0) aNil)))) 100)
    (gRet (eB dTuple (aCons (rN 1) aNil)))))
def m_stamped : Env → Rz (Env × Rs) := runF 2 g_stamped
theorem d_stamped (m : Mods K mg) (D_inside : Defd P w K mg base 1 "inside" (top 9) ["row"] m_inside) (D_name_of : Defd P w K mg base 3 "name_of" (top 13) ["row"] m_name_of) : Defd P w K mg base 4 "stamped" (top 19) ["row"] m_stamped := by
  have sc := sc_stamped
  unfold m_stamped
  refine Defd.of (k := 3) (body := g_stamped) m.d_stamped sc_stamped rfl (by decide) fun cdv A outer f s H E hr hgd => ?_
  have hu64 := hr.u64; have hu65 := hr.u65; have hu70 := hr.u70
  exact (rss_cons (rs_set (i := 1) sc.nd (re_lst ra_nil))
    (rss_cons (rs_while 100 .never (rt_in hu65 (rh_rv (rv_ix (rh_name 0) (rh_c rv_int))) (rh_c (rv_globC m.c_ROWWISE))) (rss_cons (rs_if (rt_eq hu64 (rh_rv (rv_ix (rh_name 0) (rh_c rv_int))) (rh_c (rv_globC m.c_STAMP))) (rss_one (rs_expr (re_mth (i := 1) PySem.F.slot_list_append rfl mt_append serves_append (ra_cons (rh_rv (rv_tup (ra_cons (rh_rv (rv_ix (rh_name 0) (rh_c rv_int))) (ra_cons (rh_re (re_call [false] D_name_of (hr.mono (j := 3) (by decide)) hgd (ra_cons (rh_name 0) ra_nil))) (ra_cons (rh_rv (rv_ix (rh_name 0) (rh_c rv_int))) ra_nil))))) ra_nil)))) rss_nil)
    (rss_one (rs_set (i := 0) sc.nd (re_call [false] D_inside (hr.mono (j := 1) (by decide)) hgd (ra_cons (rh_name 0) ra_nil))))))
    (rss_one (rs_ret (re_callT call_tuple_of serves_tuple rfl m.b_tuple rfl (ra_cons (rh_name 1) ra_nil))))))
theorem sc_passed : FnScope ["row", "found"] ["row"] (defScope (top 20)) := ⟨rfl, rfl, rfl, by decide +kernel, rfl, by decide +kernel, by decide +kernel⟩
def g_passed : Env → Rz (Env × Fl) := (gSeq (gSet 1 (eLst aNil))
    (gSeq (gWhile (t2 dIn (hV (v2 dIx (rN 0) (hC (.int 0)))) (hC k_ROWWISE)) (gSeq (gExpr (eMth 1 mAppend (aCons (hV (v2 dIx (rN 0) (hC (.int 1)))) aNil)))
    (gSet 0 (eCallN 1 (fun a => noX (m_inside a)) [false] (aCons (rN 0) aNil)))) 100)
    (gRet (eB dTuple (aCons (rN 1) aNil)))))
def m_passed : Env → Rz (Env × Rs) := runF 2 g_passed
theorem d_passed (m : Mods K mg) (D_inside : Defd P w K mg base 1 "inside" (top 9) ["row"] m_inside) : Defd P w K mg base 2 "passed" (top 20) ["row"] m_passed := by
  have sc := sc_passed
  unfold m_passed
  refine Defd.of (k := 1) (body := g_passed) m.d_passed sc_passed rfl (by decide) fun cdv A outer f s H E hr hgd => ?_
  have hu64 := hr.u64; have hu65 := hr.u65; have hu70 := hr.u70
  exact (rss_cons (rs_set (i := 1) sc.nd (re_lst ra_nil))
    (rss_cons (rs_while 100 .never (rt_in hu65 (rh_rv (rv_ix (rh_name 0) (rh_c rv_int))) (rh_c (rv_globC m.c_ROWWISE))) (rss_cons (rs_expr (re_mth (i := 1) PySem.F.slot_list_append rfl mt_append serves_append (ra_cons (rh_rv (rv_ix (rh_name 0) (rh_c rv_int))) ra_nil)))
    (rss_one (rs_set (i := 0) sc.nd (re_call [false] D_inside (hr.mono (j := 1) (by decide)) hgd (ra_cons (rh_name 0) ra_nil))))))
    (rss_one (rs_ret (re_callT call_tuple_of serves_tuple rfl m.b_tuple rfl (ra_cons (rh_name 1) ra_nil))))))
theorem sc__law_pen : FnScope ["script"] ["script"] (defScope (top 22)) := ⟨rfl, rfl, rfl, by decide +kernel, rfl, by decide +kernel, by decide +kernel⟩
def g__law_pen : Env → Rz (Env × Fl) := (gRet (eLst (aCons (hH (eB dList (aCons (hH (eSl (rN 0) oNone (oSome (vC (.int 63))))) aNil))) (aCons (hC (.int 0)) (aCons (hC (.int 0)) aNil)))))
def m__law_pen : Env → Rz (Env × Rs) := runF 1 g__law_pen
theorem d__law_pen (m : Mods K mg) : Defd P w K mg base 1 "_law_pen" (top 22) ["script"] m__law_pen := by
  have sc := sc__law_pen
  unfold m__law_pen
  refine Defd.of (k := 0) (body := g__law_pen) m.d__law_pen sc__law_pen rfl (by decide) fun cdv A outer f s H E hr hgd => ?_
  have hu64 := hr.u64; have hu65 := hr.u65; have hu70 := hr.u70
  exact (rss_one (rs_ret (re_lst (ra_cons (rh_re (re_callT call_list_of serves_list rfl m.b_list rfl (ra_cons (rh_re (re_slice (rh_name 0) ro_none (ro_some rv_int))) ra_nil))) (ra_cons (rh_c rv_int) (ra_cons (rh_c rv_int) ra_nil))))))
theorem sc__law_draw : FnScope ["pen", "many", "digit", "at", "cell", "great", "mixed"] ["pen", "many"] (defScope (top 23)) := ⟨rfl, rfl, rfl, by decide +kernel, rfl, by decide +kernel, by decide +kernel⟩
def g__law_draw : Env → Rz (Env × Fl) := (gSeq (gIf (t2 dLt (rN 1) (hC (.int 2))) (gRet (hV (vC (.int 0)))) gNext)
    (gSeq (gIf (t2 dGt (hV (v2 dIx (rN 0) (hC (.int 2)))) (hC (.int 0))) (gSeq (gSet 2 (hV (v2 dMod (hH (eB dInt (aCons (hV (v2 dIx (rN 0) (hC (.int 2)))) aNil))) (rN 1))))
    (gSeq (gSub 0 (hC (.int 2)) (v2 dDiv (hH (eB dInt (aCons (hV (v2 dIx (rN 0) (hC (.int 2)))) aNil))) (rN 1)))
    (gRet (rN 2)))) gNext)
    (gSeq (gSet 3 (hV (v2 dIx (rN 0) (hC (.int 1)))))
    (gSeq (gSub 0 (hC (.int 1)) (vU (e2 dAdd (rN 3) (hC (.int 1)))))
    (gSeq (gSet 4 (e2 dAdd (hV (v2 dMul (hC (.int 60307)) (rN 3))) (hC (.int 7123))))
    (gSeq (gIf (t2 dNe (hV (v2 dIx (rN 0) (hC (.int 0)))) (hH (eLst aNil))) (gSet 4 (hV (v2 dIx (hV (v2 dIx (rN 0) (hC (.int 0)))) (hV (v2 dMod (hH (eB dInt (aCons (rN 3) aNil))) (hH (eB dLen (aCons (hV (v2 dIx (rN 0) (hC (.int 0)))) aNil)))))))) gNext)
    (gSeq (gIf (tAnd (t2 dLt (rN 3) (hH (eB dLen (aCons (hV (v2 dIx (rN 0) (hC (.int 0)))) aNil)))) (t2 dGe (hH (eB dAbs (aCons (rN 4) aNil))) (hV (v2 dPow (hC (.int 10)) (hC (.int 18)))))) (gSeq (gSet 5 (e2 dAdd (hV (v2 dMul (hC (.int 2)) (hV (v2 dSub (hH (eB dAbs (aCons (rN 4) aNil))) (hV (v2 dPow (hC (.int 10)) (hC (.int 18)))))))) (hH (eB dInt (aCons (hV (v2 (dB dLt) (rN 4) (hC (.int 0)))) aNil)))))
    (gSeq (gSub 0 (hC (.int 2)) (v2 dDiv (hH (eB dInt (aCons (rN 5) aNil))) (rN 1)))
    (gRet (hV (v2 dMod (hH (eB dInt (aCons (rN 5) aNil))) (rN 1)))))) gNext)
    (gSeq (gSet 6 (hV (v2 dMod (hH (eB dInt (aCons (hV (v2 dPow (hH (e2 dAdd (hH (e2 dAdd (hV (v2 dMod (hH (eB dInt (aCons (rN 4) aNil))) (hC (.int 2147483549)))) (hV (v2 dMul (hC (.int 21243)) (rN 3))))) (hC (.int 7123)))) (hC (.int 3)))) aNil))) (hC (.int 2147483629)))))
    (gSeq (gSet 6 (hV (v2 dMod (hH (eB dInt (aCons (hV (v2 dPow (hH (e2 dAdd (hH (e2 dAdd (hV (v2 dMul (rN 6) (hH (e2 dAdd (hV (v2 dMul (hC (.int 2)) (rN 3))) (hC (.int 5288)))))) (hV (v2 dMul (hV (v2 dMul (hC (.int 60307)) (rN 3))) (rN 3))))) (hC (.int 21243)))) (hC (.int 5)))) aNil))) (hC (.int 2147483563)))))
    (gRet (hV (v2 dMod (hH (eB dInt (aCons (hV (v2 dDiv (rN 6) (hC (.int 16)))) aNil))) (rN 1)))))))))))))
def m__law_draw : Env → Rz (Env × Rs) := runF 7 g__law_draw
theorem d__law_draw (m : Mods K mg) : Defd P w K mg base 1 "_law_draw" (top 23) ["pen", "many"] m__law_draw := by
  have sc := sc__law_draw
  unfold m__law_draw
  refine Defd.of (k := 0) (body := g__law_draw) m.d__law_draw sc__law_draw rfl (by decide) fun cdv A outer f s H E hr hgd => ?_
  have hu64 := hr.u64; have hu65 := hr.u65; have hu70 := hr.u70
  exact (rss_cons (rs_if (rt_lt (rh_name 1) (rh_c rv_int)) (rss_one (rs_ret (re_of rv_int))) rss_nil)
    (rss_cons (rs_if (rt_gt (rh_rv (rv_ix (rh_name 0) (rh_c rv_int))) (rh_c rv_int)) (rss_cons (rs_set (i := 2) sc.nd (re_of (rv_mod (rh_re (re_callT call_int1 serves_int rfl m.b_int rfl (ra_cons (rh_rv (rv_ix (rh_name 0) (rh_c rv_int))) ra_nil))) (rh_name 1))))
    (rss_cons (rs_sub 0 (rv_div (rh_re (re_callT call_int1 serves_int rfl m.b_int rfl (ra_cons (rh_rv (rv_ix (rh_name 0) (rh_c rv_int))) ra_nil))) (rh_name 1)) (rh_c rv_int))
    (rss_one (rs_ret (re_name 2))))) rss_nil)
    (rss_cons (rs_set (i := 3) sc.nd (re_of (rv_ix (rh_name 0) (rh_c rv_int))))
    (rss_cons (rs_sub 0 (rv_of (re_add (rh_name 3) (rh_c rv_int))) (rh_c rv_int))
    (rss_cons (rs_set (i := 4) sc.nd (re_add (rh_rv (rv_mul (rh_c rv_int) (rh_name 3))) (rh_c rv_int)))
    (rss_cons (rs_if (rt_ne hu64 (rh_rv (rv_ix (rh_name 0) (rh_c rv_int))) (rh_re (re_lst ra_nil))) (rss_one (rs_set (i := 4) sc.nd (re_of (rv_ix (rh_rv (rv_ix (rh_name 0) (rh_c rv_int))) (rh_rv (rv_mod (rh_re (re_callT call_int1 serves_int rfl m.b_int rfl (ra_cons (rh_name 3) ra_nil))) (rh_re (re_callB call_len serves_len rfl m.b_len rfl (ra_cons (rh_rv (rv_ix (rh_name 0) (rh_c rv_int))) ra_nil))))))))) rss_nil)
    (rss_cons (rs_if (rt_w (rw_and (rt_lt (rh_name 3) (rh_re (re_callB call_len serves_len rfl m.b_len rfl (ra_cons (rh_rv (rv_ix (rh_name 0) (rh_c rv_int))) ra_nil)))) (rw_and1 (rt_ge (rh_re (re_callB call_abs serves_abs rfl m.b_abs rfl (ra_cons (rh_name 4) ra_nil))) (rh_rv (rv_pow (rh_c rv_int) (rh_c rv_int))))))) (rss_cons (rs_set (i := 5) sc.nd (re_add (rh_rv (rv_mul (rh_c rv_int) (rh_rv (rv_sub (rh_re (re_callB call_abs serves_abs rfl m.b_abs rfl (ra_cons (rh_name 4) ra_nil))) (rh_rv (rv_pow (rh_c rv_int) (rh_c rv_int))))))) (rh_re (re_callT call_int1 serves_int rfl m.b_int rfl (ra_cons (rh_rv (rv_lt (rh_name 4) (rh_c rv_int))) ra_nil)))))
    (rss_cons (rs_sub 0 (rv_div (rh_re (re_callT call_int1 serves_int rfl m.b_int rfl (ra_cons (rh_name 5) ra_nil))) (rh_name 1)) (rh_c rv_int))
    (rss_one (rs_ret (re_of (rv_mod (rh_re (re_callT call_int1 serves_int rfl m.b_int rfl (ra_cons (rh_name 5) ra_nil))) (rh_name 1))))))) rss_nil)
    (rss_cons (rs_set (i := 6) sc.nd (re_of (rv_mod (rh_re (re_callT call_int1 serves_int rfl m.b_int rfl (ra_cons (rh_rv (rv_pow (rh_re (re_add (rh_re (re_add (rh_rv (rv_mod (rh_re (re_callT call_int1 serves_int rfl m.b_int rfl (ra_cons (rh_name 4) ra_nil))) (rh_c rv_int))) (rh_rv (rv_mul (rh_c rv_int) (rh_name 3))))) (rh_c rv_int))) (rh_c rv_int))) ra_nil))) (rh_c rv_int))))
    (rss_cons (rs_set (i := 6) sc.nd (re_of (rv_mod (rh_re (re_callT call_int1 serves_int rfl m.b_int rfl (ra_cons (rh_rv (rv_pow (rh_re (re_add (rh_re (re_add (rh_rv (rv_mul (rh_name 6) (rh_re (re_add (rh_rv (rv_mul (rh_c rv_int) (rh_name 3))) (rh_c rv_int))))) (rh_rv (rv_mul (rh_rv (rv_mul (rh_c rv_int) (rh_name 3))) (rh_name 3))))) (rh_c rv_int))) (rh_c rv_int))) ra_nil))) (rh_c rv_int))))
    (rss_one (rs_ret (re_of (rv_mod (rh_re (re_callT call_int1 serves_int rfl m.b_int rfl (ra_cons (rh_rv (rv_div (rh_name 6) (rh_c rv_int))) ra_nil))) (rh_name 1))))))))))))))
theorem sc__law_pick : FnScope ["pen", "some"] ["pen", "some"] (defScope (top 24)) := ⟨rfl, rfl, rfl, by decide +kernel, rfl, by decide +kernel, by decide +kernel⟩
def g__law_pick : Env → Rz (Env × Fl) := (gRet (hV (v2 dIx (rN 1) (hH (eCallN 2 (fun a => noX (m__law_draw a)) [true, false] (aCons (rN 0) (aCons (hH (eB dLen (aCons (rN 1) aNil))) aNil)))))))
def m__law_pick : Env → Rz (Env × Rs) := runF 2 g__law_pick
theorem d__law_pick (m : Mods K mg) (D__law_draw : Defd P w K mg base 1 "_law_draw" (top 23) ["pen", "many"] m__law_draw) : Defd P w K mg base 2 "_law_pick" (top 24) ["pen", "some"] m__law_pick := by
  have sc := sc__law_pick
  unfold m__law_pick
  refine Defd.of (k := 1) (body := g__law_pick) m.d__law_pick sc__law_pick rfl (by decide) fun cdv A outer f s H E hr hgd => ?_
  have hu64 := hr.u64; have hu65 := hr.u65; have hu70 := hr.u70
  exact (rss_one (rs_ret (re_of (rv_ix (rh_name 1) (rh_re (re_call [true, false] D__law_draw (hr.mono (j := 1) (by decide)) hgd (ra_cons (rh_name 0) (ra_cons (rh_re (re_callB call_len serves_len rfl m.b_len rfl (ra_cons (rh_name 1) ra_nil))) ra_nil))))))))
theorem sc__law_base : FnScope ["row"] ["row"] (defScope (top 25)) := ⟨rfl, rfl, rfl, by decide +kernel, rfl, by decide +kernel, by decide +kernel⟩
def g__law_base (self : Env → Rz (Env × Rs)) : Env → Rz (Env × Fl) := (gSeq (gIf (t2 dIn (hV (v2 dIx (rN 0) (hC (.int 0)))) (hV (vTup (aCons (hC (.str "row")) (aCons (hC (.str "fold")) (aCons (hC (.str "window")) aNil)))))) (gRet (rN 0)) gNext)
    (gRet (eCallN 1 (fun a => noX (self a)) [false] (aCons (hV (vIf (t2 dEq (hV (v2 dIx (rN 0) (hC (.int 0)))) (hC (.str "mix"))) (v2 dIx (rN 0) (hC (.int 3))) (v2 dIx (rN 0) (hC (.int 2))))) aNil))))
def m__law_base : Nat → Env → Rz (Env × Rs)
  | 0 => fun _ => .no
  | n + 1 => runF 1 (g__law_base (m__law_base n))
theorem d__law_base (m : Mods K mg) : ∀ n : Nat, Defd P w K mg base (0 + n) "_law_base" (top 25) ["row"] (m__law_base n)
  | 0 => .zero m.d__law_base
  | n + 1 => by
    have ih := d__law_base m n
    have sc := sc__law_base
    refine Defd.of (k := 0 + n) (body := g__law_base (m__law_base n)) m.d__law_base sc__law_base rfl (by decide) fun cdv A outer f s H E hr hgd => ?_
    have hu64 := hr.u64; have hu65 := hr.u65; have hu70 := hr.u70
    exact (rss_cons (rs_if (rt_in hu65 (rh_rv (rv_ix (rh_name 0) (rh_c rv_int))) (rh_rv (rv_tup (ra_cons (rh_c rv_str) (ra_cons (rh_c rv_str) (ra_cons (rh_c rv_str) ra_nil)))))) (rss_one (rs_ret (re_name 0))) rss_nil)
    (rss_one (rs_ret (re_call [false] ih hr hgd (ra_cons (rh_rv (rv_if (rt_eq hu64 (rh_rv (rv_ix (rh_name 0) (rh_c rv_int))) (rh_c rv_str)) (rv_ix (rh_name 0) (rh_c rv_int)) (rv_ix (rh_name 0) (rh_c rv_int)))) ra_nil)))))
theorem sc__law_sides : FnScope ["row"] ["row"] (defScope (top 26)) := ⟨rfl, rfl, rfl, by decide +kernel, rfl, by decide +kernel, by decide +kernel⟩
def g__law_sides (self : Env → Rz (Env × Rs)) : Env → Rz (Env × Fl) := (gSeq (gIf (t2 dIn (hV (v2 dIx (rN 0) (hC (.int 0)))) (hV (vTup (aCons (hC (.str "row")) (aCons (hC (.str "fold")) (aCons (hC (.str "window")) aNil)))))) (gRet (hV (vTup aNil))) gNext)
    (gRet (e2 dAdd (hH (eCallN 1 (fun a => noX (self a)) [false] (aCons (hV (vIf (t2 dEq (hV (v2 dIx (rN 0) (hC (.int 0)))) (hC (.str "mix"))) (v2 dIx (rN 0) (hC (.int 3))) (v2 dIx (rN 0) (hC (.int 2))))) aNil))) (hV (vIf (t2 dEq (hV (v2 dIx (rN 0) (hC (.int 0)))) (hC (.str "mix"))) (vTup (aCons (hV (vTup (aCons (hV (v2 dIx (rN 0) (hC (.int 1)))) (aCons (hV (v2 dIx (rN 0) (hC (.int 2)))) aNil)))) aNil)) (vTup aNil))))))
def m__law_sides : Nat → Env → Rz (Env × Rs)
  | 0 => fun _ => .no
  | n + 1 => runF 1 (g__law_sides (m__law_sides n))
theorem d__law_sides (m : Mods K mg) : ∀ n : Nat, Defd P w K mg base (0 + n) "_law_sides" (top 26) ["row"] (m__law_sides n)
  | 0 => .zero m.d__law_sides
  | n + 1 => by
    have ih := d__law_sides m n
    have sc := sc__law_sides
    refine Defd.of (k := 0 + n) (body := g__law_sides (m__law_sides n)) m.d__law_sides sc__law_sides rfl (by decide) fun cdv A outer f s H E hr hgd => ?_
    have hu64 := hr.u64; have hu65 := hr.u65; have hu70 := hr.u70
    exact (rss_cons (rs_if (rt_in hu65 (rh_rv (rv_ix (rh_name 0) (rh_c rv_int))) (rh_rv (rv_tup (ra_cons (rh_c rv_str) (ra_cons (rh_c rv_str) (ra_cons (rh_c rv_str) ra_nil)))))) (rss_one (rs_ret (re_of (rv_tup ra_nil)))) rss_nil)
    (rss_one (rs_ret (re_add (rh_re (re_call [false] ih hr hgd (ra_cons (rh_rv (rv_if (rt_eq hu64 (rh_rv (rv_ix (rh_name 0) (rh_c rv_int))) (rh_c rv_str)) (rv_ix (rh_name 0) (rh_c rv_int)) (rv_ix (rh_name 0) (rh_c rv_int)))) ra_nil))) (rh_rv (rv_if (rt_eq hu64 (rh_rv (rv_ix (rh_name 0) (rh_c rv_int))) (rh_c rv_str)) (rv_tup (ra_cons (rh_rv (rv_tup (ra_cons (rh_rv (rv_ix (rh_name 0) (rh_c rv_int))) (ra_cons (rh_rv (rv_ix (rh_name 0) (rh_c rv_int))) ra_nil)))) ra_nil)) (rv_tup ra_nil)))))))
theorem sc__law_name : FnScope ["row", "base"] ["row"] (defScope (top 27)) := ⟨rfl, rfl, rfl, by decide +kernel, rfl, by decide +kernel, by decide +kernel⟩
def g__law_name : Env → Rz (Env × Fl) := (gSeq (gSet 1 (eCallN 1 (fun a => noX (m__law_base 30 a)) [false] (aCons (rN 0) aNil)))
    (gRet (hV (vTup (aCons (hV (v2 dIx (rN 1) (hC (.int 1)))) (aCons (hV (vIf (t2 dEq (hV (v2 dIx (rN 1) (hC (.int 0)))) (hC (.str "fold"))) (v2 dSub (hH (eB dLen (aCons (hV (v2 dIx (rN 1) (hC (.int 2)))) aNil))) (hC (.int 1))) (v2 dIx (rN 1) (hC (.int 2))))) (aCons (hH (eCallN 1 (fun a => noX (m__law_sides 30 a)) [false] (aCons (rN 0) aNil))) aNil)))))))
def m__law_name : Env → Rz (Env × Rs) := runF 2 g__law_name
theorem d__law_name (m : Mods K mg) (D__law_base : Defd P w K mg base 30 "_law_base" (top 25) ["row"] (m__law_base 30)) (D__law_sides : Defd P w K mg base 30 "_law_sides" (top 26) ["row"] (m__law_sides 30)) : Defd P w K mg base 31 "_law_name" (top 27) ["row"] m__law_name := by
  have sc := sc__law_name
  unfold m__law_name
  refine Defd.of (k := 30) (body := g__law_name) m.d__law_name sc__law_name rfl (by decide) fun cdv A outer f s H E hr hgd => ?_
  have hu64 := hr.u64; have hu65 := hr.u65; have hu70 := hr.u70
  exact (rss_cons (rs_set (i := 1) sc.nd (re_call [false] D__law_base (hr.mono (j := 30) (by decide)) hgd (ra_cons (rh_name 0) ra_nil)))
    (rss_one (rs_ret (re_of (rv_tup (ra_cons (rh_rv (rv_ix (rh_name 1) (rh_c rv_int))) (ra_cons (rh_rv (rv_if (rt_eq hu64 (rh_rv (rv_ix (rh_name 1) (rh_c rv_int))) (rh_c rv_str)) (rv_sub (rh_re (re_callB call_len serves_len rfl m.b_len rfl (ra_cons (rh_rv (rv_ix (rh_name 1) (rh_c rv_int))) ra_nil))) (rh_c rv_int)) (rv_ix (rh_name 1) (rh_c rv_int)))) (ra_cons (rh_re (re_call [false] D__law_sides (hr.mono (j := 30) (by decide)) hgd (ra_cons (rh_name 0) ra_nil))) ra_nil))))))))
theorem sc__law_within : FnScope ["rows", "found", "line", "at", "turn", "row", "spot"] ["rows"] (defScope (top 28)) := ⟨rfl, rfl, rfl, by decide +kernel, rfl, by decide +kernel, by decide +kernel⟩
def g__law_within : Env → Rz (Env × Fl) := (gSeq (gPar [1, 2, 3] (qCons (eLst aNil) (qCons (eB dList (aCons (rN 0) aNil)) (qCons (hV (vC (.int 0))) aNil))))
    (gSeq (gFor (iRng dRng1 (aCons (hC (.int 100000)) aNil)) (tgN 4) (gSeq (gIf (t2 dGe (rN 3) (hH (eB dLen (aCons (rN 2) aNil)))) gBreak gNext)
    (gSeq (gAsg (tgT [(tgN 5), (tgN 3)]) (vTup (aCons (hV (v2 dIx (rN 2) (rN 3))) (aCons (hH (e2 dAdd (rN 3) (hC (.int 1)))) aNil))))
    (gSeq (gIf (t2 dIn (rN 5) (rN 1)) gCont gNext)
    (gSeq (gExpr (eMth 1 mAppend (aCons (rN 5) aNil)))
    (gIf (t2 dIn (hV (v2 dIx (rN 5) (hC (.int 0)))) (hV (vTup (aCons (hC (.str "fold")) (aCons (hC (.str "window")) aNil))))) (gSeq (gExpr (eMth 2 mExtend (aCons (hH (eB dList (aCons (hV (vIf (t2 dEq (hV (v2 dIx (rN 5) (hC (.int 0)))) (hC (.str "fold"))) (v2 dIx (rN 5) (hC (.int 2))) (v2 dIx (rN 5) (hC (.int 3))))) aNil))) aNil)))
    (gIf (t2 dEq (hV (v2 dIx (rN 5) (hC (.int 0)))) (hC (.str "fold"))) (gExpr (eMth 2 mExtend (aCons (hH (eLc [6] (iRng dRng2 (aCons (hC (.int 1)) (aCons (hH (eB dLen (aCons (hV (v2 dIx (rN 5) (hC (.int 2)))) aNil))) aNil))) (tgN 6) tYes (vTup (aCons (hC (.str "fold")) (aCons (hV (v2 dIx (rN 5) (hC (.int 1)))) (aCons (hH (eSl (hV (v2 dIx (rN 5) (hC (.int 2)))) oNone (oSome (vN 6)))) aNil)))))) aNil))) gNext)) (gIf (t2 dNe (hV (v2 dIx (rN 5) (hC (.int 0)))) (hC (.str "row"))) (gExpr (eMth 2 mAppend (aCons (hV (vIf (t2 dEq (hV (v2 dIx (rN 5) (hC (.int 0)))) (hC (.str "mix"))) (v2 dIx (rN 5) (hC (.int 3))) (v2 dIx (rN 5) (hC (.int 2))))) aNil))) gNext)))))))
    (gRet (rN 1))))
def m__law_within : Env → Rz (Env × Rs) := runF 7 g__law_within
theorem d__law_within (m : Mods K mg) : Defd P w K mg base 1 "_law_within" (top 28) ["rows"] m__law_within := by
  have sc := sc__law_within
  unfold m__law_within
  refine Defd.of (k := 0) (body := g__law_within) m.d__law_within sc__law_within rfl (by decide) fun cdv A outer f s H E hr hgd => ?_
  have hu64 := hr.u64; have hu65 := hr.u65; have hu70 := hr.u70
  exact (rss_cons (rs_par3 1 2 3 rfl sc.nd (by decide) (by decide) (by decide) (rq_cons (re_lst ra_nil) (rq_cons (re_callT call_list_of serves_list rfl m.b_list rfl (ra_cons (rh_name 0) ra_nil)) (rq_cons (re_of rv_int) rq_nil))) rfl)
    (rss_cons (rs_for .never rfl (ri_range1 rfl m.b_range (ra_cons (rh_c rv_int) ra_nil)) (rg_name (i := 4) sc.nd) (rss_cons (rs_if (rt_ge (rh_name 3) (rh_re (re_callB call_len serves_len rfl m.b_len rfl (ra_cons (rh_name 2) ra_nil)))) (rss_one rs_break) rss_nil)
    (rss_cons (rs_asg (rv_tup (ra_cons (rh_rv (rv_ix (rh_name 2) (rh_name 3))) (ra_cons (rh_re (re_add (rh_name 3) (rh_c rv_int))) ra_nil))) (rg_tup rfl (rgs_cons (rg_name (i := 5) sc.nd) (rgs_cons (rg_name (i := 3) sc.nd) rgs_nil))))
    (rss_cons (rs_if (rt_in hu65 (rh_name 5) (rh_name 1)) (rss_one rs_cont) rss_nil)
    (rss_cons (rs_expr (re_mth (i := 1) PySem.F.slot_list_append rfl mt_append serves_append (ra_cons (rh_name 5) ra_nil)))
    (rss_one (rs_if (rt_in hu65 (rh_rv (rv_ix (rh_name 5) (rh_c rv_int))) (rh_rv (rv_tup (ra_cons (rh_c rv_str) (ra_cons (rh_c rv_str) ra_nil))))) (rss_cons (rs_expr (re_mth (i := 2) PySem.F.slot_list_extend rfl mt_extend serves_extend (ra_cons (rh_re (re_callT call_list_of serves_list rfl m.b_list rfl (ra_cons (rh_rv (rv_if (rt_eq hu64 (rh_rv (rv_ix (rh_name 5) (rh_c rv_int))) (rh_c rv_str)) (rv_ix (rh_name 5) (rh_c rv_int)) (rv_ix (rh_name 5) (rh_c rv_int)))) ra_nil))) ra_nil)))
    (rss_one (rs_if (rt_eq hu64 (rh_rv (rv_ix (rh_name 5) (rh_c rv_int))) (rh_c rv_str)) (rss_one (rs_expr (re_mth (i := 2) PySem.F.slot_list_extend rfl mt_extend serves_extend (ra_cons (rh_re (re_lc [("spot", 6)] rfl sc.nd (ri_range2 rfl m.b_range (ra_cons (rh_c rv_int) (ra_cons (rh_re (re_callB call_len serves_len rfl m.b_len rfl (ra_cons (rh_rv (rv_ix (rh_name 5) (rh_c rv_int))) ra_nil))) ra_nil))) (blkOk_by (N := ["rows", "found", "line", "at", "turn", "row", "spot"]) (sc := defScope (top 28)) (by decide +kernel)) (by decide) (fun _ _ _ _ _ => (rg_name (i := 6) sc.nd)) (fun _ _ _ _ _ => rts_nil) (fun _ _ _ _ _ => (rv_tup (ra_cons (rh_c rv_str) (ra_cons (rh_rv (rv_ix (rh_name 5) (rh_c rv_int))) (ra_cons (rh_re (re_slice (rh_rv (rv_ix (rh_name 5) (rh_c rv_int))) ro_none (ro_some (rv_name 6)))) ra_nil))))))) ra_nil)))) rss_nil))) (rss_one (rs_if (rt_ne hu64 (rh_rv (rv_ix (rh_name 5) (rh_c rv_int))) (rh_c rv_str)) (rss_one (rs_expr (re_mth (i := 2) PySem.F.slot_list_append rfl mt_append serves_append (ra_cons (rh_rv (rv_if (rt_eq hu64 (rh_rv (rv_ix (rh_name 5) (rh_c rv_int))) (rh_c rv_str)) (rv_ix (rh_name 5) (rh_c rv_int)) (rv_ix (rh_name 5) (rh_c rv_int)))) ra_nil)))) rss_nil)))))))))
    (rss_one (rs_ret (re_name 1)))))
theorem sc__law_a_row : FnScope ["pen", "deep", "folds", "way", "some", "inner", "turn"] ["pen", "deep", "folds"] (defScope (top 29)) := ⟨rfl, rfl, rfl, by decide +kernel, rfl, by decide +kernel, by decide +kernel⟩
def g__law_a_row (self : Env → Rz (Env × Rs)) : Env → Rz (Env × Fl) := (gSeq (gSet 3 (eIf (t2 dGt (rN 1) (hC (.int 0))) (eCallN 2 (fun a => noX (m__law_draw a)) [true, false] (aCons (rN 0) (aCons (hC (.int 8)) aNil))) (eCallN 2 (fun a => noX (m__law_draw a)) [true, false] (aCons (rN 0) (aCons (hC (.int 3)) aNil)))))
    (gSeq (gIf (tOr (t2 dLt (rN 3) (hC (.int 2))) (tAnd (t2 dEq (rN 3) (hC (.int 2))) (t2 dEq (rN 2) (hC (.int 0))))) (gRet (hV (vTup (aCons (hC (.str "row")) (aCons (hH (eCallN 2 (fun a => noX (m__law_pick a)) [true, false] (aCons (rN 0) (aCons (hH (eLst (aCons (hC (.str "s")) (aCons (hC (.str "log")) (aCons (hC (.str "zzzzzzzz")) aNil))))) aNil)))) (aCons (hH (eCallN 2 (fun a => noX (m__law_draw a)) [true, false] (aCons (rN 0) (aCons (hC (.int 20)) aNil)))) (aCons (hH (eCallN 2 (fun a => noX (m__law_pick a)) [true, false] (aCons (rN 0) (aCons (hH (eLst (aCons (hC (.int 0)) (aCons (hC (.int 7)) (aCons (hV (v2 dPow (hC (.int 10)) (hC (.int 6)))) (aCons (hH (eCallN 2 (fun a => noX (m__law_draw a)) [true, false] (aCons (rN 0) (aCons (hC (.int 99)) aNil)))) aNil)))))) aNil)))) aNil))))))) gNext)
    (gSeq (gIf (t2 dEq (rN 3) (hC (.int 2))) (gSeq (gSet 4 (eB dTuple (aCons (hH (eLc [6] (iRng dRng1 (aCons (hH (e2 dAdd (hC (.int 1)) (hH (eCallN 2 (fun a => noX (m__law_draw a)) [true, false] (aCons (rN 0) (aCons (hC (.int 4)) aNil)))))) aNil)) (tgN 6) tYes (vU (eCallN 3 (fun a => noX (self a)) [true, false, false] (aCons (rN 0) (aCons (hC (.int 1)) (aCons (hV (v2 dSub (rN 2) (hC (.int 1)))) aNil))))))) aNil)))
    (gRet (hV (vIf (t2 dEq (hH (eCallN 2 (fun a => noX (m__law_draw a)) [true, false] (aCons (rN 0) (aCons (hC (.int 2)) aNil)))) (hC (.int 0))) (vTup (aCons (hC (.str "fold")) (aCons (hH (eCallN 2 (fun a => noX (m__law_pick a)) [true, false] (aCons (rN 0) (aCons (hH (eLst (aCons (hC (.str "f")) (aCons (hC (.str "sum")) aNil)))) aNil)))) (aCons (rN 4) aNil)))) (vTup (aCons (hC (.str "window")) (aCons (hC (.str "w")) (aCons (hH (eCallN 2 (fun a => noX (m__law_draw a)) [true, false] (aCons (rN 0) (aCons (hC (.int 9)) aNil)))) (aCons (rN 4) aNil))))))))) gNext)
    (gSeq (gSet 5 (eCallN 3 (fun a => noX (self a)) [true, false, false] (aCons (rN 0) (aCons (hV (v2 dSub (rN 1) (hC (.int 1)))) (aCons (rN 2) aNil)))))
    (gSeq (gIf (t2 dEq (rN 3) (hC (.int 3))) (gRet (hV (vTup (aCons (hC (.str "map")) (aCons (hH (eCallN 2 (fun a => noX (m__law_pick a)) [true, false] (aCons (rN 0) (aCons (hH (eLst (aCons (hC (.str "m")) (aCons (hC (.str "n")) aNil)))) aNil)))) (aCons (rN 5) aNil)))))) gNext)
    (gRet (hV (vIf (t2 dLt (rN 3) (hC (.int 6))) (vTup (aCons (hC (.str "stamp")) (aCons (hH (eCallN 2 (fun a => noX (m__law_pick a)) [true, false] (aCons (rN 0) (aCons (hH (eLst (aCons (hC (.str "p")) (aCons (hC (.str "q")) aNil)))) aNil)))) (aCons (rN 5) (aCons (hH (eCallN 2 (fun a => noX (m__law_draw a)) [true, false] (aCons (rN 0) (aCons (hC (.int 10)) aNil)))) aNil))))) (vTup (aCons (hC (.str "mix")) (aCons (hH (eCallN 2 (fun a => noX (m__law_pick a)) [true, false] (aCons (rN 0) (aCons (hH (eLst (aCons (hC (.str "x")) (aCons (hC (.str "y")) aNil)))) aNil)))) (aCons (hH (eCallN 2 (fun a => noX (m__law_draw a)) [true, false] (aCons (rN 0) (aCons (hC (.int 4)) aNil)))) (aCons (rN 5) aNil)))))))))))))
def m__law_a_row : Nat → Env → Rz (Env × Rs)
  | 0 => fun _ => .no
  | n + 1 => runF 7 (g__law_a_row (m__law_a_row n))
theorem d__law_a_row (m : Mods K mg) (D__law_draw : Defd P w K mg base 1 "_law_draw" (top 23) ["pen", "many"] m__law_draw) (D__law_pick : Defd P w K mg base 2 "_law_pick" (top 24) ["pen", "some"] m__law_pick) : ∀ n : Nat, Defd P w K mg base (2 + n) "_law_a_row" (top 29) ["pen", "deep", "folds"] (m__law_a_row n)
  | 0 => .zero m.d__law_a_row
  | n + 1 => by
    have ih := d__law_a_row m D__law_draw D__law_pick n
    have hk__law_draw : 1 ≤ 2 + n := by omega
    have hk__law_pick : 2 ≤ 2 + n := by omega
    have sc := sc__law_a_row
    refine Defd.of (k := 2 + n) (body := g__law_a_row (m__law_a_row n)) m.d__law_a_row sc__law_a_row rfl (by decide) fun cdv A outer f s H E hr hgd => ?_
    have hu64 := hr.u64; have hu65 := hr.u65; have hu70 := hr.u70
    exact (rss_cons (rs_set (i := 3) sc.nd (re_if (rt_gt (rh_name 1) (rh_c rv_int)) (re_call [true, false] D__law_draw (hr.mono (j := 1) hk__law_draw) hgd (ra_cons (rh_name 0) (ra_cons (rh_c rv_int) ra_nil))) (re_call [true, false] D__law_draw (hr.mono (j := 1) hk__law_draw) hgd (ra_cons (rh_name 0) (ra_cons (rh_c rv_int) ra_nil)))))
    (rss_cons (rs_if (rt_w (rw_or (rt_lt (rh_name 3) (rh_c rv_int)) (rw_or1 (rt_w (rw_and (rt_eq hu64 (rh_name 3) (rh_c rv_int)) (rw_and1 (rt_eq hu64 (rh_name 2) (rh_c rv_int)))))))) (rss_one (rs_ret (re_of (rv_tup (ra_cons (rh_c rv_str) (ra_cons (rh_re (re_call [true, false] D__law_pick (hr.mono (j := 2) hk__law_pick) hgd (ra_cons (rh_name 0) (ra_cons (rh_re (re_lst (ra_cons (rh_c rv_str) (ra_cons (rh_c rv_str) (ra_cons (rh_c rv_str) ra_nil))))) ra_nil)))) (ra_cons (rh_re (re_call [true, false] D__law_draw (hr.mono (j := 1) hk__law_draw) hgd (ra_cons (rh_name 0) (ra_cons (rh_c rv_int) ra_nil)))) (ra_cons (rh_re (re_call [true, false] D__law_pick (hr.mono (j := 2) hk__law_pick) hgd (ra_cons (rh_name 0) (ra_cons (rh_re (re_lst (ra_cons (rh_c rv_int) (ra_cons (rh_c rv_int) (ra_cons (rh_rv (rv_pow (rh_c rv_int) (rh_c rv_int))) (ra_cons (rh_re (re_call [true, false] D__law_draw (hr.mono (j := 1) hk__law_draw) hgd (ra_cons (rh_name 0) (ra_cons (rh_c rv_int) ra_nil)))) ra_nil)))))) ra_nil)))) ra_nil)))))))) rss_nil)
    (rss_cons (rs_if (rt_eq hu64 (rh_name 3) (rh_c rv_int)) (rss_cons (rs_set (i := 4) sc.nd (re_callT call_tuple_of serves_tuple rfl m.b_tuple rfl (ra_cons (rh_re (re_lc [("turn", 6)] rfl sc.nd (ri_range1 rfl m.b_range (ra_cons (rh_re (re_add (rh_c rv_int) (rh_re (re_call [true, false] D__law_draw (hr.mono (j := 1) hk__law_draw) hgd (ra_cons (rh_name 0) (ra_cons (rh_c rv_int) ra_nil)))))) ra_nil)) (blkOk_by (N := ["pen", "deep", "folds", "way", "some", "inner", "turn"]) (sc := defScope (top 29)) (by decide +kernel)) (by decide) (fun _ _ _ _ _ => (rg_name (i := 6) sc.nd)) (fun _ _ _ _ _ => rts_nil) (fun _ _ _ _ _ => (rv_of (re_call [true, false, false] ih hr hgd (ra_cons (rh_name 0) (ra_cons (rh_c rv_int) (ra_cons (rh_rv (rv_sub (rh_name 2) (rh_c rv_int))) ra_nil)))))))) ra_nil)))
    (rss_one (rs_ret (re_of (rv_if (rt_eq hu64 (rh_re (re_call [true, false] D__law_draw (hr.mono (j := 1) hk__law_draw) hgd (ra_cons (rh_name 0) (ra_cons (rh_c rv_int) ra_nil)))) (rh_c rv_int)) (rv_tup (ra_cons (rh_c rv_str) (ra_cons (rh_re (re_call [true, false] D__law_pick (hr.mono (j := 2) hk__law_pick) hgd (ra_cons (rh_name 0) (ra_cons (rh_re (re_lst (ra_cons (rh_c rv_str) (ra_cons (rh_c rv_str) ra_nil)))) ra_nil)))) (ra_cons (rh_name 4) ra_nil)))) (rv_tup (ra_cons (rh_c rv_str) (ra_cons (rh_c rv_str) (ra_cons (rh_re (re_call [true, false] D__law_draw (hr.mono (j := 1) hk__law_draw) hgd (ra_cons (rh_name 0) (ra_cons (rh_c rv_int) ra_nil)))) (ra_cons (rh_name 4) ra_nil)))))))))) rss_nil)
    (rss_cons (rs_set (i := 5) sc.nd (re_call [true, false, false] ih hr hgd (ra_cons (rh_name 0) (ra_cons (rh_rv (rv_sub (rh_name 1) (rh_c rv_int))) (ra_cons (rh_name 2) ra_nil)))))
    (rss_cons (rs_if (rt_eq hu64 (rh_name 3) (rh_c rv_int)) (rss_one (rs_ret (re_of (rv_tup (ra_cons (rh_c rv_str) (ra_cons (rh_re (re_call [true, false] D__law_pick (hr.mono (j := 2) hk__law_pick) hgd (ra_cons (rh_name 0) (ra_cons (rh_re (re_lst (ra_cons (rh_c rv_str) (ra_cons (rh_c rv_str) ra_nil)))) ra_nil)))) (ra_cons (rh_name 5) ra_nil))))))) rss_nil)
    (rss_one (rs_ret (re_of (rv_if (rt_lt (rh_name 3) (rh_c rv_int)) (rv_tup (ra_cons (rh_c rv_str) (ra_cons (rh_re (re_call [true, false] D__law_pick (hr.mono (j := 2) hk__law_pick) hgd (ra_cons (rh_name 0) (ra_cons (rh_re (re_lst (ra_cons (rh_c rv_str) (ra_cons (rh_c rv_str) ra_nil)))) ra_nil)))) (ra_cons (rh_name 5) (ra_cons (rh_re (re_call [true, false] D__law_draw (hr.mono (j := 1) hk__law_draw) hgd (ra_cons (rh_name 0) (ra_cons (rh_c rv_int) ra_nil)))) ra_nil))))) (rv_tup (ra_cons (rh_c rv_str) (ra_cons (rh_re (re_call [true, false] D__law_pick (hr.mono (j := 2) hk__law_pick) hgd (ra_cons (rh_name 0) (ra_cons (rh_re (re_lst (ra_cons (rh_c rv_str) (ra_cons (rh_c rv_str) ra_nil)))) ra_nil)))) (ra_cons (rh_re (re_call [true, false] D__law_draw (hr.mono (j := 1) hk__law_draw) hgd (ra_cons (rh_name 0) (ra_cons (rh_c rv_int) ra_nil)))) (ra_cons (rh_name 5) ra_nil))))))))))))))
theorem sc__law_passed : FnScope ["row"] ["row"] (defScope (top 30)) := ⟨rfl, rfl, rfl, by decide +kernel, rfl, by decide +kernel, by decide +kernel⟩
def g__law_passed (self : Env → Rz (Env × Rs)) : Env → Rz (Env × Fl) := (gSeq (gIf (t2 dIn (hV (v2 dIx (rN 0) (hC (.int 0)))) (hV (vTup (aCons (hC (.str "row")) (aCons (hC (.str "fold")) (aCons (hC (.str "window")) aNil)))))) (gRet (eLst aNil)) gNext)
    (gRet (e2 dAdd (hH (eLst (aCons (rN 0) aNil))) (hH (eCallN 1 (fun a => noX (self a)) [false] (aCons (hV (vIf (t2 dEq (hV (v2 dIx (rN 0) (hC (.int 0)))) (hC (.str "mix"))) (v2 dIx (rN 0) (hC (.int 3))) (v2 dIx (rN 0) (hC (.int 2))))) aNil))))))
def m__law_passed : Nat → Env → Rz (Env × Rs)
  | 0 => fun _ => .no
  | n + 1 => runF 1 (g__law_passed (m__law_passed n))
theorem d__law_passed (m : Mods K mg) : ∀ n : Nat, Defd P w K mg base (0 + n) "_law_passed" (top 30) ["row"] (m__law_passed n)
  | 0 => .zero m.d__law_passed
  | n + 1 => by
    have ih := d__law_passed m n
    have sc := sc__law_passed
    refine Defd.of (k := 0 + n) (body := g__law_passed (m__law_passed n)) m.d__law_passed sc__law_passed rfl (by decide) fun cdv A outer f s H E hr hgd => ?_
    have hu64 := hr.u64; have hu65 := hr.u65; have hu70 := hr.u70
    exact (rss_cons (rs_if (rt_in hu65 (rh_rv (rv_ix (rh_name 0) (rh_c rv_int))) (rh_rv (rv_tup (ra_cons (rh_c rv_str) (ra_cons (rh_c rv_str) (ra_cons (rh_c rv_str) ra_nil)))))) (rss_one (rs_ret (re_lst ra_nil))) rss_nil)
    (rss_one (rs_ret (re_add (rh_re (re_lst (ra_cons (rh_name 0) ra_nil))) (rh_re (re_call [false] ih hr hgd (ra_cons (rh_rv (rv_if (rt_eq hu64 (rh_rv (rv_ix (rh_name 0) (rh_c rv_int))) (rh_c rv_str)) (rv_ix (rh_name 0) (rh_c rv_int)) (rv_ix (rh_name 0) (rh_c rv_int)))) ra_nil)))))))
theorem sc_law : FnScope ["script", "pen", "turn", "row", "base", "steps", "name", "told", "due", "stamps", "some", "all_rows", "one", "lap"] ["script"] (defScope (top 31)) := ⟨rfl, rfl, rfl, by decide +kernel, rfl, by decide +kernel, by decide +kernel⟩
def g_law : Env → Rz (Env × Fl) := (gSeq (gSet 1 (eCallN 1 (fun a => noX (m__law_pen a)) [false] (aCons (rN 0) aNil)))
    (gSeq (gFor (iRng dRng1 (aCons (hC (.int 12)) aNil)) (tgN 2) (gSeq (gSet 3 (eCallN 3 (fun a => noX (m__law_a_row 30 a)) [true, false, false] (aCons (rN 1) (aCons (hC (.int 4)) (aCons (hC (.int 2)) aNil)))))
    (gSeq (gPar [4, 5] (qCons (eCallN 1 (fun a => noX (m__law_base 30 a)) [false] (aCons (rN 3) aNil)) (qCons (eCallN 1 (fun a => noX (m__law_passed 30 a)) [false] (aCons (rN 3) aNil)) aNil)))
    (gSeq (gSet 6 (eCallN 1 (fun a => noX (m__law_name a)) [false] (aCons (rN 3) aNil)))
    (gSeq (gSet 7 (eLst (aCons (hH (eCallN 1 (fun a => noX (m_head_of a)) [false] (aCons (rN 3) aNil))) (aCons (hH (eCallN 1 (fun a => noX (m_base_of a)) [false] (aCons (rN 3) aNil))) (aCons (hH (eCallN 1 (fun a => noX (m_number_of a)) [false] (aCons (rN 4) aNil))) (aCons (hH (eCallN 1 (fun a => noX (m_name_of a)) [false] (aCons (rN 3) aNil))) (aCons (hH (eCallN 1 (fun a => noX (m_sides_of a)) [false] (aCons (rN 3) aNil))) (aCons (hH (eCallN 1 (fun a => noX (m_way_of a)) [false] (aCons (rN 3) aNil))) (aCons (hH (eCallN 1 (fun a => noX (m_place_of a)) [false] (aCons (rN 3) aNil))) (aCons (hH (eCallN 1 (fun a => noX (m_time_of a)) [false] (aCons (rN 3) aNil))) aNil))))))))))
    (gSeq (gSet 8 (eLst (aCons (hV (v2 dIx (rN 3) (hC (.int 1)))) (aCons (rN 4) (aCons (hV (v2 dIx (rN 6) (hC (.int 1)))) (aCons (rN 6) (aCons (hH (eCallN 1 (fun a => noX (m__law_sides 30 a)) [false] (aCons (rN 3) aNil))) (aCons (hV (vTup (aCons (hV (v2 dIx (rN 4) (hC (.int 1)))) (aCons (hH (eCallN 1 (fun a => noX (m__law_sides 30 a)) [false] (aCons (rN 3) aNil))) aNil)))) (aCons (hV (vTup (aCons (hV (v2 dIx (rN 3) (hC (.int 1)))) (aCons (rN 6) aNil)))) (aCons (hV (vIf (t2 dEq (hV (v2 dIx (rN 4) (hC (.int 0)))) (hC (.str "row"))) (v2 dIx (rN 4) (hC (.int 3))) (vC .non))) aNil))))))))))
    (gSeq (gIf (tOr (t2 dNe (hH (eB dRepr (aCons (rN 7) aNil))) (hH (eB dRepr (aCons (rN 8) aNil)))) (t2 dNe (hH (eB dRepr (aCons (hH (eLst (aCons (hH (eCallK 1 1 [0] (fun a => noX (m_name_of a)) [false] (aCons (rN 3) aNil))) (aCons (hH (eCallK 1 1 [0] (fun a => noX (m_head_of a)) [false] (aCons (rN 3) aNil))) (aCons (hH (eCallK 1 1 [0] (fun a => noX (m_time_of a)) [false] (aCons (rN 3) aNil))) aNil))))) aNil))) (hH (eB dRepr (aCons (hH (eLst (aCons (rN 6) (aCons (hV (v2 dIx (rN 3) (hC (.int 1)))) (aCons (hV (v2 dIx (rN 8) (hV (v1 dNeg (hC (.int 1)))))) aNil))))) aNil))))) (gRet (hV (vC (.bl false)))) gNext)
    (gSeq (gSet 9 (eB dTuple (aCons (hH (eLc [12] (iSeq (vN 5)) (tgN 12) (t2 dEq (hV (v2 dIx (rN 12) (hC (.int 0)))) (hC (.str "stamp"))) (vTup (aCons (hV (v2 dIx (rN 12) (hC (.int 1)))) (aCons (hH (eCallN 1 (fun a => noX (m__law_name a)) [false] (aCons (rN 12) aNil))) (aCons (hV (v2 dIx (rN 12) (hC (.int 3)))) aNil)))))) aNil)))
    (gSeq (gIf (tOr (t2 dNe (hH (eB dRepr (aCons (hH (eCallN 1 (fun a => noX (m_stamped a)) [false] (aCons (rN 3) aNil))) aNil))) (hH (eB dRepr (aCons (rN 9) aNil)))) (tOr (t2 dNe (hH (eB dRepr (aCons (hH (eCallN 1 (fun a => noX (m_passed a)) [false] (aCons (rN 3) aNil))) aNil))) (hH (eB dRepr (aCons (hH (eB dTuple (aCons (hH (eLc [12] (iSeq (vN 5)) (tgN 12) tYes (v2 dIx (rN 12) (hC (.int 1))))) aNil))) aNil)))) (t2 dNe (hH (eCallK 1 1 [0] (fun a => noX (m_stamped a)) [false] (aCons (rN 3) aNil))) (rN 9)))) (gRet (hV (vC (.bl false)))) gNext)
    (gSeq (gSet 10 (e2 dAdd (hH (e2 dAdd (hH (eLst (aCons (rN 3) aNil))) (hH (eLc [13] (iRng dRng1 (aCons (hH (eCallN 2 (fun a => noX (m__law_draw a)) [true, false] (aCons (rN 1) (aCons (hC (.int 3)) aNil)))) aNil)) (tgN 13) tYes (vU (eCallN 3 (fun a => noX (m__law_a_row 30 a)) [true, false, false] (aCons (rN 1) (aCons (hC (.int 3)) (aCons (hC (.int 2)) aNil))))))))) (hH (eLst (aCons (rN 3) aNil)))))
    (gSeq (gSet 11 (eCallN 1 (fun a => noX (m__law_within a)) [false] (aCons (rN 10) aNil)))
    (gIf (tOr (t2 dNe (hH (eB dSorted (aCons (hH (eLc [12] (iSeq (vU (eCallN 1 (fun a => noX (m_within a)) [false] (aCons (rN 10) aNil)))) (tgN 12) tYes (vU (eB dRepr (aCons (rN 12) aNil))))) aNil))) (hH (eB dSorted (aCons (hH (eLc [12] (iSeq (vN 11)) (tgN 12) tYes (vU (eB dRepr (aCons (rN 12) aNil))))) aNil)))) (tOr (t2 dNe (hH (eCallK 1 1 [0] (fun a => noX (m_within a)) [false] (aCons (hH (eB dTuple (aCons (rN 10) aNil))) aNil))) (hH (eCallN 1 (fun a => noX (m_within a)) [false] (aCons (rN 10) aNil)))) (t2 dNe (hH (eCallN 1 (fun a => noX (m_within a)) [false] (aCons (hH (eLst aNil)) aNil))) (hV (vTup aNil))))) (gRet (hV (vC (.bl false)))) gNext))))))))))))
    (gRet (hV (vC (.bl true))))))
def m_law : Env → Rz (Env × Rs) := runF 14 g_law
theorem d_law (m : Mods K mg) (D_head_of : Defd P w K mg base 1 "head_of" (top 8) ["row"] m_head_of) (D_base_of : Defd P w K mg base 2 "base_of" (top 10) ["row"] m_base_of) (D_sides_of : Defd P w K mg base 2 "sides_of" (top 11) ["row"] m_sides_of) (D_number_of : Defd P w K mg base 1 "number_of" (top 12) ["base"] m_number_of) (D_name_of : Defd P w K mg base 3 "name_of" (top 13) ["row"] m_name_of) (D_way_of : Defd P w K mg base 3 "way_of" (top 14) ["row"] m_way_of) (D_time_of : Defd P w K mg base 3 "time_of" (top 15) ["row"] m_time_of) (D_place_of : Defd P w K mg base 4 "place_of" (top 16) ["row"] m_place_of) (D_within : Defd P w K mg base 5 "within" (top 18) ["rows"] m_within) (D_stamped : Defd P w K mg base 4 "stamped" (top 19) ["row"] m_stamped) (D_passed : Defd P w K mg base 2 "passed" (top 20) ["row"] m_passed) (D__law_pen : Defd P w K mg base 1 "_law_pen" (top 22) ["script"] m__law_pen) (D__law_draw : Defd P w K mg base 1 "_law_draw" (top 23) ["pen", "many"] m__law_draw) (D__law_base : Defd P w K mg base 30 "_law_base" (top 25) ["row"] (m__law_base 30)) (D__law_sides : Defd P w K mg base 30 "_law_sides" (top 26) ["row"] (m__law_sides 30)) (D__law_name : Defd P w K mg base 31 "_law_name" (top 27) ["row"] m__law_name) (D__law_within : Defd P w K mg base 1 "_law_within" (top 28) ["rows"] m__law_within) (D__law_a_row : Defd P w K mg base 32 "_law_a_row" (top 29) ["pen", "deep", "folds"] (m__law_a_row 30)) (D__law_passed : Defd P w K mg base 30 "_law_passed" (top 30) ["row"] (m__law_passed 30)) : Defd P w K mg base 33 "law" (top 31) ["script"] m_law := by
  have sc := sc_law
  unfold m_law
  refine Defd.of (k := 32) (body := g_law) m.d_law sc_law rfl (by decide) fun cdv A outer f s H E hr hgd => ?_
  have hu64 := hr.u64; have hu65 := hr.u65; have hu70 := hr.u70
  exact (rss_cons (rs_set (i := 1) sc.nd (re_call [false] D__law_pen (hr.mono (j := 1) (by decide)) hgd (ra_cons (rh_name 0) ra_nil)))
    (rss_cons (rs_for .never rfl (ri_range1 rfl m.b_range (ra_cons (rh_c rv_int) ra_nil)) (rg_name (i := 2) sc.nd) (rss_cons (rs_set (i := 3) sc.nd (re_call [true, false, false] D__law_a_row (hr.mono (j := 32) (by decide)) hgd (ra_cons (rh_name 1) (ra_cons (rh_c rv_int) (ra_cons (rh_c rv_int) ra_nil)))))
    (rss_cons (rs_par 4 5 rfl sc.nd (by decide) (rq_cons (re_call [false] D__law_base (hr.mono (j := 30) (by decide)) hgd (ra_cons (rh_name 3) ra_nil)) (rq_cons (re_call [false] D__law_passed (hr.mono (j := 30) (by decide)) hgd (ra_cons (rh_name 3) ra_nil)) rq_nil)) rfl)
    (rss_cons (rs_set (i := 6) sc.nd (re_call [false] D__law_name (hr.mono (j := 31) (by decide)) hgd (ra_cons (rh_name 3) ra_nil)))
    (rss_cons (rs_set (i := 7) sc.nd (re_lst (ra_cons (rh_re (re_call [false] D_head_of (hr.mono (j := 1) (by decide)) hgd (ra_cons (rh_name 3) ra_nil))) (ra_cons (rh_re (re_call [false] D_base_of (hr.mono (j := 2) (by decide)) hgd (ra_cons (rh_name 3) ra_nil))) (ra_cons (rh_re (re_call [false] D_number_of (hr.mono (j := 1) (by decide)) hgd (ra_cons (rh_name 4) ra_nil))) (ra_cons (rh_re (re_call [false] D_name_of (hr.mono (j := 3) (by decide)) hgd (ra_cons (rh_name 3) ra_nil))) (ra_cons (rh_re (re_call [false] D_sides_of (hr.mono (j := 2) (by decide)) hgd (ra_cons (rh_name 3) ra_nil))) (ra_cons (rh_re (re_call [false] D_way_of (hr.mono (j := 3) (by decide)) hgd (ra_cons (rh_name 3) ra_nil))) (ra_cons (rh_re (re_call [false] D_place_of (hr.mono (j := 4) (by decide)) hgd (ra_cons (rh_name 3) ra_nil))) (ra_cons (rh_re (re_call [false] D_time_of (hr.mono (j := 3) (by decide)) hgd (ra_cons (rh_name 3) ra_nil))) ra_nil))))))))))
    (rss_cons (rs_set (i := 8) sc.nd (re_lst (ra_cons (rh_rv (rv_ix (rh_name 3) (rh_c rv_int))) (ra_cons (rh_name 4) (ra_cons (rh_rv (rv_ix (rh_name 6) (rh_c rv_int))) (ra_cons (rh_name 6) (ra_cons (rh_re (re_call [false] D__law_sides (hr.mono (j := 30) (by decide)) hgd (ra_cons (rh_name 3) ra_nil))) (ra_cons (rh_rv (rv_tup (ra_cons (rh_rv (rv_ix (rh_name 4) (rh_c rv_int))) (ra_cons (rh_re (re_call [false] D__law_sides (hr.mono (j := 30) (by decide)) hgd (ra_cons (rh_name 3) ra_nil))) ra_nil)))) (ra_cons (rh_rv (rv_tup (ra_cons (rh_rv (rv_ix (rh_name 3) (rh_c rv_int))) (ra_cons (rh_name 6) ra_nil)))) (ra_cons (rh_rv (rv_if (rt_eq hu64 (rh_rv (rv_ix (rh_name 4) (rh_c rv_int))) (rh_c rv_str)) (rv_ix (rh_name 4) (rh_c rv_int)) rv_non)) ra_nil))))))))))
    (rss_cons (rs_if (rt_w (rw_or (rt_ne hu64 (rh_re (re_callB (call_reprD hgd hu65) serves_repr rfl m.b_repr rfl (ra_cons (rh_name 7) ra_nil))) (rh_re (re_callB (call_reprD hgd hu65) serves_repr rfl m.b_repr rfl (ra_cons (rh_name 8) ra_nil)))) (rw_or1 (rt_ne hu64 (rh_re (re_callB (call_reprD hgd hu65) serves_repr rfl m.b_repr rfl (ra_cons (rh_re (re_lst (ra_cons (rh_re (re_callK ["row"] [0] [false] D_name_of (hr.mono (j := 3) (by decide)) hgd (fun _ _ _ _ _ _ us hl => match us, hl with | [_], _ => rfl) (rk_cons (rh_name 3) rk_nil))) (ra_cons (rh_re (re_callK ["row"] [0] [false] D_head_of (hr.mono (j := 1) (by decide)) hgd (fun _ _ _ _ _ _ us hl => match us, hl with | [_], _ => rfl) (rk_cons (rh_name 3) rk_nil))) (ra_cons (rh_re (re_callK ["row"] [0] [false] D_time_of (hr.mono (j := 3) (by decide)) hgd (fun _ _ _ _ _ _ us hl => match us, hl with | [_], _ => rfl) (rk_cons (rh_name 3) rk_nil))) ra_nil))))) ra_nil))) (rh_re (re_callB (call_reprD hgd hu65) serves_repr rfl m.b_repr rfl (ra_cons (rh_re (re_lst (ra_cons (rh_name 6) (ra_cons (rh_rv (rv_ix (rh_name 3) (rh_c rv_int))) (ra_cons (rh_rv (rv_ix (rh_name 8) (rh_rv (rv_neg (rh_c rv_int))))) ra_nil))))) ra_nil))))))) (rss_one (rs_ret (re_of rv_bl))) rss_nil)
    (rss_cons (rs_set (i := 9) sc.nd (re_callT call_tuple_of serves_tuple rfl m.b_tuple rfl (ra_cons (rh_re (re_lc [("one", 12)] rfl sc.nd (ri_seq (rv_name 5)) (blkOk_by (N := ["script", "pen", "turn", "row", "base", "steps", "name", "told", "due", "stamps", "some", "all_rows", "one", "lap"]) (sc := defScope (top 31)) (by decide +kernel)) (by decide) (fun _ _ _ _ _ => (rg_name (i := 12) sc.nd)) (fun _ _ _ _ _ => (rts_one (rt_eq hu64 (rh_rv (rv_ix (rh_name 12) (rh_c rv_int))) (rh_c rv_str)))) (fun _ _ _ _ _ => (rv_tup (ra_cons (rh_rv (rv_ix (rh_name 12) (rh_c rv_int))) (ra_cons (rh_re (re_call [false] D__law_name (hr.mono (j := 31) (by decide)) hgd (ra_cons (rh_name 12) ra_nil))) (ra_cons (rh_rv (rv_ix (rh_name 12) (rh_c rv_int))) ra_nil))))))) ra_nil)))
    (rss_cons (rs_if (rt_w (rw_or (rt_ne hu64 (rh_re (re_callB (call_reprD hgd hu65) serves_repr rfl m.b_repr rfl (ra_cons (rh_re (re_call [false] D_stamped (hr.mono (j := 4) (by decide)) hgd (ra_cons (rh_name 3) ra_nil))) ra_nil))) (rh_re (re_callB (call_reprD hgd hu65) serves_repr rfl m.b_repr rfl (ra_cons (rh_name 9) ra_nil)))) (rw_or (rt_ne hu64 (rh_re (re_callB (call_reprD hgd hu65) serves_repr rfl m.b_repr rfl (ra_cons (rh_re (re_call [false] D_passed (hr.mono (j := 2) (by decide)) hgd (ra_cons (rh_name 3) ra_nil))) ra_nil))) (rh_re (re_callB (call_reprD hgd hu65) serves_repr rfl m.b_repr rfl (ra_cons (rh_re (re_callT call_tuple_of serves_tuple rfl m.b_tuple rfl (ra_cons (rh_re (re_lc [("one", 12)] rfl sc.nd (ri_seq (rv_name 5)) (blkOk_by (N := ["script", "pen", "turn", "row", "base", "steps", "name", "told", "due", "stamps", "some", "all_rows", "one", "lap"]) (sc := defScope (top 31)) (by decide +kernel)) (by decide) (fun _ _ _ _ _ => (rg_name (i := 12) sc.nd)) (fun _ _ _ _ _ => rts_nil) (fun _ _ _ _ _ => (rv_ix (rh_name 12) (rh_c rv_int))))) ra_nil))) ra_nil)))) (rw_or1 (rt_ne hu64 (rh_re (re_callK ["row"] [0] [false] D_stamped (hr.mono (j := 4) (by decide)) hgd (fun _ _ _ _ _ _ us hl => match us, hl with | [_], _ => rfl) (rk_cons (rh_name 3) rk_nil))) (rh_name 9)))))) (rss_one (rs_ret (re_of rv_bl))) rss_nil)
    (rss_cons (rs_set (i := 10) sc.nd (re_add (rh_re (re_add (rh_re (re_lst (ra_cons (rh_name 3) ra_nil))) (rh_re (re_lc [("lap", 13)] rfl sc.nd (ri_range1 rfl m.b_range (ra_cons (rh_re (re_call [true, false] D__law_draw (hr.mono (j := 1) (by decide)) hgd (ra_cons (rh_name 1) (ra_cons (rh_c rv_int) ra_nil)))) ra_nil)) (blkOk_by (N := ["script", "pen", "turn", "row", "base", "steps", "name", "told", "due", "stamps", "some", "all_rows", "one", "lap"]) (sc := defScope (top 31)) (by decide +kernel)) (by decide) (fun _ _ _ _ _ => (rg_name (i := 13) sc.nd)) (fun _ _ _ _ _ => rts_nil) (fun _ _ _ _ _ => (rv_of (re_call [true, false, false] D__law_a_row (hr.mono (j := 32) (by decide)) hgd (ra_cons (rh_name 1) (ra_cons (rh_c rv_int) (ra_cons (rh_c rv_int) ra_nil)))))))))) (rh_re (re_lst (ra_cons (rh_name 3) ra_nil)))))
    (rss_cons (rs_set (i := 11) sc.nd (re_call [false] D__law_within (hr.mono (j := 1) (by decide)) hgd (ra_cons (rh_name 10) ra_nil)))
    (rss_one (rs_if (rt_w (rw_or (rt_ne hu64 (rh_re (re_callB (call_sortedD hu70) serves_sorted rfl m.b_sorted rfl (ra_cons (rh_re (re_lc [("one", 12)] rfl sc.nd (ri_seq (rv_of (re_call [false] D_within (hr.mono (j := 5) (by decide)) hgd (ra_cons (rh_name 10) ra_nil)))) (blkOk_by (N := ["script", "pen", "turn", "row", "base", "steps", "name", "told", "due", "stamps", "some", "all_rows", "one", "lap"]) (sc := defScope (top 31)) (by decide +kernel)) (by decide) (fun _ _ _ _ _ => (rg_name (i := 12) sc.nd)) (fun _ _ _ _ _ => rts_nil) (fun _ _ _ _ _ => (rv_of (re_callB (call_reprD hgd hu65) serves_repr rfl m.b_repr rfl (ra_cons (rh_name 12) ra_nil)))))) ra_nil))) (rh_re (re_callB (call_sortedD hu70) serves_sorted rfl m.b_sorted rfl (ra_cons (rh_re (re_lc [("one", 12)] rfl sc.nd (ri_seq (rv_name 11)) (blkOk_by (N := ["script", "pen", "turn", "row", "base", "steps", "name", "told", "due", "stamps", "some", "all_rows", "one", "lap"]) (sc := defScope (top 31)) (by decide +kernel)) (by decide) (fun _ _ _ _ _ => (rg_name (i := 12) sc.nd)) (fun _ _ _ _ _ => rts_nil) (fun _ _ _ _ _ => (rv_of (re_callB (call_reprD hgd hu65) serves_repr rfl m.b_repr rfl (ra_cons (rh_name 12) ra_nil)))))) ra_nil)))) (rw_or (rt_ne hu64 (rh_re (re_callK ["rows"] [0] [false] D_within (hr.mono (j := 5) (by decide)) hgd (fun _ _ _ _ _ _ us hl => match us, hl with | [_], _ => rfl) (rk_cons (rh_re (re_callT call_tuple_of serves_tuple rfl m.b_tuple rfl (ra_cons (rh_name 10) ra_nil))) rk_nil))) (rh_re (re_call [false] D_within (hr.mono (j := 5) (by decide)) hgd (ra_cons (rh_name 10) ra_nil)))) (rw_or1 (rt_ne hu64 (rh_re (re_call [false] D_within (hr.mono (j := 5) (by decide)) hgd (ra_cons (rh_re (re_lst ra_nil)) ra_nil))) (rh_rv (rv_tup ra_nil))))))) (rss_one (rs_ret (re_of rv_bl))) rss_nil)))))))))))))
    (rss_one (rs_ret (re_of rv_bl)))))
theorem d_all (m : Mods K mg) : Defd P w K mg base 33 "law" (top 31) ["script"] m_law := by
  have D_head_of : Defd P w K mg base 1 "head_of" (top 8) ["row"] m_head_of := d_head_of m
  have D_inside : Defd P w K mg base 1 "inside" (top 9) ["row"] m_inside := d_inside m
  have D_base_of : Defd P w K mg base 2 "base_of" (top 10) ["row"] m_base_of := d_base_of m D_inside
  have D_sides_of : Defd P w K mg base 2 "sides_of" (top 11) ["row"] m_sides_of := d_sides_of m D_inside
  have D_number_of : Defd P w K mg base 1 "number_of" (top 12) ["base"] m_number_of := d_number_of m
  have D_name_of : Defd P w K mg base 3 "name_of" (top 13) ["row"] m_name_of := d_name_of m D_base_of D_sides_of D_number_of
  have D_way_of : Defd P w K mg base 3 "way_of" (top 14) ["row"] m_way_of := d_way_of m D_base_of D_sides_of
  have D_time_of : Defd P w K mg base 3 "time_of" (top 15) ["row"] m_time_of := d_time_of m D_base_of
  have D_place_of : Defd P w K mg base 4 "place_of" (top 16) ["row"] m_place_of := d_place_of m D_name_of
  have D_parts_of : Defd P w K mg base 2 "parts_of" (top 17) ["row"] m_parts_of := d_parts_of m D_inside
  have D_within : Defd P w K mg base 5 "within" (top 18) ["rows"] m_within := d_within m D_place_of D_parts_of
  have D_stamped : Defd P w K mg base 4 "stamped" (top 19) ["row"] m_stamped := d_stamped m D_inside D_name_of
  have D_passed : Defd P w K mg base 2 "passed" (top 20) ["row"] m_passed := d_passed m D_inside
  have D__law_pen : Defd P w K mg base 1 "_law_pen" (top 22) ["script"] m__law_pen := d__law_pen m
  have D__law_draw : Defd P w K mg base 1 "_law_draw" (top 23) ["pen", "many"] m__law_draw := d__law_draw m
  have D__law_pick : Defd P w K mg base 2 "_law_pick" (top 24) ["pen", "some"] m__law_pick := d__law_pick m D__law_draw
  have D__law_base : Defd P w K mg base 30 "_law_base" (top 25) ["row"] (m__law_base 30) := d__law_base m 30
  have D__law_sides : Defd P w K mg base 30 "_law_sides" (top 26) ["row"] (m__law_sides 30) := d__law_sides m 30
  have D__law_name : Defd P w K mg base 31 "_law_name" (top 27) ["row"] m__law_name := d__law_name m D__law_base D__law_sides
  have D__law_within : Defd P w K mg base 1 "_law_within" (top 28) ["rows"] m__law_within := d__law_within m
  have D__law_a_row : Defd P w K mg base 32 "_law_a_row" (top 29) ["pen", "deep", "folds"] (m__law_a_row 30) := d__law_a_row m D__law_draw D__law_pick 30
  have D__law_passed : Defd P w K mg base 30 "_law_passed" (top 30) ["row"] (m__law_passed 30) := d__law_passed m 30
  exact d_law m D_head_of D_base_of D_sides_of D_number_of D_name_of D_way_of D_time_of D_place_of D_within D_stamped D_passed D__law_pen D__law_draw D__law_base D__law_sides D__law_name D__law_within D__law_a_row D__law_passed
end
theorem mods_mk {K : PySem.W.Frag} {h : Heap} {mg : Str → Option Value} (X : K.In h) (G : h.Ns mainGlobals mg)
    {t1 : Tok} (a1 : PySem.W.nsIn K mainGlobals "MAP" = some (some (.str "map" t1)))
    {t2 : Tok} (a2 : PySem.W.nsIn K mainGlobals "STAMP" = some (some (.str "stamp" t2)))
    {t3 : Tok} (a3 : PySem.W.nsIn K mainGlobals "MIX" = some (some (.str "mix" t3)))
    {t4 : Tok} (a4 : PySem.W.nsIn K mainGlobals "FOLD" = some (some (.str "fold" t4)))
    {t5 : Tok} (a5 : PySem.W.nsIn K mainGlobals "WINDOW" = some (some (.str "window" t5)))
    {b6 : Addr} {o6 : Option Addr} {n6 : Nat} {s6 : Array (Option Value)} {t6_0 t6_1 t6_2 : Tok} (a6 : PySem.W.nsIn K mainGlobals "ROWWISE" = some (some (.ref b6))) (l6 : K.lookup b6 = some ⟨.type "tuple", o6, .seq #[.str "map" t6_0, .str "stamp" t6_1, .str "mix" t6_2] n6, s6⟩)
    {t7 : Tok} (a7 : PySem.W.nsIn K mainGlobals "ROW" = some (some (.str "row" t7)))
    {f8 : Addr} {od8 an8 : Option Addr} {sl8 : Array (Option Value)} {oc8 kV8 dc8 pm8 cd8 ct8 : Value} (a8 : PySem.W.nsIn K mainGlobals "head_of" = some (some (.ref f8))) (l8 : K.lookup f8 = some ⟨oc8, od8, .func (PySem.W.fnOf "head_of" "head_of" (defArgs (top 8)) (defBody (top 8)) (defScope (top 8)) .none kV8 dc8 pm8 an8 cd8 ct8), sl8⟩) (c8 : PySem.W.codeIn K cd8 "head_of" = true) (k8 : PySem.W.keepIn K (.ref f8) = true)
    {f9 : Addr} {od9 an9 : Option Addr} {sl9 : Array (Option Value)} {oc9 kV9 dc9 pm9 cd9 ct9 : Value} (a9 : PySem.W.nsIn K mainGlobals "inside" = some (some (.ref f9))) (l9 : K.lookup f9 = some ⟨oc9, od9, .func (PySem.W.fnOf "inside" "inside" (defArgs (top 9)) (defBody (top 9)) (defScope (top 9)) .none kV9 dc9 pm9 an9 cd9 ct9), sl9⟩) (c9 : PySem.W.codeIn K cd9 "inside" = true) (k9 : PySem.W.keepIn K (.ref f9) = true)
    {f10 : Addr} {od10 an10 : Option Addr} {sl10 : Array (Option Value)} {oc10 kV10 dc10 pm10 cd10 ct10 : Value} (a10 : PySem.W.nsIn K mainGlobals "base_of" = some (some (.ref f10))) (l10 : K.lookup f10 = some ⟨oc10, od10, .func (PySem.W.fnOf "base_of" "base_of" (defArgs (top 10)) (defBody (top 10)) (defScope (top 10)) .none kV10 dc10 pm10 an10 cd10 ct10), sl10⟩) (c10 : PySem.W.codeIn K cd10 "base_of" = true) (k10 : PySem.W.keepIn K (.ref f10) = true)
    {f11 : Addr} {od11 an11 : Option Addr} {sl11 : Array (Option Value)} {oc11 kV11 dc11 pm11 cd11 ct11 : Value} (a11 : PySem.W.nsIn K mainGlobals "sides_of" = some (some (.ref f11))) (l11 : K.lookup f11 = some ⟨oc11, od11, .func (PySem.W.fnOf "sides_of" "sides_of" (defArgs (top 11)) (defBody (top 11)) (defScope (top 11)) .none kV11 dc11 pm11 an11 cd11 ct11), sl11⟩) (c11 : PySem.W.codeIn K cd11 "sides_of" = true) (k11 : PySem.W.keepIn K (.ref f11) = true)
    {f12 : Addr} {od12 an12 : Option Addr} {sl12 : Array (Option Value)} {oc12 kV12 dc12 pm12 cd12 ct12 : Value} (a12 : PySem.W.nsIn K mainGlobals "number_of" = some (some (.ref f12))) (l12 : K.lookup f12 = some ⟨oc12, od12, .func (PySem.W.fnOf "number_of" "number_of" (defArgs (top 12)) (defBody (top 12)) (defScope (top 12)) .none kV12 dc12 pm12 an12 cd12 ct12), sl12⟩) (c12 : PySem.W.codeIn K cd12 "number_of" = true) (k12 : PySem.W.keepIn K (.ref f12) = true)
    {f13 : Addr} {od13 an13 : Option Addr} {sl13 : Array (Option Value)} {oc13 kV13 dc13 pm13 cd13 ct13 : Value} (a13 : PySem.W.nsIn K mainGlobals "name_of" = some (some (.ref f13))) (l13 : K.lookup f13 = some ⟨oc13, od13, .func (PySem.W.fnOf "name_of" "name_of" (defArgs (top 13)) (defBody (top 13)) (defScope (top 13)) .none kV13 dc13 pm13 an13 cd13 ct13), sl13⟩) (c13 : PySem.W.codeIn K cd13 "name_of" = true) (k13 : PySem.W.keepIn K (.ref f13) = true)
    {f14 : Addr} {od14 an14 : Option Addr} {sl14 : Array (Option Value)} {oc14 kV14 dc14 pm14 cd14 ct14 : Value} (a14 : PySem.W.nsIn K mainGlobals "way_of" = some (some (.ref f14))) (l14 : K.lookup f14 = some ⟨oc14, od14, .func (PySem.W.fnOf "way_of" "way_of" (defArgs (top 14)) (defBody (top 14)) (defScope (top 14)) .none kV14 dc14 pm14 an14 cd14 ct14), sl14⟩) (c14 : PySem.W.codeIn K cd14 "way_of" = true) (k14 : PySem.W.keepIn K (.ref f14) = true)
    {f15 : Addr} {od15 an15 : Option Addr} {sl15 : Array (Option Value)} {oc15 kV15 dc15 pm15 cd15 ct15 : Value} (a15 : PySem.W.nsIn K mainGlobals "time_of" = some (some (.ref f15))) (l15 : K.lookup f15 = some ⟨oc15, od15, .func (PySem.W.fnOf "time_of" "time_of" (defArgs (top 15)) (defBody (top 15)) (defScope (top 15)) .none kV15 dc15 pm15 an15 cd15 ct15), sl15⟩) (c15 : PySem.W.codeIn K cd15 "time_of" = true) (k15 : PySem.W.keepIn K (.ref f15) = true)
    {f16 : Addr} {od16 an16 : Option Addr} {sl16 : Array (Option Value)} {oc16 kV16 dc16 pm16 cd16 ct16 : Value} (a16 : PySem.W.nsIn K mainGlobals "place_of" = some (some (.ref f16))) (l16 : K.lookup f16 = some ⟨oc16, od16, .func (PySem.W.fnOf "place_of" "place_of" (defArgs (top 16)) (defBody (top 16)) (defScope (top 16)) .none kV16 dc16 pm16 an16 cd16 ct16), sl16⟩) (c16 : PySem.W.codeIn K cd16 "place_of" = true) (k16 : PySem.W.keepIn K (.ref f16) = true)
    {f17 : Addr} {od17 an17 : Option Addr} {sl17 : Array (Option Value)} {oc17 kV17 dc17 pm17 cd17 ct17 : Value} (a17 : PySem.W.nsIn K mainGlobals "parts_of" = some (some (.ref f17))) (l17 : K.lookup f17 = some ⟨oc17, od17, .func (PySem.W.fnOf "parts_of" "parts_of" (defArgs (top 17)) (defBody (top 17)) (defScope (top 17)) .none kV17 dc17 pm17 an17 cd17 ct17), sl17⟩) (c17 : PySem.W.codeIn K cd17 "parts_of" = true) (k17 : PySem.W.keepIn K (.ref f17) = true)
    {f18 : Addr} {od18 an18 : Option Addr} {sl18 : Array (Option Value)} {oc18 kV18 dc18 pm18 cd18 ct18 : Value} (a18 : PySem.W.nsIn K mainGlobals "within" = some (some (.ref f18))) (l18 : K.lookup f18 = some ⟨oc18, od18, .func (PySem.W.fnOf "within" "within" (defArgs (top 18)) (defBody (top 18)) (defScope (top 18)) .none kV18 dc18 pm18 an18 cd18 ct18), sl18⟩) (c18 : PySem.W.codeIn K cd18 "within" = true) (k18 : PySem.W.keepIn K (.ref f18) = true)
    {f19 : Addr} {od19 an19 : Option Addr} {sl19 : Array (Option Value)} {oc19 kV19 dc19 pm19 cd19 ct19 : Value} (a19 : PySem.W.nsIn K mainGlobals "stamped" = some (some (.ref f19))) (l19 : K.lookup f19 = some ⟨oc19, od19, .func (PySem.W.fnOf "stamped" "stamped" (defArgs (top 19)) (defBody (top 19)) (defScope (top 19)) .none kV19 dc19 pm19 an19 cd19 ct19), sl19⟩) (c19 : PySem.W.codeIn K cd19 "stamped" = true) (k19 : PySem.W.keepIn K (.ref f19) = true)
    {f20 : Addr} {od20 an20 : Option Addr} {sl20 : Array (Option Value)} {oc20 kV20 dc20 pm20 cd20 ct20 : Value} (a20 : PySem.W.nsIn K mainGlobals "passed" = some (some (.ref f20))) (l20 : K.lookup f20 = some ⟨oc20, od20, .func (PySem.W.fnOf "passed" "passed" (defArgs (top 20)) (defBody (top 20)) (defScope (top 20)) .none kV20 dc20 pm20 an20 cd20 ct20), sl20⟩) (c20 : PySem.W.codeIn K cd20 "passed" = true) (k20 : PySem.W.keepIn K (.ref f20) = true)
    {f21 : Addr} {od21 an21 : Option Addr} {sl21 : Array (Option Value)} {oc21 kV21 dc21 pm21 cd21 ct21 : Value} (a21 : PySem.W.nsIn K mainGlobals "_law_pen" = some (some (.ref f21))) (l21 : K.lookup f21 = some ⟨oc21, od21, .func (PySem.W.fnOf "_law_pen" "_law_pen" (defArgs (top 22)) (defBody (top 22)) (defScope (top 22)) .none kV21 dc21 pm21 an21 cd21 ct21), sl21⟩) (c21 : PySem.W.codeIn K cd21 "_law_pen" = true) (k21 : PySem.W.keepIn K (.ref f21) = true)
    {f22 : Addr} {od22 an22 : Option Addr} {sl22 : Array (Option Value)} {oc22 kV22 dc22 pm22 cd22 ct22 : Value} (a22 : PySem.W.nsIn K mainGlobals "_law_draw" = some (some (.ref f22))) (l22 : K.lookup f22 = some ⟨oc22, od22, .func (PySem.W.fnOf "_law_draw" "_law_draw" (defArgs (top 23)) (defBody (top 23)) (defScope (top 23)) .none kV22 dc22 pm22 an22 cd22 ct22), sl22⟩) (c22 : PySem.W.codeIn K cd22 "_law_draw" = true) (k22 : PySem.W.keepIn K (.ref f22) = true)
    {f23 : Addr} {od23 an23 : Option Addr} {sl23 : Array (Option Value)} {oc23 kV23 dc23 pm23 cd23 ct23 : Value} (a23 : PySem.W.nsIn K mainGlobals "_law_pick" = some (some (.ref f23))) (l23 : K.lookup f23 = some ⟨oc23, od23, .func (PySem.W.fnOf "_law_pick" "_law_pick" (defArgs (top 24)) (defBody (top 24)) (defScope (top 24)) .none kV23 dc23 pm23 an23 cd23 ct23), sl23⟩) (c23 : PySem.W.codeIn K cd23 "_law_pick" = true) (k23 : PySem.W.keepIn K (.ref f23) = true)
    {f24 : Addr} {od24 an24 : Option Addr} {sl24 : Array (Option Value)} {oc24 kV24 dc24 pm24 cd24 ct24 : Value} (a24 : PySem.W.nsIn K mainGlobals "_law_base" = some (some (.ref f24))) (l24 : K.lookup f24 = some ⟨oc24, od24, .func (PySem.W.fnOf "_law_base" "_law_base" (defArgs (top 25)) (defBody (top 25)) (defScope (top 25)) .none kV24 dc24 pm24 an24 cd24 ct24), sl24⟩) (c24 : PySem.W.codeIn K cd24 "_law_base" = true) (k24 : PySem.W.keepIn K (.ref f24) = true)
    {f25 : Addr} {od25 an25 : Option Addr} {sl25 : Array (Option Value)} {oc25 kV25 dc25 pm25 cd25 ct25 : Value} (a25 : PySem.W.nsIn K mainGlobals "_law_sides" = some (some (.ref f25))) (l25 : K.lookup f25 = some ⟨oc25, od25, .func (PySem.W.fnOf "_law_sides" "_law_sides" (defArgs (top 26)) (defBody (top 26)) (defScope (top 26)) .none kV25 dc25 pm25 an25 cd25 ct25), sl25⟩) (c25 : PySem.W.codeIn K cd25 "_law_sides" = true) (k25 : PySem.W.keepIn K (.ref f25) = true)
    {f26 : Addr} {od26 an26 : Option Addr} {sl26 : Array (Option Value)} {oc26 kV26 dc26 pm26 cd26 ct26 : Value} (a26 : PySem.W.nsIn K mainGlobals "_law_name" = some (some (.ref f26))) (l26 : K.lookup f26 = some ⟨oc26, od26, .func (PySem.W.fnOf "_law_name" "_law_name" (defArgs (top 27)) (defBody (top 27)) (defScope (top 27)) .none kV26 dc26 pm26 an26 cd26 ct26), sl26⟩) (c26 : PySem.W.codeIn K cd26 "_law_name" = true) (k26 : PySem.W.keepIn K (.ref f26) = true)
    {f27 : Addr} {od27 an27 : Option Addr} {sl27 : Array (Option Value)} {oc27 kV27 dc27 pm27 cd27 ct27 : Value} (a27 : PySem.W.nsIn K mainGlobals "_law_within" = some (some (.ref f27))) (l27 : K.lookup f27 = some ⟨oc27, od27, .func (PySem.W.fnOf "_law_within" "_law_within" (defArgs (top 28)) (defBody (top 28)) (defScope (top 28)) .none kV27 dc27 pm27 an27 cd27 ct27), sl27⟩) (c27 : PySem.W.codeIn K cd27 "_law_within" = true) (k27 : PySem.W.keepIn K (.ref f27) = true)
    {f28 : Addr} {od28 an28 : Option Addr} {sl28 : Array (Option Value)} {oc28 kV28 dc28 pm28 cd28 ct28 : Value} (a28 : PySem.W.nsIn K mainGlobals "_law_a_row" = some (some (.ref f28))) (l28 : K.lookup f28 = some ⟨oc28, od28, .func (PySem.W.fnOf "_law_a_row" "_law_a_row" (defArgs (top 29)) (defBody (top 29)) (defScope (top 29)) .none kV28 dc28 pm28 an28 cd28 ct28), sl28⟩) (c28 : PySem.W.codeIn K cd28 "_law_a_row" = true) (k28 : PySem.W.keepIn K (.ref f28) = true)
    {f29 : Addr} {od29 an29 : Option Addr} {sl29 : Array (Option Value)} {oc29 kV29 dc29 pm29 cd29 ct29 : Value} (a29 : PySem.W.nsIn K mainGlobals "_law_passed" = some (some (.ref f29))) (l29 : K.lookup f29 = some ⟨oc29, od29, .func (PySem.W.fnOf "_law_passed" "_law_passed" (defArgs (top 30)) (defBody (top 30)) (defScope (top 30)) .none kV29 dc29 pm29 an29 cd29 ct29), sl29⟩) (c29 : PySem.W.codeIn K cd29 "_law_passed" = true) (k29 : PySem.W.keepIn K (.ref f29) = true)
    {f30 : Addr} {od30 an30 : Option Addr} {sl30 : Array (Option Value)} {oc30 kV30 dc30 pm30 cd30 ct30 : Value} (a30 : PySem.W.nsIn K mainGlobals "law" = some (some (.ref f30))) (l30 : K.lookup f30 = some ⟨oc30, od30, .func (PySem.W.fnOf "law" "law" (defArgs (top 31)) (defBody (top 31)) (defScope (top 31)) .none kV30 dc30 pm30 an30 cd30 ct30), sl30⟩) (c30 : PySem.W.codeIn K cd30 "law" = true) (k30 : PySem.W.keepIn K (.ref f30) = true)
    (z31 : PySem.W.nsIn K mainGlobals "abs" = some none)
    (z32 : PySem.W.nsIn K mainGlobals "int" = some none)
    (z33 : PySem.W.nsIn K mainGlobals "len" = some none)
    (z34 : PySem.W.nsIn K mainGlobals "list" = some none)
    (z35 : PySem.W.nsIn K mainGlobals "range" = some none)
    (z36 : PySem.W.nsIn K mainGlobals "repr" = some none)
    (z37 : PySem.W.nsIn K mainGlobals "sorted" = some none)
    (z38 : PySem.W.nsIn K mainGlobals "tuple" = some none)
    : Mods K mg := ⟨(.str X G a1),
      (.str X G a2),
      (.str X G a3),
      (.str X G a4),
      (.str X G a5),
      (.tup X G a6 l6 rfl rfl (by show 3 ≤ sizeLine; decide) (.cons (.str _ _) (.cons (.str _ _) (.cons (.str _ _) .nil)))),
      (.str X G a7),
      (.of X G a8 l8 c8 k8 fun _ _ _ _ _ _ us hl => match us, hl with | [_], _ => rfl),
      (.of X G a9 l9 c9 k9 fun _ _ _ _ _ _ us hl => match us, hl with | [_], _ => rfl),
      (.of X G a10 l10 c10 k10 fun _ _ _ _ _ _ us hl => match us, hl with | [_], _ => rfl),
      (.of X G a11 l11 c11 k11 fun _ _ _ _ _ _ us hl => match us, hl with | [_], _ => rfl),
      (.of X G a12 l12 c12 k12 fun _ _ _ _ _ _ us hl => match us, hl with | [_], _ => rfl),
      (.of X G a13 l13 c13 k13 fun _ _ _ _ _ _ us hl => match us, hl with | [_], _ => rfl),
      (.of X G a14 l14 c14 k14 fun _ _ _ _ _ _ us hl => match us, hl with | [_], _ => rfl),
      (.of X G a15 l15 c15 k15 fun _ _ _ _ _ _ us hl => match us, hl with | [_], _ => rfl),
      (.of X G a16 l16 c16 k16 fun _ _ _ _ _ _ us hl => match us, hl with | [_], _ => rfl),
      (.of X G a17 l17 c17 k17 fun _ _ _ _ _ _ us hl => match us, hl with | [_], _ => rfl),
      (.of X G a18 l18 c18 k18 fun _ _ _ _ _ _ us hl => match us, hl with | [_], _ => rfl),
      (.of X G a19 l19 c19 k19 fun _ _ _ _ _ _ us hl => match us, hl with | [_], _ => rfl),
      (.of X G a20 l20 c20 k20 fun _ _ _ _ _ _ us hl => match us, hl with | [_], _ => rfl),
      (.of X G a21 l21 c21 k21 fun _ _ _ _ _ _ us hl => match us, hl with | [_], _ => rfl),
      (.of X G a22 l22 c22 k22 fun _ _ _ _ _ _ us hl => match us, hl with | [_, _], _ => rfl),
      (.of X G a23 l23 c23 k23 fun _ _ _ _ _ _ us hl => match us, hl with | [_, _], _ => rfl),
      (.of X G a24 l24 c24 k24 fun _ _ _ _ _ _ us hl => match us, hl with | [_], _ => rfl),
      (.of X G a25 l25 c25 k25 fun _ _ _ _ _ _ us hl => match us, hl with | [_], _ => rfl),
      (.of X G a26 l26 c26 k26 fun _ _ _ _ _ _ us hl => match us, hl with | [_], _ => rfl),
      (.of X G a27 l27 c27 k27 fun _ _ _ _ _ _ us hl => match us, hl with | [_], _ => rfl),
      (.of X G a28 l28 c28 k28 fun _ _ _ _ _ _ us hl => match us, hl with | [_, _, _], _ => rfl),
      (.of X G a29 l29 c29 k29 fun _ _ _ _ _ _ us hl => match us, hl with | [_], _ => rfl),
      (.of X G a30 l30 c30 k30 fun _ _ _ _ _ _ us hl => match us, hl with | [_], _ => rfl),
      (PySem.W.mg_none_of X G z31),
      (PySem.W.mg_none_of X G z32),
      (PySem.W.mg_none_of X G z33),
      (PySem.W.mg_none_of X G z34),
      (PySem.W.mg_none_of X G z35),
      (PySem.W.mg_none_of X G z36),
      (PySem.W.mg_none_of X G z37),
      (PySem.W.mg_none_of X G z38)⟩
end Fx.K04

set_option Elab.async false
set_option linter.all false
set_option maxRecDepth 100000
set_option maxHeartbeats 4000000
namespace Fx.K04
open PySem L2
/-! ### rows -/
inductive Row where
  | row (x : Str) (n t : Int)
  | fold (x : Str) (rs : List Row)
  | win (x : Str) (n : Int) (rs : List Row)
  | map (x : Str) (r : Row)
  | stamp (x : Str) (r : Row) (t : Int)
  | mix (x : Str) (s : Int) (r : Row)
mutual
def enc : Row → D
  | .row x n t => .nd .tup [.str "row", .str x, .int n, .int t]
  | .fold x rs => .nd .tup [.str "fold", .str x, .nd .tup (encs rs)]
  | .win x n rs => .nd .tup [.str "window", .str x, .int n, .nd .tup (encs rs)]
  | .map x r => .nd .tup [.str "map", .str x, enc r]
  | .stamp x r t => .nd .tup [.str "stamp", .str x, enc r, .int t]
  | .mix x s r => .nd .tup [.str "mix", .str x, .int s, enc r]
def encs : List Row → List D
  | [] => []
  | r :: rs => enc r :: encs rs
end
theorem encs_map : ∀ rs : List Row, encs rs = rs.map enc
  | [] => rfl
  | r :: rs => by rw [encs, encs_map rs]; rfl
def smallI (i : Int) : Bool := decide (i.natAbs < 10 ^ 18)
/-- rows as they are drawn: d more nodes in a row, f more folds -/
inductive Lv : Nat → Nat → Row → Prop
  | row {d f x n t} : strGood x = true → smallI n = true → smallI t = true → Lv d f (.row x n t)
  | fold {d f x rs} : strGood x = true → rs ≠ [] → rs.length ≤ 4 → (∀ r ∈ rs, Lv 1 f r) → Lv d (f + 1) (.fold x rs)
  | win {d f x n rs} : strGood x = true → smallI n = true → rs.length ≤ 4 → (∀ r ∈ rs, Lv 1 f r) → Lv d (f + 1) (.win x n rs)
  | map {d f x r} : strGood x = true → Lv d f r → Lv (d + 1) f (.map x r)
  | stamp {d f x r t} : strGood x = true → smallI t = true → Lv d f r → Lv (d + 1) f (.stamp x r t)
  | mix {d f x s r} : strGood x = true → smallI s = true → Lv d f r → Lv (d + 1) f (.mix x s r)
theorem Lv.up {d f : Nat} {r : Row} (h : Lv d f r) : ∀ {d' f' : Nat}, d ≤ d' → f ≤ f' → Lv d' f' r := by
  induction h with
  | row a b c => intro d' f' _ _; exact .row a b c
  | fold a b c _ ih =>
    intro d' f' _ hf
    cases f' with
    | zero => omega
    | succ f' => exact .fold a b c fun r hr => ih r hr (Nat.le_refl _) (by omega)
  | win a b c _ ih =>
    intro d' f' _ hf
    cases f' with
    | zero => omega
    | succ f' => exact .win a b c fun r hr => ih r hr (Nat.le_refl _) (by omega)
  | map a _ ih =>
    intro d' f' hd hf
    cases d' with
    | zero => omega
    | succ d' => exact .map a (ih (by omega) hf)
  | stamp a b _ ih =>
    intro d' f' hd hf
    cases d' with
    | zero => omega
    | succ d' => exact .stamp a b (ih (by omega) hf)
  | mix a b _ ih =>
    intro d' f' hd hf
    cases d' with
    | zero => omega
    | succ d' => exact .mix a b (ih (by omega) hf)
/-- how much a drawn row weighs at most -/
def wB : Nat → Nat → Nat
  | d, 0 => 268 + 204 * d
  | d, f + 1 => 204 * d + 300 + 4 * (wB 1 f + 2)
theorem wB_zero (d : Nat) : 268 ≤ wB d 0 := by unfold wB; omega
theorem wB_row : ∀ (d f : Nat), 268 ≤ wB d f
  | d, 0 => wB_zero d
  | d, f + 1 => by unfold wB; omega
theorem wB_succ : ∀ (d f : Nat), wB (d + 1) f = wB d f + 204
  | d, 0 => by unfold wB; omega
  | d, f + 1 => by unfold wB; omega
theorem goodK {x : Str} (h : strGood x = true) : (D.str x).sound = true ∧ (D.str x).nob = true := ⟨by rw [D.sound]; exact h, by rw [D.nob]⟩
theorem goodI {i : Int} (h : smallI i = true) : (D.int i).sound = true ∧ (D.int i).nob = true := ⟨by rw [D.sound]; exact decide_eq_true (Nat.lt_trans (of_decide_eq_true h) (by decide)), by rw [D.nob]⟩
theorem kinds_good : strGood "row" = true ∧ strGood "fold" = true ∧ strGood "window" = true ∧ strGood "map" = true ∧ strGood "stamp" = true ∧ strGood "mix" = true := by decide +kernel
theorem wts_le {xs : List D} {w : Nat} (h : ∀ x ∈ xs, x.wt ≤ w) : D.wts xs ≤ xs.length * (w + 2) := by
  induction xs with
  | nil => rw [D.wts]; omega
  | cons x xs ih =>
    rw [D.wts, List.length_cons, Nat.succ_mul]
    have h1 := h x List.mem_cons_self
    have h2 := ih fun y hy => h y (List.mem_cons_of_mem _ hy)
    omega
/-- a drawn row is good data -/
theorem Lv.data {d f : Nat} {r : Row} (h : Lv d f r) : (enc r).sound = true ∧ (enc r).nob = true ∧ (enc r).dp ≤ d + 1 + 3 * f ∧ (enc r).wt ≤ wB d f := by
  obtain ⟨k1, k2, k3, k4, k5, k6⟩ := kinds_good
  induction h with
  | @row d f x n t a b c =>
    rw [enc]
    simp only [D.sound, D.sounds, D.nob, D.nobs, D.dp, D.dps, D.wt, D.wts]
    have a1 := (goodK a).1; have b1 := (goodI b).1; have c1 := (goodI c).1; have e1 := (goodK k1).1
    simp only [D.sound] at a1 b1 c1 e1
    rw [a1, b1, c1, e1]
    refine ⟨rfl, rfl, by omega, ?_⟩
    have := wB_row d f
    omega
  | @fold d f x rs a b c _ ih =>
    rw [enc, encs_map]
    simp only [D.sound, D.sounds, D.nob, D.nobs, D.dp, D.dps, D.wt, D.wts]
    have a1 := (goodK a).1; have e1 := (goodK k2).1
    simp only [D.sound] at a1 e1
    have s1 : D.sounds (rs.map enc) = true := sounds_all.mpr fun z hz => by obtain ⟨r, hr, rfl⟩ := List.mem_map.mp hz; exact (ih r hr).1
    have s2 : D.nobs (rs.map enc) = true := nobs_all.mpr fun z hz => by obtain ⟨r, hr, rfl⟩ := List.mem_map.mp hz; exact (ih r hr).2.1
    have s3 : D.dps (rs.map enc) ≤ 1 + 1 + 3 * f := dps_all.mpr fun z hz => by obtain ⟨r, hr, rfl⟩ := List.mem_map.mp hz; exact (ih r hr).2.2.1
    have s4 : D.wts (rs.map enc) ≤ rs.length * (wB 1 f + 2) := by
      have := wts_le (xs := rs.map enc) (w := wB 1 f) fun z hz => by obtain ⟨r, hr, rfl⟩ := List.mem_map.mp hz; exact (ih r hr).2.2.2
      simpa using this
    rw [a1, e1, s1, s2]
    refine ⟨rfl, rfl, by omega, ?_⟩
    have s5 : rs.length * (wB 1 f + 2) ≤ 4 * (wB 1 f + 2) := Nat.mul_le_mul_right _ c
    show _ ≤ 204 * d + 300 + 4 * (wB 1 f + 2)
    omega
  | @win d f x n rs a b c _ ih =>
    rw [enc, encs_map]
    simp only [D.sound, D.sounds, D.nob, D.nobs, D.dp, D.dps, D.wt, D.wts]
    have a1 := (goodK a).1; have b1 := (goodI b).1; have e1 := (goodK k3).1
    simp only [D.sound] at a1 b1 e1
    have s1 : D.sounds (rs.map enc) = true := sounds_all.mpr fun z hz => by obtain ⟨r, hr, rfl⟩ := List.mem_map.mp hz; exact (ih r hr).1
    have s2 : D.nobs (rs.map enc) = true := nobs_all.mpr fun z hz => by obtain ⟨r, hr, rfl⟩ := List.mem_map.mp hz; exact (ih r hr).2.1
    have s3 : D.dps (rs.map enc) ≤ 1 + 1 + 3 * f := dps_all.mpr fun z hz => by obtain ⟨r, hr, rfl⟩ := List.mem_map.mp hz; exact (ih r hr).2.2.1
    have s4 : D.wts (rs.map enc) ≤ rs.length * (wB 1 f + 2) := by
      have := wts_le (xs := rs.map enc) (w := wB 1 f) fun z hz => by obtain ⟨r, hr, rfl⟩ := List.mem_map.mp hz; exact (ih r hr).2.2.2
      simpa using this
    rw [a1, b1, e1, s1, s2]
    refine ⟨rfl, rfl, by omega, ?_⟩
    have s5 : rs.length * (wB 1 f + 2) ≤ 4 * (wB 1 f + 2) := Nat.mul_le_mul_right _ c
    show _ ≤ 204 * d + 300 + 4 * (wB 1 f + 2)
    omega
  | @map d f x r a _ ih =>
    rw [enc]
    simp only [D.sound, D.sounds, D.nob, D.nobs, D.dp, D.dps, D.wt, D.wts]
    have a1 := (goodK a).1; have e1 := (goodK k4).1
    simp only [D.sound] at a1 e1
    obtain ⟨i1, i2, i3, i4⟩ := ih
    rw [a1, e1, i1, i2, wB_succ]
    exact ⟨rfl, rfl, by omega, by omega⟩
  | @stamp d f x r t a b _ ih =>
    rw [enc]
    simp only [D.sound, D.sounds, D.nob, D.nobs, D.dp, D.dps, D.wt, D.wts]
    have a1 := (goodK a).1; have b1 := (goodI b).1; have e1 := (goodK k5).1
    simp only [D.sound] at a1 b1 e1
    obtain ⟨i1, i2, i3, i4⟩ := ih
    rw [a1, b1, e1, i1, i2, wB_succ]
    exact ⟨rfl, rfl, by omega, by omega⟩
  | @mix d f x s r a b _ ih =>
    rw [enc]
    simp only [D.sound, D.sounds, D.nob, D.nobs, D.dp, D.dps, D.wt, D.wts]
    have a1 := (goodK a).1; have b1 := (goodI b).1; have e1 := (goodK k6).1
    simp only [D.sound] at a1 b1 e1
    obtain ⟨i1, i2, i3, i4⟩ := ih
    rw [a1, b1, e1, i1, i2, wB_succ]
    exact ⟨rfl, rfl, by omega, by omega⟩
end Fx.K04

set_option Elab.async false
set_option linter.all false
set_option maxRecDepth 100000
set_option maxHeartbeats 4000000
namespace Fx.K04
open PySem L2
/-! ### what the defs tell of a row -/
def Row.nm : Row → Str
  | .row x _ _ | .fold x _ | .win x _ _ | .map x _ | .stamp x _ _ | .mix x _ _ => x
def Row.base : Row → Row
  | .map _ r => r.base
  | .stamp _ r _ => r.base
  | .mix _ _ r => r.base
  | r => r
def Row.sides : Row → List (Str × Int)
  | .map _ r => r.sides
  | .stamp _ r _ => r.sides
  | .mix x s r => r.sides ++ [(x, s)]
  | _ => []
def Row.kind : Row → Str
  | .row _ _ _ => "row"
  | .fold _ _ => "fold"
  | .win _ _ _ => "window"
  | .map _ _ => "map"
  | .stamp _ _ _ => "stamp"
  | .mix _ _ _ => "mix"
def side (p : Str × Int) : D := .nd .tup [.str p.1, .int p.2]
/-- the kinds' texts, compared -/
theorem tab : ∀ a ∈ (["row", "fold", "window", "map", "stamp", "mix"] : List Str), ∀ b ∈ (["row", "fold", "window", "map", "stamp", "mix"] : List Str), dEq (.str a) (.str b) = some (decide (a = b)) ∧ dNe (.str a) (.str b) = some (decide (a ≠ b)) := by decide +kernel
theorem kind_in (r : Row) : r.kind ∈ (["row", "fold", "window", "map", "stamp", "mix"] : List Str) := by cases r <;> simp [Row.kind]
theorem tabW : ∀ a ∈ (["row", "fold", "window", "map", "stamp", "mix"] : List Str), dIn (.str a) k_ROWWISE = some (decide (a = "map" ∨ a = "stamp" ∨ a = "mix")) ∧
    dIn (.str a) (.nd .tup [.str "row", .str "fold", .str "window"]) = some (decide (a = "row" ∨ a = "fold" ∨ a = "window")) ∧ dIn (.str a) (.nd .tup [.str "fold", .str "window"]) = some (decide (a = "fold" ∨ a = "window")) := by decide +kernel
theorem head_row (r : Row) : dIx (enc r) (.int 0) = some (.str r.kind) ∧ dIx (enc r) (.int 1) = some (.str r.nm) := by cases r <;> exact ⟨rfl, rfl⟩
theorem head_of_at (r : Row) : noX (m_head_of [.im (enc r)]) = .ok ([.im (enc r)], .im (.str r.nm)) := by
  cases r <;> rfl
section
variable {ρ : Env} {i : Nat} {r : Row}
theorem rN_at {d : D} (h : ρ[i]? = some (.im d)) : rN i ρ = .ok (ρ, .slot i) := by unfold rN; rw [h]
theorem peek_at {d : D} (h : ρ[i]? = some (.im d)) : peek ρ (.slot i) = some d := by
  show (ρ[i]?).bind Sl.peek = some d
  rw [h]; rfl
theorem fld {d e : D} {j : Int} (h : ρ[i]? = some (.im d)) (hj : dIx d (.int j) = some e) : v2 dIx (rN i) (hC (.int j)) ρ = .ok (ρ, e) := by
  simp [v2, rN_at h, hC, peek_at h, show peek ρ (.im (.int j)) = some (.int j) from rfl, hj]
theorem t2_at {F : D → D → Option Bool} {f g : Env → Rz (Env × Rs)} {a b : D} {x y : Rs} {c : Bool} (hf : f ρ = .ok (ρ, x)) (hg : g ρ = .ok (ρ, y)) (ha : peek ρ x = some a) (hb : peek ρ y = some b) (h : F a b = some c) : t2 F f g ρ = .ok (ρ, c) := by
  simp [t2, hf, hg, ha, hb, h]
theorem hV_at {f : Env → Rz (Env × D)} {d : D} (h : f ρ = .ok (ρ, d)) : hV f ρ = .ok (ρ, .im d) := by simp [hV, h]
theorem kEq {c : Str} (h : ρ[i]? = some (.im (enc r))) (hc : c ∈ (["row", "fold", "window", "map", "stamp", "mix"] : List Str)) : t2 dEq (hV (v2 dIx (rN i) (hC (.int 0)))) (hC (.str c)) ρ = .ok (ρ, decide (r.kind = c)) :=
  t2_at (hV_at (fld h (head_row r).1)) rfl rfl rfl (tab _ (kind_in r) _ hc).1
theorem kNe {c : Str} (h : ρ[i]? = some (.im (enc r))) (hc : c ∈ (["row", "fold", "window", "map", "stamp", "mix"] : List Str)) : t2 dNe (hV (v2 dIx (rN i) (hC (.int 0)))) (hC (.str c)) ρ = .ok (ρ, decide (r.kind ≠ c)) :=
  t2_at (hV_at (fld h (head_row r).1)) rfl rfl rfl (tab _ (kind_in r) _ hc).2
def Row.wraps : Row → Bool
  | .map _ _ => true
  | .stamp _ _ _ => true
  | .mix _ _ _ => true
  | _ => false
theorem wk : ∀ p ∈ ([("row", false), ("fold", false), ("window", false), ("map", true), ("stamp", true), ("mix", true)] : List (Str × Bool)), decide (p.1 = "map" ∨ p.1 = "stamp" ∨ p.1 = "mix") = p.2 ∧ decide (p.1 = "row" ∨ p.1 = "fold" ∨ p.1 = "window") = !p.2 := by decide +kernel
theorem wraps_kind : decide (r.kind = "map" ∨ r.kind = "stamp" ∨ r.kind = "mix") = r.wraps ∧ decide (r.kind = "row" ∨ r.kind = "fold" ∨ r.kind = "window") = !r.wraps := by
  have : (r.kind, r.wraps) ∈ ([("row", false), ("fold", false), ("window", false), ("map", true), ("stamp", true), ("mix", true)] : List (Str × Bool)) := by cases r <;> simp [Row.kind, Row.wraps]
  exact wk _ this
theorem kW (h : ρ[i]? = some (.im (enc r))) : t2 dIn (hV (v2 dIx (rN i) (hC (.int 0)))) (hC k_ROWWISE) ρ = .ok (ρ, r.wraps) :=
  t2_at (hV_at (fld h (head_row r).1)) rfl rfl rfl (by rw [(tabW _ (kind_in r)).1, wraps_kind.1])
theorem vTup3 (a b c : D) : vTup (aCons (hC a) (aCons (hC b) (aCons (hC c) aNil))) ρ = .ok (ρ, .nd .tup [a, b, c]) := rfl
theorem vTup2 (a b : D) : vTup (aCons (hC a) (aCons (hC b) aNil)) ρ = .ok (ρ, .nd .tup [a, b]) := rfl
theorem kB (h : ρ[i]? = some (.im (enc r))) : t2 dIn (hV (v2 dIx (rN i) (hC (.int 0)))) (hV (vTup (aCons (hC (.str "row")) (aCons (hC (.str "fold")) (aCons (hC (.str "window")) aNil))))) ρ = .ok (ρ, !r.wraps) :=
  t2_at (hV_at (fld h (head_row r).1)) (hV_at (vTup3 _ _ _)) rfl rfl (by rw [(tabW _ (kind_in r)).2.1, wraps_kind.2])
end
/-- one ahead -/
def Row.inner : Row → Row
  | .map _ r => r
  | .stamp _ r _ => r
  | .mix _ _ r => r
  | r => r
theorem kinds_ne : decide ((Str.ofString "map") = (Str.ofString "mix")) = false ∧ decide ((Str.ofString "stamp") = (Str.ofString "mix")) = false := by decide +kernel
/-- the field in which the row ahead lies, as both ask for it -/
theorem inner_at {ρ : Env} {i : Nat} {r : Row} (h : ρ[i]? = some (.im (enc r))) (hw : r.wraps = true) : vIf (t2 dEq (hV (v2 dIx (rN i) (hC (.int 0)))) (hC (.str "mix"))) (v2 dIx (rN i) (hC (.int 3))) (v2 dIx (rN i) (hC (.int 2))) ρ = .ok (ρ, enc r.inner) := by
  have e := kEq h (c := "mix") (by simp)
  unfold vIf
  rw [e]
  cases r with
  | map x r =>
    simp only [Row.kind, kinds_ne.1]
    exact fld h rfl
  | stamp x r t =>
    simp only [Row.kind, kinds_ne.2]
    exact fld h rfl
  | mix x s r =>
    simp only [Row.kind, decide_true]
    exact fld h rfl
  | _ => cases hw
theorem inside_at {r : Row} (hw : r.wraps = true) : noX (m_inside [.im (enc r)]) = .ok ([.im (enc r)], .im (enc r.inner)) := by
  have e := inner_at (ρ := [.im (enc r)]) (i := 0) rfl hw
  have g : g_inside [.im (enc r)] = .ok ([.im (enc r)], .rt (.im (enc r.inner))) := by
    show gRet (hV (vIf (t2 dEq (hV (v2 dIx (rN 0) (hC (.int 0)))) (hC (.str "mix"))) (v2 dIx (rN 0) (hC (.int 3))) (v2 dIx (rN 0) (hC (.int 2))))) _ = _
    unfold gRet
    rw [hV_at e]
    rfl
  simp [m_inside, runF, g, okOuts, retV, Rz.bind]
end Fx.K04

set_option Elab.async false
set_option linter.all false
set_option maxRecDepth 100000
set_option maxHeartbeats 4000000
namespace Fx.K04
open PySem L2
def Row.len : Row → Nat
  | .map _ r => r.len + 1
  | .stamp _ r _ => r.len + 1
  | .mix _ _ r => r.len + 1
  | _ => 0
theorem len_inner {r : Row} (h : r.wraps = true) : r.len = r.inner.len + 1 := by cases r <;> first | rfl | cases h
theorem base_inner {r : Row} (h : r.wraps = true) : r.base = r.inner.base := by cases r <;> first | rfl | cases h
theorem base_stop {r : Row} (h : r.wraps = false) : r.base = r := by cases r <;> first | rfl | cases h
theorem Lv.len_le {d f : Nat} {r : Row} (h : Lv d f r) : r.len ≤ d := by
  induction h <;> simp only [Row.len] <;> omega
/-- a loop down a row's nodes, with what it gathers -/
theorem call1 {F : Env → Rz (Env × Rs)} {ρ : Env} {i : Nat} {d : D} {o : Env} {q : Rs} (e : ρ[i]? = some (.im d)) (h : F [.im d] = .ok (o, q)) (hl : 1 ≤ o.length) : eCallN 1 F [false] (aCons (rN i) aNil) ρ = .ok (ρ, q) := call_im e h hl
theorem step_in {r : Row} {ρ : Env} (hw : r.wraps = true) : gSet 0 (eCallN 1 (fun a => noX (m_inside a)) [false] (aCons (rN 0) aNil)) (.im (enc r) :: ρ) = .ok (.im (enc r.inner) :: ρ, .nx) := by
  unfold gSet
  rw [call1 (i := 0) rfl (inside_at hw) (by simp)]
  rfl
/-- the test of the kind, in a gIf -/
theorem base_of_at {d f : Nat} {r : Row} (h : Lv d f r) (hd : d < 100) : noX (m_base_of [.im (enc r)]) = .ok ([.im (enc r.base)], .im (enc r.base)) := by
  have loop : ∀ (n : Nat) (r : Row), r.len < n → gWhile (t2 dIn (hV (v2 dIx (rN 0) (hC (.int 0)))) (hC k_ROWWISE)) (gSet 0 (eCallN 1 (fun a => noX (m_inside a)) [false] (aCons (rN 0) aNil))) n [.im (enc r)] = .ok ([.im (enc r.base)], .nx) := by
    intro n
    induction n with
    | zero => intro r h; omega
    | succ n ih =>
      intro r hl
      have k := kW (ρ := [.im (enc r)]) (i := 0) (r := r) rfl
      cases hw : r.wraps with
      | false => rw [hw] at k; rw [while_stop k, base_stop hw]
      | true => rw [hw] at k; rw [while_go k (step_in hw), ih r.inner (by rw [len_inner hw] at hl; omega), base_inner hw]
  have l := loop 100 r (Nat.lt_of_le_of_lt h.len_le hd)
  exact run_rt (ρ' := [.im (enc r.base)]) (r := .slot 0) (by unfold g_base_of; exact (seq_nx l).trans (ret_ok (rN_at rfl))) rfl rfl
/-- an own list grows -/
theorem app_at {ρ : Env} {i : Nat} {acc : List D} {f : Env → Rz (Env × D)} {d : D} (h : ρ[i]? = some (.lo (.nd .lst acc))) (hf : f ρ = .ok (ρ, d)) (hz : acc.length < 1000) : gExpr (eMth i mAppend (aCons (hV f) aNil)) ρ = .ok (ρ.set i (.lo (.nd .lst (acc ++ [d]))), .nx) := by
  have own : ownC ρ i = some (.lo (.nd .lst acc), .nd .lst acc) := by unfold ownC; rw [h]; rfl
  have s : sz (acc.length + 1) = true := by unfold sz; exact decide_eq_true (Nat.le_trans (show acc.length + 1 ≤ 1000 from hz) (by decide))
  simp [gExpr, eMth, own, isLst, aCons, aNil, hV, hf, useAll, use, mAppend, s, Sl.withD, Rz.bind]
/-- what is gathered from the outside in -/
def Row.out : Row → List (Str × Int)
  | .map _ r => r.out
  | .stamp _ r _ => r.out
  | .mix x s r => (x, s) :: r.out
  | _ => []
theorem out_rev (r : Row) : r.out.reverse = r.sides := by
  induction r using Row.rec (motive_2 := fun _ => True) <;> simp_all [Row.sides, Row.out]
theorem vT2 {ρ : Env} {f g : Env → Rz (Env × D)} {a b : D} (hf : f ρ = .ok (ρ, a)) (hg : g ρ = .ok (ρ, b)) : vTup (aCons (hV f) (aCons (hV g) aNil)) ρ = .ok (ρ, .nd .tup [a, b]) :=
  tup_ok (q := [.im a, .im b]) (ds := [a, b]) (cons_ok (hV_ok hf) (cons_ok (hV_ok hg) rfl)) rfl (by simp)
def nameK (u : Nat) : Str := (["row", "fold", "window", "map", "stamp", "mix"] : List Str).getD u "row"
def Row.tag : Row → Nat
  | .row _ _ _ => 0
  | .fold _ _ => 1
  | .win _ _ _ => 2
  | .map _ _ => 3
  | .stamp _ _ _ => 4
  | .mix _ _ _ => 5
theorem names_eq : ∀ a < 6, ∀ b < 6, decide (nameK a = nameK b) = decide (a = b) := by decide +kernel
theorem tag_lt (r : Row) : r.tag < 6 := by cases r <;> simp [Row.tag]
theorem is_kind (r : Row) {u : Nat} (h : u < 6) : decide (r.kind = nameK u) = decide (r.tag = u) := by
  rw [show r.kind = nameK r.tag by cases r <;> rfl]
  exact names_eq _ (tag_lt r) _ h
theorem is_mix (r : Row) : decide (r.kind = "mix") = decide (r.tag = 5) := is_kind r (u := 5) (by decide)
theorem sides_of_at {d f : Nat} {r : Row} (h : Lv d f r) (hd : d < 100) : noX (m_sides_of [.im (enc r)]) = .ok ([.im (enc r.base)], .im (.nd .tup (r.sides.map side))) := by
  have loop : ∀ (n : Nat) (r : Row) (acc : List D), r.len < n → acc.length + r.len < 1000 →
      gWhile (t2 dIn (hV (v2 dIx (rN 0) (hC (.int 0)))) (hC k_ROWWISE)) (gSeq (gIf (t2 dEq (hV (v2 dIx (rN 0) (hC (.int 0)))) (hC k_MIX)) (gExpr (eMth 1 mAppend (aCons (hV (vTup (aCons (hV (v2 dIx (rN 0) (hC (.int 1)))) (aCons (hV (v2 dIx (rN 0) (hC (.int 2)))) aNil)))) aNil))) gNext)
        (gSet 0 (eCallN 1 (fun a => noX (m_inside a)) [false] (aCons (rN 0) aNil)))) n [.im (enc r), .lo (.nd .lst acc)] = .ok ([.im (enc r.base), .lo (.nd .lst (acc ++ r.out.map side))], .nx) := by
    intro n
    induction n with
    | zero => intro r acc h; omega
    | succ n ih =>
      intro r acc hl hz
      have k := kW (ρ := [.im (enc r), .lo (.nd .lst acc)]) (i := 0) (r := r) rfl
      cases hw : r.wraps with
      | false =>
        have : r.out = [] := by cases r <;> first | rfl | cases hw
        rw [hw] at k
        rw [while_stop k, base_stop hw, this]
        simp
      | true =>
        rw [hw] at k
        have ln := len_inner hw
        have m := kEq (ρ := [.im (enc r), .lo (.nd .lst acc)]) (i := 0) (r := r) (c := "mix") rfl (by simp)
        rw [is_mix] at m
        cases r with
        | mix x s r =>
          have a := app_at (ρ := [.im (enc (.mix x s r)), .lo (.nd .lst acc)]) (i := 1) rfl (vT2 (fld (i := 0) rfl (show dIx (enc (.mix x s r)) (.int 1) = some (.str x) from rfl)) (fld (i := 0) rfl (show dIx (enc (.mix x s r)) (.int 2) = some (.int s) from rfl))) (by omega)
          rw [while_go k ((seq_nx ((if_t m).trans a)).trans (step_in hw))]
          refine (ih r _ (by rw [show (Row.mix x s r).inner = r from rfl] at ln; omega) (by rw [show (Row.mix x s r).inner = r from rfl] at ln; simp; omega)).trans ?_
          simp [Row.base, Row.out, side]
        | map x r =>
          rw [while_go k ((seq_nx ((if_f m).trans rfl)).trans (step_in hw))]
          exact ih r _ (by rw [show (Row.map x r).inner = r from rfl] at ln; omega) (by rw [show (Row.map x r).inner = r from rfl] at ln; omega)
        | stamp x r t =>
          rw [while_go k ((seq_nx ((if_f m).trans rfl)).trans (step_in hw))]
          exact ih r _ (by rw [show (Row.stamp x r t).inner = r from rfl] at ln; omega) (by rw [show (Row.stamp x r t).inner = r from rfl] at ln; omega)
        | _ => cases hw
  have hl := h.len_le
  have l := loop 100 r [] (by omega) (by simp; omega)
  refine run_rt (ρ' := [.im (enc r.base), .lo (.nd .lst (r.out.map side))]) (r := .im (.nd .tup (r.sides.map side))) ?_ rfl rfl
  unfold g_sides_of
  refine (seq_nx (show gSet 1 (eLst aNil) [.im (enc r), .no] = .ok ([.im (enc r), .lo (.nd .lst [])], .nx) from rfl)).trans ((seq_nx l).trans (ret_ok ?_))
  have e : eRev (rN 1) [.im (enc r.base), .lo (.nd .lst (r.out.map side))] = .ok ([.im (enc r.base), .lo (.nd .lst (r.out.map side))], .nw (.nd .lst (r.out.map side).reverse)) := rfl
  exact blt_ok (cons_ok (hH_ok e) rfl) (ds := [.nd .lst (r.out.map side).reverse]) rfl (by rw [← List.map_reverse, out_rev]; rfl)
end Fx.K04

set_option Elab.async false
set_option linter.all false
set_option maxRecDepth 100000
set_option maxHeartbeats 4000000
namespace Fx.K04
open PySem L2
theorem call_y {F : Env → Rz (Env × Rs)} {a : Env → Rz (Env × Rs)} {ρ ρ1 : Env} {x : Rs} {d : D} {y : Sl} {r : Rs} (ha : a ρ = .ok (ρ1, x)) (hu : use ρ1 x = .ok (ρ1, d)) (h : F [.im d] = .ok ([y], r)) : eCallN 1 F [false] (aCons a aNil) ρ = .ok (ρ1, r) := call_at ha hu h (Nat.le_refl 1)
def Row.num : Row → Int
  | .row _ n _ => n
  | .fold _ rs => (rs.length : Int) - 1
  | .win _ n _ => n
  | _ => 0
def sidesD (r : Row) : D := .nd .tup (r.sides.map side)
def nameD (r : Row) : D := .nd .tup [.str r.base.nm, .int r.base.num, sidesD r]
def timeD (r : Row) : D := match r.base with
  | .row _ _ t => .int t
  | _ => .non
theorem base_wraps (r : Row) : r.base.wraps = false := by
  induction r using Row.rec (motive_2 := fun _ => True) <;> simp_all [Row.base, Row.wraps]
theorem base_base (r : Row) : r.base.base = r.base := base_stop (base_wraps r)
theorem is_fold (r : Row) : decide (r.kind = "fold") = decide (r.tag = 1) := is_kind r (u := 1) (by decide)
theorem is_row (r : Row) : decide (r.kind = "row") = decide (r.tag = 0) := is_kind r (u := 0) (by decide)
theorem is_win (r : Row) : decide (r.kind = "window") = decide (r.tag = 2) := is_kind r (u := 2) (by decide)
theorem is_stamp (r : Row) : decide (r.kind = "stamp") = decide (r.tag = 4) := is_kind r (u := 4) (by decide)
/-- the number of a base, as both ask for it -/
theorem num_at {ρ : Env} {i : Nat} {r : Row} (h : ρ[i]? = some (.im (enc r))) (hw : r.wraps = false) :
    vIf (t2 dEq (hV (v2 dIx (rN i) (hC (.int 0)))) (hC (.str "fold"))) (v2 dSub (hH (eB dLen (aCons (hV (v2 dIx (rN i) (hC (.int 2)))) aNil))) (hC (.int 1))) (v2 dIx (rN i) (hC (.int 2))) ρ = .ok (ρ, .int r.num) := by
  have m := kEq h (c := "fold") (by simp)
  rw [is_fold] at m
  cases r with
  | row x n t => exact (vif_f m).trans (fld h rfl)
  | win x n rs => exact (vif_f m).trans (fld h rfl)
  | fold x rs =>
    refine (vif_t m).trans ?_
    have l : eB dLen (aCons (hV (v2 dIx (rN i) (hC (.int 2)))) aNil) ρ = .ok (ρ, .im (.int (rs.length : Int))) :=
      blt_ok (q := [.im (.nd .tup (encs rs))]) (ds := [.nd .tup (encs rs)]) (cons_ok (hV_ok (fld h rfl)) rfl) rfl (by show some (Rs.im (.int ((encs rs).length : Int))) = _; rw [encs_map, List.length_map])
    exact two_ok (hH_ok l) rfl rfl rfl rfl
  | _ => cases hw
theorem number_of_at {r : Row} (hw : r.wraps = false) : noX (m_number_of [.im (enc r)]) = .ok ([.im (enc r)], .im (.int r.num)) :=
  run_rt (ρ' := [.im (enc r)]) (r := .im (.int r.num)) (ret_ok (hV_ok (num_at (ρ := [.im (enc r)]) (i := 0) rfl hw))) rfl rfl
section
variable {d f : Nat} {r : Row}
theorem name_of_at (h : Lv d f r) (hd : d < 100) : noX (m_name_of [.im (enc r)]) = .ok ([.im (enc r)], .im (nameD r)) := by
  refine run_rt (ρ' := [.im (enc r), .im (enc r.base)]) (r := .im (nameD r)) ?_ rfl rfl
  refine (seq_nx (set_ok (call_y (rN_at (i := 0) rfl) rfl (base_of_at h hd)) (ρ2 := [.im (enc r), .im (enc r.base)]) rfl)).trans (ret_ok (hV_ok ?_))
  refine tup_ok (q := [.im (.str r.base.nm), .im (.int r.base.num), .im (sidesD r)]) (ds := [.str r.base.nm, .int r.base.num, sidesD r]) ?_ rfl (by simp)
  refine cons_ok (hV_ok (fld (i := 1) rfl (head_row r.base).2)) (cons_ok (hH_im (call_y (rN_at (i := 1) rfl) rfl (number_of_at (base_wraps r)))) (cons_ok (hH_im (call_y (rN_at (i := 0) rfl) rfl (sides_of_at h hd))) rfl))
theorem way_of_at (h : Lv d f r) (hd : d < 100) : noX (m_way_of [.im (enc r)]) = .ok ([.im (enc r)], .im (.nd .tup [.str r.base.nm, sidesD r])) := by
  refine run_rt (ρ' := [.im (enc r)]) (r := .im (.nd .tup [.str r.base.nm, sidesD r])) ?_ rfl rfl
  refine ret_ok (hV_ok (tup_ok (q := [.im (.str r.base.nm), .im (sidesD r)]) (ds := [.str r.base.nm, sidesD r]) ?_ rfl (by simp)))
  refine cons_ok (hV_ok (two_ok (hH_im (call_y (rN_at (i := 0) rfl) rfl (base_of_at h hd))) rfl rfl rfl (head_row r.base).2)) (cons_ok (hH_im (call_y (rN_at (i := 0) rfl) rfl (sides_of_at h hd))) rfl)
/-- the time, as both ask for it -/
theorem tm_at {ρ : Env} {i : Nat} {r : Row} (h : ρ[i]? = some (.im (enc r.base))) :
    vIf (t2 dEq (hV (v2 dIx (rN i) (hC (.int 0)))) (hC (.str "row"))) (v2 dIx (rN i) (hC (.int 3))) (vC .non) ρ = .ok (ρ, timeD r) := by
  have m := kEq h (c := "row") (by simp)
  rw [is_row] at m
  have bw := base_wraps r
  unfold timeD
  cases e : r.base with
  | row x n t => rw [e] at m h; exact (vif_t m).trans (fld h rfl)
  | win x n rs => rw [e] at m h; exact (vif_f m).trans rfl
  | fold x rs => rw [e] at m h; exact (vif_f m).trans rfl
  | map _ _ => rw [e] at bw; cases bw
  | stamp _ _ _ => rw [e] at bw; cases bw
  | mix _ _ _ => rw [e] at bw; cases bw
theorem time_of_at (h : Lv d f r) (hd : d < 100) : noX (m_time_of [.im (enc r)]) = .ok ([.im (enc r)], .im (timeD r)) := by
  refine run_rt (ρ' := [.im (enc r), .im (enc r.base)]) (r := .im (timeD r)) ?_ rfl rfl
  refine (seq_nx (set_ok (call_y (rN_at (i := 0) rfl) rfl (base_of_at h hd)) (ρ2 := [.im (enc r), .im (enc r.base)]) rfl)).trans (ret_ok (hV_ok (tm_at (i := 1) rfl)))
def placeD (r : Row) : D := .nd .tup [.str r.nm, nameD r]
theorem place_of_at (h : Lv d f r) (hd : d < 100) : noX (m_place_of [.im (enc r)]) = .ok ([.im (enc r)], .im (placeD r)) := by
  refine run_rt (ρ' := [.im (enc r)]) (r := .im (placeD r)) ?_ rfl rfl
  refine ret_ok (hV_ok (tup_ok (q := [.im (.str r.nm), .im (nameD r)]) (ds := [.str r.nm, nameD r]) ?_ rfl (by simp)))
  refine cons_ok (hV_ok (fld (i := 0) rfl (head_row r).2)) (cons_ok (hH_im (call_y (rN_at (i := 0) rfl) rfl (name_of_at h hd))) rfl)
/-! ### the law's own tellings -/
theorem own_base : ∀ (n : Nat) (r : Row), r.len < n → noX (m__law_base n [.im (enc r)]) = .ok ([.im (enc r)], .im (enc r.base)) := by
  intro n
  induction n with
  | zero => intro r h; omega
  | succ n ih =>
    intro r hl
    have k := kB (ρ := [.im (enc r)]) (i := 0) (r := r) rfl
    cases hw : r.wraps with
    | false =>
      rw [hw] at k
      rw [base_stop hw]
      exact run_rt (ρ' := [.im (enc r)]) (r := .slot 0) ((seq_rt ((if_t k).trans (ret_ok (rN_at rfl)))).trans rfl) rfl rfl
    | true =>
      rw [hw] at k
      refine run_rt (ρ' := [.im (enc r)]) (r := .im (enc r.base)) ((seq_nx ((if_f k).trans rfl)).trans (ret_ok ?_)) rfl rfl
      rw [base_inner hw]
      exact call_y (hV_ok (inner_at (i := 0) rfl hw)) rfl (ih r.inner (by rw [len_inner hw] at hl; omega))
theorem sides_stop {r : Row} (h : r.wraps = false) : r.sides = [] := by cases r <;> first | rfl | cases h
theorem sides_lenL (r : Row) : r.sides.length ≤ r.len := by
  induction r using Row.rec (motive_2 := fun _ => True) <;> simp [Row.sides, Row.len] <;> omega
theorem own_sides : ∀ (n : Nat) (r : Row), r.len < n → n < 900 → noX (m__law_sides n [.im (enc r)]) = .ok ([.im (enc r)], .im (sidesD r)) := by
  intro n
  induction n with
  | zero => intro r h; omega
  | succ n ih =>
    intro r hl hn
    have k := kB (ρ := [.im (enc r)]) (i := 0) (r := r) rfl
    cases hw : r.wraps with
    | false =>
      rw [hw] at k
      unfold sidesD
      rw [sides_stop hw]
      exact run_rt (ρ' := [.im (enc r)]) (r := .im (.nd .tup [])) ((seq_rt ((if_t k).trans (ret_ok (hV_ok (tup_ok (q := []) (ds := []) rfl rfl (by simp)))))).trans rfl) rfl rfl
    | true =>
      rw [hw] at k
      refine run_rt (ρ' := [.im (enc r)]) (r := .im (sidesD r)) ((seq_nx ((if_f k).trans rfl)).trans (ret_ok ?_)) rfl rfl
      have ln := len_inner hw
      have c := call_y (ρ := [.im (enc r)]) (F := fun a => noX (m__law_sides n a)) (hV_ok (inner_at (i := 0) rfl hw)) rfl (ih r.inner (by omega) (by omega))
      have m := kEq (ρ := [.im (enc r)]) (i := 0) (r := r) (c := "mix") rfl (by simp)
      rw [is_mix] at m
      have add : ∀ zs : List D, zs.length ≤ 1 → dAdd (sidesD r.inner) (.nd .tup zs) = some (.im (.nd .tup (r.inner.sides.map side ++ zs))) := fun zs hz => by
        have s := sides_lenL r.inner
        show (if sz ((r.inner.sides.map side).length + zs.length) = true then _ else _) = _
        rw [if_pos (show sz _ = true from decide_eq_true (Nat.le_trans (show (r.inner.sides.map side).length + zs.length ≤ 1000 by rw [List.length_map]; omega) (by decide)))]
      cases r with
      | mix x s r =>
        refine add_ok (hH_ok c) (hV_ok ((vif_t m).trans (tup_ok (q := [.im (side (x, s))]) (ds := [side (x, s)]) (cons_ok (hV_ok (vT2 (fld (i := 0) rfl rfl) (fld (i := 0) rfl rfl))) rfl) rfl (by simp)))) rfl rfl ?_
        rw [add _ (by simp)]
        simp [sidesD, Row.sides, Row.inner]
      | map x r =>
        refine add_ok (hH_ok c) (hV_ok ((vif_f m).trans (tup_ok (q := []) (ds := []) rfl rfl (by simp)))) rfl rfl ?_
        rw [add _ (by simp)]
        simp [sidesD, Row.sides, Row.inner]
      | stamp x r t =>
        refine add_ok (hH_ok c) (hV_ok ((vif_f m).trans (tup_ok (q := []) (ds := []) rfl rfl (by simp)))) rfl rfl ?_
        rw [add _ (by simp)]
        simp [sidesD, Row.sides, Row.inner]
      | _ => cases hw
theorem own_name (h : Lv d f r) (hd : d < 30) : noX (m__law_name [.im (enc r)]) = .ok ([.im (enc r)], .im (nameD r)) := by
  have hl : r.len < 30 := Nat.lt_of_le_of_lt h.len_le hd
  refine run_rt (ρ' := [.im (enc r), .im (enc r.base)]) (r := .im (nameD r)) ?_ rfl rfl
  refine (seq_nx (set_ok (call_y (rN_at (i := 0) rfl) rfl (own_base 30 r hl)) (ρ2 := [.im (enc r), .im (enc r.base)]) rfl)).trans (ret_ok (hV_ok ?_))
  refine tup_ok (q := [.im (.str r.base.nm), .im (.int r.base.num), .im (sidesD r)]) (ds := [.str r.base.nm, .int r.base.num, sidesD r]) ?_ rfl (by simp)
  refine cons_ok (hV_ok (fld (i := 1) rfl (head_row r.base).2)) (cons_ok (hV_ok (num_at (i := 1) rfl (base_wraps r))) (cons_ok (hH_im (call_y (rN_at (i := 0) rfl) rfl (own_sides 30 r hl (by decide)))) rfl))
end
end Fx.K04

set_option Elab.async false
set_option linter.all false
set_option maxRecDepth 100000
set_option maxHeartbeats 4000000
namespace Fx.K04
open PySem L2
/-- the nodes passed, from the outside in -/
def Row.passed : Row → List Row
  | .map x r => .map x r :: r.passed
  | .stamp x r t => .stamp x r t :: r.passed
  | .mix x s r => .mix x s r :: r.passed
  | _ => []
theorem passed_stop {r : Row} (h : r.wraps = false) : r.passed = [] := by cases r <;> first | rfl | cases h
theorem passed_go {r : Row} (h : r.wraps = true) : r.passed = r :: r.inner.passed := by cases r <;> first | rfl | cases h
theorem passed_len (r : Row) : r.passed.length = r.len := by
  induction r using Row.rec (motive_2 := fun _ => True) <;> simp_all [Row.passed, Row.len]
theorem Lv.inner {d f : Nat} {r : Row} (h : Lv d f r) (hw : r.wraps = true) : Lv d f r.inner := by
  cases h with
  | map a b => exact b.up (Nat.le_succ _) (Nat.le_refl _)
  | stamp a b c => exact c.up (Nat.le_succ _) (Nat.le_refl _)
  | mix a b c => exact c.up (Nat.le_succ _) (Nat.le_refl _)
  | _ => cases hw
theorem Lv.passed {d f : Nat} {r : Row} (h : Lv d f r) : ∀ q ∈ r.passed, Lv d f q ∧ q.wraps = true := by
  have all : ∀ (n : Nat) (r : Row), r.len < n → Lv d f r → ∀ q ∈ r.passed, Lv d f q ∧ q.wraps = true := by
    intro n
    induction n with
    | zero => intro r h; omega
    | succ n ih =>
      intro r hl h q hq
      cases hw : r.wraps with
      | false => rw [passed_stop hw] at hq; cases hq
      | true =>
        rw [passed_go hw] at hq
        rcases List.mem_cons.mp hq with z | z
        · subst z; exact ⟨h, hw⟩
        · exact ih r.inner (by rw [len_inner hw] at hl; omega) (h.inner hw) q z
  exact all _ r (Nat.lt_succ_self _) h
def stampD (r : Row) : D := match r with
  | .stamp x _ t => .nd .tup [.str x, nameD r, .int t]
  | _ => .non
def Row.stamps (r : Row) : List Row := r.passed.filter fun q => decide (q.tag = 4)
theorem stamps_stop {r : Row} (h : r.wraps = false) : r.stamps = [] := by unfold Row.stamps; rw [passed_stop h]; rfl
theorem own_passed : ∀ (n : Nat) (r : Row), r.len < n → n < 900 → noX (m__law_passed n [.im (enc r)]) = .ok ([.im (enc r)], .nw (.nd .lst (r.passed.map enc))) := by
  intro n
  induction n with
  | zero => intro r h; omega
  | succ n ih =>
    intro r hl hn
    have k := kB (ρ := [.im (enc r)]) (i := 0) (r := r) rfl
    cases hw : r.wraps with
    | false =>
      rw [hw] at k
      rw [passed_stop hw]
      exact run_rt (ρ' := [.im (enc r)]) (r := .nw (.nd .lst [])) ((seq_rt ((if_t k).trans (ret_ok (lst_ok (q := []) (ds := []) rfl rfl (by simp))))).trans rfl) rfl rfl
    | true =>
      rw [hw] at k
      have ln := len_inner hw
      have c := call_y (ρ := [.im (enc r)]) (F := fun a => noX (m__law_passed n a)) (hV_ok (inner_at (i := 0) rfl hw)) rfl (ih r.inner (by omega) (by omega))
      refine run_rt (ρ' := [.im (enc r)]) (r := .nw (.nd .lst (r.passed.map enc))) ((seq_nx ((if_f k).trans rfl)).trans (ret_ok ?_)) rfl rfl
      rw [passed_go hw]
      refine add_ok (hH_nw (lst_ok (q := [.slot 0]) (ds := [enc r]) (cons_ok (rN_at rfl) rfl) rfl (by simp))) (hH_nw c) rfl rfl ?_
      have s := passed_len r.inner
      show (if sz (1 + (r.inner.passed.map enc).length) = true then _ else _) = _
      rw [if_pos (show sz _ = true from decide_eq_true (Nat.le_trans (show 1 + (r.inner.passed.map enc).length ≤ 1000 by rw [List.length_map]; omega) (by decide)))]
      rfl
/-- xs.append(e) into slot 1, then on to the row ahead -/
theorem vT3 {ρ : Env} {a b c : Env → Rz (Env × Rs)} {x y z : D} (ha : a ρ = .ok (ρ, .im x)) (hb : b ρ = .ok (ρ, .im y)) (hc : c ρ = .ok (ρ, .im z)) : vTup (aCons a (aCons b (aCons c aNil))) ρ = .ok (ρ, .nd .tup [x, y, z]) :=
  tup_ok (q := [.im x, .im y, .im z]) (ds := [x, y, z]) (cons_ok ha (cons_ok hb (cons_ok hc rfl))) rfl (by simp)
section
variable {d f : Nat} {r : Row}
theorem passed_at (h : Lv d f r) (hd : d < 100) : noX (m_passed [.im (enc r)]) = .ok ([.im (enc r.base)], .im (.nd .tup (r.passed.map fun q => .str q.nm))) := by
  have loop : ∀ (n : Nat) (r : Row) (acc : List D), r.len < n → acc.length + r.len < 1000 →
      gWhile (t2 dIn (hV (v2 dIx (rN 0) (hC (.int 0)))) (hC k_ROWWISE)) (gSeq (gExpr (eMth 1 mAppend (aCons (hV (v2 dIx (rN 0) (hC (.int 1)))) aNil)))
        (gSet 0 (eCallN 1 (fun a => noX (m_inside a)) [false] (aCons (rN 0) aNil)))) n [.im (enc r), .lo (.nd .lst acc)] = .ok ([.im (enc r.base), .lo (.nd .lst (acc ++ r.passed.map fun q => .str q.nm))], .nx) := by
    intro n
    induction n with
    | zero => intro r acc h; omega
    | succ n ih =>
      intro r acc hl hz
      have k := kW (ρ := [.im (enc r), .lo (.nd .lst acc)]) (i := 0) (r := r) rfl
      cases hw : r.wraps with
      | false =>
        rw [hw] at k
        rw [while_stop k, base_stop hw, passed_stop hw]
        simp
      | true =>
        rw [hw] at k
        have ln := len_inner hw
        have a := app_at (ρ := [.im (enc r), .lo (.nd .lst acc)]) (i := 1) rfl (fld (i := 0) rfl (head_row r).2) (by omega)
        refine (while_go k ((seq_nx a).trans (step_in hw))).trans ?_
        refine (ih r.inner _ (by omega) (by simp; omega)).trans ?_
        rw [base_inner hw, passed_go hw]
        simp
  have hl := h.len_le
  have l := loop 100 r [] (by omega) (by simp; omega)
  refine run_rt (ρ' := [.im (enc r.base), .lo (.nd .lst (r.passed.map fun q => .str q.nm))]) (r := .im (.nd .tup (r.passed.map fun q => .str q.nm))) ?_ rfl rfl
  refine (seq_nx (show gSet 1 (eLst aNil) [.im (enc r), .no] = .ok ([.im (enc r), .lo (.nd .lst [])], .nx) from rfl)).trans ((seq_nx l).trans (ret_ok ?_))
  exact blt_ok (q := [.slot 1]) (cons_ok rfl rfl) (ds := [.nd .lst (r.passed.map fun q => .str q.nm)]) rfl rfl
theorem stamps_go {r : Row} (h : r.wraps = true) : r.stamps = (if decide (r.tag = 4) = true then [r] else []) ++ r.inner.stamps := by
  unfold Row.stamps
  rw [passed_go h, List.filter_cons]
  split <;> simp_all
theorem stamped_at (h : Lv d f r) (hd : d < 100) : noX (m_stamped [.im (enc r)]) = .ok ([.im (enc r.base)], .im (.nd .tup (r.stamps.map stampD))) := by
  have loop : ∀ (n : Nat) (r : Row) (acc : List D), Lv d f r → r.len < n → acc.length + r.len < 1000 →
      gWhile (t2 dIn (hV (v2 dIx (rN 0) (hC (.int 0)))) (hC k_ROWWISE)) (gSeq (gIf (t2 dEq (hV (v2 dIx (rN 0) (hC (.int 0)))) (hC k_STAMP)) (gExpr (eMth 1 mAppend (aCons (hV (vTup (aCons (hV (v2 dIx (rN 0) (hC (.int 1)))) (aCons (hH (eCallN 1 (fun a => noX (m_name_of a)) [false] (aCons (rN 0) aNil))) (aCons (hV (v2 dIx (rN 0) (hC (.int 3)))) aNil))))) aNil))) gNext)
        (gSet 0 (eCallN 1 (fun a => noX (m_inside a)) [false] (aCons (rN 0) aNil)))) n [.im (enc r), .lo (.nd .lst acc)] = .ok ([.im (enc r.base), .lo (.nd .lst (acc ++ r.stamps.map stampD))], .nx) := by
    intro n
    induction n with
    | zero => intro r acc _ h; omega
    | succ n ih =>
      intro r acc hr hl hz
      have k := kW (ρ := [.im (enc r), .lo (.nd .lst acc)]) (i := 0) (r := r) rfl
      cases hw : r.wraps with
      | false =>
        rw [hw] at k
        rw [while_stop k, base_stop hw, stamps_stop hw]
        simp
      | true =>
        rw [hw] at k
        have ln := len_inner hw
        have m := kEq (ρ := [.im (enc r), .lo (.nd .lst acc)]) (i := 0) (r := r) (c := "stamp") rfl (by simp)
        rw [is_stamp] at m
        rw [base_inner hw, stamps_go hw]
        have nm := name_of_at hr hd
        cases r with
        | stamp x r t =>
          have a := app_at (ρ := [.im (enc (.stamp x r t)), .lo (.nd .lst acc)]) (i := 1) rfl (vT3 (hV_ok (fld (i := 0) rfl (show dIx (enc (.stamp x r t)) (.int 1) = some (.str x) from rfl))) (hH_im (call_y (F := fun a => noX (m_name_of a)) (rN_at (i := 0) rfl) rfl nm)) (hV_ok (fld (i := 0) rfl (show dIx (enc (.stamp x r t)) (.int 3) = some (.int t) from rfl)))) (by omega)
          refine (while_go k ((seq_nx ((if_t m).trans a)).trans (step_in hw))).trans ?_
          refine (ih r _ (hr.inner hw) (by rw [show (Row.stamp x r t).inner = r from rfl] at ln; omega) (by rw [show (Row.stamp x r t).inner = r from rfl] at ln; simp; omega)).trans ?_
          simp [Row.tag, Row.inner, stampD]
        | map x r =>
          refine (while_go k ((seq_nx ((if_f m).trans rfl)).trans (step_in hw))).trans ?_
          refine (ih r _ (hr.inner hw) (by rw [show (Row.map x r).inner = r from rfl] at ln; omega) (by rw [show (Row.map x r).inner = r from rfl] at ln; omega)).trans ?_
          simp [Row.tag, Row.inner]
        | mix x s r =>
          refine (while_go k ((seq_nx ((if_f m).trans rfl)).trans (step_in hw))).trans ?_
          refine (ih r _ (hr.inner hw) (by rw [show (Row.mix x s r).inner = r from rfl] at ln; omega) (by rw [show (Row.mix x s r).inner = r from rfl] at ln; omega)).trans ?_
          simp [Row.tag, Row.inner]
        | _ => cases hw
  have hl := h.len_le
  have l := loop 100 r [] h (by omega) (by simp; omega)
  refine run_rt (ρ' := [.im (enc r.base), .lo (.nd .lst (r.stamps.map stampD))]) (r := .im (.nd .tup (r.stamps.map stampD))) ?_ rfl rfl
  refine (seq_nx (show gSet 1 (eLst aNil) [.im (enc r), .no] = .ok ([.im (enc r), .lo (.nd .lst [])], .nx) from rfl)).trans ((seq_nx l).trans (ret_ok ?_))
  exact blt_ok (q := [.slot 1]) (cons_ok rfl rfl) (ds := [.nd .lst (r.stamps.map stampD)]) rfl rfl
end
/-! ### what a row is made of -/
def Row.parts : Row → List Row
  | .row _ _ _ => []
  | .fold x rs => match rs.getLast? with
    | some r => r :: (if 1 < rs.length then [.fold x rs.dropLast] else [])
    | none => []
  | .win _ _ rs => rs
  | .map _ r => [r]
  | .stamp _ r _ => [r]
  | .mix _ _ r => [r]
theorem parts_of_at {d f : Nat} {r : Row} (h : Lv d f r) : ∃ o, noX (m_parts_of [.im (enc r)]) = .ok (o, .nw (.nd .lst (r.parts.map enc))) := by
  have k0 := kEq (ρ := [.im (enc r), .no]) (i := 0) (r := r) (c := "row") rfl (by simp)
  have kw := kW (ρ := [.im (enc r), .no]) (i := 0) (r := r) rfl
  have k2 := kEq (ρ := [.im (enc r), .no]) (i := 0) (r := r) (c := "window") rfl (by simp)
  rw [is_row] at k0
  rw [is_win] at k2
  cases hw : r.wraps with
  | true =>
    have t0 : decide (r.tag = 0) = false := by cases r <;> first | rfl | cases hw
    have pr : r.parts = [r.inner] := by cases r <;> first | rfl | cases hw
    rw [t0] at k0
    rw [hw] at kw
    rw [pr]
    exact ⟨_, run_rt (ρ' := [.im (enc r), .no]) (r := .nw (.nd .lst [enc r.inner])) ((seq_nx ((if_f k0).trans rfl)).trans ((seq_rt ((if_t kw).trans (ret_ok (lst_ok (q := [.im (enc r.inner)]) (ds := [enc r.inner]) (cons_ok (hH_im (call_y (rN_at (i := 0) rfl) rfl (inside_at hw))) rfl) rfl (by simp))))).trans rfl)) rfl rfl⟩
  | false =>
    rw [hw] at kw
    cases r with
    | row x n t => exact ⟨_, run_rt (ρ' := [.im (enc (.row x n t)), .no]) (r := .nw (.nd .lst [])) ((seq_rt ((if_t k0).trans (ret_ok rfl))).trans rfl) rfl rfl⟩
    | win x n rs =>
      refine ⟨_, run_rt (ρ' := [.im (enc (.win x n rs)), .no]) (r := .nw (.nd .lst (rs.map enc))) ((seq_nx ((if_f k0).trans rfl)).trans ((seq_nx ((if_f kw).trans rfl)).trans ((seq_rt ((if_t k2).trans (ret_ok ?_))).trans rfl))) rfl rfl⟩
      exact blt_ok (q := [.im (.nd .tup (encs rs))]) (ds := [.nd .tup (encs rs)]) (cons_ok (hV_ok (fld (i := 0) rfl rfl)) rfl) rfl (by rw [encs_map]; rfl)
    | fold x rs =>
      have ft : (Row.fold x rs).tag = 1 := rfl
      cases h with
      | @fold d f x rs a b c e =>
      obtain ⟨q, hq⟩ : ∃ q, rs.getLast? = some q := ⟨rs.getLast b, List.getLast?_eq_some_getLast b⟩
      have hl : ((encs rs).length : Int) = (rs.length : Int) := by rw [encs_map, List.length_map]
      have f2 : dIx (enc (.fold x rs)) (.int 2) = some (.nd .tup (encs rs)) := rfl
      have len : eB dLen (aCons (hV (v2 dIx (rN 0) (hC (.int 2)))) aNil) [.im (enc (.fold x rs)), .no] = .ok ([.im (enc (.fold x rs)), .no], .im (.int (rs.length : Int))) :=
        blt_ok (q := [.im (.nd .tup (encs rs))]) (ds := [.nd .tup (encs rs)]) (cons_ok (hV_ok (fld (i := 0) rfl f2)) rfl) rfl (by show some (Rs.im (.int ((encs rs).length : Int))) = _; rw [hl])
      have gt : t2 dGt (hH (eB dLen (aCons (hV (v2 dIx (rN 0) (hC (.int 2)))) aNil))) (hC (.int 1)) [.im (enc (.fold x rs)), .no] = .ok ([.im (enc (.fold x rs)), .no], decide ((rs.length : Int) > 1)) := tst_ok (hH_im len) rfl rfl rfl rfl
      have pre : (if 1 < rs.length then [Row.fold x rs.dropLast] else []).length ≤ 1 := by split <;> simp
      have s1 : gSet 1 (eIf (t2 dGt (hH (eB dLen (aCons (hV (v2 dIx (rN 0) (hC (.int 2)))) aNil))) (hC (.int 1))) (eLst (aCons (hV (vTup (aCons (hC k_FOLD) (aCons (hV (v2 dIx (rN 0) (hC (.int 1)))) (aCons (hH (eSl (hV (v2 dIx (rN 0) (hC (.int 2)))) oNone (oSome (v1 dNeg (hC (.int 1)))))) aNil))))) aNil)) (eLst aNil)) [.im (enc (.fold x rs)), .no] =
          .ok ([.im (enc (.fold x rs)), .lo (.nd .lst ((if 1 < rs.length then [Row.fold x rs.dropLast] else []).map enc))], .nx) := by
        by_cases g : 1 < rs.length
        · rw [decide_eq_true (show (rs.length : Int) > 1 by omega)] at gt
          rw [if_pos g]
          have sl : eSl (hV (v2 dIx (rN 0) (hC (.int 2)))) oNone (oSome (v1 dNeg (hC (.int 1)))) [.im (enc (.fold x rs)), .no] = .ok ([.im (enc (.fold x rs)), .no], .im (.nd .tup (encs rs.dropLast))) :=
            sl_ok (hV_ok (fld (i := 0) rfl f2)) rfl (som_ok (neg_ok rfl rfl)) rfl (by show some (Rs.im (.nd .tup (cutA (encs rs) none (some (-1))))) = _; rw [cut_last, encs_map, encs_map, List.map_dropLast])
          refine set_ok ((eif_t gt).trans (lst_ok (q := [.im (enc (.fold x rs.dropLast))]) (ds := [enc (.fold x rs.dropLast)]) (cons_ok (hV_ok (vT3 rfl (hV_ok (fld (i := 0) rfl rfl)) (hH_im sl))) rfl) rfl (by simp))) rfl
        · rw [decide_eq_false (show ¬ (rs.length : Int) > 1 by omega)] at gt
          rw [if_neg g]
          exact set_ok ((eif_f gt).trans (lst_ok (q := []) (ds := []) rfl rfl (by simp))) rfl
      have last : v2 dIx (hV (v2 dIx (rN 0) (hC (.int 2)))) (hV (v1 dNeg (hC (.int 1)))) [.im (enc (.fold x rs)), .lo (.nd .lst ((if 1 < rs.length then [Row.fold x rs.dropLast] else []).map enc))] =
          .ok ([.im (enc (.fold x rs)), .lo (.nd .lst ((if 1 < rs.length then [Row.fold x rs.dropLast] else []).map enc))], enc q) :=
        two_ok (hV_ok (fld (i := 0) rfl f2)) (hV_ok (neg_ok rfl rfl)) rfl rfl (by show atI (encs rs) (-1) = _; exact atI_last (by rw [encs_map, List.getLast?_map, hq]; rfl))
      refine ⟨_, run_rt (ρ' := [.im (enc (.fold x rs)), .lo (.nd .lst ((if 1 < rs.length then [Row.fold x rs.dropLast] else []).map enc))]) (r := .nw (.nd .lst ((Row.fold x rs).parts.map enc)))
        ((seq_nx ((if_f k0).trans rfl)).trans ((seq_nx ((if_f kw).trans rfl)).trans ((seq_nx ((if_f k2).trans rfl)).trans ((seq_nx s1).trans (ret_ok ?_))))) rfl rfl⟩
      have pe : (Row.fold x rs).parts = q :: (if 1 < rs.length then [Row.fold x rs.dropLast] else []) := by
        show (match rs.getLast? with | some r => r :: (if 1 < rs.length then [Row.fold x rs.dropLast] else []) | none => []) = _
        rw [hq]
      rw [pe]
      have st := star_ok (a := rN 1) (as := aNil) (ρ := [.im (enc (.fold x rs)), .lo (.nd .lst ((if 1 < rs.length then [Row.fold x rs.dropLast] else []).map enc))]) (x := .slot 1) (ds := (if 1 < rs.length then [Row.fold x rs.dropLast] else []).map enc) rfl rfl rfl
      rw [List.append_nil] at st
      refine lst_ok (cons_ok (hV_ok last) st) (by rw [← List.map_cons (f := Rs.im)]; exact use_ims _ _) (by simp; omega)
    | map _ _ => cases hw
    | stamp _ _ _ => cases hw
    | mix _ _ _ => cases hw
end Fx.K04

set_option Elab.async false
set_option linter.all false
set_option maxRecDepth 100000
set_option maxHeartbeats 4000000
namespace Fx.K04
open PySem L2
/-! ### no two rows are told alike -/
theorem kind_of_enc {r s : Row} (h : enc r = enc s) : r.tag = s.tag := by
  have e : r.kind = s.kind := by
    have a := (head_row r).1
    rw [h, (head_row s).1] at a
    injection a with a
    injection a with a
    exact a.symm
  have k := is_kind r (tag_lt s)
  rw [e, show s.kind = nameK s.tag by cases s <;> rfl, decide_eq_true rfl] at k
  exact of_decide_eq_true k.symm
mutual
theorem enc_inj : ∀ {r s : Row}, enc r = enc s → r = s
  | .row x n t, s, h => by
    have k := kind_of_enc h
    cases s <;> first | (simp [Row.tag] at k; done) | skip
    simp [enc] at h
    obtain ⟨rfl, rfl, rfl⟩ := h
    rfl
  | .fold x rs, s, h => by
    have k := kind_of_enc h
    cases s <;> first | (simp [Row.tag] at k; done) | skip
    simp [enc] at h
    obtain ⟨rfl, h⟩ := h
    rw [encs_inj h]
  | .win x n rs, s, h => by
    have k := kind_of_enc h
    cases s <;> first | (simp [Row.tag] at k; done) | skip
    simp [enc] at h
    obtain ⟨rfl, rfl, h⟩ := h
    rw [encs_inj h]
  | .map x r, s, h => by
    have k := kind_of_enc h
    cases s <;> first | (simp [Row.tag] at k; done) | skip
    simp [enc] at h
    obtain ⟨rfl, h⟩ := h
    rw [enc_inj h]
  | .stamp x r t, s, h => by
    have k := kind_of_enc h
    cases s <;> first | (simp [Row.tag] at k; done) | skip
    simp [enc] at h
    obtain ⟨rfl, h, rfl⟩ := h
    rw [enc_inj h]
  | .mix x n r, s, h => by
    have k := kind_of_enc h
    cases s <;> first | (simp [Row.tag] at k; done) | skip
    simp [enc] at h
    obtain ⟨rfl, rfl, h⟩ := h
    rw [enc_inj h]
theorem encs_inj : ∀ {rs ss : List Row}, encs rs = encs ss → rs = ss
  | [], [], _ => rfl
  | [], _ :: _, h => by simp [encs] at h
  | _ :: _, [], h => by simp [encs] at h
  | r :: rs, s :: ss, h => by
    simp [encs] at h
    rw [enc_inj h.1, encs_inj h.2]
end
open Classical in
/-- a row among good rows -/
theorem row_in {r : Row} {F : List Row} (hr : (enc r).nob = true) (hF : ∀ q ∈ F, (enc q).nob = true) : ((F.map enc).any fun z => z.eqv (enc r)) = decide (r ∈ F) := by
  rw [any_good hr fun z hz => by obtain ⟨q, hq, rfl⟩ := List.mem_map.mp hz; exact hF q hq]
  refine decide_eq_decide.mpr ⟨fun h => ?_, fun h => List.mem_map.mpr ⟨r, h, rfl⟩⟩
  obtain ⟨q, hq, e⟩ := List.mem_map.mp h
  rw [← enc_inj e]
  exact hq
theorem Lv.good {d f : Nat} {r : Row} (h : Lv d f r) (hb : d + 1 + 3 * f ≤ 60) : Good (enc r) ∧ (enc r).dp ≤ 60 := by
  obtain ⟨h1, h2, h3, h4⟩ := h.data
  exact ⟨⟨h1, h2, by omega⟩, by omega⟩
theorem Lv.goods {d f : Nat} {F : List Row} (h : ∀ r ∈ F, Lv d f r) (hb : d + 1 + 3 * f ≤ 60) : Good (.nd .lst (F.map enc)) := good_lst fun x hx => by
  obtain ⟨r, hr, rfl⟩ := List.mem_map.mp hx
  have := (h r hr).good hb
  exact ⟨this.1, by have := this.2; omega⟩
open Classical in
theorem notin_at {r : Row} {F : List Row} (hr : Lv 4 2 r) (hF : ∀ q ∈ F, Lv 4 2 q) : dNotIn (enc r) (.nd .lst (F.map enc)) = some (decide (r ∉ F)) ∧ dIn (enc r) (.nd .lst (F.map enc)) = some (decide (r ∈ F)) := by
  have g1 := (hr.good (by decide)).1
  have g2 := Lv.goods hF (by decide)
  have m : memD (enc r) (.nd .lst (F.map enc)) = some (decide (r ∈ F)) := by
    show (if ((enc r).fit && (D.nd .lst (F.map enc)).fit) = true then some ((F.map enc).any fun z => z.eqv (enc r)) else none) = _
    rw [g1.fit, g2.fit, row_in g1.nob fun q hq => ((hF q hq).good (by decide)).1.nob]
    rfl
  constructor
  · show (memD _ _).map _ = _
    rw [m]
    simp [decide_not]
  · show (memD _ _).map _ = _
    rw [m]
    simp
/-! ### all rows within: two ways to go -/
def Closed (P : Row → List Row) (start F : List Row) : Prop := (∀ r ∈ start, r ∈ F) ∧ ∀ r ∈ F, ∀ p ∈ P r, p ∈ F
/-- the least such lot, each row once -/
structure Least (P : Row → List Row) (start F : List Row) : Prop where
  nd : F.Nodup
  cl : Closed P start F
  least : ∀ T : Row → Prop, (∀ r ∈ start, T r) → (∀ r, T r → ∀ p ∈ P r, T p) → ∀ r ∈ F, T r
mutual
def Row.pot : Row → Nat
  | .row _ _ _ => 1
  | .fold _ rs => rs.length + pots rs
  | .win _ _ rs => 1 + pots rs
  | .map _ r => 1 + r.pot
  | .stamp _ r _ => 1 + r.pot
  | .mix _ _ r => 1 + r.pot
def pots : List Row → Nat
  | [] => 0
  | r :: rs => r.pot + pots rs
end
theorem pots_app : ∀ (a b : List Row), pots (a ++ b) = pots a + pots b
  | [], b => by simp [pots]
  | r :: a, b => by rw [List.cons_append, pots, pots, pots_app a b]; omega
theorem pots_rev : ∀ a : List Row, pots a.reverse = pots a
  | [] => rfl
  | r :: a => by rw [List.reverse_cons, pots_app, pots_rev a, pots, pots, pots]; omega
theorem pot_parts {d f : Nat} {r : Row} (h : Lv d f r) : pots r.parts + 1 ≤ r.pot := by
  cases h with
  | row => simp [Row.parts, pots, Row.pot]
  | win => simp [Row.parts, Row.pot]; omega
  | map => simp [Row.parts, pots, Row.pot]; omega
  | stamp => simp [Row.parts, pots, Row.pot]; omega
  | mix => simp [Row.parts, pots, Row.pot]; omega
  | @fold d f x rs a b c e =>
    have hq := List.getLast?_eq_some_getLast b
    have pe : (Row.fold x rs).parts = rs.getLast b :: (if 1 < rs.length then [Row.fold x rs.dropLast] else []) := by
      show (match rs.getLast? with | some r => r :: (if 1 < rs.length then [Row.fold x rs.dropLast] else []) | none => []) = _
      rw [hq]
    have sp : pots rs = pots rs.dropLast + (rs.getLast b).pot := by
      conv => lhs; rw [← List.dropLast_concat_getLast b]
      rw [pots_app]
      simp [pots]
    have hl : 0 < rs.length := List.length_pos_iff.mpr b
    rw [pe]
    by_cases g : 1 < rs.length
    · rw [if_pos g]
      simp only [pots, Row.pot, List.length_dropLast]
      omega
    · rw [if_neg g]
      simp only [pots, Row.pot]
      omega
theorem Lv.parts {d f : Nat} {r : Row} (h : Lv d f r) (hd : 1 ≤ d) : ∀ p ∈ r.parts, Lv d f p := by
  intro p hp
  cases h with
  | row => simp [Row.parts] at hp
  | win a b c e => exact (e p hp).up hd (Nat.le_succ _)
  | map a b => simp [Row.parts] at hp; subst hp; exact b.up (Nat.le_succ _) (Nat.le_refl _)
  | stamp a b c => simp [Row.parts] at hp; subst hp; exact c.up (Nat.le_succ _) (Nat.le_refl _)
  | mix a b c => simp [Row.parts] at hp; subst hp; exact c.up (Nat.le_succ _) (Nat.le_refl _)
  | @fold d f x rs a b c e =>
    have hq := List.getLast?_eq_some_getLast b
    have pe : (Row.fold x rs).parts = rs.getLast b :: (if 1 < rs.length then [Row.fold x rs.dropLast] else []) := by
      show (match rs.getLast? with | some r => r :: (if 1 < rs.length then [Row.fold x rs.dropLast] else []) | none => []) = _
      rw [hq]
    rw [pe] at hp
    rcases List.mem_cons.mp hp with z | z
    · subst z; exact (e _ (List.getLast_mem b)).up hd (Nat.le_succ _)
    · by_cases g : 1 < rs.length
      · rw [if_pos g] at z
        have z := List.mem_singleton.mp z
        subst z
        refine .fold a (fun q => ?_) (by rw [List.length_dropLast]; omega) fun r hr => e r (List.dropLast_subset _ hr)
        have := congrArg List.length q
        rw [List.length_dropLast] at this
        simp at this
        omega
      · rw [if_neg g] at z; cases z
theorem pots_len {d f : Nat} : ∀ L : List Row, (∀ r ∈ L, Lv d f r) → L.length ≤ pots L
  | [], _ => Nat.le_refl _
  | r :: L, h => by
    have p := pot_parts (h r List.mem_cons_self)
    have h := pots_len L fun q hq => h q (List.mem_cons_of_mem _ hq)
    rw [pots, List.length_cons]
    omega
def sideK (p : Str × Int) : NestedKey := .tup [.text p.1, .num p.2]
def keyR (r : Row) : NestedKey := .tup [.text r.nm, .tup [.text r.base.nm, .num r.base.num, .tup (r.sides.map sideK)]]
theorem nks_sides : ∀ l : List (Str × Int), D.nks (l.map side) = some (l.map sideK)
  | [] => by rw [List.map_nil, D.nks]; rfl
  | p :: l => by
    rw [List.map_cons, D.nks, nks_sides l]
    have : D.nk (side p) = some (sideK p) := by simp [side, sideK, D.nk, D.nks]
    rw [this]
    rfl
theorem nk_place (r : Row) : D.nk (placeD r) = some (keyR r) := by
  simp [placeD, nameD, sidesD, D.nk, D.nks, nks_sides, keyR]
theorem depth_sides : ∀ l : List (Str × Int), NestedKey.depthAll (l.map sideK) ≤ 1
  | [] => by simp [NestedKey.depthAll]
  | p :: l => by
    have := depth_sides l
    simp only [List.map_cons, NestedKey.depthAll, sideK, NestedKey.depth]
    omega
theorem depth_key (r : Row) : (keyR r).depth ≤ 8 := by
  have := depth_sides r.sides
  simp only [keyR, NestedKey.depth, NestedKey.depthAll]
  omega
theorem wKey_at {r : Row} (h : Lv 4 2 r) : wKey (enc r) = some (keyR r) := by
  unfold wKey
  rw [place_of_at h (by decide)]
  show ((D.nk (placeD r)).bind _) = _
  rw [nk_place]
  show (if decide ((keyR r).depth ≤ 8) = true then some (keyR r) else none) = _
  rw [if_pos (decide_eq_true (depth_key r))]
theorem wParts_at {r : Row} (h : Lv 4 2 r) : wParts (enc r) = some (r.parts.map enc) := by
  obtain ⟨o, e⟩ := parts_of_at h
  unfold wParts
  rw [e]
/-- the rows seen, by their places -/
def SeenOk (seen : List (NestedKey × List D)) (F : List Row) : Prop := ∀ k, (atS seen k).getD [] = (F.filter fun q => decide (keyR q = k)).map enc
theorem atS_cons {x : NestedKey × List D} {s : List (NestedKey × List D)} {k : NestedKey} : atS (x :: s) k = if x.1 = k then some x.2 else atS s k := by
  unfold atS
  rw [List.find?_cons]
  by_cases h : x.1 = k
  · simp [h]
  · simp [h]
theorem atS_snoc {s : List (NestedKey × List D)} {k k' : NestedKey} (h : atS s k = none) : atS (s ++ [(k, [])]) k' = if k = k' then some [] else atS s k' := by
  induction s with
  | nil => rw [List.nil_append, atS_cons]
  | cons x s ih =>
    rw [atS_cons] at h
    by_cases c : x.1 = k
    · rw [if_pos c] at h; cases h
    · rw [if_neg c] at h
      rw [List.cons_append, atS_cons, ih h, atS_cons]
      by_cases c2 : x.1 = k'
      · rw [if_pos c2, if_pos c2, if_neg (fun z => c (c2.trans z.symm))]
      · rw [if_neg c2, if_neg c2]
theorem seenAt_at {s : List (NestedKey × List D)} {k k' : NestedKey} : (atS (seenAt s k) k').getD [] = (atS s k').getD [] ∧ (atS (seenAt s k) k).isSome = true := by
  unfold seenAt
  cases h : atS s k with
  | some x => exact ⟨rfl, by rw [h]; rfl⟩
  | none =>
    refine ⟨?_, ?_⟩
    · show (atS (s ++ [(k, [])]) k').getD [] = _
      rw [atS_snoc h]
      by_cases c : k = k'
      · subst c; rw [if_pos rfl, h]; rfl
      · rw [if_neg c]
    · show (atS (s ++ [(k, [])]) k).isSome = true
      rw [atS_snoc h, if_pos rfl]; rfl
theorem addS_at' {s : List (NestedKey × List D)} {k k' : NestedKey} {d : D} : atS (addS s k d) k' = if k' = k then (atS s k').map (· ++ [d]) else atS s k' := by
  induction s with
  | nil => simp [addS, atS]
  | cons x s ih =>
    have e : addS (x :: s) k d = (if x.1 = k then (x.1, x.2 ++ [d]) else x) :: addS s k d := rfl
    rw [e, atS_cons, atS_cons, ih]
    by_cases c : x.1 = k
    · rw [if_pos c]
      by_cases c2 : x.1 = k'
      · simp [c2, c2.symm.trans c]
      · have : ¬ k' = k := fun z => c2 (c.trans z.symm)
        simp [c2, this]
    · rw [if_neg c]
      by_cases c2 : x.1 = k'
      · have : ¬ k' = k := fun z => c (c2.trans z)
        simp [c2, this]
      · simp [c2]
theorem addS_len (s : List (NestedKey × List D)) (k : NestedKey) (d : D) : (addS s k d).length = s.length := by simp [addS]
theorem SeenOk.add {s : List (NestedKey × List D)} {F : List Row} (h : SeenOk s F) (r : Row) : SeenOk (addS (seenAt s (keyR r)) (keyR r) (enc r)) (F ++ [r]) := by
  intro k'
  rw [addS_at']
  have a := (seenAt_at (s := s) (k := keyR r) (k' := k')).1
  rw [List.filter_append, List.map_append]
  by_cases c : k' = keyR r
  · rw [if_pos c]
    have b := (seenAt_at (s := s) (k := keyR r) (k' := k')).2
    subst c
    obtain ⟨x, hx⟩ := Option.isSome_iff_exists.mp b
    rw [hx] at a ⊢
    have a' : x = (atS s (keyR r)).getD [] := a
    show x ++ [enc r] = _
    rw [a', h]
    simp
  · rw [if_neg c, a, h]
    have : decide (keyR r = k') = false := decide_eq_false fun z => c z.symm
    simp [this]
theorem SeenOk.same {s : List (NestedKey × List D)} {F : List Row} (h : SeenOk s F) (k : NestedKey) : SeenOk (seenAt s k) F := fun k' => by rw [seenAt_at.1]; exact h k'
theorem seenAt_len (s : List (NestedKey × List D)) (k : NestedKey) : (seenAt s k).length ≤ s.length + 1 ∧ (atS s k ≠ none → (seenAt s k).length = s.length) := by
  unfold seenAt
  cases atS s k with
  | none => exact ⟨by simp, fun h => absurd rfl h⟩
  | some x => exact ⟨Nat.le_succ _, fun _ => rfl⟩
theorem sz1000 {n : Nat} (h : n ≤ 2000) : sz n = true := decide_eq_true (Nat.le_trans h (by decide))
open Classical in
theorem dNe_lists {F G : List Row} (hF : ∀ r ∈ F, Lv 4 2 r) (hG : ∀ r ∈ G, Lv 4 2 r) : dNe (.nd .lst (F.map enc)) (.nd .lst (G.map enc)) = some (!decide (F.map enc = G.map enc)) := by
  have g1 := Lv.goods hF (by decide)
  have g2 := Lv.goods hG (by decide)
  unfold dNe
  rw [g1.fit, g2.fit]
  show some (!D.eqv _ _) = _
  have : D.eqv (.nd .lst (F.map enc)) (.nd .lst (G.map enc)) = decide (F.map enc = G.map enc) := by
    rw [Bool.eq_iff_iff, decide_eq_true_iff, eqv_nob g1.nob g2.nob]
    simp
  rw [this]
open Classical in
theorem wLoop_at {start : List Row} : ∀ (n : Nat) (F : List Row) (seen : List (NestedKey × List D)) (L : List Row), (∀ r ∈ F, Lv 4 2 r) → (∀ r ∈ L, Lv 4 2 r) → SeenOk seen F → seen.length ≤ F.length → F.length + pots L ≤ 1000 → pots L < n → F.Nodup →
    (∀ r ∈ F, ∀ p ∈ r.parts, p ∈ F ∨ p ∈ L) → (∀ r ∈ start, r ∈ F ∨ r ∈ L) → (∀ T : Row → Prop, (∀ r ∈ start, T r) → (∀ r, T r → ∀ p ∈ r.parts, T p) → ∀ r, r ∈ F ∨ r ∈ L → T r) →
    ∃ F' : List Row, wLoop n (F.map enc) seen (L.map enc) = .ok (F'.map enc) ∧ Least Row.parts start F' ∧ F'.length ≤ 1000 ∧ ∀ r ∈ F', Lv 4 2 r := by
  intro n
  induction n with
  | zero => intro F seen L _ _ _ _ _ h; omega
  | succ n ih =>
    intro F seen L hF hL hs hsl hb hn nd hp hst hT
    have ne := dNe_lists hL (G := []) (by simp)
    unfold wLoop
    rw [show (D.nd .lst []) = .nd .lst (([] : List Row).map enc) from rfl, ne]
    by_cases hE : L = []
    · subst hE
      refine ⟨F, ?_, ⟨nd, ⟨fun r hr => (hst r hr).resolve_right (by simp), fun r hr p hq => (hp r hr p hq).resolve_right (by simp)⟩, fun T h1 h2 r hr => hT T h1 h2 r (.inl hr)⟩, by omega, hF⟩
      simp
    · have hE' : decide (L.map enc = ([] : List Row).map enc) = false := decide_eq_false fun z => hE (by simpa using z)
      rw [hE']
      obtain ⟨A, r, rfl⟩ : ∃ A r, L = A ++ [r] := ⟨L.dropLast, L.getLast hE, (List.dropLast_concat_getLast hE).symm⟩
      have hr := hL r (by simp)
      have hA : ∀ q ∈ A, Lv 4 2 q := fun q hq => hL q (by simp [hq])
      have pl : pots (A ++ [r]) = pots A + r.pot := by rw [pots_app]; simp [pots]
      have pp := pot_parts hr
      have lastE : ((A ++ [r]).map enc).getLast? = some (enc r) := by simp
      have dropE : ((A ++ [r]).map enc).dropLast = A.map enc := by simp
      rw [lastE, dropE]
      simp only [Rz.ofO_some, Rz.ok_bind, Bool.not_false, if_true]
      rw [wKey_at hr]
      simp only [Rz.ofO_some, Rz.ok_bind]
      rw [if_pos (decide_eq_true (Nat.lt_of_le_of_lt (show seen.length ≤ 1000 by omega) (by decide)))]
      have hflt : ∀ q ∈ F.filter (fun q => decide (keyR q = keyR r)), Lv 4 2 q := fun q hq => hF q (List.mem_filter.mp hq).1
      rw [hs (keyR r), (notin_at hr hflt).1]
      have memF : (r ∉ F.filter fun q => decide (keyR q = keyR r)) ↔ r ∉ F := by simp [List.mem_filter]
      simp only [Rz.ofO_some, Rz.ok_bind]
      by_cases hm : r ∈ F
      · have c : decide (r ∉ F.filter fun q => decide (keyR q = keyR r)) = false := decide_eq_false fun z => memF.mp z hm
        rw [c]
        rw [if_neg (by decide)]
        have ne0 : atS seen (keyR r) ≠ none := fun z => by
          have := hs (keyR r)
          rw [z] at this
          have e : F.filter (fun q => decide (keyR q = keyR r)) = [] := by simpa using this.symm
          have : r ∈ F.filter (fun q => decide (keyR q = keyR r)) := by simp [List.mem_filter, hm]
          rw [e] at this; cases this
        refine ih F _ A hF hA (hs.same _) (by rw [(seenAt_len seen (keyR r)).2 ne0]; exact hsl) (by omega) (by omega) nd (fun q hq p hpp => ?_) (fun q hq => ?_) (fun T h1 h2 q hq => ?_)
        · rcases hp q hq p hpp with z | z
          · exact .inl z
          · rcases List.mem_append.mp z with z | z
            · exact .inr z
            · have z := List.mem_singleton.mp z
              subst z; exact .inl hm
        · rcases hst q hq with z | z
          · exact .inl z
          · rcases List.mem_append.mp z with z | z
            · exact .inr z
            · have z := List.mem_singleton.mp z
              subst z; exact .inl hm
        · exact hT T h1 h2 q (hq.imp id fun z => List.mem_append_left _ z)
      · have c : decide (r ∉ F.filter fun q => decide (keyR q = keyR r)) = true := decide_eq_true (memF.mpr hm)
        rw [c]
        rw [if_pos rfl]
        have fl : (F.filter fun q => decide (keyR q = keyR r)).length ≤ F.length := List.length_filter_le _ _
        rw [if_pos (decide_eq_true (Nat.lt_of_le_of_lt (show ((F.filter fun q => decide (keyR q = keyR r)).map enc).length ≤ 1000 by rw [List.length_map]; omega) (by decide)))]
        have e1 : mAppend (F.map enc) [enc r] = some ((F ++ [r]).map enc, .non) := by
          show (if sz ((F.map enc).length + 1) = true then some (F.map enc ++ [enc r], D.non) else none) = _
          rw [if_pos (sz1000 (by rw [List.length_map]; omega))]
          simp
        rw [e1, wParts_at hr]
        have lA : A.length ≤ pots A := pots_len A hA
        have lP : r.parts.length ≤ pots r.parts := pots_len _ (hr.parts (by decide))
        have e2 : mExtend (A.map enc) [.nd .lst (r.parts.map enc).reverse] = some ((A ++ r.parts.reverse).map enc, .non) := by
          show (if sz ((A.map enc).length + (r.parts.map enc).reverse.length) = true then some (A.map enc ++ (r.parts.map enc).reverse, D.non) else none) = _
          rw [if_pos (sz1000 (by simp; omega))]
          simp
        simp only [Rz.ofO_some, Rz.ok_bind]
        rw [e2]
        simp only [Rz.ofO_some, Rz.ok_bind]
        have pn : pots (A ++ r.parts.reverse) = pots A + pots r.parts := by rw [pots_app, pots_rev]
        refine ih (F ++ [r]) _ (A ++ r.parts.reverse) (fun q hq => ?_) (fun q hq => ?_) (hs.add r) ?_ (by rw [pn]; simp; omega) (by omega) ?_ (fun q hq p hpp => ?_) (fun q hq => ?_) (fun T h1 h2 q hq => ?_)
        · rcases List.mem_append.mp hq with z | z
          · exact hF q z
          · have z := List.mem_singleton.mp z
            subst z; exact hr
        · rcases List.mem_append.mp hq with z | z
          · exact hA q z
          · exact hr.parts (by decide) q (List.mem_reverse.mp z)
        · rw [addS_len]
          have := (seenAt_len seen (keyR r)).1
          simp; omega
        · rw [List.nodup_append]
          exact ⟨nd, by simp, fun x hx y hy => by have hy := List.mem_singleton.mp hy; subst hy; exact fun z => hm (z ▸ hx)⟩
        · rcases List.mem_append.mp hq with z | z
          · rcases hp q z p hpp with w | w
            · exact .inl (List.mem_append_left _ w)
            · rcases List.mem_append.mp w with w | w
              · exact .inr (List.mem_append_left _ w)
              · have w := List.mem_singleton.mp w
                subst w; exact .inl (by simp)
          · have z := List.mem_singleton.mp z
            subst z
            exact .inr (List.mem_append_right _ (List.mem_reverse.mpr hpp))
        · rcases hst q hq with z | z
          · exact .inl (List.mem_append_left _ z)
          · rcases List.mem_append.mp z with z | z
            · exact .inr (List.mem_append_left _ z)
            · have z := List.mem_singleton.mp z
              subst z; exact .inl (by simp)
        · have tr : T r := hT T h1 h2 r (.inr (by simp))
          rcases hq with z | z
          · rcases List.mem_append.mp z with z | z
            · exact hT T h1 h2 q (.inl z)
            · have z := List.mem_singleton.mp z
              subst z; exact tr
          · rcases List.mem_append.mp z with z | z
            · exact hT T h1 h2 q (.inr (by simp [z]))
            · exact h2 r tr q (List.mem_reverse.mp z)
end Fx.K04

set_option Elab.async false
set_option linter.all false
set_option maxRecDepth 100000
set_option maxHeartbeats 4000000
namespace Fx.K04
open PySem L2
def pB : Nat → Nat → Nat
  | d, 0 => d + 1
  | d, f + 1 => d + 4 + 4 * pB 1 f
theorem pB_succ : ∀ (d f : Nat), pB (d + 1) f = pB d f + 1
  | d, 0 => by unfold pB; omega
  | d, f + 1 => by unfold pB; omega
theorem pB_pos : ∀ (d f : Nat), 1 ≤ pB d f
  | d, 0 => by unfold pB; omega
  | d, f + 1 => by unfold pB; omega
theorem pots_le {w : Nat} : ∀ {L : List Row}, (∀ r ∈ L, r.pot ≤ w) → pots L ≤ L.length * w
  | [], _ => by simp [pots]
  | r :: L, h => by
    have := pots_le (L := L) fun q hq => h q (List.mem_cons_of_mem _ hq)
    have h1 := h r List.mem_cons_self
    rw [pots, List.length_cons, Nat.succ_mul]
    omega
theorem Lv.pot {d f : Nat} {r : Row} (h : Lv d f r) : r.pot ≤ pB d f := by
  induction h with
  | @row d f => have := pB_pos d f; simpa [Row.pot] using this
  | @fold d f x rs a b c e ih =>
    have h1 := pots_le ih
    have h2 : rs.length * pB 1 f ≤ 4 * pB 1 f := Nat.mul_le_mul_right _ c
    show rs.length + pots rs ≤ d + 4 + 4 * pB 1 f
    omega
  | @win d f x n rs a b c e ih =>
    have h1 := pots_le ih
    have h2 : rs.length * pB 1 f ≤ 4 * pB 1 f := Nat.mul_le_mul_right _ c
    show 1 + pots rs ≤ d + 4 + 4 * pB 1 f
    omega
  | map a b ih => rw [pB_succ]; simp only [Row.pot]; omega
  | stamp a b c ih => rw [pB_succ]; simp only [Row.pot]; omega
  | mix a b c ih => rw [pB_succ]; simp only [Row.pot]; omega
theorem within_wl {S : List Row} (hS : ∀ r ∈ S, Lv 4 2 r) (hl : S.length ≤ 8) : ∃ F' : List Row, wLoop wFuel [] [] (S.map enc).reverse = .ok (F'.map enc) ∧ Least Row.parts S F' ∧ F'.length ≤ 1000 ∧ ∀ r ∈ F', Lv 4 2 r := by
  have hp : pots S.reverse ≤ 480 := by
    rw [pots_rev]
    have := pots_le (L := S) (w := 60) fun r hr => (hS r hr).pot
    omega
  have := wLoop_at (start := S) wFuel [] [] S.reverse (by simp) (fun r hr => hS r (List.mem_reverse.mp hr)) (fun k => by simp [atS]) (by simp) (by simp; omega) (Nat.lt_of_le_of_lt hp (by decide)) (by simp) (by simp) (fun r hr => .inr (List.mem_reverse.mpr hr)) (fun T h1 h2 r hr => h1 r (by simpa using hr))
  rw [List.map_reverse, List.map_nil] at this
  exact this
theorem within_run {fs : List D} {S : List Row} (k : Kd) (hk : k = .lst ∨ k = .tup) (h : wLoop wFuel [] [] (S.map enc).reverse = .ok fs) (hl : fs.length ≤ 1000) : noX (m_within [.im (.nd k (S.map enc))]) = .ok ([.im (.nd k (S.map enc))], .im (.nd .tup fs)) := by
  refine run_rt (ρ' := [.im (.nd k (S.map enc)), .no, .no, .no, .no, .no]) (r := .im (.nd .tup fs)) ?_ rfl rfl
  show g_within [.im (.nd k (S.map enc)), .no, .no, .no, .no, .no] = _
  unfold g_within
  have e : dList [.nd k (S.map enc)] = some (.nw (.nd .lst (S.map enc))) := by rcases hk with rfl | rfl <;> rfl
  simp only [e, Rz.ofO_some, Rz.ok_bind, h]
  rw [if_pos (sz1000 (by omega))]
theorem within_nil : noX (m_within [.im (.nd .lst [])]) = .ok ([.im (.nd .lst [])], .im (.nd .tup [])) := by
  have w : wLoop wFuel [] [] (([] : List Row).map enc).reverse = .ok [] := by
    obtain ⟨F, h1, h2, _, _⟩ := within_wl (S := []) (by simp) (by simp)
    rw [h1]
    have : F = [] := List.eq_nil_iff_forall_not_mem.mpr fun r hr => h2.least (fun _ => False) (by simp) (fun _ z => z.elim) r hr
    rw [this]; rfl
  exact within_run (S := []) .lst (.inl rfl) w (by simp)
/-! ### the law's way -/
def Row.lparts : Row → List Row
  | .row _ _ _ => []
  | .fold x rs => rs ++ (List.range (rs.length - 1)).map fun i => .fold x (rs.take (i + 1))
  | .win _ _ rs => rs
  | .map _ r => [r]
  | .stamp _ r _ => [r]
  | .mix _ _ r => [r]
/-- closed one way is closed the other way -/
theorem parts_sub {d f : Nat} {r : Row} (h : Lv d f r) : ∀ p ∈ r.parts, p ∈ r.lparts := by
  intro p hp
  cases r with
  | fold x rs =>
    cases h with
    | fold a b c e =>
    have hq := List.getLast?_eq_some_getLast b
    have pe : (Row.fold x rs).parts = rs.getLast b :: (if 1 < rs.length then [Row.fold x rs.dropLast] else []) := by
      show (match rs.getLast? with | some r => r :: (if 1 < rs.length then [Row.fold x rs.dropLast] else []) | none => []) = _
      rw [hq]
    rw [pe] at hp
    refine List.mem_append.mpr ?_
    rcases List.mem_cons.mp hp with z | z
    · subst z; exact .inl (List.getLast_mem b)
    · by_cases g : 1 < rs.length
      · rw [if_pos g] at z
        have z := List.mem_singleton.mp z
        subst z
        refine .inr (List.mem_map.mpr ⟨rs.length - 2, List.mem_range.mpr (by omega), ?_⟩)
        rw [List.dropLast_eq_take, show rs.length - 2 + 1 = rs.length - 1 by omega]
      · rw [if_neg g] at z; cases z
  | _ => exact hp
theorem closed_l {T : Row → Prop} (h : ∀ r, T r → ∀ p ∈ r.parts, T p) : ∀ r, T r → ∀ p ∈ r.lparts, T p := by
  intro r hr p hp
  cases r with
  | fold x rs =>
    -- all that a fold is made of: from the end to the front
    have pre : ∀ (n : Nat), ∀ k, k + n = rs.length → 1 ≤ k → T (.fold x (rs.take k)) := by
      intro n
      induction n with
      | zero => intro k e hk; rw [List.take_of_length_le (by omega)]; exact hr
      | succ n ih =>
        intro k e hk
        have t := ih (k + 1) (by omega) (by omega)
        refine h _ t _ ?_
        have ne : rs.take (k + 1) ≠ [] := List.ne_nil_of_length_pos (by rw [List.length_take]; omega)
        have hl : (rs.take (k + 1)).length = k + 1 := by rw [List.length_take]; omega
        have hq := List.getLast?_eq_some_getLast ne
        show _ ∈ (match (rs.take (k + 1)).getLast? with | some r => r :: (if 1 < (rs.take (k + 1)).length then [Row.fold x (rs.take (k + 1)).dropLast] else []) | none => [])
        rw [hq]
        show _ ∈ _ :: _
        rw [if_pos (by rw [hl]; omega), List.dropLast_eq_take, List.take_take, hl]
        have : min (k + 1 - 1) (k + 1) = k := by omega
        rw [this]
        simp
    rcases List.mem_append.mp hp with z | z
    · obtain ⟨i, hi, rfl⟩ := List.getElem_of_mem z
      have t := pre (rs.length - (i + 1)) (i + 1) (by omega) (by omega)
      refine h _ t _ ?_
      have ne : rs.take (i + 1) ≠ [] := List.ne_nil_of_length_pos (by rw [List.length_take]; omega)
      have hq : (rs.take (i + 1)).getLast? = some rs[i] := by
        rw [List.getLast?_eq_getElem?, List.length_take]
        have e1 : min (i + 1) rs.length - 1 = i := by omega
        rw [e1, List.getElem?_take_of_lt (Nat.lt_succ_self i)]
        exact List.getElem?_eq_getElem hi
      show _ ∈ (match (rs.take (i + 1)).getLast? with | some r => r :: (if 1 < (rs.take (i + 1)).length then [Row.fold x (rs.take (i + 1)).dropLast] else []) | none => [])
      rw [hq]
      exact List.mem_cons_self
    · obtain ⟨i, hi, rfl⟩ := List.mem_map.mp z
      have hi := List.mem_range.mp hi
      exact pre (rs.length - (i + 1)) (i + 1) (by omega) (by omega)
  | _ => exact h _ hr p hp
theorem least_same {S F G : List Row} (hF : Least Row.parts S F) (hG : Least Row.lparts S G) (hg : ∀ r ∈ G, Lv 4 2 r) : ∀ r, r ∈ F ↔ r ∈ G := by
  intro r
  constructor
  · exact hF.least (fun r => r ∈ G) hG.cl.1 (fun r hr p hp => hG.cl.2 r hr p (parts_sub (hg r hr) p hp)) r
  · exact hG.least (fun r => r ∈ F) hF.cl.1 (closed_l fun r hr p hp => hF.cl.2 r hr p hp) r
end Fx.K04

set_option Elab.async false
set_option linter.all false
set_option maxRecDepth 100000
set_option maxHeartbeats 4000000
namespace Fx.K04
open PySem L2
/-! ### the law's own way, turn by turn -/
abbrev lwTail : Env → Rz (Env × Fl) := (gIf (t2 dIn (hV (v2 dIx (rN 5) (hC (.int 0)))) (hV (vTup (aCons (hC (.str "fold")) (aCons (hC (.str "window")) aNil))))) (gSeq (gExpr (eMth 2 mExtend (aCons (hH (eB dList (aCons (hV (vIf (t2 dEq (hV (v2 dIx (rN 5) (hC (.int 0)))) (hC (.str "fold"))) (v2 dIx (rN 5) (hC (.int 2))) (v2 dIx (rN 5) (hC (.int 3))))) aNil))) aNil)))
    (gIf (t2 dEq (hV (v2 dIx (rN 5) (hC (.int 0)))) (hC (.str "fold"))) (gExpr (eMth 2 mExtend (aCons (hH (eLc [6] (iRng dRng2 (aCons (hC (.int 1)) (aCons (hH (eB dLen (aCons (hV (v2 dIx (rN 5) (hC (.int 2)))) aNil))) aNil))) (tgN 6) tYes (vTup (aCons (hC (.str "fold")) (aCons (hV (v2 dIx (rN 5) (hC (.int 1)))) (aCons (hH (eSl (hV (v2 dIx (rN 5) (hC (.int 2)))) oNone (oSome (vN 6)))) aNil)))))) aNil))) gNext)) (gIf (t2 dNe (hV (v2 dIx (rN 5) (hC (.int 0)))) (hC (.str "row"))) (gExpr (eMth 2 mAppend (aCons (hV (vIf (t2 dEq (hV (v2 dIx (rN 5) (hC (.int 0)))) (hC (.str "mix"))) (v2 dIx (rN 5) (hC (.int 3))) (v2 dIx (rN 5) (hC (.int 2))))) aNil))) gNext))
theorem fw_tab : ∀ t < 6, decide (nameK t = "fold" ∨ nameK t = "window") = decide (t = 1 ∨ t = 2) := by decide +kernel
theorem tail_at {rd F : D} {L : List Row} {at' turn : D} {q : Row} (h : Lv 4 2 q) (hz : L.length ≤ 90000) : lwTail [.im rd, .lo F, .lo (.nd .lst (L.map enc)), .im at', .im turn, .im (enc q), .no] =
    .ok ([.im rd, .lo F, .lo (.nd .lst ((L ++ q.lparts).map enc)), .im at', .im turn, .im (enc q), .no], .nx) := by
  have kfw : ∀ L : D, t2 dIn (hV (v2 dIx (rN 5) (hC (.int 0)))) (hV (vTup (aCons (hC (.str "fold")) (aCons (hC (.str "window")) aNil)))) [.im rd, .lo F, .lo L, .im at', .im turn, .im (enc q), .no] = .ok ([.im rd, .lo F, .lo L, .im at', .im turn, .im (enc q), .no], decide (q.tag = 1 ∨ q.tag = 2)) := fun L =>
    t2_at (hV_at (fld (i := 5) rfl (head_row q).1)) (hV_at (vTup2 _ _)) rfl rfl (by rw [(tabW _ (kind_in q)).2.2, show q.kind = nameK q.tag by cases q <;> rfl, fw_tab _ (tag_lt q)])
  have kf : ∀ L : D, t2 dEq (hV (v2 dIx (rN 5) (hC (.int 0)))) (hC (.str "fold")) [.im rd, .lo F, .lo L, .im at', .im turn, .im (enc q), .no] = .ok ([.im rd, .lo F, .lo L, .im at', .im turn, .im (enc q), .no], decide (q.tag = 1)) := fun L => by
    rw [← is_fold]; exact kEq (i := 5) rfl (by simp)
  have kr : t2 dNe (hV (v2 dIx (rN 5) (hC (.int 0)))) (hC (.str "row")) [.im rd, .lo F, .lo (.nd .lst (L.map enc)), .im at', .im turn, .im (enc q), .no] = .ok ([.im rd, .lo F, .lo (.nd .lst (L.map enc)), .im at', .im turn, .im (enc q), .no], !decide (q.tag = 0)) := by
    have := kNe (ρ := [.im rd, .lo F, .lo (.nd .lst (L.map enc)), .im at', .im turn, .im (enc q), .no]) (i := 5) (r := q) (c := "row") rfl (by simp)
    rw [this, decide_not, is_row]
  cases hw : q.wraps with
  | true =>
    have t1 : decide (q.tag = 1 ∨ q.tag = 2) = false := by cases q <;> first | rfl | cases hw
    have t0 : (!decide (q.tag = 0)) = true := by cases q <;> first | rfl | cases hw
    have lp : q.lparts = [q.inner] := by cases q <;> first | rfl | cases hw
    have k := kfw (.nd .lst (L.map enc))
    rw [t1] at k
    rw [t0] at kr
    refine (if_f k).trans ((if_t kr).trans ((app_ok (i := 2) rfl (cons_ok (hV_ok (inner_at (i := 5) rfl hw)) rfl) rfl (by simp; omega)).trans ?_))
    rw [lp]
    simp
  | false =>
    cases q with
    | row x n t =>
      refine (if_f (kfw _)).trans ((if_f kr).trans ?_)
      simp [Row.lparts, gNext]
    | win x n rs =>
      refine (if_t (kfw _)).trans ((seq_nx (ext_ok (i := 2) (ds := rs.map enc) rfl rfl (cons_ok (hH_nw (blt_ok (q := [.im (.nd .tup (encs rs))]) (ds := [.nd .tup (encs rs)]) (z := .nw (.nd .lst (rs.map enc))) (cons_ok (hV_ok ((vif_f (kf _)).trans (fld (i := 5) rfl rfl))) rfl) rfl (by rw [encs_map]; rfl))) rfl) rfl ?_)).trans ((if_f (kf _)).trans ?_))
      · cases h with
        | win a b c e => simp; omega
      · simp [Row.lparts, gNext]
    | fold x rs =>
      cases h with
      | fold a b c e =>
      have f2 : dIx (enc (.fold x rs)) (.int 2) = some (.nd .tup (encs rs)) := rfl
      refine (if_t (kfw _)).trans ((seq_nx (ext_ok (i := 2) (ds := rs.map enc) rfl rfl (cons_ok (hH_nw (blt_ok (q := [.im (.nd .tup (encs rs))]) (ds := [.nd .tup (encs rs)]) (z := .nw (.nd .lst (rs.map enc))) (cons_ok (hV_ok ((vif_t (kf _)).trans (fld (i := 5) rfl f2))) rfl) rfl (by rw [encs_map]; rfl))) rfl) rfl (by simp; omega))).trans ((if_t (kf _)).trans ?_))
      have lc := elc_ok (vs := [6]) (tgf := tgN 6) (tt := tYes) (it := iRng dRng2 (aCons (hC (.int 1)) (aCons (hH (eB dLen (aCons (hV (v2 dIx (rN 5) (hC (.int 2)))) aNil))) aNil)))
        (vf := vTup (aCons (hC (.str "fold")) (aCons (hV (v2 dIx (rN 5) (hC (.int 1)))) (aCons (hH (eSl (hV (v2 dIx (rN 5) (hC (.int 2)))) oNone (oSome (vN 6)))) aNil))))
        (ρ0 := [.im rd, .lo F, .lo (.nd .lst (L.map enc ++ rs.map enc)), .im at', .im turn, .im (enc (.fold x rs)), .no]) (ρ := [.im rd, .lo F, .lo (.nd .lst (L.map enc ++ rs.map enc)), .im at', .im turn, .im (enc (.fold x rs)), .no])
        (ds := intsD 1 (rs.length - 1)) (fun _ => true) (fun d => match d with | .int i => enc (.fold x (rs.take i.toNat)) | _ => .non) ?_ rfl (by simp [intsD]; omega) ?_
      · refine (ext_ok (i := 2) (ds := ((List.range (rs.length - 1)).map fun i => enc (.fold x (rs.take (i + 1))))) rfl rfl (cons_ok (hH_nw lc) rfl) ?_ (by simp; omega)).trans ?_
        · show Rz.ok _ = _
          have : ((intsD 1 (rs.length - 1)).filter fun _ => true).map (fun d => match d with | .int i => enc (.fold x (rs.take i.toNat)) | _ => .non) = (List.range (rs.length - 1)).map fun i => enc (.fold x (rs.take (i + 1))) := by
            rw [List.filter_eq_self.mpr (by simp)]
            unfold intsD
            rw [List.map_map]
            refine List.map_congr_left fun i _ => ?_
            show enc (.fold x (rs.take ((1 : Int) + (i : Int)).toNat)) = _
            rw [show ((1 : Int) + (i : Int)).toNat = i + 1 by omega]
          rw [this]
        · simp [Row.lparts, Function.comp_def]
      · have len : eB dLen (aCons (hV (v2 dIx (rN 5) (hC (.int 2)))) aNil) [.im rd, .lo F, .lo (.nd .lst (L.map enc ++ rs.map enc)), .im at', .im turn, .im (enc (.fold x rs)), .no] = .ok ([.im rd, .lo F, .lo (.nd .lst (L.map enc ++ rs.map enc)), .im at', .im turn, .im (enc (.fold x rs)), .no], .im (.int (rs.length : Int))) :=
          blt_ok (q := [.im (.nd .tup (encs rs))]) (ds := [.nd .tup (encs rs)]) (cons_ok (hV_ok (fld (i := 5) rfl f2)) rfl) rfl (by show some (Rs.im (.int ((encs rs).length : Int))) = _; rw [encs_map, List.length_map])
        refine rng_at (q := [.im (.int 1), .im (.int (rs.length : Int))]) (ds := [.int 1, .int (rs.length : Int)]) (cons_ok rfl (cons_ok (hH_im len) rfl)) rfl ?_
        show (if (rngOk 1 && rngOk (rs.length : Int)) = true then some (intsD 1 ((rs.length : Int) - 1).toNat) else none) = _
        have ro : rngOk (rs.length : Int) = true := by unfold rngOk; rw [Bool.and_eq_true]; exact ⟨decide_eq_true (by omega), decide_eq_true (by omega)⟩
        rw [ro, show rngOk 1 = true by decide, show ((rs.length : Int) - 1).toNat = rs.length - 1 by omega]
        rfl
      · intro d hd
        obtain ⟨i, hi, rfl⟩ := List.mem_map.mp hd
        refine ⟨[.im rd, .lo F, .lo (.nd .lst (L.map enc ++ rs.map enc)), .im at', .im turn, .im (enc (.fold x rs)), .im (.int (1 + (i : Int)))], rfl, rfl, rfl, fun _ => ?_⟩
        have sl : eSl (hV (v2 dIx (rN 5) (hC (.int 2)))) oNone (oSome (vN 6)) [.im rd, .lo F, .lo (.nd .lst (L.map enc ++ rs.map enc)), .im at', .im turn, .im (enc (.fold x rs)), .im (.int (1 + (i : Int)))] =
            .ok ([.im rd, .lo F, .lo (.nd .lst (L.map enc ++ rs.map enc)), .im at', .im turn, .im (enc (.fold x rs)), .im (.int (1 + (i : Int)))], .im (.nd .tup (encs (rs.take ((1 : Int) + (i : Int)).toNat)))) :=
          sl_ok (hV_ok (fld (i := 5) rfl f2)) rfl (som_ok rfl) rfl (by
            show some (Rs.im (.nd .tup (cutA (encs rs) none (some (1 + (i : Int)))))) = _
            rw [show (1 : Int) + (i : Int) = ((1 + i : Nat) : Int) by omega, cut_take, encs_map, encs_map, List.map_take]
            rfl)
        exact vT3 rfl (hV_ok (fld (i := 5) rfl rfl)) (hH_im sl)
    | map _ _ => cases hw
    | stamp _ _ _ => cases hw
    | mix _ _ _ => cases hw
end Fx.K04

set_option Elab.async false
set_option linter.all false
set_option maxRecDepth 100000
set_option maxHeartbeats 4000000
namespace Fx.K04
open PySem L2
mutual
def Row.lpot : Row → Nat
  | .row _ _ _ => 1
  | .fold _ rs => 2 ^ rs.length * (1 + lpots rs)
  | .win _ _ rs => 1 + lpots rs
  | .map _ r => 1 + r.lpot
  | .stamp _ r _ => 1 + r.lpot
  | .mix _ _ r => 1 + r.lpot
def lpots : List Row → Nat
  | [] => 0
  | r :: rs => r.lpot + lpots rs
end
theorem lpots_app : ∀ (a b : List Row), lpots (a ++ b) = lpots a + lpots b
  | [], b => by simp [lpots]
  | r :: a, b => by rw [List.cons_append, lpots, lpots, lpots_app a b]; omega
theorem lpots_take (rs : List Row) (k : Nat) : lpots (rs.take k) ≤ lpots rs := by
  conv => rhs; rw [← List.take_append_drop k rs, lpots_app]
  omega
theorem lpots_pre (x : Str) (rs : List Row) : ∀ j, j ≤ rs.length → lpots ((List.range j).map fun i => Row.fold x (rs.take (i + 1))) + 2 * (1 + lpots rs) ≤ 2 ^ (j + 1) * (1 + lpots rs)
  | 0, _ => by simp [lpots]
  | j + 1, h => by
    have ih := lpots_pre x rs j (by omega)
    rw [List.range_succ, List.map_append, lpots_app]
    have e : lpots (List.map (fun i => Row.fold x (rs.take (i + 1))) [j]) = 2 ^ (j + 1) * (1 + lpots (rs.take (j + 1))) := by
      simp [lpots, Row.lpot, Nat.min_eq_left h]
    rw [e]
    have t : 2 ^ (j + 1) * (1 + lpots (rs.take (j + 1))) ≤ 2 ^ (j + 1) * (1 + lpots rs) := Nat.mul_le_mul_left _ (by have := lpots_take rs (j + 1); omega)
    have p : 2 ^ (j + 1 + 1) * (1 + lpots rs) = 2 ^ (j + 1) * (1 + lpots rs) + 2 ^ (j + 1) * (1 + lpots rs) := by rw [Nat.pow_succ]; rw [Nat.mul_comm (2 ^ (j + 1)) 2, Nat.mul_assoc]; omega
    omega
theorem lpot_parts {d f : Nat} {r : Row} (h : Lv d f r) : lpots r.lparts + 1 ≤ r.lpot := by
  cases h with
  | row => simp [Row.lparts, lpots, Row.lpot]
  | win => simp [Row.lparts, Row.lpot]; omega
  | map => simp [Row.lparts, lpots, Row.lpot]; omega
  | stamp => simp [Row.lparts, lpots, Row.lpot]; omega
  | mix => simp [Row.lparts, lpots, Row.lpot]; omega
  | @fold d f x rs a b c e =>
    have hl : 0 < rs.length := List.length_pos_iff.mpr b
    have p := lpots_pre x rs (rs.length - 1) (by omega)
    rw [show rs.length - 1 + 1 = rs.length by omega] at p
    show lpots (rs ++ (List.range (rs.length - 1)).map fun i => Row.fold x (rs.take (i + 1))) + 1 ≤ 2 ^ rs.length * (1 + lpots rs)
    rw [lpots_app]
    omega
theorem Lv.lparts {d f : Nat} {r : Row} (h : Lv d f r) (hd : 1 ≤ d) : ∀ p ∈ r.lparts, Lv d f p := by
  intro p hp
  cases h with
  | @fold d f x rs a b c e =>
    rcases List.mem_append.mp hp with z | z
    · exact (e p z).up hd (Nat.le_succ _)
    · obtain ⟨i, hi, rfl⟩ := List.mem_map.mp z
      have hi := List.mem_range.mp hi
      refine .fold a (List.ne_nil_of_length_pos (by rw [List.length_take]; omega)) (by rw [List.length_take]; omega) fun r hr => e r (List.take_subset _ _ hr)
  | row a b c => exact (Lv.row a b c).parts hd p hp
  | win a b c e => exact (Lv.win a b c e).parts hd p hp
  | map a b => exact (Lv.map a b).parts hd p hp
  | stamp a b c => exact (Lv.stamp a b c).parts hd p hp
  | mix a b c => exact (Lv.mix a b c).parts hd p hp
def lB : Nat → Nat → Nat
  | d, 0 => d + 1
  | d, f + 1 => d + 16 * (1 + 4 * lB 1 f)
theorem lB_succ : ∀ (d f : Nat), lB (d + 1) f = lB d f + 1
  | d, 0 => by unfold lB; omega
  | d, f + 1 => by unfold lB; omega
theorem lB_pos : ∀ (d f : Nat), 1 ≤ lB d f
  | d, 0 => by unfold lB; omega
  | d, f + 1 => by unfold lB; omega
theorem lpots_le {w : Nat} : ∀ {L : List Row}, (∀ r ∈ L, r.lpot ≤ w) → lpots L ≤ L.length * w
  | [], _ => by simp [lpots]
  | r :: L, h => by
    have := lpots_le (L := L) fun q hq => h q (List.mem_cons_of_mem _ hq)
    have h1 := h r List.mem_cons_self
    rw [lpots, List.length_cons, Nat.succ_mul]
    omega
theorem Lv.lpot {d f : Nat} {r : Row} (h : Lv d f r) : r.lpot ≤ lB d f := by
  induction h with
  | @row d f => have := lB_pos d f; simpa [Row.lpot] using this
  | @fold d f x rs a b c e ih =>
    have h1 := lpots_le ih
    have h2 : rs.length * lB 1 f ≤ 4 * lB 1 f := Nat.mul_le_mul_right _ c
    have h3 : 2 ^ rs.length ≤ 16 := Nat.pow_le_pow_right (n := 2) (by decide) c
    have h4 : 2 ^ rs.length * (1 + lpots rs) ≤ 16 * (1 + 4 * lB 1 f) := Nat.mul_le_mul h3 (by omega)
    show 2 ^ rs.length * (1 + lpots rs) ≤ d + 16 * (1 + 4 * lB 1 f)
    omega
  | @win d f x n rs a b c e ih =>
    have h1 := lpots_le ih
    have h2 : rs.length * lB 1 f ≤ 4 * lB 1 f := Nat.mul_le_mul_right _ c
    show 1 + lpots rs ≤ d + 16 * (1 + 4 * lB 1 f)
    omega
  | map a b ih => rw [lB_succ]; simp only [Row.lpot]; omega
  | stamp a b c ih => rw [lB_succ]; simp only [Row.lpot]; omega
  | mix a b c ih => rw [lB_succ]; simp only [Row.lpot]; omega
theorem lpots_len {d f : Nat} : ∀ L : List Row, (∀ r ∈ L, Lv d f r) → L.length ≤ lpots L
  | [], _ => Nat.le_refl _
  | r :: L, h => by
    have p := lpot_parts (h r List.mem_cons_self)
    have h := lpots_len L fun q hq => h q (List.mem_cons_of_mem _ hq)
    rw [lpots, List.length_cons]
    omega
abbrev lwBody : Env → Rz (Env × Fl) := (gSeq (gIf (t2 dGe (rN 3) (hH (eB dLen (aCons (rN 2) aNil)))) gBreak gNext)
    (gSeq (gAsg (tgT [(tgN 5), (tgN 3)]) (vTup (aCons (hV (v2 dIx (rN 2) (rN 3))) (aCons (hH (e2 dAdd (rN 3) (hC (.int 1)))) aNil))))
    (gSeq (gIf (t2 dIn (rN 5) (rN 1)) gCont gNext)
    (gSeq (gExpr (eMth 1 mAppend (aCons (rN 5) aNil))) lwTail))))
def IsIm (x : Sl) : Prop := x = .no ∨ ∃ d, x = .im d
open Classical in
theorem lw_loop {start : List Row} {rd : D} : ∀ (ds : List D) (F L : List Row) (at' : Nat) (r4 r5 : Sl), IsIm r4 → IsIm r5 → (∀ r ∈ F, Lv 4 2 r) → (∀ r ∈ L, Lv 4 2 r) → at' ≤ L.length → at' + lpots (L.drop at') ≤ 90000 → lpots (L.drop at') < ds.length → F.length ≤ at' → F.Nodup →
    (∀ r ∈ F, ∀ p ∈ r.lparts, p ∈ L) → (∀ r ∈ start, r ∈ L) → (∀ r ∈ L.take at', r ∈ F) → (∀ T : Row → Prop, (∀ r ∈ start, T r) → (∀ r, T r → ∀ p ∈ r.lparts, T p) → ∀ r, r ∈ F ∨ r ∈ L → T r) →
    ∃ (G : List Row) (ρ' : Env), gForL (tgN 4) lwBody ds [.im rd, .lo (.nd .lst (F.map enc)), .lo (.nd .lst (L.map enc)), .im (.int (at' : Int)), r4, r5, .no] = .ok (ρ', .nx) ∧ ρ'[0]? = some (.im rd) ∧ ρ'[1]? = some (.lo (.nd .lst (G.map enc))) ∧ Least Row.lparts start G ∧ ∀ r ∈ G, Lv 4 2 r := by
  intro ds
  induction ds with
  | nil => intro F L at' r4 r5 _ _ _ _ _ _ h; simp at h
  | cons d ds ih =>
    intro F L at' r4 r5 h4 h5 hF hL ha hb hn hfl nd hp hst htk hT
    have dl := lpots_len (L.drop at') fun r hr => hL r (List.drop_subset _ _ hr)
    rw [List.length_drop] at dl
    have p4 : tgN 4 d [.im rd, .lo (.nd .lst (F.map enc)), .lo (.nd .lst (L.map enc)), .im (.int (at' : Int)), r4, r5, .no] = .ok [.im rd, .lo (.nd .lst (F.map enc)), .lo (.nd .lst (L.map enc)), .im (.int (at' : Int)), .im d, r5, .no] := put_im (x := r4) rfl h4
    have ge : t2 dGe (rN 3) (hH (eB dLen (aCons (rN 2) aNil))) [.im rd, .lo (.nd .lst (F.map enc)), .lo (.nd .lst (L.map enc)), .im (.int (at' : Int)), .im d, r5, .no] = .ok ([.im rd, .lo (.nd .lst (F.map enc)), .lo (.nd .lst (L.map enc)), .im (.int (at' : Int)), .im d, r5, .no], decide ((at' : Int) ≥ (L.length : Int))) :=
      tst_ok rfl (hH_im (blt_ok (q := [.slot 2]) (ds := [.nd .lst (L.map enc)]) (z := .im (.int (L.length : Int))) (cons_ok rfl rfl) rfl (by show some (Rs.im (.int ((L.map enc).length : Int))) = _; rw [List.length_map]))) rfl rfl rfl
    by_cases hend : L.length ≤ at'
    · rw [decide_eq_true (show (at' : Int) ≥ (L.length : Int) by omega)] at ge
      have body : lwBody [.im rd, .lo (.nd .lst (F.map enc)), .lo (.nd .lst (L.map enc)), .im (.int (at' : Int)), .im d, r5, .no] = .ok ([.im rd, .lo (.nd .lst (F.map enc)), .lo (.nd .lst (L.map enc)), .im (.int (at' : Int)), .im d, r5, .no], .bk) := seq_bk ((if_t ge).trans rfl)
      refine ⟨F, [.im rd, .lo (.nd .lst (F.map enc)), .lo (.nd .lst (L.map enc)), .im (.int (at' : Int)), .im d, r5, .no], ?_, rfl, rfl, ⟨nd, ⟨fun r hr => ?_, fun r hr p hq => ?_⟩, fun T h1 h2 r hr => hT T h1 h2 r (.inl hr)⟩, hF⟩
      · show ((tgN 4 d _).bind _) = _
        rw [p4]
        show ((lwBody _).bind _) = _
        rw [body]
        rfl
      · exact htk r (by rw [List.take_of_length_le hend]; exact hst r hr)
      · exact htk p (by rw [List.take_of_length_le hend]; exact hp r hr p hq)
    · have hlt : at' < L.length := by omega
      rw [decide_eq_false (show ¬ (at' : Int) ≥ (L.length : Int) by omega)] at ge
      have qL : L[at']? = some L[at'] := List.getElem?_eq_getElem hlt
      have hq := hL L[at'] (List.getElem_mem hlt)
      have dr : L.drop at' = L[at'] :: L.drop (at' + 1) := List.drop_eq_getElem_cons hlt
      have pd : lpots (L.drop at') = L[at'].lpot + lpots (L.drop (at' + 1)) := by rw [dr, lpots]
      have lp := lpot_parts hq
      have asg : gAsg (tgT [(tgN 5), (tgN 3)]) (vTup (aCons (hV (v2 dIx (rN 2) (rN 3))) (aCons (hH (e2 dAdd (rN 3) (hC (.int 1)))) aNil))) [.im rd, .lo (.nd .lst (F.map enc)), .lo (.nd .lst (L.map enc)), .im (.int (at' : Int)), .im d, r5, .no] =
          .ok ([.im rd, .lo (.nd .lst (F.map enc)), .lo (.nd .lst (L.map enc)), .im (.int ((at' : Int) + 1)), .im d, .im (enc L[at']), .no], .nx) := by
        have v : vTup (aCons (hV (v2 dIx (rN 2) (rN 3))) (aCons (hH (e2 dAdd (rN 3) (hC (.int 1)))) aNil)) [.im rd, .lo (.nd .lst (F.map enc)), .lo (.nd .lst (L.map enc)), .im (.int (at' : Int)), .im d, r5, .no] =
            .ok ([.im rd, .lo (.nd .lst (F.map enc)), .lo (.nd .lst (L.map enc)), .im (.int (at' : Int)), .im d, r5, .no], .nd .tup [enc L[at'], .int ((at' : Int) + 1)]) :=
          tup_ok (q := [.im (enc L[at']), .im (.int ((at' : Int) + 1))]) (ds := [enc L[at'], .int ((at' : Int) + 1)]) (cons_ok (hV_ok (two_ok rfl rfl rfl rfl (by show atI (L.map enc) (at' : Int) = _; exact atI_nat' (by rw [List.getElem?_map, qL]; rfl)))) (cons_ok (hH_im (add_ok rfl rfl rfl rfl rfl)) rfl)) rfl (by simp)
        unfold gAsg
        rw [v]
        show (((put _ 5 (.im (enc L[at']))).bind fun ρ1 => (put ρ1 3 (.im (.int ((at' : Int) + 1)))).bind fun ρ2 => Rz.ok ρ2).bind _) = _
        rw [put_im (x := r5) rfl h5]
        rfl
      have inn : t2 dIn (rN 5) (rN 1) [.im rd, .lo (.nd .lst (F.map enc)), .lo (.nd .lst (L.map enc)), .im (.int ((at' : Int) + 1)), .im d, .im (enc L[at']), .no] = .ok ([.im rd, .lo (.nd .lst (F.map enc)), .lo (.nd .lst (L.map enc)), .im (.int ((at' : Int) + 1)), .im d, .im (enc L[at']), .no], decide (L[at'] ∈ F)) :=
        tst_ok rfl rfl rfl rfl (notin_at hq hF).2
      have htk' : ∀ G : List Row, (∀ r ∈ F, r ∈ G) → L[at'] ∈ G → ∀ M : List Row, ∀ r ∈ (L ++ M).take (at' + 1), r ∈ G := fun G h1 h2 M r hr => by
        rw [List.take_append_of_le_length (by omega), List.take_add_one, qL] at hr
        rcases List.mem_append.mp hr with z | z
        · exact h1 r (htk r z)
        · have z : r = L[at'] := by simpa using z
          rw [z]; exact h2
      by_cases hm : L[at'] ∈ F
      · rw [decide_eq_true hm] at inn
        have body : lwBody [.im rd, .lo (.nd .lst (F.map enc)), .lo (.nd .lst (L.map enc)), .im (.int (at' : Int)), .im d, r5, .no] = .ok ([.im rd, .lo (.nd .lst (F.map enc)), .lo (.nd .lst (L.map enc)), .im (.int ((at' : Int) + 1)), .im d, .im (enc L[at']), .no], .ct) :=
          (seq_nx ((if_f ge).trans rfl)).trans ((seq_nx asg).trans (seq_ct ((if_t inn).trans rfl)))
        obtain ⟨G, ρ', g1, g2⟩ := ih F L (at' + 1) (.im d) (.im (enc L[at'])) (.inr ⟨_, rfl⟩) (.inr ⟨_, rfl⟩) hF hL hlt (by omega) (by simp at hn; omega) (by omega) nd hp hst (by have := htk' F (fun r h => h) hm []; simpa using this) hT
        refine ⟨G, ρ', ?_, g2⟩
        show ((tgN 4 d _).bind _) = _
        rw [p4]
        show ((lwBody _).bind _) = _
        rw [body]
        exact g1
      · rw [decide_eq_false hm] at inn
        have ap : gExpr (eMth 1 mAppend (aCons (rN 5) aNil)) [.im rd, .lo (.nd .lst (F.map enc)), .lo (.nd .lst (L.map enc)), .im (.int ((at' : Int) + 1)), .im d, .im (enc L[at']), .no] = .ok ([.im rd, .lo (.nd .lst (F.map enc ++ [enc L[at']])), .lo (.nd .lst (L.map enc)), .im (.int ((at' : Int) + 1)), .im d, .im (enc L[at']), .no], .nx) :=
          app_ok (i := 1) (q := [.slot 5]) rfl (cons_ok rfl rfl) rfl (by simp; omega)
        have body : lwBody [.im rd, .lo (.nd .lst (F.map enc)), .lo (.nd .lst (L.map enc)), .im (.int (at' : Int)), .im d, r5, .no] = .ok ([.im rd, .lo (.nd .lst (F.map enc ++ [enc L[at']])), .lo (.nd .lst ((L ++ L[at'].lparts).map enc)), .im (.int ((at' : Int) + 1)), .im d, .im (enc L[at']), .no], .nx) :=
          (seq_nx ((if_f ge).trans rfl)).trans ((seq_nx asg).trans ((seq_nx ((if_f inn).trans rfl)).trans ((seq_nx ap).trans (tail_at hq (by omega)))))
        have dr2 : (L ++ L[at'].lparts).drop (at' + 1) = L.drop (at' + 1) ++ L[at'].lparts := List.drop_append_of_le_length (by omega)
        have s1 : ∀ r ∈ F ++ [L[at']], Lv 4 2 r := fun r hr => by
          rcases List.mem_append.mp hr with z | z
          · exact hF r z
          · have z := List.mem_singleton.mp z
            rw [z]; exact hq
        have s2 : ∀ r ∈ L ++ L[at'].lparts, Lv 4 2 r := fun r hr => by
          rcases List.mem_append.mp hr with z | z
          · exact hL r z
          · exact hq.lparts (by decide) r z
        have s3 : (F ++ [L[at']]).Nodup := by
          rw [List.nodup_append]
          exact ⟨nd, by simp, fun x hx y hy => by have hy := List.mem_singleton.mp hy; subst hy; exact fun z => hm (z ▸ hx)⟩
        have s4 : ∀ r ∈ F ++ [L[at']], ∀ p ∈ r.lparts, p ∈ L ++ L[at'].lparts := fun r hr p hpp => by
          rcases List.mem_append.mp hr with z | z
          · exact List.mem_append_left _ (hp r z p hpp)
          · have z := List.mem_singleton.mp z
            subst z; exact List.mem_append_right _ hpp
        have s5 : ∀ T : Row → Prop, (∀ r ∈ start, T r) → (∀ r, T r → ∀ p ∈ r.lparts, T p) → ∀ r, r ∈ F ++ [L[at']] ∨ r ∈ L ++ L[at'].lparts → T r := fun T h1 h2 r hr => by
          have tr : T L[at'] := hT T h1 h2 _ (.inr (List.getElem_mem hlt))
          rcases hr with z | z
          · rcases List.mem_append.mp z with z | z
            · exact hT T h1 h2 r (.inl z)
            · have z := List.mem_singleton.mp z
              subst z; exact tr
          · rcases List.mem_append.mp z with z | z
            · exact hT T h1 h2 r (.inr z)
            · exact h2 _ tr r z
        obtain ⟨G, ρ', g1, g2⟩ := ih (F ++ [L[at']]) (L ++ L[at'].lparts) (at' + 1) (.im d) (.im (enc L[at'])) (.inr ⟨_, rfl⟩) (.inr ⟨_, rfl⟩) s1 s2 (by simp; omega) (by rw [dr2, lpots_app]; omega) (by rw [dr2, lpots_app]; simp at hn; omega) (by simp; omega) s3 s4 (fun r hr => List.mem_append_left _ (hst r hr))
          (htk' _ (fun r h => List.mem_append_left _ h) (by simp) _) s5
        refine ⟨G, ρ', ?_, g2⟩
        show ((tgN 4 d _).bind _) = _
        rw [p4]
        show ((lwBody _).bind _) = _
        rw [body]
        rw [List.map_append, List.map_singleton] at g1
        exact g1
theorem own_within {S : List Row} (hS : ∀ r ∈ S, Lv 4 2 r) (hl : S.length ≤ 8) : ∃ G : List Row, noX (m__law_within [.im (.nd .lst (S.map enc))]) = .ok ([.im (.nd .lst (S.map enc))], .nw (.nd .lst (G.map enc))) ∧ Least Row.lparts S G ∧ ∀ r ∈ G, Lv 4 2 r := by
  have hp : lpots S ≤ 74400 := by
    have := lpots_le (L := S) (w := 9300) fun r hr => (hS r hr).lpot
    omega
  obtain ⟨G, ρ', g1, g2, g3, g4⟩ := lw_loop (start := S) (rd := .nd .lst (S.map enc)) (intsD 0 100000) [] S 0 .no .no (.inl rfl) (.inl rfl) (by simp) hS (Nat.zero_le _) (by simp; omega) (by simp [intsD]; omega) (by simp) (by simp) (by simp) (fun r h => h) (by simp) (fun T h1 h2 r hr => h1 r (by simpa using hr))
  refine ⟨G, ?_, g4⟩
  have gp : gPar [1, 2, 3] (qCons (eLst aNil) (qCons (eB dList (aCons (rN 0) aNil)) (qCons (hV (vC (.int 0))) aNil))) [.im (.nd .lst (S.map enc)), .no, .no, .no, .no, .no, .no] = .ok ([.im (.nd .lst (S.map enc)), .lo (.nd .lst []), .lo (.nd .lst (S.map enc)), .im (.int 0), .no, .no, .no], .nx) := rfl
  have fr : gFor (iRng dRng1 (aCons (hC (.int 100000)) aNil)) (tgN 4) lwBody [.im (.nd .lst (S.map enc)), .lo (.nd .lst []), .lo (.nd .lst (S.map enc)), .im (.int 0), .no, .no, .no] = .ok (ρ', .nx) := by
    refine for_ok (rng_at (q := [.im (.int ((100000 : Nat) : Int))]) (ds := [.int ((100000 : Nat) : Int)]) (ρ1 := [.im (.nd .lst (S.map enc)), .lo (.nd .lst []), .lo (.nd .lst (S.map enc)), .im (.int 0), .no, .no, .no]) rfl rfl (rng1 (by decide))) g1
  have take1 : ρ'.take 1 = [.im (.nd .lst (S.map enc))] := by
    cases ρ' with
    | nil => simp at g2
    | cons y ρ' => simp at g2; simp [g2]
  have r := run_rt (n := 7) (body := g__law_within) (args := [.im (.nd .lst (S.map enc))]) (ρ' := ρ') (r := .slot 1) (r' := .nw (.nd .lst (G.map enc))) ((seq_nx gp).trans ((seq_nx fr).trans (ret_ok (by unfold rN; rw [g3])))) (by
    cases ρ' with
    | nil => simp at g2
    | cons y ρ' => simp at g2; subst g2; rfl) (by show (match ρ'[1]? with | some (.im d) => Rz.ok (Rs.im d) | some (.lo d) => .ok (.nw d) | _ => .no) = _; rw [g3])
  rw [show ([Sl.im (.nd .lst (S.map enc))]).length = 1 from rfl, take1] at r
  exact r
end Fx.K04

set_option Elab.async false
set_option linter.all false
set_option maxRecDepth 100000
set_option maxHeartbeats 4000000
namespace Fx.K04
open PySem L2
/-! ### the pen -/
def penD (cells : List Int) (a l : Int) : D := .nd .lst [.nd .lst (cells.map .int), .int a, .int l]
theorem ix_pen {cells : List Int} {a l : Int} : dIx (penD cells a l) (.int 0) = some (.nd .lst (cells.map .int)) ∧ dIx (penD cells a l) (.int 1) = some (.int a) ∧ dIx (penD cells a l) (.int 2) = some (.int l) := ⟨rfl, rfl, rfl⟩
theorem sub_ok {ρ : Env} {i : Nat} {x : Sl} {xs : List D} {v : Env → Rz (Env × D)} {d : D} {k : Nat} (h : ρ[i]? = some x) (hx : x.ownD = some (.nd .lst xs)) (hv : v ρ = .ok (ρ, d)) (hk : k < xs.length) : gSub i (hC (.int (k : Int))) v ρ = .ok (ρ.set i (x.withD (.nd .lst (xs.set k d))), .nx) := by
  have own : ownC ρ i = some (x, .nd .lst xs) := by unfold ownC; rw [h]; show (x.ownD).map _ = _; rw [hx]; rfl
  have ixk : ixN xs.length (k : Int) = some k := by
    unfold ixN
    rw [if_pos (by omega), if_pos (by omega), Int.toNat_natCast]
  simp [gSub, hv, own, hC, peek, ixk, Rz.bind]
/-- a fair number -/
structure Drawn (cells : List Int) (a : Int) (many : Int) (o : Env) (k : Int) : Prop where
  pen : ∃ a' l', o = [.pa (penD cells a' l'), .im (.int many)] ∧ a ≤ a' ∧ a' ≤ a + 1 ∧ 0 ≤ l'
  lo : 0 ≤ k
  hi : k < many
section
variable {cells : List Int} {a l many : Int}
theorem fit_ints (cells : List Int) : (D.nd .lst (cells.map .int)).fit = true := by
  have h1 : ∀ cs : List Int, D.plains (cs.map .int) = true ∧ PyData.canLayAll0 (D.pys (cs.map .int)) = true ∧ PyData.depthAll (D.pys (cs.map .int)) = 0 := by
    intro cs
    induction cs with
    | nil => rw [List.map_nil, D.plains, D.pys]; exact ⟨rfl, rfl, rfl⟩
    | cons c cs ih =>
      obtain ⟨q1, q2, q3⟩ := ih
      rw [List.map_cons, D.plains, D.plain, D.pys, D.py, PyData.canLayAll0, PyData.canLay0, PyData.depthAll, PyData.depth, q1, q2, q3]
      exact ⟨rfl, rfl, rfl⟩
  obtain ⟨q1, q2, q3⟩ := h1 cells
  unfold D.fit SeqAt.shaped
  rw [D.plain, D.py, PyData.canLay0, PyData.depth, q1, q2, q3]
  rfl
theorem ne_ints (cells : List Int) : dNe (.nd .lst (cells.map .int)) (.nd .lst []) = some (!decide (cells = [])) := by
  unfold dNe
  rw [fit_ints, show (D.nd .lst []) = .nd .lst (([] : List Int).map .int) from rfl, fit_ints]
  show some (!D.eqv _ _) = _
  cases cells with
  | nil => rfl
  | cons c cs => rfl
theorem mod_ok {i j : Int} (h : 0 < j) : dMod (.int i) (.int j) = some (.int (i % j)) := by
  show (if decide (0 < j) = true then some (D.int (i % j)) else none) = _
  rw [if_pos (decide_eq_true h)]
theorem div_ok {i j : Int} (h : 0 < j) (h2 : j < 1073741824) : dDiv (.int i) (.int j) = some (.int (i / j)) := by
  show (if (decide (0 < j) && decide (j < 1073741824)) = true then some (D.int (i / j)) else none) = _
  rw [if_pos (by rw [decide_eq_true h, decide_eq_true h2]; rfl)]
theorem mul_ok {i j : Int} (h : i.natAbs < 2 ^ 64 ∨ j.natAbs < 2 ^ 64) : dMul (.int i) (.int j) = some (.int (i * j)) := by
  have c : cMul i j = true := by
    unfold cMul
    rw [Bool.or_eq_true, Bool.and_eq_true, Bool.and_eq_true, decide_eq_true_iff, decide_eq_true_iff, decide_eq_true_iff, decide_eq_true_iff]
    rcases h with h | h
    · exact .inl ⟨by omega, by omega⟩
    · exact .inr ⟨by omega, by omega⟩
  show (if cMul i j = true then some (D.int (i * j)) else none) = _
  rw [if_pos c]
theorem pow_ok {i : Int} {k : Nat} (h : i.natAbs < 2 ^ 64) (hk : k ≤ 1000000) : dPow (.int i) (.int (k : Int)) = some (.int (i ^ k)) := by
  have c : cPow i (k : Int) = true := by
    unfold cPow
    rw [Bool.and_eq_true, Bool.and_eq_true, decide_eq_true_iff, decide_eq_true_iff, decide_eq_true_iff]
    exact ⟨by omega, by omega, h⟩
  show (if cPow i (k : Int) = true then some (D.int (i ^ (k : Int).toNat)) else none) = _
  rw [if_pos c, Int.toNat_natCast]
/-- int(e) of a number -/
theorem int_ok {f : Env → Rz (Env × Rs)} {ρ : Env} {x : Rs} {i : Int} (h : f ρ = .ok (ρ, x)) (hp : peek ρ x = some (.int i)) : hH (eB dInt (aCons f aNil)) ρ = .ok (ρ, .im (.int i)) :=
  hH_im (blt_ok (q := [x]) (ds := [.int i]) (cons_ok h rfl) (by simp [peekAll, hp]) rfl)
abbrev ρD (cells : List Int) (a l many : Int) (x2 x3 x4 x5 x6 : Sl) : Env := [.pa (penD cells a l), .im (.int many), x2, x3, x4, x5, x6]
theorem draw_at (ha : 0 ≤ a) (ha2 : a ≤ 1000000) (hl : 0 ≤ l) (hm : 1 ≤ many) (hm2 : many ≤ 1000) : ∃ o k, noX (m__law_draw [.pa (penD cells a l), .im (.int many)]) = .ok (o, .im (.int k)) ∧ Drawn cells a many o k := by
  have lt2 : t2 dLt (rN 1) (hC (.int 2)) (ρD cells a l many .no .no .no .no .no) = .ok (ρD cells a l many .no .no .no .no .no, decide (many < 2)) := tst_ok rfl rfl rfl rfl rfl
  by_cases c1 : many < 2
  · rw [decide_eq_true c1] at lt2
    exact ⟨_, 0, run_rt (ρ' := ρD cells a l many .no .no .no .no .no) (r := .im (.int 0)) (seq_rt ((if_t lt2).trans rfl)) rfl rfl, ⟨⟨a, l, rfl, by omega, by omega, hl⟩, by omega, by omega⟩⟩
  rw [decide_eq_false c1] at lt2
  have gt0 : t2 dGt (hV (v2 dIx (rN 0) (hC (.int 2)))) (hC (.int 0)) (ρD cells a l many .no .no .no .no .no) = .ok (ρD cells a l many .no .no .no .no .no, decide (l > 0)) := tst_ok (hV_ok (two_ok rfl rfl rfl rfl rfl)) rfl rfl rfl rfl
  by_cases c2 : l > 0
  · rw [decide_eq_true c2] at gt0
    have e1 : gSet 2 (hV (v2 dMod (hH (eB dInt (aCons (hV (v2 dIx (rN 0) (hC (.int 2)))) aNil))) (rN 1))) (ρD cells a l many .no .no .no .no .no) = .ok (ρD cells a l many (.im (.int (l % many))) .no .no .no .no, .nx) :=
      set_ok (hV_ok (two_ok (int_ok (hV_ok (two_ok rfl rfl rfl rfl rfl)) rfl) rfl rfl rfl (mod_ok (by omega)))) rfl
    have e2 : gSub 0 (hC (.int 2)) (v2 dDiv (hH (eB dInt (aCons (hV (v2 dIx (rN 0) (hC (.int 2)))) aNil))) (rN 1)) (ρD cells a l many (.im (.int (l % many))) .no .no .no .no) = .ok (ρD cells a (l / many) many (.im (.int (l % many))) .no .no .no .no, .nx) :=
      sub_ok (k := 2) (x := .pa (penD cells a l)) (xs := [.nd .lst (cells.map .int), .int a, .int l]) (d := .int (l / many)) rfl rfl (two_ok (d := .int l) (c := .int many) (int_ok (hV_ok (two_ok rfl rfl rfl rfl rfl)) rfl) rfl rfl rfl (div_ok (by omega) (by omega))) (by simp)
    exact ⟨_, l % many, run_rt (ρ' := ρD cells a (l / many) many (.im (.int (l % many))) .no .no .no .no) (r := .slot 2) ((seq_nx ((if_f lt2).trans rfl)).trans (seq_rt ((if_t gt0).trans ((seq_nx e1).trans ((seq_nx e2).trans (ret_ok rfl)))))) rfl rfl,
      ⟨⟨a, l / many, rfl, by omega, by omega, Int.ediv_nonneg hl (by omega)⟩, Int.emod_nonneg _ (by omega), Int.emod_lt_of_pos _ (by omega)⟩⟩
  rw [decide_eq_false c2] at gt0
  have e3 : gSet 3 (hV (v2 dIx (rN 0) (hC (.int 1)))) (ρD cells a l many .no .no .no .no .no) = .ok (ρD cells a l many .no (.im (.int a)) .no .no .no, .nx) := set_ok (hV_ok (two_ok rfl rfl rfl rfl rfl)) rfl
  have e4 : gSub 0 (hC (.int 1)) (vU (e2 dAdd (rN 3) (hC (.int 1)))) (ρD cells a l many .no (.im (.int a)) .no .no .no) = .ok (ρD cells (a + 1) l many .no (.im (.int a)) .no .no .no, .nx) := sub_ok (k := 1) (x := .pa (penD cells a l)) (xs := [.nd .lst (cells.map .int), .int a, .int l]) (d := .int (a + 1)) rfl rfl (vU_im (add_ok rfl rfl rfl rfl rfl)) (by simp)
  have e5 : gSet 4 (e2 dAdd (hV (v2 dMul (hC (.int 60307)) (rN 3))) (hC (.int 7123))) (ρD cells (a + 1) l many .no (.im (.int a)) .no .no .no) = .ok (ρD cells (a + 1) l many .no (.im (.int a)) (.im (.int (60307 * a + 7123))) .no .no, .nx) :=
    set_ok (add_ok (hV_ok (two_ok rfl rfl rfl rfl (mul_ok (.inl (by decide))))) rfl rfl rfl rfl) rfl
  have lenI : ∀ x4 : Sl, hH (eB dLen (aCons (hV (v2 dIx (rN 0) (hC (.int 0)))) aNil)) (ρD cells (a + 1) l many .no (.im (.int a)) x4 .no .no) = .ok (ρD cells (a + 1) l many .no (.im (.int a)) x4 .no .no, .im (.int (cells.length : Int))) := fun x4 =>
    hH_im (blt_ok (q := [.im (.nd .lst (cells.map .int))]) (ds := [.nd .lst (cells.map .int)]) (cons_ok (hV_ok (two_ok rfl rfl rfl rfl rfl)) rfl) rfl (by show some (Rs.im (.int ((cells.map D.int).length : Int))) = _; rw [List.length_map]))
  obtain ⟨c, e6⟩ : ∃ c : Int, gIf (t2 dNe (hV (v2 dIx (rN 0) (hC (.int 0)))) (hH (eLst aNil))) (gSet 4 (hV (v2 dIx (hV (v2 dIx (rN 0) (hC (.int 0)))) (hV (v2 dMod (hH (eB dInt (aCons (rN 3) aNil))) (hH (eB dLen (aCons (hV (v2 dIx (rN 0) (hC (.int 0)))) aNil)))))))) gNext (ρD cells (a + 1) l many .no (.im (.int a)) (.im (.int (60307 * a + 7123))) .no .no) =
      .ok (ρD cells (a + 1) l many .no (.im (.int a)) (.im (.int c)) .no .no, .nx) := by
    have ne : t2 dNe (hV (v2 dIx (rN 0) (hC (.int 0)))) (hH (eLst aNil)) (ρD cells (a + 1) l many .no (.im (.int a)) (.im (.int (60307 * a + 7123))) .no .no) = .ok (ρD cells (a + 1) l many .no (.im (.int a)) (.im (.int (60307 * a + 7123))) .no .no, !decide (cells = [])) :=
      tst_ok (hV_ok (two_ok rfl rfl rfl rfl rfl)) (hH_nw (lst_ok (q := []) (ds := []) rfl rfl (by simp))) rfl rfl (ne_ints cells)
    by_cases h : cells = []
    · rw [decide_eq_true h] at ne
      exact ⟨_, (if_f ne).trans rfl⟩
    · rw [decide_eq_false h] at ne
      have hl : 0 < cells.length := List.length_pos_iff.mpr h
      have h1 : 0 ≤ a % (cells.length : Int) := Int.emod_nonneg _ (by omega)
      have h2 : a % (cells.length : Int) < cells.length := Int.emod_lt_of_pos _ (by omega)
      obtain ⟨z, at1⟩ : ∃ z : Int, atI (cells.map D.int) (a % (cells.length : Int)) = some (.int z) := by
        obtain ⟨j, hj⟩ : ∃ j : Nat, a % (cells.length : Int) = (j : Int) := ⟨(a % (cells.length : Int)).toNat, by omega⟩
        rw [hj] at h2 ⊢
        have hj2 : j < cells.length := by omega
        exact ⟨cells[j], atI_nat' (by rw [List.getElem?_map, List.getElem?_eq_getElem hj2]; rfl)⟩
      exact ⟨_, (if_t ne).trans (set_ok (hV_ok (two_ok (hV_ok (two_ok rfl rfl rfl rfl rfl)) (hV_ok (two_ok (int_ok rfl rfl) (lenI _) rfl rfl (mod_ok (by omega)))) rfl rfl at1)) rfl)⟩
  have ab : hH (eB dAbs (aCons (rN 4) aNil)) (ρD cells (a + 1) l many .no (.im (.int a)) (.im (.int c)) .no .no) = .ok (ρD cells (a + 1) l many .no (.im (.int a)) (.im (.int c)) .no .no, .im (.int (if c < 0 then -c else c))) :=
    hH_im (blt_ok (q := [.slot 4]) (ds := [.int c]) (cons_ok rfl rfl) rfl rfl)
  have p18 : ∀ ρ : Env, hV (v2 dPow (hC (.int 10)) (hC (.int 18))) ρ = .ok (ρ, .im (.int (10 ^ 18))) := fun ρ => hV_ok (two_ok rfl rfl rfl rfl (pow_ok (k := 18) (by decide) (by decide)))
  obtain ⟨b, e7⟩ : ∃ b : Bool, tAnd (t2 dLt (rN 3) (hH (eB dLen (aCons (hV (v2 dIx (rN 0) (hC (.int 0)))) aNil)))) (t2 dGe (hH (eB dAbs (aCons (rN 4) aNil))) (hV (v2 dPow (hC (.int 10)) (hC (.int 18))))) (ρD cells (a + 1) l many .no (.im (.int a)) (.im (.int c)) .no .no) =
      .ok (ρD cells (a + 1) l many .no (.im (.int a)) (.im (.int c)) .no .no, b) ∧ (b = true → (if c < 0 then -c else c) ≥ 10 ^ 18) := by
    have t1 : t2 dLt (rN 3) (hH (eB dLen (aCons (hV (v2 dIx (rN 0) (hC (.int 0)))) aNil))) (ρD cells (a + 1) l many .no (.im (.int a)) (.im (.int c)) .no .no) = .ok (ρD cells (a + 1) l many .no (.im (.int a)) (.im (.int c)) .no .no, decide (a < (cells.length : Int))) := tst_ok rfl (lenI _) rfl rfl rfl
    have t3 : t2 dGe (hH (eB dAbs (aCons (rN 4) aNil))) (hV (v2 dPow (hC (.int 10)) (hC (.int 18)))) (ρD cells (a + 1) l many .no (.im (.int a)) (.im (.int c)) .no .no) = .ok (ρD cells (a + 1) l many .no (.im (.int a)) (.im (.int c)) .no .no, decide ((if c < 0 then -c else c) ≥ 10 ^ 18)) := tst_ok ab (p18 _) rfl rfl rfl
    unfold tAnd
    rw [t1]
    by_cases h : a < (cells.length : Int)
    · rw [decide_eq_true h]
      exact ⟨_, t3, fun z => of_decide_eq_true z⟩
    · rw [decide_eq_false h]
      exact ⟨false, rfl, fun z => nomatch z⟩
  obtain ⟨e7, hb⟩ := e7
  cases b with
  | true =>
    have h18 := hb rfl
    have lt0 : v2 (dB dLt) (rN 4) (hC (.int 0)) (ρD cells (a + 1) l many .no (.im (.int a)) (.im (.int c)) .no .no) = .ok (ρD cells (a + 1) l many .no (.im (.int a)) (.im (.int c)) .no .no, .bl (decide (c < 0))) := two_ok rfl rfl rfl rfl rfl
    have e8 : gSet 5 (e2 dAdd (hV (v2 dMul (hC (.int 2)) (hV (v2 dSub (hH (eB dAbs (aCons (rN 4) aNil))) (hV (v2 dPow (hC (.int 10)) (hC (.int 18)))))))) (hH (eB dInt (aCons (hV (v2 (dB dLt) (rN 4) (hC (.int 0)))) aNil)))) (ρD cells (a + 1) l many .no (.im (.int a)) (.im (.int c)) .no .no) =
        .ok (ρD cells (a + 1) l many .no (.im (.int a)) (.im (.int c)) (.im (.int (2 * ((if c < 0 then -c else c) - 10 ^ 18) + (if decide (c < 0) = true then 1 else 0)))) .no, .nx) :=
      set_ok (add_ok (hV_ok (two_ok rfl (hV_ok (two_ok ab (p18 _) rfl rfl rfl)) rfl rfl (mul_ok (.inl (by decide))))) (hH_im (blt_ok (q := [.im (.bl (decide (c < 0)))]) (ds := [.bl (decide (c < 0))]) (cons_ok (hV_ok lt0) rfl) rfl rfl)) rfl rfl rfl) rfl
    have g0 : 0 ≤ 2 * ((if c < 0 then -c else c) - 10 ^ 18) + (if decide (c < 0) = true then 1 else 0) := by split <;> omega
    generalize 2 * ((if c < 0 then -c else c) - 10 ^ 18) + (if decide (c < 0) = true then 1 else 0) = g at e8 g0
    have e9 : gSub 0 (hC (.int 2)) (v2 dDiv (hH (eB dInt (aCons (rN 5) aNil))) (rN 1)) (ρD cells (a + 1) l many .no (.im (.int a)) (.im (.int c)) (.im (.int g)) .no) = .ok (ρD cells (a + 1) (g / many) many .no (.im (.int a)) (.im (.int c)) (.im (.int g)) .no, .nx) :=
      sub_ok (k := 2) (x := .pa (penD cells (a + 1) l)) (xs := [.nd .lst (cells.map .int), .int (a + 1), .int l]) (d := .int (g / many)) rfl rfl (two_ok (d := .int g) (c := .int many) (int_ok rfl rfl) rfl rfl rfl (div_ok (by omega) (by omega))) (by simp)
    refine ⟨_, g % many, run_rt (ρ' := ρD cells (a + 1) (g / many) many .no (.im (.int a)) (.im (.int c)) (.im (.int g)) .no) (r := .im (.int (g % many))) ((seq_nx ((if_f lt2).trans rfl)).trans ((seq_nx ((if_f gt0).trans rfl)).trans ((seq_nx e3).trans ((seq_nx e4).trans ((seq_nx e5).trans ((seq_nx e6).trans
      (seq_rt ((if_t e7).trans ((seq_nx e8).trans ((seq_nx e9).trans (ret_ok (hV_ok (two_ok (int_ok rfl rfl) rfl rfl rfl (mod_ok (by omega)))))))))))))) ) rfl rfl, ⟨⟨a + 1, g / many, rfl, by omega, by omega, Int.ediv_nonneg g0 (by omega)⟩, Int.emod_nonneg _ (by omega), Int.emod_lt_of_pos _ (by omega)⟩⟩
  | false =>
    have cm0 : 0 ≤ c % 2147483549 := Int.emod_nonneg _ (by decide)
    have cm1 : c % 2147483549 < 2147483549 := Int.emod_lt_of_pos _ (by decide)
    have e8 : gSet 6 (hV (v2 dMod (hH (eB dInt (aCons (hV (v2 dPow (hH (e2 dAdd (hH (e2 dAdd (hV (v2 dMod (hH (eB dInt (aCons (rN 4) aNil))) (hC (.int 2147483549)))) (hV (v2 dMul (hC (.int 21243)) (rN 3))))) (hC (.int 7123)))) (hC (.int 3)))) aNil))) (hC (.int 2147483629)))) (ρD cells (a + 1) l many .no (.im (.int a)) (.im (.int c)) .no .no) =
        .ok (ρD cells (a + 1) l many .no (.im (.int a)) (.im (.int c)) .no (.im (.int ((c % 2147483549 + 21243 * a + 7123) ^ 3 % 2147483629))), .nx) :=
      set_ok (hV_ok (two_ok (int_ok (hV_ok (two_ok (hH_im (add_ok (hH_im (add_ok (hV_ok (two_ok (int_ok rfl rfl) rfl rfl rfl (mod_ok (by decide)))) (hV_ok (two_ok rfl rfl rfl rfl (mul_ok (.inl (by decide))))) rfl rfl rfl)) rfl rfl rfl rfl)) rfl rfl rfl (pow_ok (k := 3) (by omega) (by decide)))) rfl) rfl rfl rfl (mod_ok (by decide)))) rfl
    have m0 : 0 ≤ (c % 2147483549 + 21243 * a + 7123) ^ 3 % 2147483629 := Int.emod_nonneg _ (by decide)
    have m1 : (c % 2147483549 + 21243 * a + 7123) ^ 3 % 2147483629 < 2147483629 := Int.emod_lt_of_pos _ (by decide)
    generalize (c % 2147483549 + 21243 * a + 7123) ^ 3 % 2147483629 = mx at e8 m0 m1
    have bd : (mx * (2 * a + 5288) + 60307 * a * a + 21243).natAbs < 2 ^ 64 := by
      have h1 : mx * (2 * a + 5288) ≤ 2147483629 * 2005288 := Int.mul_le_mul (by omega) (by omega) (by omega) (by omega)
      have h2 : 0 ≤ mx * (2 * a + 5288) := Int.mul_nonneg m0 (by omega)
      have h3 : 60307 * a * a ≤ 60307000000 * 1000000 := Int.mul_le_mul (by omega) (by omega) (by omega) (by omega)
      have h4 : 0 ≤ 60307 * a * a := Int.mul_nonneg (by omega) ha
      omega
    have e9 : gSet 6 (hV (v2 dMod (hH (eB dInt (aCons (hV (v2 dPow (hH (e2 dAdd (hH (e2 dAdd (hV (v2 dMul (rN 6) (hH (e2 dAdd (hV (v2 dMul (hC (.int 2)) (rN 3))) (hC (.int 5288)))))) (hV (v2 dMul (hV (v2 dMul (hC (.int 60307)) (rN 3))) (rN 3))))) (hC (.int 21243)))) (hC (.int 5)))) aNil))) (hC (.int 2147483563)))) (ρD cells (a + 1) l many .no (.im (.int a)) (.im (.int c)) .no (.im (.int mx))) =
        .ok (ρD cells (a + 1) l many .no (.im (.int a)) (.im (.int c)) .no (.im (.int ((mx * (2 * a + 5288) + 60307 * a * a + 21243) ^ 5 % 2147483563))), .nx) :=
      set_ok (hV_ok (two_ok (int_ok (hV_ok (two_ok (hH_im (add_ok (hH_im (add_ok (hV_ok (two_ok rfl (hH_im (add_ok (hV_ok (two_ok rfl rfl rfl rfl (mul_ok (.inl (by decide))))) rfl rfl rfl rfl)) rfl rfl (mul_ok (.inl (by omega))))) (hV_ok (two_ok (hV_ok (two_ok rfl rfl rfl rfl (mul_ok (.inl (by decide))))) rfl rfl rfl (mul_ok (.inr (by omega))))) rfl rfl rfl)) rfl rfl rfl rfl)) rfl rfl rfl (pow_ok (k := 5) bd (by decide)))) rfl) rfl rfl rfl (mod_ok (by decide)))) rfl
    generalize (mx * (2 * a + 5288) + 60307 * a * a + 21243) ^ 5 % 2147483563 = my at e9
    refine ⟨_, my / 16 % many, run_rt (ρ' := ρD cells (a + 1) l many .no (.im (.int a)) (.im (.int c)) .no (.im (.int my))) (r := .im (.int (my / 16 % many))) ((seq_nx ((if_f lt2).trans rfl)).trans ((seq_nx ((if_f gt0).trans rfl)).trans ((seq_nx e3).trans ((seq_nx e4).trans ((seq_nx e5).trans ((seq_nx e6).trans
      ((seq_nx ((if_f e7).trans rfl)).trans ((seq_nx e8).trans ((seq_nx e9).trans (ret_ok (hV_ok (two_ok (int_ok (hV_ok (two_ok rfl rfl rfl rfl (div_ok (by decide) (by decide)))) rfl) rfl rfl rfl (mod_ok (by omega)))))))))))))) rfl rfl, ⟨⟨a + 1, l, rfl, by omega, by omega, hl⟩, Int.emod_nonneg _ (by omega), Int.emod_lt_of_pos _ (by omega)⟩⟩
end
end Fx.K04

set_option Elab.async false
set_option linter.all false
set_option maxRecDepth 100000
set_option maxHeartbeats 4000000
namespace Fx.K04
open PySem L2
/-! ### drawing with the pen -/
def Pen (n : Nat) (p : D) : Prop := ∃ cells a l, p = penD cells a l ∧ 0 ≤ a ∧ a ≤ (n : Int) ∧ 0 ≤ l
theorem Pen.up {n m : Nat} {p : D} (h : Pen n p) (hn : n ≤ m) : Pen m p := by
  obtain ⟨c, a, l, e, h1, h2, h3⟩ := h
  exact ⟨c, a, l, e, h1, by omega, h3⟩
theorem draw_pen {n : Nat} {p : D} {many : Int} (h : Pen n p) (hn : n ≤ 1000000) (hm : 1 ≤ many) (hm2 : many ≤ 1000) : ∃ p' k, noX (m__law_draw [.pa p, .im (.int many)]) = .ok ([.pa p', .im (.int many)], .im (.int k)) ∧ Pen (n + 1) p' ∧ 0 ≤ k ∧ k < many := by
  obtain ⟨c, a, l, rfl, h1, h2, h3⟩ := h
  obtain ⟨o, k, e, ⟨⟨a', l', rfl, q1, q2, q3⟩, lo, hi⟩⟩ := draw_at (cells := c) (a := a) (l := l) (many := many) h1 (by omega) h3 hm hm2
  exact ⟨_, k, e, ⟨c, a', l', rfl, by omega, by omega, q3⟩, lo, hi⟩
/-- calls that hand the pen on -/
theorem call_pen2 {F : Env → Rz (Env × Rs)} {as : Env → Rz (Env × List Rs)} {ρ ρ1 : Env} {i : Nat} {x0 x : Sl} {pen pen' d2 : D} {r2 r : Rs} {y : Sl} (h0 : ρ[i]? = some x0) (hp : x0.peek ≠ none) (ha : as ρ = .ok (ρ1, [r2])) (hu : use ρ1 r2 = .ok (ρ1, d2)) (h : ρ1[i]? = some x) (hx : x.ownD = some pen)
    (hF : F [.pa pen, .im d2] = .ok ([.pa pen', y], r)) : eCallN 2 F [true, false] (aCons (rN i) as) ρ = .ok (ρ1.set i (x.withD pen'), r) := by
  unfold eCallN
  rw [cons_ok (rN_ok' h0 hp) ha]
  have own : ownC ρ1 i = some (x, pen) := by unfold ownC; rw [h]; show (x.ownD).map _ = _; rw [hx]; rfl
  have ui : useIm [true, false] ρ1 [.slot i, r2] = .ok (ρ1, [.no, .im d2]) := by simp [useIm, hu]
  have fp : fillPa [true, false] ρ1 [.slot i, r2] [.no, .im d2] = some [.pa pen, .im d2] := by simp [fillPa, own]
  have mi : mutIx [true, false] [.slot i, r2] = [i] := by cases r2 <;> rfl
  simp only [Rz.ok_bind]
  show (if decide (2 = 2) = true then _ else _) = _
  rw [if_pos (decide_eq_true rfl)]
  unfold callBy
  rw [ui]
  simp only [Rz.ok_bind]
  rw [fp, mi]
  simp only [Rz.ofO_some, Rz.ok_bind]
  rw [if_pos (by simp), hF]
  cases r2 <;> simp [putBack, h]
theorem call_pen3 {F : Env → Rz (Env × Rs)} {as : Env → Rz (Env × List Rs)} {ρ ρ1 : Env} {i : Nat} {x0 x : Sl} {pen pen' d2 d3 : D} {r2 r3 r : Rs} {y z : Sl} (h0 : ρ[i]? = some x0) (hp : x0.peek ≠ none) (ha : as ρ = .ok (ρ1, [r2, r3])) (hu : use ρ1 r2 = .ok (ρ1, d2)) (hu3 : use ρ1 r3 = .ok (ρ1, d3)) (h : ρ1[i]? = some x) (hx : x.ownD = some pen)
    (hF : F [.pa pen, .im d2, .im d3] = .ok ([.pa pen', y, z], r)) : eCallN 3 F [true, false, false] (aCons (rN i) as) ρ = .ok (ρ1.set i (x.withD pen'), r) := by
  unfold eCallN
  rw [cons_ok (rN_ok' h0 hp) ha]
  have own : ownC ρ1 i = some (x, pen) := by unfold ownC; rw [h]; show (x.ownD).map _ = _; rw [hx]; rfl
  have ui : useIm [true, false, false] ρ1 [.slot i, r2, r3] = .ok (ρ1, [.no, .im d2, .im d3]) := by simp [useIm, hu, hu3]
  have fp : fillPa [true, false, false] ρ1 [.slot i, r2, r3] [.no, .im d2, .im d3] = some [.pa pen, .im d2, .im d3] := by simp [fillPa, own]
  have mi : mutIx [true, false, false] [.slot i, r2, r3] = [i] := by cases r2 <;> cases r3 <;> rfl
  simp only [Rz.ok_bind]
  show (if decide (3 = 3) = true then _ else _) = _
  rw [if_pos (decide_eq_true rfl)]
  unfold callBy
  rw [ui]
  simp only [Rz.ok_bind]
  rw [fp, mi]
  simp only [Rz.ofO_some, Rz.ok_bind]
  rw [if_pos (by simp), hF]
  cases r2 <;> cases r3 <;> simp [putBack, h]
theorem atI_mem {α : Type} {xs : List α} {k : Int} (h0 : 0 ≤ k) (h1 : k < xs.length) : ∃ x, atI xs k = some x ∧ x ∈ xs := by
  obtain ⟨j, rfl⟩ : ∃ j : Nat, k = (j : Int) := ⟨k.toNat, by omega⟩
  have hj : j < xs.length := by omega
  exact ⟨xs[j], atI_nat' (List.getElem?_eq_getElem hj), List.getElem_mem hj⟩
theorem pick_pen {n : Nat} {p : D} {ds : List D} (h : Pen n p) (hn : n ≤ 1000000) (hm : 1 ≤ ds.length) (hm2 : ds.length ≤ 1000) : ∃ p' d, noX (m__law_pick [.pa p, .im (.nd .lst ds)]) = .ok ([.pa p', .im (.nd .lst ds)], .im d) ∧ Pen (n + 1) p' ∧ d ∈ ds := by
  obtain ⟨p', k, e, hp, k0, k1⟩ := draw_pen (many := (ds.length : Int)) h hn (by omega) (by omega)
  obtain ⟨d, hd, hm⟩ := atI_mem (xs := ds) k0 k1
  refine ⟨p', d, run_rt (ρ' := [.pa p', .im (.nd .lst ds)]) (r := .im d) (ret_ok (hV_ok ?_)) rfl rfl, hp, hm⟩
  have c := call_pen2 (F := fun a => noX (m__law_draw a)) (as := aCons (hH (eB dLen (aCons (rN 1) aNil))) aNil) (ρ := [.pa p, .im (.nd .lst ds)]) (ρ1 := [.pa p, .im (.nd .lst ds)]) (i := 0) (x0 := .pa p) (x := .pa p) (r2 := .im (.int (ds.length : Int))) rfl (by simp [Sl.peek])
    (cons_ok (hH_im (blt_ok (q := [.slot 1]) (ds := [.nd .lst ds]) (cons_ok rfl rfl) rfl rfl)) rfl) rfl rfl rfl e
  exact two_ok (x := .slot 1) rfl (hH_im c) rfl rfl hd
section
variable {n : Nat} {p : D} {ρ : Env}
theorem draw0 {many : Int} (h : Pen n p) (hn : n ≤ 1000000) (hm : 1 ≤ many) (hm2 : many ≤ 1000) : ∃ p' k, eCallN 2 (fun a => noX (m__law_draw a)) [true, false] (aCons (rN 0) (aCons (hC (.int many)) aNil)) (.pa p :: ρ) = .ok (.pa p' :: ρ, .im (.int k)) ∧ Pen (n + 1) p' ∧ 0 ≤ k ∧ k < many := by
  obtain ⟨p', k, e, hp, k0, k1⟩ := draw_pen h hn hm hm2
  exact ⟨p', k, call_pen2 (ρ := .pa p :: ρ) (ρ1 := .pa p :: ρ) (i := 0) (x0 := .pa p) (x := .pa p) (r2 := .im (.int many)) rfl (by simp [Sl.peek]) rfl rfl rfl rfl e, hp, k0, k1⟩
theorem pick0 {ds : List D} {as : Env → Rz (Env × Rs)} {p1 : D} (h : Pen n p1) (hn : n ≤ 1000000) (ha : as (.pa p :: ρ) = .ok (.pa p1 :: ρ, .nw (.nd .lst ds))) (hm : 1 ≤ ds.length) (hm2 : ds.length ≤ 1000) : ∃ p' d, eCallN 2 (fun a => noX (m__law_pick a)) [true, false] (aCons (rN 0) (aCons (hH as) aNil)) (.pa p :: ρ) = .ok (.pa p' :: ρ, .im d) ∧ Pen (n + 1) p' ∧ d ∈ ds := by
  obtain ⟨p', d, e, hp, hd⟩ := pick_pen h hn hm hm2
  exact ⟨p', d, call_pen2 (ρ := .pa p :: ρ) (ρ1 := .pa p1 :: ρ) (i := 0) (x0 := .pa p) (x := .pa p1) (r2 := .im (.nd .lst ds)) rfl (by simp [Sl.peek]) (cons_ok (hH_nw ha) rfl) rfl rfl rfl e, hp, hd⟩
end
theorem names_good : ∀ x ∈ (["s", "log", "zzzzzzzz", "f", "sum", "w", "m", "n", "p", "q", "x", "y"] : List Str), strGood x = true := by decide +kernel
def aB : Nat → Nat → Nat
  | d, 0 => 5 + 3 * d
  | d, f + 1 => 3 * d + 5 + 4 * aB 1 f
theorem aB_succ : ∀ (d f : Nat), aB (d + 1) f = aB d f + 3
  | d, 0 => by unfold aB; omega
  | d, f + 1 => by unfold aB; omega
theorem aB_five : ∀ (d f : Nat), 5 ≤ aB d f
  | d, 0 => by unfold aB; omega
  | d, f + 1 => by unfold aB; omega
theorem dEq_int (i j : Int) : dEq (.int i) (.int j) = some (i == j) := rfl
abbrev pickE (as : Env → Rz (Env × Rs)) : Env → Rz (Env × Rs) := eCallN 2 (fun a => noX (m__law_pick a)) [true, false] (aCons (rN 0) (aCons (hH as) aNil))
abbrev drawE (m : Int) : Env → Rz (Env × Rs) := eCallN 2 (fun a => noX (m__law_draw a)) [true, false] (aCons (rN 0) (aCons (hC (.int m)) aNil))
theorem lst2 {ρ : Env} (a b : D) : eLst (aCons (hC a) (aCons (hC b) aNil)) ρ = .ok (ρ, .nw (.nd .lst [a, b])) := lst_ok (q := [.im a, .im b]) (ds := [a, b]) rfl rfl (by simp)
theorem lst3 {ρ : Env} (a b c : D) : eLst (aCons (hC a) (aCons (hC b) (aCons (hC c) aNil))) ρ = .ok (ρ, .nw (.nd .lst [a, b, c])) := lst_ok (q := [.im a, .im b, .im c]) (ds := [a, b, c]) rfl rfl (by simp)
theorem small_of {k m : Int} (h0 : 0 ≤ k) (h1 : k < m) (hm : m ≤ 1000) : smallI k = true := decide_eq_true (by omega)
/-- what a def of rows promises, with the pen -/
def RowsBy (F : Env → Rz (Env × Rs)) (d f : Nat) : Prop := ∀ (n : Nat) (p : D), Pen n p → n + aB d f ≤ 1000000 → ∃ p' r, F [.pa p, .im (.int (d : Int)), .im (.int (f : Int))] = .ok ([.pa p', .im (.int (d : Int)), .im (.int (f : Int))], .im (enc r)) ∧ Lv d f r ∧ Pen (n + aB d f) p'
/-- some rows, one behind another -/
theorem rows_go {self : Env → Rz (Env × Rs)} {f : Nat} (S : RowsBy (fun a => noX (self a)) 1 f) {d' way : D} : ∀ (ds : List D) (acc : List D) (n : Nat) (p : D), Pen n p → n + ds.length * aB 1 f ≤ 1000000 → acc.length + ds.length ≤ 1000 →
    ∃ (p' : D) (rs : List Row), lcL [6] (tgN 6) tYes (vU (eCallN 3 (fun a => noX (self a)) [true, false, false] (aCons (rN 0) (aCons (hC (.int 1)) (aCons (hV (v2 dSub (rN 2) (hC (.int 1)))) aNil))))) ds [.pa p, .im d', .im (.int ((f + 1 : Nat) : Int)), .im way, .no, .no, .no] acc =
      .ok ([.pa p', .im d', .im (.int ((f + 1 : Nat) : Int)), .im way, .no, .no, .no], acc ++ rs.map enc) ∧ rs.length = ds.length ∧ (∀ r ∈ rs, Lv 1 f r) ∧ Pen (n + ds.length * aB 1 f) p'
  | [], acc, n, p, h, _, _ => ⟨p, [], by simp [lcL], rfl, by simp, by simpa using h⟩
  | d :: ds, acc, n, p, h, hn, hz => by
    rw [List.length_cons, Nat.succ_mul] at hn
    rw [List.length_cons] at hz
    obtain ⟨p1, r, e, hr, hp1⟩ := S n p h (by omega)
    obtain ⟨p', rs, e2, l2, hrs, hp'⟩ := rows_go S (d' := d') (way := way) ds (acc ++ [enc r]) (n + aB 1 f) p1 hp1 (by omega) (by simp; omega)
    refine ⟨p', r :: rs, ?_, by simp [l2], fun q hq => ?_, by rw [List.length_cons, Nat.succ_mul]; exact hp'.up (by omega)⟩
    · have c : vU (eCallN 3 (fun a => noX (self a)) [true, false, false] (aCons (rN 0) (aCons (hC (.int 1)) (aCons (hV (v2 dSub (rN 2) (hC (.int 1)))) aNil)))) [.pa p, .im d', .im (.int ((f + 1 : Nat) : Int)), .im way, .no, .no, .im d] =
          .ok ([.pa p1, .im d', .im (.int ((f + 1 : Nat) : Int)), .im way, .no, .no, .im d], enc r) := by
        refine vU_im (call_pen3 (ρ := [.pa p, .im d', .im (.int ((f + 1 : Nat) : Int)), .im way, .no, .no, .im d]) (ρ1 := [.pa p, .im d', .im (.int ((f + 1 : Nat) : Int)), .im way, .no, .no, .im d]) (i := 0) (x0 := .pa p) (x := .pa p) (r2 := .im (.int 1)) (r3 := .im (.int (f : Int))) rfl (by simp [Sl.peek]) (cons_ok rfl (cons_ok (hV_ok (two_ok rfl rfl rfl rfl ?_)) rfl)) rfl rfl rfl rfl e)
        show some (D.int (((f + 1 : Nat) : Int) - 1)) = _
        rw [show ((f + 1 : Nat) : Int) - 1 = (f : Int) by omega]
      show ((tgN 6 d [.pa p, .im d', .im (.int ((f + 1 : Nat) : Int)), .im way, .no, .no, .no]).bind _) = _
      rw [show tgN 6 d [.pa p, .im d', .im (.int ((f + 1 : Nat) : Int)), .im way, .no, .no, .no] = .ok [.pa p, .im d', .im (.int ((f + 1 : Nat) : Int)), .im way, .no, .no, .im d] from rfl]
      show ((vU _ [.pa p, .im d', .im (.int ((f + 1 : Nat) : Int)), .im way, .no, .no, .im d]).bind _) = _
      rw [c]
      show (if sz (acc.length + 1) = true then _ else _) = _
      rw [if_pos (sz1000 (by omega))]
      show lcL [6] (tgN 6) tYes _ ds [.pa p1, .im d', .im (.int ((f + 1 : Nat) : Int)), .im way, .no, .no, .no] (acc ++ [enc r]) = _
      rw [e2]
      simp
    · rcases List.mem_cons.mp hq with z | z
      · subst z; exact hr
      · exact hrs q z
end Fx.K04

set_option Elab.async false
set_option linter.all false
set_option maxRecDepth 100000
set_option maxHeartbeats 4000000
namespace Fx.K04
open PySem L2
abbrev ρR (p d f : D) (x3 x4 x5 : Sl) : Env := [.pa p, .im d, .im f, x3, x4, x5, .no]
section
variable {n d f : Nat} {p : D}
/-- ('row', ..) -/
theorem make_row (h : Pen n p) (hn : n + 4 ≤ 1000000) {x1 x2 x3 x4 x5 x6 : Sl} : ∃ p' r, vTup (aCons (hC (.str "row")) (aCons (hH (pickE (eLst (aCons (hC (.str "s")) (aCons (hC (.str "log")) (aCons (hC (.str "zzzzzzzz")) aNil)))))) (aCons (hH (drawE 20)) (aCons (hH (pickE (eLst (aCons (hC (.int 0)) (aCons (hC (.int 7)) (aCons (hV (v2 dPow (hC (.int 10)) (hC (.int 6)))) (aCons (hH (drawE 99)) aNil))))))) aNil)))) [.pa p, x1, x2, x3, x4, x5, x6] =
    .ok ([.pa p', x1, x2, x3, x4, x5, x6], enc r) ∧ (∀ d f, Lv d f r) ∧ Pen (n + 4) p' := by
  obtain ⟨p1, z1, e1, hp1, hz1⟩ := pick0 (ρ := [x1, x2, x3, x4, x5, x6]) (p := p) h (by omega) (lst3 (.str "s") (.str "log") (.str "zzzzzzzz")) (by simp) (by simp)
  obtain ⟨p2, k2, e2, hp2, k20, k21⟩ := draw0 (ρ := [x1, x2, x3, x4, x5, x6]) (many := 20) hp1 (by omega) (by omega) (by omega)
  obtain ⟨p3, k3, e3, hp3, k30, k31⟩ := draw0 (ρ := [x1, x2, x3, x4, x5, x6]) (many := 99) hp2 (by omega) (by omega) (by omega)
  have l4 : eLst (aCons (hC (.int 0)) (aCons (hC (.int 7)) (aCons (hV (v2 dPow (hC (.int 10)) (hC (.int 6)))) (aCons (hH (drawE 99)) aNil)))) [.pa p2, x1, x2, x3, x4, x5, x6] = .ok ([.pa p3, x1, x2, x3, x4, x5, x6], .nw (.nd .lst [.int 0, .int 7, .int (10 ^ 6), .int k3])) :=
    lst_ok (q := [.im (.int 0), .im (.int 7), .im (.int (10 ^ 6)), .im (.int k3)]) (ds := [.int 0, .int 7, .int (10 ^ 6), .int k3]) (cons_ok rfl (cons_ok rfl (cons_ok (hV_ok (two_ok rfl rfl rfl rfl (pow_ok (k := 6) (by decide) (by decide)))) (cons_ok (hH_im e3) rfl)))) rfl (by simp)
  obtain ⟨p4, z4, e4, hp4, hz4⟩ := pick0 (ρ := [x1, x2, x3, x4, x5, x6]) (p := p2) hp3 (by omega) l4 (by simp) (by simp)
  obtain ⟨t, rfl, ht⟩ : ∃ t, z4 = .int t ∧ smallI t = true := by
    simp at hz4
    rcases hz4 with rfl | rfl | rfl | rfl
    · exact ⟨_, rfl, by decide⟩
    · exact ⟨_, rfl, by decide⟩
    · exact ⟨_, rfl, by decide⟩
    · exact ⟨_, rfl, small_of k30 k31 (by omega)⟩
  obtain ⟨x, rfl, hx⟩ : ∃ x, z1 = .str x ∧ strGood x = true := by
    simp at hz1
    rcases hz1 with rfl | rfl | rfl
    · exact ⟨_, rfl, names_good _ (by simp)⟩
    · exact ⟨_, rfl, names_good _ (by simp)⟩
    · exact ⟨_, rfl, names_good _ (by simp)⟩
  refine ⟨p4, .row x k2 t, ?_, fun d f => .row hx (small_of k20 k21 (by omega)) ht, hp4.up (by omega)⟩
  exact tup_ok (q := [.im (.str "row"), .im (.str x), .im (.int k2), .im (.int t)]) (ds := [.str "row", .str x, .int k2, .int t]) (cons_ok rfl (cons_ok (hH_im e1) (cons_ok (hH_im e2) (cons_ok (hH_im e4) rfl)))) rfl (by simp)
theorem pick_two {x1 x2 x3 x4 x5 x6 : Sl} {a b : Str} (h : Pen n p) (hn : n ≤ 1000000) (ha : strGood a = true) (hb : strGood b = true) : ∃ p' x, pickE (eLst (aCons (hC (.str a)) (aCons (hC (.str b)) aNil))) [.pa p, x1, x2, x3, x4, x5, x6] = .ok ([.pa p', x1, x2, x3, x4, x5, x6], .im (.str x)) ∧ Pen (n + 1) p' ∧ strGood x = true := by
  obtain ⟨p1, z1, e1, hp1, hz1⟩ := pick0 (ρ := [x1, x2, x3, x4, x5, x6]) (p := p) h hn (lst2 (.str a) (.str b)) (by simp) (by simp)
  simp at hz1
  rcases hz1 with rfl | rfl
  · exact ⟨p1, a, e1, hp1, ha⟩
  · exact ⟨p1, b, e1, hp1, hb⟩
end
theorem rows_by : ∀ (k d f : Nat), d + 2 * f < k → RowsBy (fun a => noX (m__law_a_row k a)) d f := by
  intro k
  induction k with
  | zero => intro d f h; omega
  | succ k ih =>
    intro d f hk n p hp hn
    have b5 := aB_five d f
    -- which way
    obtain ⟨p1, way, e1, hp1, w0, w1⟩ : ∃ p1 way, gSet 3 (eIf (t2 dGt (rN 1) (hC (.int 0))) (drawE 8) (drawE 3)) (ρR p (.int (d : Int)) (.int (f : Int)) .no .no .no) = .ok (ρR p1 (.int (d : Int)) (.int (f : Int)) (.im (.int way)) .no .no, .nx) ∧ Pen (n + 1) p1 ∧ 0 ≤ way ∧ way < (if d = 0 then 3 else 8) := by
      have gt : t2 dGt (rN 1) (hC (.int 0)) (ρR p (.int (d : Int)) (.int (f : Int)) .no .no .no) = .ok (ρR p (.int (d : Int)) (.int (f : Int)) .no .no .no, decide ((d : Int) > 0)) := tst_ok rfl rfl rfl rfl rfl
      by_cases hd : d = 0
      · rw [decide_eq_false (show ¬ (d : Int) > 0 by omega)] at gt
        obtain ⟨p1, k1, e, hp1, k0, k1'⟩ := draw0 (ρ := [.im (.int (d : Int)), .im (.int (f : Int)), .no, .no, .no, .no]) (many := 3) hp (by omega) (by omega) (by omega)
        exact ⟨p1, k1, set_ok ((eif_f gt).trans e) rfl, hp1, k0, by rw [if_pos hd]; omega⟩
      · rw [decide_eq_true (show (d : Int) > 0 by omega)] at gt
        obtain ⟨p1, k1, e, hp1, k0, k1'⟩ := draw0 (ρ := [.im (.int (d : Int)), .im (.int (f : Int)), .no, .no, .no, .no]) (many := 8) hp (by omega) (by omega) (by omega)
        exact ⟨p1, k1, set_ok ((eif_t gt).trans e) rfl, hp1, k0, by rw [if_neg hd]; omega⟩
    have tor : tOr (t2 dLt (rN 3) (hC (.int 2))) (tAnd (t2 dEq (rN 3) (hC (.int 2))) (t2 dEq (rN 2) (hC (.int 0)))) (ρR p1 (.int (d : Int)) (.int (f : Int)) (.im (.int way)) .no .no) = .ok (ρR p1 (.int (d : Int)) (.int (f : Int)) (.im (.int way)) .no .no, decide (way < 2 ∨ way = 2 ∧ f = 0)) := by
      have a : t2 dLt (rN 3) (hC (.int 2)) (ρR p1 (.int (d : Int)) (.int (f : Int)) (.im (.int way)) .no .no) = .ok (ρR p1 (.int (d : Int)) (.int (f : Int)) (.im (.int way)) .no .no, decide (way < 2)) := tst_ok rfl rfl rfl rfl rfl
      have b : t2 dEq (rN 3) (hC (.int 2)) (ρR p1 (.int (d : Int)) (.int (f : Int)) (.im (.int way)) .no .no) = .ok (ρR p1 (.int (d : Int)) (.int (f : Int)) (.im (.int way)) .no .no, way == 2) := tst_ok rfl rfl rfl rfl (dEq_int _ _)
      have c : t2 dEq (rN 2) (hC (.int 0)) (ρR p1 (.int (d : Int)) (.int (f : Int)) (.im (.int way)) .no .no) = .ok (ρR p1 (.int (d : Int)) (.int (f : Int)) (.im (.int way)) .no .no, (f : Int) == 0) := tst_ok rfl rfl rfl rfl (dEq_int _ _)
      unfold tOr
      rw [a]
      simp only [Rz.ok_bind]
      by_cases h2 : way < 2
      · simp [h2]
      · simp only [decide_eq_false h2]
        unfold tAnd
        rw [if_neg (by decide), b]
        simp only [Rz.ok_bind]
        by_cases h3 : way = 2
        · subst h3
          simp [c]
          by_cases hf : f = 0
          · subst hf; rfl
          · simp [hf]
        · have : (way == 2) = false := by simpa using h3
          rw [this]
          simp [h2, h3]
    by_cases c1 : way < 2 ∨ way = 2 ∧ f = 0
    · rw [decide_eq_true c1] at tor
      obtain ⟨p2, r, e2, hr, hp2⟩ := make_row (n := n + 1) (p := p1) hp1 (by omega) (x1 := .im (.int (d : Int))) (x2 := .im (.int (f : Int))) (x3 := .im (.int way)) (x4 := .no) (x5 := .no) (x6 := .no)
      exact ⟨p2, r, run_rt (ρ' := ρR p2 (.int (d : Int)) (.int (f : Int)) (.im (.int way)) .no .no) (r := .im (enc r)) ((seq_nx e1).trans (seq_rt ((if_t tor).trans (ret_ok (hV_ok e2))))) rfl rfl, hr d f, hp2.up (by omega)⟩
    rw [decide_eq_false c1] at tor
    have eq2 : t2 dEq (rN 3) (hC (.int 2)) (ρR p1 (.int (d : Int)) (.int (f : Int)) (.im (.int way)) .no .no) = .ok (ρR p1 (.int (d : Int)) (.int (f : Int)) (.im (.int way)) .no .no, way == 2) := tst_ok rfl rfl rfl rfl (dEq_int _ _)
    by_cases c2 : way = 2
    · -- a fold, a window
      subst c2
      obtain ⟨f, rfl⟩ : ∃ f', f = f' + 1 := ⟨f - 1, by omega⟩
      have bs : aB d (f + 1) = 3 * d + 5 + 4 * aB 1 f := rfl
      obtain ⟨p2, m, eD, hp2, m0, m1⟩ := draw0 (ρ := [.im (.int (d : Int)), .im (.int ((f + 1 : Nat) : Int)), .im (.int 2), .no, .no, .no]) (many := 4) hp1 (by omega) (by omega) (by omega)
      obtain ⟨j, rfl⟩ : ∃ j : Nat, m = (j : Int) := ⟨m.toNat, by omega⟩
      obtain ⟨p3, rs, e3, hl, hrs, hp3⟩ := rows_go (ih 1 f (by omega)) (d' := .int (d : Int)) (way := .int 2) (intsD 0 (j + 1)) [] (n + 2) p2 hp2 (by
        have : (intsD 0 (j + 1)).length ≤ 4 := by simp [intsD]; omega
        have := Nat.mul_le_mul_right (aB 1 f) this
        omega) (by simp [intsD]; omega)
      have hlen : rs.length = j + 1 := by rw [hl]; simp [intsD]
      have hp3 : Pen (n + 2 + 4 * aB 1 f) p3 := hp3.up (by
        have : (intsD 0 (j + 1)).length ≤ 4 := by simp [intsD]; omega
        have := Nat.mul_le_mul_right (aB 1 f) this
        omega)
      have lc : eLc [6] (iRng dRng1 (aCons (hH (e2 dAdd (hC (.int 1)) (hH (drawE 4)))) aNil)) (tgN 6) tYes (vU (eCallN 3 (fun a => noX (m__law_a_row k a)) [true, false, false] (aCons (rN 0) (aCons (hC (.int 1)) (aCons (hV (v2 dSub (rN 2) (hC (.int 1)))) aNil))))) (ρR p1 (.int (d : Int)) (.int ((f + 1 : Nat) : Int)) (.im (.int 2)) .no .no) =
          .ok (ρR p3 (.int (d : Int)) (.int ((f + 1 : Nat) : Int)) (.im (.int 2)) .no .no, .nw (.nd .lst (rs.map enc))) := by
        have it : iRng dRng1 (aCons (hH (e2 dAdd (hC (.int 1)) (hH (drawE 4)))) aNil) (ρR p1 (.int (d : Int)) (.int ((f + 1 : Nat) : Int)) (.im (.int 2)) .no .no) = .ok (ρR p2 (.int (d : Int)) (.int ((f + 1 : Nat) : Int)) (.im (.int 2)) .no .no, intsD 0 (j + 1)) :=
          rng_at (q := [.im (.int ((j + 1 : Nat) : Int))]) (ds := [.int ((j + 1 : Nat) : Int)]) (cons_ok (hH_im (add_ok (x := .im (.int 1)) (y := .im (.int (j : Int))) (d := .int 1) (c := .int (j : Int)) rfl (hH_im eD) rfl rfl (by show some (Rs.im (.int (1 + (j : Int)))) = _; rw [show (1 : Int) + (j : Int) = ((j + 1 : Nat) : Int) by omega]))) rfl) rfl (rng1 (by omega))
        unfold eLc
        rw [it]
        show ((noX (lcL [6] (tgN 6) tYes _ (intsD 0 (j + 1)) [.pa p2, .im (.int (d : Int)), .im (.int ((f + 1 : Nat) : Int)), .im (.int 2), .no, .no, .no] [])).bind _) = _
        rw [e3]
        rfl
      have s4 : gSet 4 (eB dTuple (aCons (hH (eLc [6] (iRng dRng1 (aCons (hH (e2 dAdd (hC (.int 1)) (hH (drawE 4)))) aNil)) (tgN 6) tYes (vU (eCallN 3 (fun a => noX (m__law_a_row k a)) [true, false, false] (aCons (rN 0) (aCons (hC (.int 1)) (aCons (hV (v2 dSub (rN 2) (hC (.int 1)))) aNil))))))) aNil)) (ρR p1 (.int (d : Int)) (.int ((f + 1 : Nat) : Int)) (.im (.int 2)) .no .no) =
          .ok (ρR p3 (.int (d : Int)) (.int ((f + 1 : Nat) : Int)) (.im (.int 2)) (.im (.nd .tup (encs rs))) .no, .nx) := by
        rw [encs_map]
        exact set_ok (blt_ok (q := [.im (.nd .lst (rs.map enc))]) (ds := [.nd .lst (rs.map enc)]) (z := .im (.nd .tup (rs.map enc))) (cons_ok (hH_nw lc) rfl) rfl rfl) rfl
      obtain ⟨p4, b, e4, hp4, b0, b1⟩ := draw0 (ρ := [.im (.int (d : Int)), .im (.int ((f + 1 : Nat) : Int)), .im (.int 2), .im (.nd .tup (encs rs)), .no, .no]) (many := 2) hp3 (by omega) (by omega) (by omega)
      have tb : t2 dEq (hH (drawE 2)) (hC (.int 0)) (ρR p3 (.int (d : Int)) (.int ((f + 1 : Nat) : Int)) (.im (.int 2)) (.im (.nd .tup (encs rs))) .no) = .ok (ρR p4 (.int (d : Int)) (.int ((f + 1 : Nat) : Int)) (.im (.int 2)) (.im (.nd .tup (encs rs))) .no, b == 0) := tst_ok (hH_im e4) rfl rfl rfl (dEq_int _ _)
      have ne : rs ≠ [] := fun z => by rw [z] at hlen; simp at hlen
      by_cases cb : b = 0
      · have t3 : (b == 0) = true := by simpa using cb
        rw [t3] at tb
        obtain ⟨p5, x, e5, hp5, hx⟩ := pick_two (a := "f") (b := "sum") hp4 (by omega) (names_good _ (by simp)) (names_good _ (by simp)) (x1 := .im (.int (d : Int))) (x2 := .im (.int ((f + 1 : Nat) : Int))) (x3 := .im (.int 2)) (x4 := .im (.nd .tup (encs rs))) (x5 := .no) (x6 := .no)
        exact ⟨p5, .fold x rs, run_rt (ρ' := ρR p5 (.int (d : Int)) (.int ((f + 1 : Nat) : Int)) (.im (.int 2)) (.im (.nd .tup (encs rs))) .no) (r := .im (enc (.fold x rs))) ((seq_nx e1).trans ((seq_nx ((if_f tor).trans rfl)).trans (seq_rt ((if_t eq2).trans ((seq_nx s4).trans (ret_ok (hV_ok ((vif_t tb).trans (tup_ok (q := [.im (.str "fold"), .im (.str x), .slot 4]) (ds := [.str "fold", .str x, .nd .tup (encs rs)]) (cons_ok rfl (cons_ok (hH_im e5) (cons_ok rfl rfl))) rfl (by simp)))))))))) rfl rfl,
          .fold hx ne (by omega) hrs, hp5.up (by omega)⟩
      · have t3 : (b == 0) = false := by simpa using cb
        rw [t3] at tb
        obtain ⟨p5, w, e5, hp5, w0', w1'⟩ := draw0 (ρ := [.im (.int (d : Int)), .im (.int ((f + 1 : Nat) : Int)), .im (.int 2), .im (.nd .tup (encs rs)), .no, .no]) (many := 9) hp4 (by omega) (by omega) (by omega)
        exact ⟨p5, .win "w" w rs, run_rt (ρ' := ρR p5 (.int (d : Int)) (.int ((f + 1 : Nat) : Int)) (.im (.int 2)) (.im (.nd .tup (encs rs))) .no) (r := .im (enc (.win "w" w rs))) ((seq_nx e1).trans ((seq_nx ((if_f tor).trans rfl)).trans (seq_rt ((if_t eq2).trans ((seq_nx s4).trans (ret_ok (hV_ok ((vif_f tb).trans (tup_ok (q := [.im (.str "window"), .im (.str "w"), .im (.int w), .slot 4]) (ds := [.str "window", .str "w", .int w, .nd .tup (encs rs)]) (cons_ok rfl (cons_ok rfl (cons_ok (hH_im e5) (cons_ok rfl rfl)))) rfl (by simp)))))))))) rfl rfl,
          .win (names_good _ (by simp)) (small_of w0' w1' (by omega)) (by omega) hrs, hp5.up (by omega)⟩
    · have : (way == 2) = false := by simpa using c2
      rw [this] at eq2
      obtain ⟨d, rfl⟩ : ∃ d', d = d' + 1 := ⟨d - 1, by
        by_cases hd : d = 0
        · rw [if_pos hd] at w1; omega
        · omega⟩
      have bs := aB_succ d f
      obtain ⟨p2, r, e2, hr, hp2⟩ := ih d f (by omega) (n + 1) p1 hp1 (by omega)
      have e3 : gSet 5 (eCallN 3 (fun a => noX (m__law_a_row k a)) [true, false, false] (aCons (rN 0) (aCons (hV (v2 dSub (rN 1) (hC (.int 1)))) (aCons (rN 2) aNil)))) (ρR p1 (.int ((d + 1 : Nat) : Int)) (.int (f : Int)) (.im (.int way)) .no .no) = .ok (ρR p2 (.int ((d + 1 : Nat) : Int)) (.int (f : Int)) (.im (.int way)) .no (.im (enc r)), .nx) := by
        refine set_ok (call_pen3 (ρ := ρR p1 (.int ((d + 1 : Nat) : Int)) (.int (f : Int)) (.im (.int way)) .no .no) (ρ1 := ρR p1 (.int ((d + 1 : Nat) : Int)) (.int (f : Int)) (.im (.int way)) .no .no) (i := 0) (x0 := .pa p1) (x := .pa p1) (r2 := .im (.int (d : Int))) (r3 := .slot 2) rfl (by simp [Sl.peek]) (cons_ok (hV_ok (two_ok rfl rfl rfl rfl ?_)) (cons_ok rfl rfl)) rfl rfl rfl rfl e2) rfl
        show some (D.int (((d + 1 : Nat) : Int) - 1)) = _
        rw [show ((d + 1 : Nat) : Int) - 1 = (d : Int) by omega]
      have eq3 : t2 dEq (rN 3) (hC (.int 3)) (ρR p2 (.int ((d + 1 : Nat) : Int)) (.int (f : Int)) (.im (.int way)) .no (.im (enc r))) = .ok (ρR p2 (.int ((d + 1 : Nat) : Int)) (.int (f : Int)) (.im (.int way)) .no (.im (enc r)), way == 3) := tst_ok rfl rfl rfl rfl (dEq_int _ _)
      have lt6 : t2 dLt (rN 3) (hC (.int 6)) (ρR p2 (.int ((d + 1 : Nat) : Int)) (.int (f : Int)) (.im (.int way)) .no (.im (enc r))) = .ok (ρR p2 (.int ((d + 1 : Nat) : Int)) (.int (f : Int)) (.im (.int way)) .no (.im (enc r)), decide (way < 6)) := tst_ok rfl rfl rfl rfl rfl
      by_cases c3 : way = 3
      · have t3 : (way == 3) = true := by simpa using c3
        rw [t3] at eq3
        obtain ⟨p3, x, e4, hp3, hx⟩ := pick_two (a := "m") (b := "n") hp2 (by omega) (names_good _ (by simp)) (names_good _ (by simp)) (x1 := .im (.int ((d + 1 : Nat) : Int))) (x2 := .im (.int (f : Int))) (x3 := .im (.int way)) (x4 := .no) (x5 := .im (enc r)) (x6 := .no)
        refine ⟨p3, .map x r, run_rt (ρ' := ρR p3 (.int ((d + 1 : Nat) : Int)) (.int (f : Int)) (.im (.int way)) .no (.im (enc r))) (r := .im (enc (.map x r))) ((seq_nx e1).trans ((seq_nx ((if_f tor).trans rfl)).trans ((seq_nx ((if_f eq2).trans rfl)).trans ((seq_nx e3).trans (seq_rt ((if_t eq3).trans (ret_ok (hV_ok (tup_ok (q := [.im (.str "map"), .im (.str x), .slot 5]) (ds := [.str "map", .str x, enc r]) (cons_ok rfl (cons_ok (hH_im e4) (cons_ok rfl rfl))) rfl (by simp)))))))))) rfl rfl, .map hx hr, hp3.up (by omega)⟩
      · have t3 : (way == 3) = false := by simpa using c3
        rw [t3] at eq3
        by_cases c6 : way < 6
        · rw [decide_eq_true c6] at lt6
          obtain ⟨p3, x, e4, hp3, hx⟩ := pick_two (a := "p") (b := "q") hp2 (by omega) (names_good _ (by simp)) (names_good _ (by simp)) (x1 := .im (.int ((d + 1 : Nat) : Int))) (x2 := .im (.int (f : Int))) (x3 := .im (.int way)) (x4 := .no) (x5 := .im (enc r)) (x6 := .no)
          obtain ⟨p4, t, e5, hp4, t0, t1⟩ := draw0 (ρ := [.im (.int ((d + 1 : Nat) : Int)), .im (.int (f : Int)), .im (.int way), .no, .im (enc r), .no]) (many := 10) hp3 (by omega) (by omega) (by omega)
          refine ⟨p4, .stamp x r t, run_rt (ρ' := ρR p4 (.int ((d + 1 : Nat) : Int)) (.int (f : Int)) (.im (.int way)) .no (.im (enc r))) (r := .im (enc (.stamp x r t))) ((seq_nx e1).trans ((seq_nx ((if_f tor).trans rfl)).trans ((seq_nx ((if_f eq2).trans rfl)).trans ((seq_nx e3).trans ((seq_nx ((if_f eq3).trans rfl)).trans (ret_ok (hV_ok ((vif_t lt6).trans (tup_ok (q := [.im (.str "stamp"), .im (.str x), .slot 5, .im (.int t)]) (ds := [.str "stamp", .str x, enc r, .int t]) (cons_ok rfl (cons_ok (hH_im e4) (cons_ok rfl (cons_ok (hH_im e5) rfl)))) rfl (by simp)))))))))) rfl rfl,
            .stamp hx (small_of t0 t1 (by omega)) hr, hp4.up (by omega)⟩
        · rw [decide_eq_false c6] at lt6
          obtain ⟨p3, x, e4, hp3, hx⟩ := pick_two (a := "x") (b := "y") hp2 (by omega) (names_good _ (by simp)) (names_good _ (by simp)) (x1 := .im (.int ((d + 1 : Nat) : Int))) (x2 := .im (.int (f : Int))) (x3 := .im (.int way)) (x4 := .no) (x5 := .im (enc r)) (x6 := .no)
          obtain ⟨p4, t, e5, hp4, t0, t1⟩ := draw0 (ρ := [.im (.int ((d + 1 : Nat) : Int)), .im (.int (f : Int)), .im (.int way), .no, .im (enc r), .no]) (many := 4) hp3 (by omega) (by omega) (by omega)
          refine ⟨p4, .mix x t r, run_rt (ρ' := ρR p4 (.int ((d + 1 : Nat) : Int)) (.int (f : Int)) (.im (.int way)) .no (.im (enc r))) (r := .im (enc (.mix x t r))) ((seq_nx e1).trans ((seq_nx ((if_f tor).trans rfl)).trans ((seq_nx ((if_f eq2).trans rfl)).trans ((seq_nx e3).trans ((seq_nx ((if_f eq3).trans rfl)).trans (ret_ok (hV_ok ((vif_f lt6).trans (tup_ok (q := [.im (.str "mix"), .im (.str x), .im (.int t), .slot 5]) (ds := [.str "mix", .str x, .int t, enc r]) (cons_ok rfl (cons_ok (hH_im e4) (cons_ok (hH_im e5) (cons_ok rfl rfl)))) rfl (by simp)))))))))) rfl rfl,
            .mix hx (small_of t0 t1 (by omega)) hr, hp4.up (by omega)⟩
end Fx.K04

set_option Elab.async false
set_option linter.all false
set_option maxRecDepth 100000
set_option maxHeartbeats 4000000
namespace Fx.K04
open PySem L2
/-! ### the law's turn -/
theorem dNe_self {d : D} (hf : d.fit = true) (hn : d.nob = true) : dNe d d = some false := by
  unfold dNe
  rw [hf, eqv_self hn]
  rfl
theorem fit_strs {xs : List D} (h : ∀ a ∈ xs, ∃ x, a = .str x ∧ PyData.strOk x = true) : (D.nd .lst xs).fit = true ∧ (D.nd .lst xs).nob = true := by
  have all : D.plains xs = true ∧ PyData.canLayAll0 (D.pys xs) = true ∧ PyData.depthAll (D.pys xs) = 0 ∧ D.nobs xs = true := by
    induction xs with
    | nil => rw [D.plains, D.pys, D.nobs]; exact ⟨rfl, rfl, rfl, rfl⟩
    | cons a xs ih =>
      obtain ⟨x, rfl, hx⟩ := h a List.mem_cons_self
      obtain ⟨q1, q2, q3, q4⟩ := ih fun b hb => h b (List.mem_cons_of_mem _ hb)
      rw [D.plains, D.plain, D.pys, D.py, PyData.canLayAll0, PyData.canLay0, PyData.depthAll, PyData.depth, D.nobs, D.nob, q1, q2, q3, q4, hx]
      exact ⟨rfl, rfl, rfl, rfl⟩
  obtain ⟨q1, q2, q3, q4⟩ := all
  refine ⟨?_, by rw [D.nob]; exact q4⟩
  unfold D.fit SeqAt.shaped
  rw [D.plain, D.py, PyData.canLay0, PyData.depth, q1, q2, q3]
  rfl
def shownD (r : Row) : D := .str (enc r).py.shown
theorem repr_row {r : Row} (h : Lv 4 2 r) : dRepr [enc r] = some (.im (shownD r)) ∧ PyData.strOk (enc r).py.shown = true := by
  have g := (h.good (by decide)).1
  have w := h.data.2.2.2
  exact ⟨dRepr_good g (Nat.le_trans w (by decide)), g.ok⟩
/-- both lots' texts in order -/
theorem texts_same {S F G : List Row} (hF : Least Row.parts S F) (hG : Least Row.lparts S G) (lF : ∀ r ∈ F, Lv 4 2 r) (lG : ∀ r ∈ G, Lv 4 2 r) :
    sortD (F.map shownD) = sortD (G.map shownD) ∧ sortOk (F.map shownD) = true ∧ sortOk (G.map shownD) = true ∧ dNe (.nd .lst (sortD (F.map shownD))) (.nd .lst (sortD (G.map shownD))) = some false ∧ G.length = F.length := by
  have pm : F.Perm G := (List.perm_ext_iff_of_nodup hF.nd hG.nd).mpr (least_same hF hG lG)
  have sF : ∀ a ∈ F.map shownD, ∃ x, a = .str x := fun a ha => by obtain ⟨r, _, rfl⟩ := List.mem_map.mp ha; exact ⟨_, rfl⟩
  have sG : ∀ a ∈ G.map shownD, ∃ x, a = .str x := fun a ha => by obtain ⟨r, _, rfl⟩ := List.mem_map.mp ha; exact ⟨_, rfl⟩
  have e := sort_perm sF sG (pm.map shownD)
  refine ⟨e, sortOk_strs sF, sortOk_strs sG, ?_, pm.length_eq.symm⟩
  rw [← e]
  have ft := fit_strs (xs := sortD (F.map shownD)) fun a ha => by
    obtain ⟨r, hr, rfl⟩ := List.mem_map.mp ((List.mergeSort_perm _ _).mem_iff.mp ha)
    exact ⟨_, rfl, (repr_row (lF r hr)).2⟩
  exact dNe_self ft.1 ft.2
/-- a list's texts by a comprehension -/
theorem texts_at {ρ0 ρ : Env} {it : Env → Rz (Env × List D)} {F : List Row} (hi : it ρ0 = .ok (ρ, F.map enc)) (h12 : ρ[12]? = some .no) (lF : ∀ r ∈ F, Lv 4 2 r) (hl : F.length ≤ 1000) :
    eLc [12] it (tgN 12) tYes (vU (eB dRepr (aCons (rN 12) aNil))) ρ0 = .ok (ρ, .nw (.nd .lst (F.map shownD))) := by
  have wp : wipeE ρ [12] = ρ := by
    show ρ.set 12 .no = ρ
    apply List.ext_getElem?
    intro i
    by_cases c : i = 12
    · subst c
      rw [List.getElem?_set_self (List.getElem?_eq_some_iff.mp h12).1, h12]
    · rw [List.getElem?_set_ne (fun z => c z.symm)]
  have := elc_ok (vs := [12]) (tgf := tgN 12) (tt := tYes) (vf := vU (eB dRepr (aCons (rN 12) aNil))) (ds := F.map enc) (fun _ => true) (fun d => .str d.py.shown) hi wp (by simpa using hl) fun d hd => by
    obtain ⟨r, hr, rfl⟩ := List.mem_map.mp hd
    have g : (ρ.set 12 (.im (enc r)))[12]? = some (.im (enc r)) := List.getElem?_set_self (List.getElem?_eq_some_iff.mp h12).1
    refine ⟨ρ.set 12 (.im (enc r)), ?_, rfl, ?_, fun _ => ?_⟩
    · exact put_im (x := .no) h12 (.inl rfl)
    · show (ρ.set 12 (.im (enc r))).set 12 .no = ρ
      rw [List.set_set]
      exact wp
    · refine vU_im (blt_ok (q := [.slot 12]) (ds := [enc r]) (cons_ok (rN_at g) rfl) ?_ (repr_row (lF r hr)).1)
      simp [peekAll, peek_at g]
  rw [this, List.filter_eq_self.mpr (by simp), List.map_map]
  rfl
end Fx.K04

set_option Elab.async false
set_option linter.all false
set_option maxRecDepth 100000
set_option maxHeartbeats 4000000
namespace Fx.K04
open PySem L2
/-! ### all that is told is good data, of bounded size -/
structure Fine (k w : Nat) (d : D) : Prop where
  snd : d.sound = true
  nob : d.nob = true
  dp : d.dp ≤ k
  wt : d.wt ≤ w
theorem Fine.up {k w k' w' : Nat} {d : D} (h : Fine k w d) (hk : k ≤ k') (hw : w ≤ w') : Fine k' w' d := ⟨h.snd, h.nob, Nat.le_trans h.dp hk, Nat.le_trans h.wt hw⟩
theorem Fine.good {k w : Nat} {d : D} (h : Fine k w d) (hk : k ≤ 64) : Good d := ⟨h.snd, h.nob, Nat.le_trans h.dp hk⟩
theorem fine_tup {k w m : Nat} {ds : List D} (h : ∀ d ∈ ds, Fine k w d) (hm : ds.length ≤ m) : Fine (k + 1) (4 + m * (w + 2)) (.nd .tup ds) := by
  refine ⟨by rw [D.sound]; exact sounds_all.mpr fun d hd => (h d hd).snd, by rw [D.nob]; exact nobs_all.mpr fun d hd => (h d hd).nob, by rw [D.dp]; exact Nat.succ_le_succ (dps_all.mpr fun d hd => (h d hd).dp), ?_⟩
  rw [D.wt]
  have a := wts_le (xs := ds) (w := w) fun d hd => (h d hd).wt
  have b := Nat.mul_le_mul_right (w + 2) hm
  omega
theorem fine_lst {k w m : Nat} {ds : List D} (h : ∀ d ∈ ds, Fine k w d) (hm : ds.length ≤ m) : Fine (k + 1) (4 + m * (w + 2)) (.nd .lst ds) := by
  refine ⟨by rw [D.sound]; exact sounds_all.mpr fun d hd => (h d hd).snd, by rw [D.nob]; exact nobs_all.mpr fun d hd => (h d hd).nob, by rw [D.dp]; exact Nat.succ_le_succ (dps_all.mpr fun d hd => (h d hd).dp), ?_⟩
  rw [D.wt]
  have a := wts_le (xs := ds) (w := w) fun d hd => (h d hd).wt
  have b := Nat.mul_le_mul_right (w + 2) hm
  omega
theorem fine_str {x : Str} (h : strGood x = true) : Fine 0 64 (.str x) := ⟨(goodK h).1, (goodK h).2, by rw [D.dp]; omega, by rw [D.wt]; omega⟩
theorem fine_int {i : Int} (h : smallI i = true) : Fine 0 64 (.int i) := ⟨(goodI h).1, (goodI h).2, by rw [D.dp]; omega, by rw [D.wt]; omega⟩
theorem fine_non : Fine 0 64 .non := ⟨by rw [D.sound], by rw [D.nob], by rw [D.dp]; omega, by rw [D.wt]; omega⟩
theorem Lv.nm_good {d f : Nat} {r : Row} (h : Lv d f r) : strGood r.nm = true := by cases h <;> assumption
theorem Lv.base {d f : Nat} {r : Row} (h : Lv d f r) : Lv d f r.base := by
  have all : ∀ (n : Nat) (r : Row), r.len < n → Lv d f r → Lv d f r.base := by
    intro n
    induction n with
    | zero => intro r h; omega
    | succ n ih =>
      intro r hl h
      cases hw : r.wraps with
      | false => rw [base_stop hw]; exact h
      | true => rw [base_inner hw]; exact ih r.inner (by rw [len_inner hw] at hl; omega) (h.inner hw)
  exact all _ r (Nat.lt_succ_self _) h
theorem Lv.fine {r : Row} (h : Lv 4 2 r) : Fine 60 10800 (enc r) := by
  obtain ⟨a, b, c, e⟩ := h.data
  exact ⟨a, b, by omega, Nat.le_trans e (by decide)⟩
theorem num_fine {r : Row} (h : Lv 4 2 r) : smallI r.base.num = true := by
  have hb := h.base
  have bw := base_wraps r
  cases e : r.base with
  | row x n t => rw [e] at hb; cases hb with | row a b c => exact b
  | win x n rs => rw [e] at hb; cases hb with | win a b c e => exact b
  | fold x rs =>
    rw [e] at hb
    cases hb with
    | fold a b c e =>
      have : 0 < rs.length := List.length_pos_iff.mpr b
      exact decide_eq_true (by show ((rs.length : Int) - 1).natAbs < 10 ^ 18; omega)
  | map _ _ => rw [e] at bw; cases bw
  | stamp _ _ _ => rw [e] at bw; cases bw
  | mix _ _ _ => rw [e] at bw; cases bw
theorem sides_fine {d f : Nat} {r : Row} (h : Lv d f r) : ∀ p ∈ r.sides, strGood p.1 = true ∧ smallI p.2 = true := by
  induction h with
  | row => intro p hp; simp [Row.sides] at hp
  | fold => intro p hp; simp [Row.sides] at hp
  | win => intro p hp; simp [Row.sides] at hp
  | map a b ih => intro p hp; exact ih p (by simpa [Row.sides] using hp)
  | stamp a b c ih => intro p hp; exact ih p (by simpa [Row.sides] using hp)
  | mix a b c ih =>
    intro p hp
    have hp : p ∈ _ ++ [_] := hp
    rcases List.mem_append.mp hp with z | z
    · exact ih p z
    · have z := List.mem_singleton.mp z
      subst z
      exact ⟨a, b⟩
theorem sidesD_fine {r : Row} (h : Lv 4 2 r) : Fine 2 560 (sidesD r) := by
  refine (fine_tup (k := 1) (w := 136) (m := 4) (fun d hd => ?_) ?_).up (by decide) (by decide)
  · obtain ⟨p, hp, rfl⟩ := List.mem_map.mp hd
    obtain ⟨a, b⟩ := sides_fine h p hp
    refine (fine_tup (k := 0) (w := 64) (m := 2) (fun d hd => ?_) (by simp)).up (by decide) (by decide)
    simp at hd
    rcases hd with rfl | rfl
    · exact fine_str a
    · exact fine_int b
  · rw [List.length_map]; exact Nat.le_trans (sides_lenL r) h.len_le
theorem nameD_fine {r : Row} (h : Lv 4 2 r) : Fine 3 1690 (nameD r) := by
  refine (fine_tup (k := 2) (w := 560) (m := 3) (fun d hd => ?_) (by simp)).up (by decide) (by decide)
  simp at hd
  rcases hd with rfl | rfl | rfl
  · exact (fine_str h.base.nm_good).up (by decide) (by decide)
  · exact (fine_int (num_fine h)).up (by decide) (by decide)
  · exact sidesD_fine h
theorem placeD_fine {r : Row} (h : Lv 4 2 r) : Fine 4 3388 (placeD r) := by
  refine (fine_tup (k := 3) (w := 1690) (m := 2) (fun d hd => ?_) (by simp)).up (by decide) (by decide)
  simp at hd
  rcases hd with rfl | rfl
  · exact (fine_str h.nm_good).up (by decide) (by decide)
  · exact nameD_fine h
theorem timeD_fine {r : Row} (h : Lv 4 2 r) : Fine 0 64 (timeD r) := by
  have hb := h.base
  unfold timeD
  cases e : r.base with
  | row x n t => rw [e] at hb; cases hb with | row a b c => exact fine_int c
  | _ => exact fine_non
def toldD (r : Row) : List D := [.str r.nm, enc r.base, .int r.base.num, nameD r, sidesD r, .nd .tup [.str r.base.nm, sidesD r], placeD r, timeD r]
theorem told_fine {r : Row} (h : Lv 4 2 r) : Fine 61 100000 (.nd .lst (toldD r)) := by
  refine (fine_lst (k := 60) (w := 10800) (m := 8) (fun d hd => ?_) (by simp [toldD])).up (by decide) (by decide)
  simp [toldD] at hd
  rcases hd with rfl | rfl | rfl | rfl | rfl | rfl | rfl | rfl
  · exact (fine_str h.nm_good).up (by decide) (by decide)
  · exact h.base.fine
  · exact (fine_int (num_fine h)).up (by decide) (by decide)
  · exact (nameD_fine h).up (by decide) (by decide)
  · exact (sidesD_fine h).up (by decide) (by decide)
  · refine (fine_tup (k := 2) (w := 560) (m := 2) (fun d hd => ?_) (by simp)).up (by decide) (by decide)
    simp at hd
    rcases hd with rfl | rfl
    · exact (fine_str h.base.nm_good).up (by decide) (by decide)
    · exact sidesD_fine h
  · exact (placeD_fine h).up (by decide) (by decide)
  · exact (timeD_fine h).up (by decide) (by decide)
theorem three_fine {r : Row} (h : Lv 4 2 r) : Fine 61 100000 (.nd .lst [nameD r, .str r.nm, timeD r]) := by
  refine (fine_lst (k := 60) (w := 10800) (m := 3) (fun d hd => ?_) (by simp)).up (by decide) (by decide)
  simp at hd
  rcases hd with rfl | rfl | rfl
  · exact (nameD_fine h).up (by decide) (by decide)
  · exact (fine_str h.nm_good).up (by decide) (by decide)
  · exact (timeD_fine h).up (by decide) (by decide)
theorem Fine.repr {k w : Nat} {d : D} (h : Fine k w d) (hk : k ≤ 64) (hw : w ≤ 1000000) : dRepr [d] = some (.im (.str d.py.shown)) ∧ PyData.strOk d.py.shown = true :=
  ⟨dRepr_good (h.good hk) (Nat.le_trans h.wt (Nat.le_trans hw (by decide))), (h.good hk).ok⟩
theorem stamps_fine {r : Row} (h : Lv 4 2 r) : Fine 6 100000 (.nd .tup (r.stamps.map stampD)) := by
  refine (fine_tup (k := 5) (w := 5100) (m := 4) (fun d hd => ?_) ?_).up (by decide) (by decide)
  · obtain ⟨q, hq, rfl⟩ := List.mem_map.mp hd
    obtain ⟨lq, _⟩ := h.passed q (List.mem_filter.mp hq).1
    cases q with
    | stamp x q t =>
      refine (fine_tup (k := 3) (w := 1690) (m := 3) (fun d hd => ?_) (by simp)).up (by decide) (by decide)
      have nf := nameD_fine lq
      have xf := lq.nm_good
      simp at hd
      rcases hd with rfl | rfl | rfl
      · exact (fine_str xf).up (by decide) (by decide)
      · exact nf
      · cases lq with
        | stamp a b c => exact (fine_int b).up (by decide) (by decide)
    | _ => exact fine_non.up (by decide) (by decide)
  · rw [List.length_map]
    exact Nat.le_trans (List.length_filter_le _ _) (by rw [passed_len]; exact h.len_le)
theorem names_fine {r : Row} (h : Lv 4 2 r) : Fine 6 100000 (.nd .tup (r.passed.map fun q => .str q.nm)) := by
  refine (fine_tup (k := 5) (w := 64) (m := 4) (fun d hd => ?_) ?_).up (by decide) (by decide)
  · obtain ⟨q, hq, rfl⟩ := List.mem_map.mp hd
    exact (fine_str (h.passed q hq).1.nm_good).up (by decide) (by decide)
  · rw [List.length_map, passed_len]; exact h.len_le
end Fx.K04

set_option Elab.async false
set_option linter.all false
set_option maxRecDepth 100000
set_option maxHeartbeats 4000000
namespace Fx.K04
open PySem L2
/-- a slot that may be set anew -/
def Free (x : Sl) : Prop := ∀ d, x ≠ .pa d
theorem put_free {ρ : Env} {i : Nat} {x : Sl} (h : ρ[i]? = some x) (hx : Free x) (d : D) : put ρ i (.im d) = .ok (ρ.set i (.im d)) ∧ put ρ i (.nw d) = .ok (ρ.set i (.lo d)) := by
  unfold put
  rw [h]
  cases x with
  | pa e => exact absurd rfl (hx e)
  | _ => exact ⟨rfl, rfl⟩
theorem free_no : Free .no := fun _ h => nomatch h
theorem free_im (d : D) : Free (.im d) := fun _ h => nomatch h
theorem free_lo (d : D) : Free (.lo d) := fun _ h => nomatch h
theorem par2_ok {f g : Env → Rz (Env × Rs)} {ρ : Env} {i j : Nat} {a b : D} {xi xj : Sl} (hf : f ρ = .ok (ρ, .im a)) (hg : g ρ = .ok (ρ, .nw b)) (hij : i ≠ j) (hi : ρ[i]? = some xi) (hj : ρ[j]? = some xj) (fi : Free xi) (fj : Free xj) : gPar [i, j] (qCons f (qCons g aNil)) ρ = .ok ((ρ.set j (.lo b)).set i (.im a), .nx) := by
  have pj := (put_free hj fj b).2
  have hi' : (ρ.set j (.lo b))[i]? = some xi := by rw [List.getElem?_set_ne (fun z => hij z.symm)]; exact hi
  have pi := (put_free hi' fi a).1
  simp [gPar, qCons, hf, hg, toNw, aNil, parSet, pj, pi, Rz.bind]
abbrev E (S p : D) (y2 y3 y4 y5 y6 y7 y8 y9 y10 y11 : Sl) : Env := [.im S, .lo p, y2, y3, y4, y5, y6, y7, y8, y9, y10, y11, .no, .no]
section
variable {S p : D} {n : Nat} {y2 y3 y4 y5 y6 y7 y8 y9 y10 y11 : Sl}
theorem t_row (h : Pen n p) (hn : n + 177 ≤ 1000000) (f3 : Free y3) : ∃ p' r, gSet 3 (eCallN 3 (fun a => noX (m__law_a_row 30 a)) [true, false, false] (aCons (rN 1) (aCons (hC (.int 4)) (aCons (hC (.int 2)) aNil)))) (E S p y2 y3 y4 y5 y6 y7 y8 y9 y10 y11) = .ok (E S p' y2 (.im (enc r)) y4 y5 y6 y7 y8 y9 y10 y11, .nx) ∧ Lv 4 2 r ∧ Pen (n + 177) p' := by
  obtain ⟨p', r, e, hr, hp⟩ := rows_by 30 4 2 (by decide) n p h hn
  refine ⟨p', r, set_ok (call_pen3 (i := 1) (x0 := .lo p) (x := .lo p) (ρ1 := E S p y2 y3 y4 y5 y6 y7 y8 y9 y10 y11) (r2 := .im (.int 4)) (r3 := .im (.int 2)) rfl (by simp [Sl.peek]) rfl rfl rfl rfl rfl e) (put_free (x := y3) rfl f3 _).1, hr, hp⟩
variable {r : Row}
theorem t_par (h : Lv 4 2 r) (f4 : Free y4) (f5 : Free y5) : gPar [4, 5] (qCons (eCallN 1 (fun a => noX (m__law_base 30 a)) [false] (aCons (rN 3) aNil)) (qCons (eCallN 1 (fun a => noX (m__law_passed 30 a)) [false] (aCons (rN 3) aNil)) aNil)) (E S p y2 (.im (enc r)) y4 y5 y6 y7 y8 y9 y10 y11) =
    .ok (E S p y2 (.im (enc r)) (.im (enc r.base)) (.lo (.nd .lst (r.passed.map enc))) y6 y7 y8 y9 y10 y11, .nx) := by
  have hl : r.len < 30 := Nat.lt_of_le_of_lt h.len_le (by decide)
  exact par2_ok (xi := y4) (xj := y5) (call_y (rN_at (i := 3) rfl) rfl (own_base 30 r hl)) (call_y (rN_at (i := 3) rfl) rfl (own_passed 30 r hl (by decide))) (by decide) rfl rfl f4 f5
theorem t_name (h : Lv 4 2 r) (f6 : Free y6) : gSet 6 (eCallN 1 (fun a => noX (m__law_name a)) [false] (aCons (rN 3) aNil)) (E S p y2 (.im (enc r)) y4 y5 y6 y7 y8 y9 y10 y11) = .ok (E S p y2 (.im (enc r)) y4 y5 (.im (nameD r)) y7 y8 y9 y10 y11, .nx) :=
  set_ok (call_y (rN_at (i := 3) rfl) rfl (own_name h (by decide))) (put_free (x := y6) rfl f6 _).1
theorem call_h {F : Env → Rz (Env × Rs)} {ρ : Env} {i : Nat} {d e : D} {y : Sl} (h : ρ[i]? = some (.im d)) (hF : F [.im d] = .ok ([y], .im e)) : hH (eCallN 1 F [false] (aCons (rN i) aNil)) ρ = .ok (ρ, .im e) :=
  hH_im (call_y (rN_at h) (by show (match ρ[i]? with | some (.im d) => Rz.ok (ρ, d) | some (.lo d) => Rz.ok (ρ.set i (.im d), d) | _ => Rz.no) = _; rw [h]) hF)
theorem t_told (h : Lv 4 2 r) (f7 : Free y7) : gSet 7 (eLst (aCons (hH (eCallN 1 (fun a => noX (m_head_of a)) [false] (aCons (rN 3) aNil))) (aCons (hH (eCallN 1 (fun a => noX (m_base_of a)) [false] (aCons (rN 3) aNil))) (aCons (hH (eCallN 1 (fun a => noX (m_number_of a)) [false] (aCons (rN 4) aNil))) (aCons (hH (eCallN 1 (fun a => noX (m_name_of a)) [false] (aCons (rN 3) aNil))) (aCons (hH (eCallN 1 (fun a => noX (m_sides_of a)) [false] (aCons (rN 3) aNil))) (aCons (hH (eCallN 1 (fun a => noX (m_way_of a)) [false] (aCons (rN 3) aNil))) (aCons (hH (eCallN 1 (fun a => noX (m_place_of a)) [false] (aCons (rN 3) aNil))) (aCons (hH (eCallN 1 (fun a => noX (m_time_of a)) [false] (aCons (rN 3) aNil))) aNil))))))))) (E S p y2 (.im (enc r)) (.im (enc r.base)) y5 y6 y7 y8 y9 y10 y11) =
    .ok (E S p y2 (.im (enc r)) (.im (enc r.base)) y5 y6 (.lo (.nd .lst (toldD r))) y8 y9 y10 y11, .nx) := by
  refine set_ok (lst_ok (q := (toldD r).map .im) (ds := toldD r) (cons_ok (call_h (i := 3) rfl (head_of_at r)) (cons_ok (call_h (i := 3) rfl (base_of_at h (by decide))) (cons_ok (call_h (i := 4) rfl (number_of_at (base_wraps r))) (cons_ok (call_h (i := 3) rfl (name_of_at h (by decide))) (cons_ok (call_h (i := 3) rfl (sides_of_at h (by decide))) (cons_ok (call_h (i := 3) rfl (way_of_at h (by decide))) (cons_ok (call_h (i := 3) rfl (place_of_at h (by decide))) (cons_ok (call_h (i := 3) rfl (time_of_at h (by decide))) rfl)))))))) (use_ims _ _) (by simp [toldD])) (put_free (x := y7) rfl f7 _).2
theorem t_due (h : Lv 4 2 r) (f8 : Free y8) : gSet 8 (eLst (aCons (hV (v2 dIx (rN 3) (hC (.int 1)))) (aCons (rN 4) (aCons (hV (v2 dIx (rN 6) (hC (.int 1)))) (aCons (rN 6) (aCons (hH (eCallN 1 (fun a => noX (m__law_sides 30 a)) [false] (aCons (rN 3) aNil))) (aCons (hV (vTup (aCons (hV (v2 dIx (rN 4) (hC (.int 1)))) (aCons (hH (eCallN 1 (fun a => noX (m__law_sides 30 a)) [false] (aCons (rN 3) aNil))) aNil)))) (aCons (hV (vTup (aCons (hV (v2 dIx (rN 3) (hC (.int 1)))) (aCons (rN 6) aNil)))) (aCons (hV (vIf (t2 dEq (hV (v2 dIx (rN 4) (hC (.int 0)))) (hC (.str "row"))) (v2 dIx (rN 4) (hC (.int 3))) (vC .non))) aNil))))))))) (E S p y2 (.im (enc r)) (.im (enc r.base)) y5 (.im (nameD r)) y7 y8 y9 y10 y11) =
    .ok (E S p y2 (.im (enc r)) (.im (enc r.base)) y5 (.im (nameD r)) y7 (.lo (.nd .lst (toldD r))) y9 y10 y11, .nx) := by
  have hl : r.len < 30 := Nat.lt_of_le_of_lt h.len_le (by decide)
  have sd := own_sides 30 r hl (by decide)
  refine set_ok (lst_ok (q := [.im (.str r.nm), .slot 4, .im (.int r.base.num), .slot 6, .im (sidesD r), .im (.nd .tup [.str r.base.nm, sidesD r]), .im (placeD r), .im (timeD r)]) (ds := toldD r)
    (cons_ok (hV_ok (fld (i := 3) rfl (head_row r).2)) (cons_ok rfl (cons_ok (hV_ok (fld (i := 6) rfl (show dIx (nameD r) (.int 1) = some (.int r.base.num) from rfl))) (cons_ok rfl (cons_ok (call_h (i := 3) rfl sd) (cons_ok (hV_ok (tup_ok (q := [.im (.str r.base.nm), .im (sidesD r)]) (ds := [.str r.base.nm, sidesD r]) (cons_ok (hV_ok (fld (i := 4) rfl (head_row r.base).2)) (cons_ok (call_h (i := 3) rfl sd) rfl)) rfl (by simp)))
      (cons_ok (hV_ok (tup_ok (q := [.im (.str r.nm), .slot 6]) (ds := [.str r.nm, nameD r]) (cons_ok (hV_ok (fld (i := 3) rfl (head_row r).2)) (cons_ok rfl rfl)) rfl (by simp))) (cons_ok (hV_ok (tm_at (i := 4) rfl)) rfl)))))))) rfl (by simp [toldD])) (put_free (x := y8) rfl f8 _).2
theorem callK {F : Env → Rz (Env × Rs)} {ρ : Env} {i : Nat} {d e : D} {y : Sl} (h : ρ[i]? = some (.im d)) (hF : F [.im d] = .ok ([y], .im e)) : hH (eCallK 1 1 [0] F [false] (aCons (rN i) aNil)) ρ = .ok (ρ, .im e) := by
  have c := call_h (F := F) h hF
  have same : eCallK 1 1 [0] F [false] (aCons (rN i) aNil) ρ = eCallN 1 F [false] (aCons (rN i) aNil) ρ := by
    unfold eCallK eCallN
    rw [cons_ok (rN_at h) (show aNil ρ = .ok (ρ, []) from rfl)]
    rfl
  unfold hH
  rw [same]
  exact c
theorem dNe_shown {d : D} (h : PyData.strOk d.py.shown = true) : dNe (.str d.py.shown) (.str d.py.shown) = some false := dNe_str h
theorem repr_ok {f : Env → Rz (Env × Rs)} {ρ : Env} {x : Rs} {d : D} {k w : Nat} (hd : Fine k w d) (hk : k ≤ 64) (hw : w ≤ 1000000) (h : f ρ = .ok (ρ, x)) (hp : peek ρ x = some d) : hH (eB dRepr (aCons f aNil)) ρ = .ok (ρ, .im (.str d.py.shown)) :=
  hH_im (blt_ok (q := [x]) (ds := [d]) (cons_ok h rfl) (by simp [peekAll, hp]) (hd.repr hk hw).1)
theorem or_ff {a b : Env → Rz (Env × Bool)} {ρ : Env} (ha : a ρ = .ok (ρ, false)) (hb : b ρ = .ok (ρ, false)) : tOr a b ρ = .ok (ρ, false) := by
  unfold tOr
  rw [ha]
  exact hb
theorem t_if1 (h : Lv 4 2 r) : gIf (tOr (t2 dNe (hH (eB dRepr (aCons (rN 7) aNil))) (hH (eB dRepr (aCons (rN 8) aNil)))) (t2 dNe (hH (eB dRepr (aCons (hH (eLst (aCons (hH (eCallK 1 1 [0] (fun a => noX (m_name_of a)) [false] (aCons (rN 3) aNil))) (aCons (hH (eCallK 1 1 [0] (fun a => noX (m_head_of a)) [false] (aCons (rN 3) aNil))) (aCons (hH (eCallK 1 1 [0] (fun a => noX (m_time_of a)) [false] (aCons (rN 3) aNil))) aNil))))) aNil))) (hH (eB dRepr (aCons (hH (eLst (aCons (rN 6) (aCons (hV (v2 dIx (rN 3) (hC (.int 1)))) (aCons (hV (v2 dIx (rN 8) (hV (v1 dNeg (hC (.int 1)))))) aNil))))) aNil))))) (gRet (hV (vC (.bl false)))) gNext (E S p y2 (.im (enc r)) (.im (enc r.base)) y5 (.im (nameD r)) (.lo (.nd .lst (toldD r))) (.lo (.nd .lst (toldD r))) y9 y10 y11) =
    .ok (E S p y2 (.im (enc r)) (.im (enc r.base)) y5 (.im (nameD r)) (.lo (.nd .lst (toldD r))) (.lo (.nd .lst (toldD r))) y9 y10 y11, .nx) := by
  have a := told_fine h
  have b := three_fine h
  refine (if_f (or_ff (tst_ok (repr_ok a (by decide) (by decide) rfl rfl) (repr_ok a (by decide) (by decide) rfl rfl) rfl rfl (dNe_shown (a.repr (by decide) (by decide)).2)) ?_)).trans rfl
  refine tst_ok (repr_ok b (by decide) (by decide) (hH_nw (lst_ok (q := [.im (nameD r), .im (.str r.nm), .im (timeD r)]) (ds := [nameD r, .str r.nm, timeD r]) (cons_ok (callK (i := 3) rfl (name_of_at h (by decide))) (cons_ok (callK (i := 3) rfl (head_of_at r)) (cons_ok (callK (i := 3) rfl (time_of_at h (by decide))) rfl))) rfl (by simp))) rfl)
    (repr_ok b (by decide) (by decide) (hH_nw (lst_ok (q := [.slot 6, .im (.str r.nm), .im (timeD r)]) (ds := [nameD r, .str r.nm, timeD r]) (cons_ok rfl (cons_ok (hV_ok (fld (i := 3) rfl (head_row r).2)) (cons_ok (hV_ok (two_ok rfl (hV_ok (neg_ok rfl rfl)) rfl rfl (show atI (toldD r) (-1) = some (timeD r) from atI_last rfl))) rfl))) rfl (by simp))) rfl) rfl rfl (dNe_shown (b.repr (by decide) (by decide)).2)
end
end Fx.K04

set_option Elab.async false
set_option linter.all false
set_option maxRecDepth 100000
set_option maxHeartbeats 4000000
namespace Fx.K04
open PySem L2
open Classical in
noncomputable def dec (d : D) : Row := if h : ∃ q, enc q = d then h.choose else .row "" 0 0
theorem dec_enc (q : Row) : dec (enc q) = q := by
  unfold dec
  rw [dif_pos ⟨q, rfl⟩]
  exact enc_inj (Classical.choose_spec (⟨q, rfl⟩ : ∃ q', enc q' = enc q))
theorem wipe12 {ρ : Env} (h12 : ρ[12]? = some .no) : wipeE ρ [12] = ρ := by
  show ρ.set 12 .no = ρ
  apply List.ext_getElem?
  intro i
  by_cases c : i = 12
  · subst c
    rw [List.getElem?_set_self (List.getElem?_eq_some_iff.mp h12).1, h12]
  · rw [List.getElem?_set_ne (fun z => c z.symm)]
/-- a comprehension over rows, by the slot 12 -/
theorem over_rows {ρ0 ρ : Env} {it : Env → Rz (Env × List D)} {tt : Env → Rz (Env × Bool)} {vf : Env → Rz (Env × D)} {F : List Row} (pr : Row → Bool) (g : Row → D) (hi : it ρ0 = .ok (ρ, F.map enc)) (h12 : ρ[12]? = some .no) (hl : F.length ≤ 1000)
    (h : ∀ q ∈ F, tt (ρ.set 12 (.im (enc q))) = .ok (ρ.set 12 (.im (enc q)), pr q) ∧ (pr q = true → vf (ρ.set 12 (.im (enc q))) = .ok (ρ.set 12 (.im (enc q)), g q))) : eLc [12] it (tgN 12) tt vf ρ0 = .ok (ρ, .nw (.nd .lst ((F.filter pr).map g))) := by
  have wp := wipe12 h12
  have := elc_ok (vs := [12]) (tgf := tgN 12) (tt := tt) (vf := vf) (ds := F.map enc) (fun d => pr (dec d)) (fun d => g (dec d)) hi wp (by simpa using hl) fun d hd => by
    obtain ⟨q, hq, rfl⟩ := List.mem_map.mp hd
    rw [dec_enc]
    obtain ⟨a, b⟩ := h q hq
    refine ⟨ρ.set 12 (.im (enc q)), put_im (x := .no) h12 (.inl rfl), a, ?_, b⟩
    show (ρ.set 12 (.im (enc q))).set 12 .no = ρ
    rw [List.set_set]
    exact wp
  rw [this, List.filter_map, List.map_map]
  have e1 : ((fun d => pr (dec d)) ∘ enc) = pr := funext fun q => by show pr (dec (enc q)) = _; rw [dec_enc]
  have e2 : ((fun d => g (dec d)) ∘ enc) = g := funext fun q => by show g (dec (enc q)) = _; rw [dec_enc]
  rw [e1, e2]
section
variable {S p : D} {n : Nat} {y2 y3 y4 y5 y6 y7 y8 y9 y10 y11 : Sl} {r : Row}
theorem t_stamps (h : Lv 4 2 r) (f9 : Free y9) : gSet 9 (eB dTuple (aCons (hH (eLc [12] (iSeq (vN 5)) (tgN 12) (t2 dEq (hV (v2 dIx (rN 12) (hC (.int 0)))) (hC (.str "stamp"))) (vTup (aCons (hV (v2 dIx (rN 12) (hC (.int 1)))) (aCons (hH (eCallN 1 (fun a => noX (m__law_name a)) [false] (aCons (rN 12) aNil))) (aCons (hV (v2 dIx (rN 12) (hC (.int 3)))) aNil)))))) aNil)) (E S p y2 y3 y4 (.lo (.nd .lst (r.passed.map enc))) y6 y7 y8 y9 y10 y11) =
    .ok (E S p y2 y3 y4 (.im (.nd .lst (r.passed.map enc))) y6 y7 y8 (.im (.nd .tup (r.stamps.map stampD))) y10 y11, .nx) := by
  have lc := over_rows (ρ0 := E S p y2 y3 y4 (.lo (.nd .lst (r.passed.map enc))) y6 y7 y8 y9 y10 y11) (ρ := E S p y2 y3 y4 (.im (.nd .lst (r.passed.map enc))) y6 y7 y8 y9 y10 y11) (it := iSeq (vN 5)) (tt := t2 dEq (hV (v2 dIx (rN 12) (hC (.int 0)))) (hC (.str "stamp")))
    (vf := vTup (aCons (hV (v2 dIx (rN 12) (hC (.int 1)))) (aCons (hH (eCallN 1 (fun a => noX (m__law_name a)) [false] (aCons (rN 12) aNil))) (aCons (hV (v2 dIx (rN 12) (hC (.int 3)))) aNil)))) (F := r.passed) (fun q => decide (q.tag = 4)) stampD rfl rfl (by rw [passed_len]; exact Nat.le_trans h.len_le (by decide)) fun q hq => by
      obtain ⟨lq, _⟩ := h.passed q hq
      constructor
      · rw [← is_stamp]
        exact kEq (i := 12) rfl (by simp)
      · intro ht
        have nm := own_name lq (by decide)
        cases q with
        | stamp x q t => exact vT3 (hV_ok (fld (i := 12) rfl rfl)) (call_h (i := 12) rfl nm) (hV_ok (fld (i := 12) rfl rfl))
        | _ => exact absurd ht (by simp [Row.tag])
  exact set_ok (blt_ok (q := [.im (.nd .lst (r.stamps.map stampD))]) (ds := [.nd .lst (r.stamps.map stampD)]) (z := .im (.nd .tup (r.stamps.map stampD))) (cons_ok (hH_nw lc) rfl) rfl rfl) (put_free (x := y9) rfl f9 _).1
theorem t_if2 (h : Lv 4 2 r) : gIf (tOr (t2 dNe (hH (eB dRepr (aCons (hH (eCallN 1 (fun a => noX (m_stamped a)) [false] (aCons (rN 3) aNil))) aNil))) (hH (eB dRepr (aCons (rN 9) aNil)))) (tOr (t2 dNe (hH (eB dRepr (aCons (hH (eCallN 1 (fun a => noX (m_passed a)) [false] (aCons (rN 3) aNil))) aNil))) (hH (eB dRepr (aCons (hH (eB dTuple (aCons (hH (eLc [12] (iSeq (vN 5)) (tgN 12) tYes (v2 dIx (rN 12) (hC (.int 1))))) aNil))) aNil)))) (t2 dNe (hH (eCallK 1 1 [0] (fun a => noX (m_stamped a)) [false] (aCons (rN 3) aNil))) (rN 9)))) (gRet (hV (vC (.bl false)))) gNext (E S p y2 (.im (enc r)) y4 (.im (.nd .lst (r.passed.map enc))) y6 y7 y8 (.im (.nd .tup (r.stamps.map stampD))) y10 y11) =
    .ok (E S p y2 (.im (enc r)) y4 (.im (.nd .lst (r.passed.map enc))) y6 y7 y8 (.im (.nd .tup (r.stamps.map stampD))) y10 y11, .nx) := by
  have a := stamps_fine h
  have b := names_fine h
  have st := stamped_at h (by decide)
  have ps := passed_at h (by decide)
  have lc := over_rows (ρ0 := E S p y2 (.im (enc r)) y4 (.im (.nd .lst (r.passed.map enc))) y6 y7 y8 (.im (.nd .tup (r.stamps.map stampD))) y10 y11) (ρ := E S p y2 (.im (enc r)) y4 (.im (.nd .lst (r.passed.map enc))) y6 y7 y8 (.im (.nd .tup (r.stamps.map stampD))) y10 y11) (it := iSeq (vN 5)) (tt := tYes) (vf := v2 dIx (rN 12) (hC (.int 1))) (F := r.passed) (fun _ => true) (fun q => .str q.nm) rfl rfl (by rw [passed_len]; exact Nat.le_trans h.len_le (by decide)) fun q hq => ⟨rfl, fun _ => fld (i := 12) rfl (head_row q).2⟩
  rw [List.filter_eq_self.mpr (by simp)] at lc
  refine (if_f (or_ff (tst_ok (repr_ok a (by decide) (by decide) (call_h (i := 3) rfl st) rfl) (repr_ok a (by decide) (by decide) rfl rfl) rfl rfl (dNe_shown (a.repr (by decide) (by decide)).2)) (or_ff (tst_ok (repr_ok b (by decide) (by decide) (call_h (i := 3) rfl ps) rfl) (repr_ok b (by decide) (by decide) (hH_im (blt_ok (q := [.im (.nd .lst (r.passed.map fun q => .str q.nm))]) (ds := [.nd .lst (r.passed.map fun q => .str q.nm)]) (z := .im (.nd .tup (r.passed.map fun q => .str q.nm))) (cons_ok (hH_nw lc) rfl) rfl rfl)) rfl) rfl rfl (dNe_shown (b.repr (by decide) (by decide)).2)) (tst_ok (callK (i := 3) rfl st) rfl rfl rfl (dNe_self (a.good (by decide)).fit a.nob))))).trans rfl
end
end Fx.K04

set_option Elab.async false
set_option linter.all false
set_option maxRecDepth 100000
set_option maxHeartbeats 4000000
namespace Fx.K04
open PySem L2
section
variable {S : D} {y2 y3 y4 y5 y6 y7 y8 y9 y10 y11 : Sl} {r : Row}
theorem rowsE_go : ∀ (ds : List D) (acc : List D) (n : Nat) (p : D), Pen n p → n + ds.length * 177 ≤ 1000000 → acc.length + ds.length ≤ 1000 →
    ∃ (p' : D) (rs : List Row), lcL [13] (tgN 13) tYes (vU (eCallN 3 (fun a => noX (m__law_a_row 30 a)) [true, false, false] (aCons (rN 1) (aCons (hC (.int 3)) (aCons (hC (.int 2)) aNil))))) ds (E S p y2 y3 y4 y5 y6 y7 y8 y9 y10 y11) acc = .ok (E S p' y2 y3 y4 y5 y6 y7 y8 y9 y10 y11, acc ++ rs.map enc) ∧ rs.length = ds.length ∧ (∀ r ∈ rs, Lv 4 2 r) ∧ Pen (n + ds.length * 177) p'
  | [], acc, n, p, h, _, _ => ⟨p, [], by simp [lcL], rfl, by simp, by simpa using h⟩
  | d :: ds, acc, n, p, h, hn, hz => by
    rw [List.length_cons, Nat.succ_mul] at hn
    rw [List.length_cons] at hz
    obtain ⟨p1, r, e, hr, hp1⟩ := rows_by 30 3 2 (by decide) n p h (by have : aB 3 2 = 174 := rfl; omega)
    have hp1 : Pen (n + 177) p1 := hp1.up (by have : aB 3 2 = 174 := rfl; omega)
    obtain ⟨p', rs, e2, l2, hrs, hp'⟩ := rowsE_go ds (acc ++ [enc r]) (n + 177) p1 hp1 (by omega) (by simp; omega)
    refine ⟨p', r :: rs, ?_, by simp [l2], fun q hq => ?_, by rw [List.length_cons, Nat.succ_mul]; exact hp'.up (by omega)⟩
    · have c : vU (eCallN 3 (fun a => noX (m__law_a_row 30 a)) [true, false, false] (aCons (rN 1) (aCons (hC (.int 3)) (aCons (hC (.int 2)) aNil)))) ((E S p y2 y3 y4 y5 y6 y7 y8 y9 y10 y11).set 13 (.im d)) = .ok ((E S p1 y2 y3 y4 y5 y6 y7 y8 y9 y10 y11).set 13 (.im d), enc r) :=
        vU_im (call_pen3 (ρ := (E S p y2 y3 y4 y5 y6 y7 y8 y9 y10 y11).set 13 (.im d)) (ρ1 := (E S p y2 y3 y4 y5 y6 y7 y8 y9 y10 y11).set 13 (.im d)) (i := 1) (x0 := .lo p) (x := .lo p) (r2 := .im (.int 3)) (r3 := .im (.int 2)) rfl (by simp [Sl.peek]) rfl rfl rfl rfl rfl e)
      show ((tgN 13 d (E S p y2 y3 y4 y5 y6 y7 y8 y9 y10 y11)).bind _) = _
      rw [show tgN 13 d (E S p y2 y3 y4 y5 y6 y7 y8 y9 y10 y11) = .ok ((E S p y2 y3 y4 y5 y6 y7 y8 y9 y10 y11).set 13 (.im d)) from rfl]
      show ((vU _ ((E S p y2 y3 y4 y5 y6 y7 y8 y9 y10 y11).set 13 (.im d))).bind _) = _
      rw [c]
      show (if sz (acc.length + 1) = true then _ else _) = _
      rw [if_pos (sz1000 (by omega))]
      show lcL [13] (tgN 13) tYes _ ds (E S p1 y2 y3 y4 y5 y6 y7 y8 y9 y10 y11) (acc ++ [enc r]) = _
      rw [e2]
      simp
    · rcases List.mem_cons.mp hq with z | z
      · subst z; exact hr.up (by decide) (Nat.le_refl _)
      · exact hrs q z
theorem t_some {n : Nat} {p : D} (h : Pen n p) (hn : n + 600 ≤ 1000000) (hr : Lv 4 2 r) (f10 : Free y10) : ∃ (p' : D) (rows : List Row), gSet 10 (e2 dAdd (hH (e2 dAdd (hH (eLst (aCons (rN 3) aNil))) (hH (eLc [13] (iRng dRng1 (aCons (hH (eCallN 2 (fun a => noX (m__law_draw a)) [true, false] (aCons (rN 1) (aCons (hC (.int 3)) aNil)))) aNil)) (tgN 13) tYes (vU (eCallN 3 (fun a => noX (m__law_a_row 30 a)) [true, false, false] (aCons (rN 1) (aCons (hC (.int 3)) (aCons (hC (.int 2)) aNil))))))))) (hH (eLst (aCons (rN 3) aNil)))) (E S p y2 (.im (enc r)) y4 y5 y6 y7 y8 y9 y10 y11) =
    .ok (E S p' y2 (.im (enc r)) y4 y5 y6 y7 y8 y9 (.lo (.nd .lst (rows.map enc))) y11, .nx) ∧ (∀ q ∈ rows, Lv 4 2 q) ∧ rows.length ≤ 8 ∧ Pen (n + 400) p' := by
  obtain ⟨p1, m, eD, hp1, m0, m1⟩ := draw_pen (many := 3) h (by omega) (by omega) (by omega)
  obtain ⟨j, rfl⟩ : ∃ j : Nat, m = (j : Int) := ⟨m.toNat, by omega⟩
  have l2 : (intsD 0 j).length ≤ 2 := by simp [intsD]; omega
  have l3 := Nat.mul_le_mul_right 177 l2
  obtain ⟨p2, rs, e3, hl, hrs, hp2⟩ := rowsE_go (S := S) (y2 := y2) (y3 := .im (enc r)) (y4 := y4) (y5 := y5) (y6 := y6) (y7 := y7) (y8 := y8) (y9 := y9) (y10 := y10) (y11 := y11) (intsD 0 j) [] (n + 1) p1 hp1 (by omega) (by simp; omega)
  have c2 : eCallN 2 (fun a => noX (m__law_draw a)) [true, false] (aCons (rN 1) (aCons (hC (.int 3)) aNil)) (E S p y2 (.im (enc r)) y4 y5 y6 y7 y8 y9 y10 y11) = .ok (E S p1 y2 (.im (enc r)) y4 y5 y6 y7 y8 y9 y10 y11, .im (.int (j : Int))) :=
    call_pen2 (ρ1 := E S p y2 (.im (enc r)) y4 y5 y6 y7 y8 y9 y10 y11) (i := 1) (x0 := .lo p) (x := .lo p) (r2 := .im (.int 3)) rfl (by simp [Sl.peek]) rfl rfl rfl rfl eD
  have lc : eLc [13] (iRng dRng1 (aCons (hH (eCallN 2 (fun a => noX (m__law_draw a)) [true, false] (aCons (rN 1) (aCons (hC (.int 3)) aNil)))) aNil)) (tgN 13) tYes (vU (eCallN 3 (fun a => noX (m__law_a_row 30 a)) [true, false, false] (aCons (rN 1) (aCons (hC (.int 3)) (aCons (hC (.int 2)) aNil))))) (E S p y2 (.im (enc r)) y4 y5 y6 y7 y8 y9 y10 y11) =
      .ok (E S p2 y2 (.im (enc r)) y4 y5 y6 y7 y8 y9 y10 y11, .nw (.nd .lst (rs.map enc))) := by
    unfold eLc
    rw [rng_at (q := [.im (.int (j : Int))]) (ds := [.int (j : Int)]) (cons_ok (hH_im c2) rfl) rfl (rng1 (by omega))]
    show ((noX (lcL [13] (tgN 13) tYes _ (intsD 0 j) (E S p1 y2 (.im (enc r)) y4 y5 y6 y7 y8 y9 y10 y11) [])).bind _) = _
    rw [e3]
    rfl
  have one : ∀ q : D, hH (eLst (aCons (rN 3) aNil)) (E S q y2 (.im (enc r)) y4 y5 y6 y7 y8 y9 y10 y11) = .ok (E S q y2 (.im (enc r)) y4 y5 y6 y7 y8 y9 y10 y11, .im (.nd .lst [enc r])) := fun q => hH_nw (lst_ok (q := [.slot 3]) (ds := [enc r]) rfl rfl (by simp))
  have ad : ∀ xs zs : List D, xs.length + zs.length ≤ 1000 → dAdd (.nd .lst xs) (.nd .lst zs) = some (.nw (.nd .lst (xs ++ zs))) := fun xs zs hz => by
    show (if sz (xs.length + zs.length) = true then some (Rs.nw (.nd .lst (xs ++ zs))) else none) = _
    rw [if_pos (sz1000 (by omega))]
  have a1 := add_ok (F := dAdd) (one p) (hH_nw lc) rfl rfl (ad [enc r] (rs.map enc) (by simp; omega))
  have a2 := add_ok (F := dAdd) (hH_nw a1) (one p2) rfl rfl (ad ([enc r] ++ rs.map enc) [enc r] (by simp; omega))
  refine ⟨p2, [r] ++ rs ++ [r], ?_, fun q hq => ?_, by simp; omega, hp2.up (by omega)⟩
  · rw [List.map_append, List.map_append]
    exact set_ok a2 (put_free (x := y10) rfl f10 _).2
  · simp at hq
    rcases hq with rfl | z | rfl
    · exact hr
    · exact hrs q z
    · exact hr
theorem t_all {p : D} {rows : List Row} (hR : ∀ q ∈ rows, Lv 4 2 q) (hl : rows.length ≤ 8) (f11 : Free y11) : ∃ G : List Row, gSet 11 (eCallN 1 (fun a => noX (m__law_within a)) [false] (aCons (rN 10) aNil)) (E S p y2 y3 y4 y5 y6 y7 y8 y9 (.lo (.nd .lst (rows.map enc))) y11) =
    .ok (E S p y2 y3 y4 y5 y6 y7 y8 y9 (.im (.nd .lst (rows.map enc))) (.lo (.nd .lst (G.map enc))), .nx) ∧ Least Row.lparts rows G ∧ ∀ q ∈ G, Lv 4 2 q := by
  obtain ⟨G, e, hG, lG⟩ := own_within hR hl
  refine ⟨G, set_ok (ρ1 := E S p y2 y3 y4 y5 y6 y7 y8 y9 (.im (.nd .lst (rows.map enc))) y11) ?_ (put_free (x := y11) rfl f11 _).2, hG, lG⟩
  have c2 : decide (([Rs.slot 10]).length = 1) = true := rfl
  have ui : useIm [false] (E S p y2 y3 y4 y5 y6 y7 y8 y9 (.lo (.nd .lst (rows.map enc))) y11) [.slot 10] = .ok (E S p y2 y3 y4 y5 y6 y7 y8 y9 (.im (.nd .lst (rows.map enc))) y11, [.im (.nd .lst (rows.map enc))]) := rfl
  unfold eCallN
  rw [cons_ok (ρ1 := E S p y2 y3 y4 y5 y6 y7 y8 y9 (.lo (.nd .lst (rows.map enc))) y11) (r := .slot 10) rfl (show aNil _ = .ok (_, []) from rfl)]
  simp only [Rz.ok_bind]
  rw [if_pos c2]
  unfold callBy
  rw [ui]
  simp only [Rz.ok_bind]
  rw [show fillPa [false] (E S p y2 y3 y4 y5 y6 y7 y8 y9 (.im (.nd .lst (rows.map enc))) y11) [.slot 10] [.im (.nd .lst (rows.map enc))] = some [.im (.nd .lst (rows.map enc))] from rfl]
  simp only [Rz.ofO_some, Rz.ok_bind]
  rw [if_pos (by rfl), e]
  rfl
end
end Fx.K04

set_option Elab.async false
set_option linter.all false
set_option maxRecDepth 100000
set_option maxHeartbeats 4000000
namespace Fx.K04
open PySem L2
theorem or_ff' {a b : Env → Rz (Env × Bool)} {ρ ρ1 ρ2 : Env} (ha : a ρ = .ok (ρ1, false)) (hb : b ρ1 = .ok (ρ2, false)) : tOr a b ρ = .ok (ρ2, false) := by
  unfold tOr
  rw [ha]
  exact hb
theorem callK' {F : Env → Rz (Env × Rs)} {a : Env → Rz (Env × Rs)} {ρ ρ1 : Env} {x : Rs} {d e : D} {y : Sl} (ha : a ρ = .ok (ρ1, x)) (hu : use ρ1 x = .ok (ρ1, d)) (hF : F [.im d] = .ok ([y], .im e)) : eCallK 1 1 [0] F [false] (aCons a aNil) ρ = .ok (ρ1, .im e) := by
  have c := call_y ha hu hF
  have same : eCallK 1 1 [0] F [false] (aCons a aNil) ρ = eCallN 1 F [false] (aCons a aNil) ρ := by
    unfold eCallK eCallN
    rw [cons_ok ha (show aNil ρ1 = .ok (ρ1, []) from rfl)]
    rfl
  rw [same]
  exact c
theorem seq_it {v : Env → Rz (Env × D)} {ρ ρ1 : Env} {k : Kd} {ds : List D} (hk : k = .lst ∨ k = .tup) (h : v ρ = .ok (ρ1, .nd k ds)) : iSeq v ρ = .ok (ρ1, ds) := by
  unfold iSeq
  rw [h]
  rcases hk with rfl | rfl <;> rfl
section
variable {S p : D} {y2 y3 y4 y5 y6 y7 y8 y9 y10 y11 : Sl} {r : Row}
theorem t_if3 {rows G : List Row} (hR : ∀ q ∈ rows, Lv 4 2 q) (hl : rows.length ≤ 8) (hG : Least Row.lparts rows G) (lG : ∀ q ∈ G, Lv 4 2 q) :
    gIf (tOr (t2 dNe (hH (eB dSorted (aCons (hH (eLc [12] (iSeq (vU (eCallN 1 (fun a => noX (m_within a)) [false] (aCons (rN 10) aNil)))) (tgN 12) tYes (vU (eB dRepr (aCons (rN 12) aNil))))) aNil))) (hH (eB dSorted (aCons (hH (eLc [12] (iSeq (vN 11)) (tgN 12) tYes (vU (eB dRepr (aCons (rN 12) aNil))))) aNil)))) (tOr (t2 dNe (hH (eCallK 1 1 [0] (fun a => noX (m_within a)) [false] (aCons (hH (eB dTuple (aCons (rN 10) aNil))) aNil))) (hH (eCallN 1 (fun a => noX (m_within a)) [false] (aCons (rN 10) aNil)))) (t2 dNe (hH (eCallN 1 (fun a => noX (m_within a)) [false] (aCons (hH (eLst aNil)) aNil))) (hV (vTup aNil))))) (gRet (hV (vC (.bl false)))) gNext
      (E S p y2 y3 y4 y5 y6 y7 y8 y9 (.im (.nd .lst (rows.map enc))) (.lo (.nd .lst (G.map enc)))) = .ok (E S p y2 y3 y4 y5 y6 y7 y8 y9 (.im (.nd .lst (rows.map enc))) (.im (.nd .lst (G.map enc))), .nx) := by
  obtain ⟨F, hw, hF, lenF, lF⟩ := within_wl hR hl
  obtain ⟨e, oF, oG, ne, lenG⟩ := texts_same hF hG lF lG
  have w1 := within_run .lst (.inl rfl) hw (by simpa using lenF)
  have w2 := within_run .tup (.inr rfl) hw (by simpa using lenF)
  have wc : ∀ y : Sl, eCallN 1 (fun a => noX (m_within a)) [false] (aCons (rN 10) aNil) (E S p y2 y3 y4 y5 y6 y7 y8 y9 (.im (.nd .lst (rows.map enc))) y) = .ok (E S p y2 y3 y4 y5 y6 y7 y8 y9 (.im (.nd .lst (rows.map enc))) y, .im (.nd .tup (F.map enc))) := fun y => call_y (rN_at (i := 10) rfl) rfl w1
  have c1 := texts_at (F := F) (it := iSeq (vU (eCallN 1 (fun a => noX (m_within a)) [false] (aCons (rN 10) aNil)))) (ρ0 := E S p y2 y3 y4 y5 y6 y7 y8 y9 (.im (.nd .lst (rows.map enc))) (.lo (.nd .lst (G.map enc)))) (ρ := E S p y2 y3 y4 y5 y6 y7 y8 y9 (.im (.nd .lst (rows.map enc))) (.lo (.nd .lst (G.map enc)))) (seq_it (.inr rfl) (vU_im (wc _))) rfl lF lenF
  have c2 := texts_at (F := G) (it := iSeq (vN 11)) (ρ0 := E S p y2 y3 y4 y5 y6 y7 y8 y9 (.im (.nd .lst (rows.map enc))) (.lo (.nd .lst (G.map enc)))) (ρ := E S p y2 y3 y4 y5 y6 y7 y8 y9 (.im (.nd .lst (rows.map enc))) (.im (.nd .lst (G.map enc)))) rfl rfl lG (by omega)
  have so : ∀ xs : List D, sortOk xs = true → dSorted [.nd .lst xs] = some (.nw (.nd .lst (sortD xs))) := fun xs h => by
    show (if sortOk xs = true then some (Rs.nw (.nd .lst (sortD xs))) else none) = _
    rw [if_pos h]
  have s1 := hH_nw (blt_ok (F := dSorted) (cons_ok (hH_nw c1) (show aNil _ = .ok (_, []) from rfl)) (ds := [.nd .lst (F.map shownD)]) rfl (so _ oF))
  have s2 := hH_nw (blt_ok (F := dSorted) (cons_ok (hH_nw c2) (show aNil _ = .ok (_, []) from rfl)) (ds := [.nd .lst (G.map shownD)]) rfl (so _ oG))
  have gF : Good (.nd .tup (F.map enc)) := good_tup fun x hx => by
    obtain ⟨q, hq, rfl⟩ := List.mem_map.mp hx
    have := (lF q hq).good (by decide)
    exact ⟨this.1, by have := this.2; omega⟩
  have k1 : eCallK 1 1 [0] (fun a => noX (m_within a)) [false] (aCons (hH (eB dTuple (aCons (rN 10) aNil))) aNil) (E S p y2 y3 y4 y5 y6 y7 y8 y9 (.im (.nd .lst (rows.map enc))) (.im (.nd .lst (G.map enc)))) = .ok (E S p y2 y3 y4 y5 y6 y7 y8 y9 (.im (.nd .lst (rows.map enc))) (.im (.nd .lst (G.map enc))), .im (.nd .tup (F.map enc))) :=
    callK' (hH_im (blt_ok (q := [.slot 10]) (ds := [.nd .lst (rows.map enc)]) (z := .im (.nd .tup (rows.map enc))) rfl rfl rfl)) rfl w2
  have n0 : dNe (.nd .tup []) (.nd .tup []) = some false := rfl
  exact (if_f (or_ff' (tst_ok s1 s2 rfl rfl ne) (or_ff' (tst_ok (hH_im k1) (hH_im (wc _)) rfl rfl (dNe_self gF.fit gF.nob)) (tst_ok (hH_im (call_y (hH_nw (lst_ok (q := []) (ds := []) rfl rfl (by simp))) rfl within_nil)) (hV_ok (tup_ok (q := []) (ds := []) rfl rfl (by simp))) rfl rfl n0)))).trans rfl
end
end Fx.K04

set_option Elab.async false
set_option linter.all false
set_option maxRecDepth 100000
set_option maxHeartbeats 4000000
namespace Fx.K04
open PySem L2
abbrev lawTurn : Env → Rz (Env × Fl) := (gSeq (gSet 3 (eCallN 3 (fun a => noX (m__law_a_row 30 a)) [true, false, false] (aCons (rN 1) (aCons (hC (.int 4)) (aCons (hC (.int 2)) aNil)))))
    (gSeq (gPar [4, 5] (qCons (eCallN 1 (fun a => noX (m__law_base 30 a)) [false] (aCons (rN 3) aNil)) (qCons (eCallN 1 (fun a => noX (m__law_passed 30 a)) [false] (aCons (rN 3) aNil)) aNil)))
    (gSeq (gSet 6 (eCallN 1 (fun a => noX (m__law_name a)) [false] (aCons (rN 3) aNil)))
    (gSeq (gSet 7 (eLst (aCons (hH (eCallN 1 (fun a => noX (m_head_of a)) [false] (aCons (rN 3) aNil))) (aCons (hH (eCallN 1 (fun a => noX (m_base_of a)) [false] (aCons (rN 3) aNil))) (aCons (hH (eCallN 1 (fun a => noX (m_number_of a)) [false] (aCons (rN 4) aNil))) (aCons (hH (eCallN 1 (fun a => noX (m_name_of a)) [false] (aCons (rN 3) aNil))) (aCons (hH (eCallN 1 (fun a => noX (m_sides_of a)) [false] (aCons (rN 3) aNil))) (aCons (hH (eCallN 1 (fun a => noX (m_way_of a)) [false] (aCons (rN 3) aNil))) (aCons (hH (eCallN 1 (fun a => noX (m_place_of a)) [false] (aCons (rN 3) aNil))) (aCons (hH (eCallN 1 (fun a => noX (m_time_of a)) [false] (aCons (rN 3) aNil))) aNil))))))))))
    (gSeq (gSet 8 (eLst (aCons (hV (v2 dIx (rN 3) (hC (.int 1)))) (aCons (rN 4) (aCons (hV (v2 dIx (rN 6) (hC (.int 1)))) (aCons (rN 6) (aCons (hH (eCallN 1 (fun a => noX (m__law_sides 30 a)) [false] (aCons (rN 3) aNil))) (aCons (hV (vTup (aCons (hV (v2 dIx (rN 4) (hC (.int 1)))) (aCons (hH (eCallN 1 (fun a => noX (m__law_sides 30 a)) [false] (aCons (rN 3) aNil))) aNil)))) (aCons (hV (vTup (aCons (hV (v2 dIx (rN 3) (hC (.int 1)))) (aCons (rN 6) aNil)))) (aCons (hV (vIf (t2 dEq (hV (v2 dIx (rN 4) (hC (.int 0)))) (hC (.str "row"))) (v2 dIx (rN 4) (hC (.int 3))) (vC .non))) aNil))))))))))
    (gSeq (gIf (tOr (t2 dNe (hH (eB dRepr (aCons (rN 7) aNil))) (hH (eB dRepr (aCons (rN 8) aNil)))) (t2 dNe (hH (eB dRepr (aCons (hH (eLst (aCons (hH (eCallK 1 1 [0] (fun a => noX (m_name_of a)) [false] (aCons (rN 3) aNil))) (aCons (hH (eCallK 1 1 [0] (fun a => noX (m_head_of a)) [false] (aCons (rN 3) aNil))) (aCons (hH (eCallK 1 1 [0] (fun a => noX (m_time_of a)) [false] (aCons (rN 3) aNil))) aNil))))) aNil))) (hH (eB dRepr (aCons (hH (eLst (aCons (rN 6) (aCons (hV (v2 dIx (rN 3) (hC (.int 1)))) (aCons (hV (v2 dIx (rN 8) (hV (v1 dNeg (hC (.int 1)))))) aNil))))) aNil))))) (gRet (hV (vC (.bl false)))) gNext)
    (gSeq (gSet 9 (eB dTuple (aCons (hH (eLc [12] (iSeq (vN 5)) (tgN 12) (t2 dEq (hV (v2 dIx (rN 12) (hC (.int 0)))) (hC (.str "stamp"))) (vTup (aCons (hV (v2 dIx (rN 12) (hC (.int 1)))) (aCons (hH (eCallN 1 (fun a => noX (m__law_name a)) [false] (aCons (rN 12) aNil))) (aCons (hV (v2 dIx (rN 12) (hC (.int 3)))) aNil)))))) aNil)))
    (gSeq (gIf (tOr (t2 dNe (hH (eB dRepr (aCons (hH (eCallN 1 (fun a => noX (m_stamped a)) [false] (aCons (rN 3) aNil))) aNil))) (hH (eB dRepr (aCons (rN 9) aNil)))) (tOr (t2 dNe (hH (eB dRepr (aCons (hH (eCallN 1 (fun a => noX (m_passed a)) [false] (aCons (rN 3) aNil))) aNil))) (hH (eB dRepr (aCons (hH (eB dTuple (aCons (hH (eLc [12] (iSeq (vN 5)) (tgN 12) tYes (v2 dIx (rN 12) (hC (.int 1))))) aNil))) aNil)))) (t2 dNe (hH (eCallK 1 1 [0] (fun a => noX (m_stamped a)) [false] (aCons (rN 3) aNil))) (rN 9)))) (gRet (hV (vC (.bl false)))) gNext)
    (gSeq (gSet 10 (e2 dAdd (hH (e2 dAdd (hH (eLst (aCons (rN 3) aNil))) (hH (eLc [13] (iRng dRng1 (aCons (hH (eCallN 2 (fun a => noX (m__law_draw a)) [true, false] (aCons (rN 1) (aCons (hC (.int 3)) aNil)))) aNil)) (tgN 13) tYes (vU (eCallN 3 (fun a => noX (m__law_a_row 30 a)) [true, false, false] (aCons (rN 1) (aCons (hC (.int 3)) (aCons (hC (.int 2)) aNil))))))))) (hH (eLst (aCons (rN 3) aNil)))))
    (gSeq (gSet 11 (eCallN 1 (fun a => noX (m__law_within a)) [false] (aCons (rN 10) aNil)))
    (gIf (tOr (t2 dNe (hH (eB dSorted (aCons (hH (eLc [12] (iSeq (vU (eCallN 1 (fun a => noX (m_within a)) [false] (aCons (rN 10) aNil)))) (tgN 12) tYes (vU (eB dRepr (aCons (rN 12) aNil))))) aNil))) (hH (eB dSorted (aCons (hH (eLc [12] (iSeq (vN 11)) (tgN 12) tYes (vU (eB dRepr (aCons (rN 12) aNil))))) aNil)))) (tOr (t2 dNe (hH (eCallK 1 1 [0] (fun a => noX (m_within a)) [false] (aCons (hH (eB dTuple (aCons (rN 10) aNil))) aNil))) (hH (eCallN 1 (fun a => noX (m_within a)) [false] (aCons (rN 10) aNil)))) (t2 dNe (hH (eCallN 1 (fun a => noX (m_within a)) [false] (aCons (hH (eLst aNil)) aNil))) (hV (vTup aNil))))) (gRet (hV (vC (.bl false)))) gNext)))))))))))
structure Frees (y2 y3 y4 y5 y6 y7 y8 y9 y10 y11 : Sl) : Prop where
  f2 : Free y2
  f3 : Free y3
  f4 : Free y4
  f5 : Free y5
  f6 : Free y6
  f7 : Free y7
  f8 : Free y8
  f9 : Free y9
  f10 : Free y10
  f11 : Free y11
theorem turn_at {S p : D} {n : Nat} {y2 y3 y4 y5 y6 y7 y8 y9 y10 y11 : Sl} (f : Frees y2 y3 y4 y5 y6 y7 y8 y9 y10 y11) (h : Pen n p) (hn : n + 800 ≤ 1000000) : ∃ p' z3 z4 z5 z6 z7 z8 z9 z10 z11, lawTurn (E S p y2 y3 y4 y5 y6 y7 y8 y9 y10 y11) = .ok (E S p' y2 z3 z4 z5 z6 z7 z8 z9 z10 z11, .nx) ∧ Frees y2 z3 z4 z5 z6 z7 z8 z9 z10 z11 ∧ Pen (n + 600) p' := by
  obtain ⟨p1, r, e3, hr, hp1⟩ := t_row (S := S) (y2 := y2) (y4 := y4) (y5 := y5) (y6 := y6) (y7 := y7) (y8 := y8) (y9 := y9) (y10 := y10) (y11 := y11) h (by omega) f.f3
  obtain ⟨p2, rows, e10, hR, hl, hp2⟩ := t_some (S := S) (y2 := y2) (y4 := .im (enc r.base)) (y5 := .im (.nd .lst (r.passed.map enc))) (y6 := .im (nameD r)) (y7 := .lo (.nd .lst (toldD r))) (y8 := .lo (.nd .lst (toldD r))) (y9 := .im (.nd .tup (r.stamps.map stampD))) (y11 := y11) hp1 (by omega) hr f.f10
  obtain ⟨G, e11, hG, lG⟩ := t_all (S := S) (p := p2) (y2 := y2) (y3 := .im (enc r)) (y4 := .im (enc r.base)) (y5 := .im (.nd .lst (r.passed.map enc))) (y6 := .im (nameD r)) (y7 := .lo (.nd .lst (toldD r))) (y8 := .lo (.nd .lst (toldD r))) (y9 := .im (.nd .tup (r.stamps.map stampD))) hR hl f.f11
  refine ⟨p2, _, _, _, _, _, _, _, _, _, (seq_nx e3).trans ((seq_nx (t_par hr f.f4 f.f5)).trans ((seq_nx (t_name hr f.f6)).trans ((seq_nx (t_told hr f.f7)).trans ((seq_nx (t_due hr f.f8)).trans ((seq_nx (t_if1 hr)).trans ((seq_nx (t_stamps hr f.f9)).trans ((seq_nx (t_if2 hr)).trans ((seq_nx e10).trans ((seq_nx e11).trans (t_if3 hR hl hG lG)))))))))), ⟨f.f2, free_im _, free_im _, free_im _, free_im _, free_lo _, free_lo _, free_im _, free_im _, free_im _⟩, hp2.up (by omega)⟩
theorem turns_go {S : D} : ∀ (ds : List D) (p : D) (n : Nat) (y2 y3 y4 y5 y6 y7 y8 y9 y10 y11 : Sl), Frees y2 y3 y4 y5 y6 y7 y8 y9 y10 y11 → Pen n p → n + ds.length * 600 + 800 ≤ 1000000 → ∃ p' z2 z3 z4 z5 z6 z7 z8 z9 z10 z11, gForL (tgN 2) lawTurn ds (E S p y2 y3 y4 y5 y6 y7 y8 y9 y10 y11) = .ok (E S p' z2 z3 z4 z5 z6 z7 z8 z9 z10 z11, .nx)
  | [], p, n, y2, y3, y4, y5, y6, y7, y8, y9, y10, y11, f, h, hn => ⟨p, y2, y3, y4, y5, y6, y7, y8, y9, y10, y11, rfl⟩
  | d :: ds, p, n, y2, y3, y4, y5, y6, y7, y8, y9, y10, y11, f, h, hn => by
    rw [List.length_cons, Nat.succ_mul] at hn
    obtain ⟨p1, z3, z4, z5, z6, z7, z8, z9, z10, z11, e, f', hp⟩ := turn_at (S := S) (y2 := .im d) ⟨free_im _, f.f3, f.f4, f.f5, f.f6, f.f7, f.f8, f.f9, f.f10, f.f11⟩ h (by omega)
    obtain ⟨p2, w2, w3, w4, w5, w6, w7, w8, w9, w10, w11, e2⟩ := turns_go ds p1 (n + 600) _ _ _ _ _ _ _ _ _ _ f' hp (by omega)
    refine ⟨p2, w2, w3, w4, w5, w6, w7, w8, w9, w10, w11, ?_⟩
    show ((tgN 2 d (E S p y2 y3 y4 y5 y6 y7 y8 y9 y10 y11)).bind _) = _
    rw [show tgN 2 d (E S p y2 y3 y4 y5 y6 y7 y8 y9 y10 y11) = .ok (E S p (.im d) y3 y4 y5 y6 y7 y8 y9 y10 y11) from (put_free (x := y2) rfl f.f2 d).1]
    show ((lawTurn (E S p (.im d) y3 y4 y5 y6 y7 y8 y9 y10 y11)).bind _) = _
    rw [e]
    exact e2
theorem pen_at (ns : List Int) : noX (m__law_pen [.im (.nd .scr (ns.map D.int))]) = .ok ([.im (.nd .scr (ns.map D.int))], .nw (penD (ns.take 63) 0 0)) := by
  refine run_rt (ρ' := [.im (.nd .scr (ns.map D.int))]) (r := .nw (penD (ns.take 63) 0 0)) (ret_ok ?_) rfl rfl
  have sl : eSl (rN 0) oNone (oSome (vC (.int 63))) [.im (.nd .scr (ns.map D.int))] = .ok ([.im (.nd .scr (ns.map D.int))], .nw (.nd .lst ((ns.take 63).map D.int))) :=
    sl_ok rfl rfl (som_ok rfl) rfl (by show some (Rs.nw (.nd .lst (cutA (ns.map D.int) none (some ((63 : Nat) : Int))))) = _; rw [cut_take, List.map_take])
  exact lst_ok (q := [.im (.nd .lst ((ns.take 63).map D.int)), .im (.int 0), .im (.int 0)]) (ds := [.nd .lst ((ns.take 63).map D.int), .int 0, .int 0]) (cons_ok (hH_nw (blt_ok (q := [.im (.nd .lst ((ns.take 63).map D.int))]) (ds := [.nd .lst ((ns.take 63).map D.int)]) (z := .nw (.nd .lst ((ns.take 63).map D.int))) (cons_ok (hH_nw sl) rfl) rfl rfl)) rfl) rfl (by simp)
theorem law_true (ns : List Int) (hl : ns.length ≤ 63) (bits : ∀ z ∈ ns, Builtin.Int.intBits z ≤ 1048576) : ∃ o, noX (m_law [.im (.nd .scr (ns.map D.int))]) = .ok (o, .im (.bl true)) := by
  have f0 : Frees .no .no .no .no .no .no .no .no .no .no := ⟨free_no, free_no, free_no, free_no, free_no, free_no, free_no, free_no, free_no, free_no⟩
  obtain ⟨p', z2, z3, z4, z5, z6, z7, z8, z9, z10, z11, e⟩ := turns_go (S := .nd .scr (ns.map D.int)) (intsD 0 12) (penD (ns.take 63) 0 0) 0 .no .no .no .no .no .no .no .no .no .no f0 ⟨ns.take 63, 0, 0, rfl, by omega, by omega, by omega⟩ (by simp [intsD])
  have s1 : gSet 1 (eCallN 1 (fun a => noX (m__law_pen a)) [false] (aCons (rN 0) aNil)) ([.im (.nd .scr (ns.map D.int))] ++ List.replicate 13 .no) = .ok (E (.nd .scr (ns.map D.int)) (penD (ns.take 63) 0 0) .no .no .no .no .no .no .no .no .no .no, .nx) :=
    set_ok (call_y (rN_at (i := 0) rfl) rfl (pen_at ns)) rfl
  exact ⟨_, run_rt (n := 14) (body := g_law) (ρ' := E (.nd .scr (ns.map D.int)) p' z2 z3 z4 z5 z6 z7 z8 z9 z10 z11) (r := .im (.bl true)) ((seq_nx s1).trans ((seq_nx (for_ok (rng_at (q := [.im (.int ((12 : Nat) : Int))]) (ds := [.int ((12 : Nat) : Int)]) rfl rfl (rng1 (by decide))) e)).trans (ret_ok rfl))) rfl rfl⟩
end Fx.K04

set_option Elab.async false
set_option linter.all false
set_option maxRecDepth 100000
set_option maxHeartbeats 4000000
namespace Fx.K04
open PySem L2
/-- the row's walk -/
theorem walk {l : PySem.W.OpenLaw} {q : Program} {loose : List Str} {XP : (Str → Option Value) → Heap → Prop} {YP : World → Heap → Prop} {d : DefRec} {K : Params → PySem.W.Frag} (hn : l.most = some 63) (hdf : d.params.defaults = []) (hd : d.name = "law")
    (hY : ∀ (w : World) (h : Heap), YP w h → (K w.params).In h) (F : ∀ (w : World) (mg : Str → Option Value) (h : Heap), (K w.params).In h → h.Ns mainGlobals mg → Mods (K w.params) mg) :
    PySem.W.WalkO q loose XP YP l.row.toRowW d [] (fun f vs => PySem.call f vs) := by
  refine walkG (n := 63) (k := 33) (x := "script") (sp := fun w mg => spN 1 ⟨K w.params, mg⟩ fun a => noX (m_law a)) hn (by decide) hdf ⟨rfl, by decide, by decide⟩ hY (fun w mg fa h KX G hmg => ?_) fun w mg H a ns hl bits S => ?_
  · have m := F w mg h KX G
    obtain ⟨f, fd, hm, FF, _⟩ := m.d_law.ex
    rw [hd, hm] at hmg
    cases hmg
    refine ⟨fd, fun s u => ?_, fun base _ _ => ?_⟩
    · obtain ⟨oc, od, kV, doc, pm, an, cdv, ct, osl, rfl, _, _⟩ := FF.ex
      exact .of_eq rfl
    · obtain ⟨⟨f2, fd2, F2, hm2, FF2, _⟩, _⟩ := d_all (P := l.prog) (w := w) (base := base) m
      rw [hm] at hm2
      cases hm2
      obtain ⟨_, _, _, _, _, _, _, _, _, e1, l1, _⟩ := FF.ex
      obtain ⟨_, _, _, _, _, _, _, _, _, e2, l2, _⟩ := FF2.ex
      have : fd2 = fd := by
        rw [l1] at l2
        injection l2 with l2
        injection l2 with _ _ l2 _
        injection l2 with l2
        exact l2.symm
      subst this
      exact F2
  · obtain ⟨o, h⟩ := law_true ns hl bits
    exact spN_true S h
end Fx.K04
open PySem PySem.W PyProof.Rows
set_option maxRecDepth 100000 in
set_option maxHeartbeats 0 in
theorem PySem.Challenge.cw_asonerun_k04_rows_by_own_walks_holds : PySem.Challenge.rw_asonerun_k04_rows_by_own_walks.Holds := by
  w_on; o_law; k_head; (case hw => w_witness2)
  k_fill
  refine Fx.K04.walk (l := PySem.Challenge.rw_asonerun_k04_rows_by_own_walks) rfl rfl rfl (fun w h Y => PySem.W.kIn_of Y) ?F
  case F =>
    intro w mg h KX G
    refine' Fx.K04.mods_mk KX G ?a1 ?a2 ?a3 ?a4 ?a5 ?a6 ?l6 ?a7 ?a8 ?l8 ?c8 ?k8 ?a9 ?l9 ?c9 ?k9 ?a10 ?l10 ?c10 ?k10 ?a11 ?l11 ?c11 ?k11 ?a12 ?l12 ?c12 ?k12 ?a13 ?l13 ?c13 ?k13 ?a14 ?l14 ?c14 ?k14 ?a15 ?l15 ?c15 ?k15 ?a16 ?l16 ?c16 ?k16 ?a17 ?l17 ?c17 ?k17 ?a18 ?l18 ?c18 ?k18 ?a19 ?l19 ?c19 ?k19 ?a20 ?l20 ?c20 ?k20 ?a21 ?l21 ?c21 ?k21 ?a22 ?l22 ?c22 ?k22 ?a23 ?l23 ?c23 ?k23 ?a24 ?l24 ?c24 ?k24 ?a25 ?l25 ?c25 ?k25 ?a26 ?l26 ?c26 ?k26 ?a27 ?l27 ?c27 ?k27 ?a28 ?l28 ?c28 ?k28 ?a29 ?l29 ?c29 ?k29 ?a30 ?l30 ?c30 ?k30 ?z31 ?z32 ?z33 ?z34 ?z35 ?z36 ?z37 ?z38
    (case a1 => k_is)
    (case a2 => k_is)
    (case a3 => k_is)
    (case a4 => k_is)
    (case a5 => k_is)
    (case a6 => k_is)
    (case l6 => k_is)
    (case a7 => k_is)
    (case a8 => k_is)
    (case l8 => k_is)
    (case c8 => k_is)
    (case k8 => k_is)
    (case a9 => k_is)
    (case l9 => k_is)
    (case c9 => k_is)
    (case k9 => k_is)
    (case a10 => k_is)
    (case l10 => k_is)
    (case c10 => k_is)
    (case k10 => k_is)
    (case a11 => k_is)
    (case l11 => k_is)
    (case c11 => k_is)
    (case k11 => k_is)
    (case a12 => k_is)
    (case l12 => k_is)
    (case c12 => k_is)
    (case k12 => k_is)
    (case a13 => k_is)
    (case l13 => k_is)
    (case c13 => k_is)
    (case k13 => k_is)
    (case a14 => k_is)
    (case l14 => k_is)
    (case c14 => k_is)
    (case k14 => k_is)
    (case a15 => k_is)
    (case l15 => k_is)
    (case c15 => k_is)
    (case k15 => k_is)
    (case a16 => k_is)
    (case l16 => k_is)
    (case c16 => k_is)
    (case k16 => k_is)
    (case a17 => k_is)
    (case l17 => k_is)
    (case c17 => k_is)
    (case k17 => k_is)
    (case a18 => k_is)
    (case l18 => k_is)
    (case c18 => k_is)
    (case k18 => k_is)
    (case a19 => k_is)
    (case l19 => k_is)
    (case c19 => k_is)
    (case k19 => k_is)
    (case a20 => k_is)
    (case l20 => k_is)
    (case c20 => k_is)
    (case k20 => k_is)
    (case a21 => k_is)
    (case l21 => k_is)
    (case c21 => k_is)
    (case k21 => k_is)
    (case a22 => k_is)
    (case l22 => k_is)
    (case c22 => k_is)
    (case k22 => k_is)
    (case a23 => k_is)
    (case l23 => k_is)
    (case c23 => k_is)
    (case k23 => k_is)
    (case a24 => k_is)
    (case l24 => k_is)
    (case c24 => k_is)
    (case k24 => k_is)
    (case a25 => k_is)
    (case l25 => k_is)
    (case c25 => k_is)
    (case k25 => k_is)
    (case a26 => k_is)
    (case l26 => k_is)
    (case c26 => k_is)
    (case k26 => k_is)
    (case a27 => k_is)
    (case l27 => k_is)
    (case c27 => k_is)
    (case k27 => k_is)
    (case a28 => k_is)
    (case l28 => k_is)
    (case c28 => k_is)
    (case k28 => k_is)
    (case a29 => k_is)
    (case l29 => k_is)
    (case c29 => k_is)
    (case k29 => k_is)
    (case a30 => k_is)
    (case l30 => k_is)
    (case c30 => k_is)
    (case k30 => k_is)
    (case z31 => k_is)
    (case z32 => k_is)
    (case z33 => k_is)
    (case z34 => k_is)
    (case z35 => k_is)
    (case z36 => k_is)
    (case z37 => k_is)
    (case z38 => k_is)
