import PyProof.Rows.All
import Wide.All
import OpenK.AllK
import Wide.FinOn
import HandS.ForMost
import HandS.ForExc
import HandS.Lambda
import HandS.Deep
import HandS.TupAny
import HandS.Style
import HandS.SetIn
import KE.SortData
import PyProof.ReprRoads
import HandS.Star
import KE.KDictKeyed
import HandS.DictTup
import HandS.EndBits
import PyProof.FitsInt
import PyProof.StrLaws
import KE.SortLaws
import KE.LtData
import HandS.ExcInit
import KE.KExcSuper
import HandS.CallSlots
import HandS.IsInst
import HandS.ExcIs
import KE.KExcIs
import PyProof.Rows.FactsN_isinstance
import HandS.Zip
import KE.GoesMore
import HandS.DictComp
import HandS.Strs
import PyProof.StrOps2
import HandS.SetFor
import HandS.Sort
import HandS.ExcValue
import HandS.ExcField
import KE.KLam
import HandS.Exc
import HandS.ExcOwn
import HandS.Iter
import KE.KDictZip
import PyProof.ListNew
import HandS.EndTab
import HandS.EndOwn
import KE.KNestM
import PySem.Challenge.RW_asonerun_k03_greatest_plans
set_option Elab.async false
set_option linter.all false
set_option maxRecDepth 100000
set_option maxHeartbeats 4000000
/-! Fx: values as trees, environments of slots, what a state bears. -/
namespace Fx
open PySem L2

/-- the kinds of nodes: tuples, lists, dicts (their keys), instances (class name, attribute names) -/
inductive Kd where
  | tup | lst | scr | dct (ks : List Key) | obj (c : Str) (fs : List Str) | exn (c : Str) (fs : List Str) | tupN | dcx (xs : List DictEntry)
/-- data -/
inductive D where
  | non | bl (b : Bool) | int (i : Int) | str (x : Str) | ob (a : Addr) | nd (k : Kd) (xs : List D)
instance : Inhabited D := ⟨.non⟩

/-- at a a dict with keys that are nested tuples: the entries as they lie -/
def dcxRaw (a : Addr) (xs : List DictEntry) (h : Heap) : Prop := (a == sysModules) = false ∧ ∃ o es ep, h.get? a = some o ∧ o.ExactDict ∧ o.data = .dict es ep ∧ es.toList = xs
/-- at a an exception of the class at C, its dict at dd -/
def exnAt (a C dd : Addr) (h : Heap) : Prop := ∃ (oe : Obj) (vs : Array Value), h.get? a = some oe ∧ Zc (.ref C) (some dd) oe ∧ oe.data = .fields vs
/-- the module: its written part, its names -/
structure Md where
  K : PySem.W.Frag
  mg : Str → Option Value
abbrev Cx.md (X : L2.Cx) : Md := ⟨X.K, X.mg⟩

mutual
/-- in the (frozen) heap G the value v is the data d -/
inductive Has (M : Md) (G : Hp) : D → V → Prop
  | non : Has M G .non .non
  | bl (b : Bool) : Has M G (.bl b) (.bl b)
  | int (i : Int) : Has M G (.int i) (.int i)
  | str (x : Str) : Has M G (.str x) (.str x)
  | ob (a : Addr) : Has M G (.ob a) (.ref a)
  | tup {a : Addr} {vs : List V} {ds : List D} : SqT M.K G a vs → HasAll M G ds vs → Has M G (.nd .tup ds) (.ref a)
  | lst {a : Addr} {vs : List V} {ds : List D} : G a = some (.lst vs) → HasAll M G ds vs → Has M G (.nd .lst ds) (.ref a)
  | scr {a : Addr} {vs : List V} {ds : List D} : SqL M.K G a vs → HasAll M G ds vs → Has M G (.nd .scr ds) (.ref a)
  | dct {a : Addr} {kvs : List (Key × V)} {ds : List D} : G a = some (.dK kvs) → HasAll M G ds (kvs.map (·.2)) → Has M G (.nd (.dct (kvs.map (·.1))) ds) (.ref a)
  | obj {a C dx : Addr} {c : Str} {fs : List (Str × V)} {ds : List D} : M.mg c = some (.ref C) → G a = some (.ins C dx fs) → HasAll M G ds (fs.map (·.2)) → Has M G (.nd (.obj c (fs.map (·.1))) ds) (.ref a)
  | exn {a dd C : Addr} {c : Str} {fs : List (Str × V)} {ds : List D} : M.mg c = some (.ref C) → G a = some (.ext (exnAt a C dd)) → G dd = some (.xd fs) → HasAll M G ds (fs.map (·.2)) → Has M G (.nd (.exn c (fs.map (·.1))) ds) (.ref a)
  | tupN {a : Addr} {o : Obj} {vs : List V} {ds : List D} : G a = some (.frz o (.tup vs)) → o.dict = none → HasAll M G ds vs → Has M G (.nd .tupN ds) (.ref a)
  | dcx {a : Addr} {xs : List DictEntry} {ds : List D} : G a = some (.ext (dcxRaw a xs)) → Has M G (.nd (.dcx xs) ds) (.ref a)
inductive HasAll (M : Md) (G : Hp) : List D → List V → Prop
  | nil : HasAll M G [] []
  | cons {d : D} {ds : List D} {v : V} {vs : List V} : Has M G d v → HasAll M G ds vs → HasAll M G (d :: ds) (v :: vs)
end

theorem SqT.same {K : PySem.W.Frag} {G G' : Hp} {a : Addr} {xs : List V} (e : Same G G') (h : SqT K G a xs) : SqT K G' a xs := by
  rcases h with (h | ⟨o, h⟩) | h
  · exact .inl (.inl (e _ _ h))
  · exact .inl (.inr ⟨o, e _ _ h⟩)
  · exact .inr h
mutual
theorem Has.same {M : Md} {G G' : Hp} (e : Same G G') : ∀ {d : D} {v : V}, Has M G d v → Has M G' d v
  | _, _, .non => .non
  | _, _, .bl b => .bl b
  | _, _, .int i => .int i
  | _, _, .str x => .str x
  | _, _, .ob a => .ob a
  | _, _, .tup h t => .tup (SqT.same e h) (HasAll.same e t)
  | _, _, .lst h t => .lst (e _ _ h) (HasAll.same e t)
  | _, _, .scr h t => .scr (Same.seq e h) (HasAll.same e t)
  | _, _, .dct h t => .dct (e _ _ h) (HasAll.same e t)
  | _, _, .obj g h t => .obj g (e _ _ h) (HasAll.same e t)
  | _, _, .exn g h h2 t => .exn g (e _ _ h) (e _ _ h2) (HasAll.same e t)
  | _, _, .tupN h n t => .tupN (e _ _ h) n (HasAll.same e t)
  | _, _, .dcx h => .dcx (e _ _ h)
theorem HasAll.same {M : Md} {G G' : Hp} (e : Same G G') : ∀ {ds : List D} {vs : List V}, HasAll M G ds vs → HasAll M G' ds vs
  | _, _, .nil => .nil
  | _, _, .cons h t => .cons (Has.same e h) (HasAll.same e t)
end
section
variable {M : Md} {G : Hp}
theorem HasAll.length : ∀ {ds : List D} {vs : List V}, HasAll M G ds vs → ds.length = vs.length
  | _, _, .nil => rfl
  | _, _, .cons _ t => congrArg (· + 1) t.length
theorem HasAll.get : ∀ {ds : List D} {vs : List V} {i : Nat} {d : D}, HasAll M G ds vs → ds[i]? = some d → ∃ v, vs[i]? = some v ∧ Has M G d v
  | _, _, _, _, .nil, e => by simp at e
  | _, _, 0, _, .cons h _, e => by simp at e; subst e; exact ⟨_, rfl, h⟩
  | _, _, i + 1, _, .cons _ t, e => by
    obtain ⟨v, h1, h2⟩ := HasAll.get (i := i) t (by simpa using e)
    exact ⟨v, by simpa using h1, h2⟩
theorem HasAll.getV : ∀ {ds : List D} {vs : List V} {i : Nat} {v : V}, HasAll M G ds vs → vs[i]? = some v → ∃ d, ds[i]? = some d ∧ Has M G d v
  | _, _, _, _, .nil, e => by simp at e
  | _, _, 0, _, .cons h _, e => by simp at e; subst e; exact ⟨_, rfl, h⟩
  | _, _, i + 1, _, .cons _ t, e => by
    obtain ⟨v, h1, h2⟩ := HasAll.getV (i := i) t (by simpa using e)
    exact ⟨v, by simpa using h1, h2⟩
theorem HasAll.append : ∀ {ds es : List D} {vs ws : List V}, HasAll M G ds vs → HasAll M G es ws → HasAll M G (ds ++ es) (vs ++ ws)
  | _, _, _, _, .nil, s => s
  | _, _, _, _, .cons h t, s => .cons h (t.append s)
theorem HasAll.take : ∀ {ds : List D} {vs : List V} (n : Nat), HasAll M G ds vs → HasAll M G (ds.take n) (vs.take n)
  | _, _, 0, _ => .nil
  | _, _, _ + 1, .nil => .nil
  | _, _, n + 1, .cons h t => .cons h (t.take n)
theorem HasAll.drop : ∀ {ds : List D} {vs : List V} (n : Nat), HasAll M G ds vs → HasAll M G (ds.drop n) (vs.drop n)
  | _, _, 0, r => r
  | _, _, _ + 1, .nil => .nil
  | _, _, n + 1, .cons _ t => t.drop n
theorem HasAll.set {d : D} {v : V} (h : Has M G d v) : ∀ {ds : List D} {vs : List V} (i : Nat), HasAll M G ds vs → HasAll M G (ds.set i d) (vs.set i v)
  | _, _, _, .nil => .nil
  | _, _, 0, .cons _ t => .cons h t
  | _, _, i + 1, .cons q t => .cons q (HasAll.set h i t)
theorem HasAll.reverse : ∀ {ds : List D} {vs : List V}, HasAll M G ds vs → HasAll M G ds.reverse vs.reverse
  | _, _, .nil => .nil
  | _, _, .cons h t => by
    rw [List.reverse_cons, List.reverse_cons]
    exact t.reverse.append (.cons h .nil)
theorem HasAll.dropLast {ds : List D} {vs : List V} (h : HasAll M G ds vs) : HasAll M G ds.dropLast vs.dropLast := by
  rw [List.dropLast_eq_take, List.dropLast_eq_take, h.length]
  exact h.take _
theorem HasAll.single {d : D} {v : V} (h : Has M G d v) : HasAll M G [d] [v] := .cons h .nil
end

/-- a slot: empty; data that never changes; a container of one's own; a caller's container, held by a parameter -/
inductive Sl where
  | no | im (d : D) | lo (d : D) | pa (d : D)
abbrev Env := List Sl

/-- a container at v whose cell is in H and whose items are frozen -/
inductive LocAt (M : Md) (Hf H : Hp) : D → V → Prop
  | lst {a : Addr} {vs : List V} {ds : List D} : Hf a = none → H a = some (.lst vs) → HasAll M Hf ds vs → LocAt M Hf H (.nd .lst ds) (.ref a)
  | dct {a : Addr} {kvs : List (Key × V)} {ds : List D} : Hf a = none → H a = some (.dK kvs) → HasAll M Hf ds (kvs.map (·.2)) → LocAt M Hf H (.nd (.dct (kvs.map (·.1))) ds) (.ref a)
  | obj {a C dx : Addr} {c : Str} {fs : List (Str × V)} {ds : List D} : Hf a = none → M.mg c = some (.ref C) → H a = some (.ins C dx fs) → HasAll M Hf ds (fs.map (·.2)) → LocAt M Hf H (.nd (.obj c (fs.map (·.1))) ds) (.ref a)
  | dcx {a : Addr} {xs : List DictEntry} {ds : List D} : Hf a = none → H a = some (.ext (dcxRaw a xs)) → LocAt M Hf H (.nd (.dcx xs) ds) (.ref a)
/-- what is read at the top of a value: its own cell stands in H, its items are frozen -/
inductive HasT (M : Md) (Hf H : Hp) : D → V → Prop
  | non : HasT M Hf H .non .non
  | bl (b : Bool) : HasT M Hf H (.bl b) (.bl b)
  | int (i : Int) : HasT M Hf H (.int i) (.int i)
  | str (x : Str) : HasT M Hf H (.str x) (.str x)
  | ob (a : Addr) : HasT M Hf H (.ob a) (.ref a)
  | tup {a : Addr} {vs : List V} {ds : List D} : SqT M.K Hf a vs → HasAll M Hf ds vs → HasT M Hf H (.nd .tup ds) (.ref a)
  | lst {a : Addr} {vs : List V} {ds : List D} : H a = some (.lst vs) → HasAll M Hf ds vs → HasT M Hf H (.nd .lst ds) (.ref a)
  | scr {a : Addr} {vs : List V} {ds : List D} : SqL M.K Hf a vs → HasAll M Hf ds vs → HasT M Hf H (.nd .scr ds) (.ref a)
  | dct {a : Addr} {kvs : List (Key × V)} {ds : List D} : H a = some (.dK kvs) → HasAll M Hf ds (kvs.map (·.2)) → HasT M Hf H (.nd (.dct (kvs.map (·.1))) ds) (.ref a)
  | obj {a C dx : Addr} {c : Str} {fs : List (Str × V)} {ds : List D} : M.mg c = some (.ref C) → H a = some (.ins C dx fs) → HasAll M Hf ds (fs.map (·.2)) → HasT M Hf H (.nd (.obj c (fs.map (·.1))) ds) (.ref a)
  | exn {a dd C : Addr} {c : Str} {fs : List (Str × V)} {ds : List D} : M.mg c = some (.ref C) → H a = some (.ext (exnAt a C dd)) → H dd = some (.xd fs) → HasAll M Hf ds (fs.map (·.2)) → HasT M Hf H (.nd (.exn c (fs.map (·.1))) ds) (.ref a)
  | tupN {a : Addr} {o : Obj} {vs : List V} {ds : List D} : H a = some (.frz o (.tup vs)) → o.dict = none → HasAll M Hf ds vs → HasT M Hf H (.nd .tupN ds) (.ref a)
  | dcx {a : Addr} {xs : List DictEntry} {ds : List D} : H a = some (.ext (dcxRaw a xs)) → HasT M Hf H (.nd (.dcx xs) ds) (.ref a)
section
variable {M : Md} {Hf Hf' H H' : Hp} {d : D} {v : V}
theorem Has.top (e : Same Hf H) (h : Has M Hf d v) : HasT M Hf H d v := by
  cases h with
  | non => exact .non
  | bl b => exact .bl b
  | int i => exact .int i
  | str x => exact .str x
  | ob a => exact .ob a
  | tup h t => exact .tup h t
  | lst h t => exact .lst (e _ _ h) t
  | scr h t => exact .scr h t
  | dct h t => exact .dct (e _ _ h) t
  | obj g h t => exact .obj g (e _ _ h) t
  | exn g h h2 t => exact .exn g (e _ _ h) (e _ _ h2) t
  | tupN h n t => exact .tupN (e _ _ h) n t
  | dcx h => exact .dcx (e _ _ h)
theorem LocAt.top (h : LocAt M Hf H d v) : HasT M Hf H d v := by
  cases h with
  | lst n h t => exact .lst h t
  | dct n h t => exact .dct h t
  | obj n g h t => exact .obj g h t
  | dcx n h => exact .dcx h
/-- the address of one's own container -/
theorem LocAt.ref (h : LocAt M Hf H d v) : ∃ a, v = .ref a ∧ Hf a = none ∧ H a ≠ none := by
  cases h with
  | lst n h t => exact ⟨_, rfl, n, by rw [h]; simp⟩
  | dct n h t => exact ⟨_, rfl, n, by rw [h]; simp⟩
  | obj n g h t => exact ⟨_, rfl, n, by rw [h]; simp⟩
  | dcx n h => exact ⟨_, rfl, n, by rw [h]; simp⟩
theorem LocAt.stay {a : Addr} (h : LocAt M Hf H d (.ref a)) (e : Same Hf Hf') (hn : Hf' a = none) (hh : H' a = H a) : LocAt M Hf' H' d (.ref a) := by
  cases h with
  | lst n h t => exact .lst hn (hh.trans h) (t.same e)
  | dct n h t => exact .dct hn (hh.trans h) (t.same e)
  | obj n g h t => exact .obj hn g (hh.trans h) (t.same e)
  | dcx n h => exact .dcx hn (hh.trans h)
/-- frozen: the cell joins Hf -/
theorem LocAt.freeze {a : Addr} (h : LocAt M Hf H d (.ref a)) (e : Same Hf Hf') (hh : Hf' a = H a) : Has M Hf' d (.ref a) := by
  cases h with
  | lst n h t => exact .lst (hh.trans h) (t.same e)
  | dct n h t => exact .dct (hh.trans h) (t.same e)
  | obj n g h t => exact .obj g (hh.trans h) (t.same e)
  | dcx n h => exact .dcx (hh.trans h)
end

/-- the tables of code objects that are watched, with the name that their code objects bear -/
class Tb where
  tab : Addr → Str → Prop
variable [Tb]
/-- what was there when the def was entered: the heap, its frozen part, the callers' containers held by parameters -/
structure Gm where
  H0 : Hp
  F0 : Hp
  adr : Nat → Option Addr
def Gm.pa (Γ : Gm) (a : Addr) : Prop := ∃ i, Γ.adr i = some a
def Sl.own : Sl → Prop
  | .lo _ => True
  | .pa _ => True
  | _ => False
/-- a table of code objects -/
def isTb : HO → Bool
  | .tbl _ => true
  | _ => false
/-- what was o is x: the same, or a table still -/
def Kp (o : HO) (x : Option HO) : Prop := x = some o ∨ (isTb o = true ∧ ∃ o', x = some o' ∧ isTb o' = true)
theorem Kp.ne {o : HO} {x : Option HO} (h : Kp o x) : x ≠ none := by
  rcases h with h | ⟨_, o', h, _⟩ <;> (rw [h]; intro z; cases z)
theorem Kp.trans {o : HO} {x y : Option HO} (h : Kp o x) (k : ∀ o', x = some o' → Kp o' y) : Kp o y := by
  rcases h with h | ⟨t, o', h, t'⟩
  · exact k o h
  · rcases k o' h with q | ⟨_, o2, q, t2⟩
    · exact .inr ⟨t, o', q, t'⟩
    · exact .inr ⟨t, o2, q, t2⟩
theorem Kp.same {o : HO} {x : Option HO} (h : Kp o x) (n : isTb o = false) : x = some o := by
  rcases h with h | ⟨t, _⟩
  · exact h
  · rw [n] at t; cases t
/-- the table at P: each code object that it tells is frozen and bears the name q -/
def TabF (G H : Hp) (P : Addr) (q : Str) : Prop := ∃ ps : Array Value, H P = some (.tbl ps) ∧ TriplesOk ps.toList ∧ ∀ (pos : Pos) (cv : Value), codeAmong pos ps.toList = some cv → ∃ c, cv = .ref c ∧ G c = some (LamX.CodeO c q)
theorem TabF.keep {G G' H H' : Hp} {P : Addr} {q : Str} (S : Same G G') (e : ∀ ps, H P = some (.tbl ps) → H' P = some (.tbl ps)) (h : TabF G H P q) : TabF G' H' P q := by
  obtain ⟨ps, h1, h2, h3⟩ := h
  refine ⟨ps, e ps h1, h2, fun pos cv hc => ?_⟩
  obtain ⟨c, e1, e2⟩ := h3 pos cv hc
  exact ⟨c, e1, S _ _ e2⟩
theorem LocAt.nt {M : Md} {Hf H : Hp} {d : D} {a : Addr} (h : LocAt M Hf H d (.ref a)) : ∃ o, H a = some o ∧ isTb o = false := by
  cases h with
  | lst n h t => exact ⟨_, h, rfl⟩
  | dct n h t => exact ⟨_, h, rfl⟩
  | obj n g h t => exact ⟨_, h, rfl⟩
  | dcx n h => exact ⟨_, h, rfl⟩
theorem LocAt.ntb {M : Md} {Hf H : Hp} {d : D} {a : Addr} (h : LocAt M Hf H d (.ref a)) {ps : Array Value} : H a ≠ some (.tbl ps) := by
  obtain ⟨o, e, t⟩ := h.nt
  rw [e]
  intro z
  cases z
  cases t
structure Rep0 (M : Md) (Γ : Gm) (Hf : Hp) (σ : St) (H : Hp) (ρ : Env) : Prop where
  len : ρ.length = σ.length
  sub : Same Hf H
  gr : Same Γ.F0 Hf
  fr : ∀ b o, Γ.H0 b = some o → ¬ Γ.pa b → Kp o (H b)
  fz : ∀ b, Hf b ≠ none → Γ.F0 b ≠ none ∨ Γ.H0 b = none
  im : ∀ (i : Nat) d, ρ[i]? = some (.im d) → ∃ v, σ[i]? = some (some v) ∧ Has M Hf d v
  lo : ∀ (i : Nat) d, ρ[i]? = some (.lo d) → ∃ a, σ[i]? = some (some (.ref a)) ∧ Γ.H0 a = none ∧ LocAt M Hf H d (.ref a)
  pa : ∀ (i : Nat) d, ρ[i]? = some (.pa d) → ∃ a, σ[i]? = some (some (.ref a)) ∧ Γ.adr i = some a ∧ LocAt M Hf H d (.ref a)
  inj : ∀ (i j : Nat) x y, i ≠ j → ρ[i]? = some x → ρ[j]? = some y → x.own → y.own → σ[i]? ≠ σ[j]?
  paH : ∀ a, Γ.pa a → H a ≠ none ∧ Hf a = none
  paO : ∀ a, Γ.pa a → Γ.H0 a ≠ none
  tb : ∀ P q, Tb.tab P q → TabF Hf H P q
  tg : ∀ P q, Tb.tab P q → Γ.F0 P = none ∧ Γ.H0 P ≠ none

theorem Rep0.tn {M : Md} {Γ : Gm} {Hf : Hp} {σ : St} {H : Hp} {ρ : Env} (R : Rep0 M Γ Hf σ H ρ) {P : Addr} {q : Str} (h : Tb.tab P q) : Hf P = none := by
  cases e : Hf P with
  | none => rfl
  | some u =>
    obtain ⟨h1, h2⟩ := R.tg P q h
    rcases R.fz P (by rw [e]; simp) with z | z
    · exact absurd h1 z
    · exact absurd z h2
/-- what an expression gives: a name's slot; frozen data; a new container of one's own -/
inductive Rs where
  | slot (i : Nat) | im (d : D) | nw (d : D)
def RsIs0 (M : Md) (Γ : Gm) (Hf : Hp) (σ : St) (H : Hp) (ρ : Env) : Rs → V → Prop
  | .slot i, v => σ[i]? = some (some v)
  | .im d, v => Has M Hf d v
  | .nw d, v => ∃ a, v = .ref a ∧ Γ.H0 a = none ∧ LocAt M Hf H d (.ref a) ∧ ∀ (i : Nat) x, ρ[i]? = some x → x.own → σ[i]? ≠ some (some (.ref a))

/-- an exception in flight: its class (by name), its fields -/
structure Exn where
  c : Str
  fs : List (Str × D)
inductive Rz (α : Type) where
  | ok (a : α) | ex (x : Exn) (ρ : Env) | no
namespace Rz
def bind {α β : Type} (r : Rz α) (f : α → Rz β) : Rz β := match r with
  | ok a => f a
  | ex x ρ => ex x ρ
  | no => no
instance : Monad Rz where
  pure := ok
  bind := bind
def wp {α : Type} (r : Rz α) (Q : α → Prop) (E : Exn → Env → Prop) : Prop := match r with
  | ok a => Q a
  | ex x ρ => E x ρ
  | no => False
theorem wp_bind {α β : Type} {r : Rz α} {f : α → Rz β} {Q : β → Prop} {E : Exn → Env → Prop} (h : (r.bind f).wp Q E) : r.wp (fun a => (f a).wp Q E) E := by
  cases r <;> exact h
theorem wp_mono {α : Type} {r : Rz α} {Q Q' : α → Prop} {E E' : Exn → Env → Prop} (h : r.wp Q E) (hQ : ∀ a, Q a → Q' a) (hE : ∀ x ρ, E x ρ → E' x ρ) : r.wp Q' E' := by
  cases r with
  | ok a => exact hQ a h
  | ex x ρ => exact hE x ρ h
  | no => exact h
@[simp] theorem ok_bind {α β : Type} (a : α) (f : α → Rz β) : (ok a).bind f = f a := rfl
@[simp] theorem bind_ok {α β : Type} (a : α) (f : α → Rz β) : (ok a >>= f) = f a := rfl
@[simp] theorem pure_eq {α : Type} (a : α) : (pure a : Rz α) = ok a := rfl
@[simp] theorem no_bind {α β : Type} (f : α → Rz β) : ((no : Rz α) >>= f) = no := rfl
@[simp] theorem ex_bind {α β : Type} (x : Exn) (ρ : Env) (f : α → Rz β) : ((ex x ρ : Rz α) >>= f) = ex x ρ := rfl
def ofO {α : Type} : Option α → Rz α
  | some a => ok a
  | none => no
@[simp] theorem ofO_some {α : Type} (a : α) : ofO (some a) = ok a := rfl
@[simp] theorem ofO_none {α : Type} : ofO (none : Option α) = no := rfl
end Rz
/-- an exception as it lies -/
def ExIs (M : Md) (H0 Hf H : Hp) (x : Exn) (c : Value) (d : Option Addr) : Prop :=
  M.mg x.c = some c ∧ ∃ dd vs, d = some dd ∧ H0 dd = none ∧ Hf dd = none ∧ H dd = some (.xd vs) ∧ vs.map (·.1) = x.fs.map (·.1) ∧ HasAll M Hf (x.fs.map (·.2)) (vs.map (·.2))

/-! ### steps of what a state bears -/
section
variable {M : Md} {Γ : Gm} {Hf : Hp} {σ : St} {H : Hp} {ρ : Env}
/-- a new cell, frozen at once -/
theorem Rep0.lay (R : Rep0 M Γ Hf σ H ρ) {p : Addr} (hp : H p = none) (o : HO) : Same Hf (upd Hf p o) ∧ Rep0 M Γ (upd Hf p o) σ (upd H p o) ρ := by
  have hf : Hf p = none := R.sub.free hp
  have S : Same Hf (upd Hf p o) := fun b u q => by rw [upd_ne (ne_of_none q hf)]; exact q
  have h0 : Γ.H0 p = none ∨ Γ.pa p := by
    cases q : Γ.H0 p with
    | none => exact .inl rfl
    | some u =>
      by_cases z : Γ.pa p
      · exact .inr z
      · exact absurd hp (R.fr p u q z).ne
  have npa : ¬ Γ.pa p := fun z => (R.paH p z).1 hp
  have h00 : Γ.H0 p = none := h0.resolve_right npa
  refine ⟨S, R.len, fun b u q => ?_, R.gr.trans S, fun b u q z => ?_, fun b q => ?_, fun i d e => ?_, fun i d e => ?_, fun i d e => ?_, R.inj, fun a z => ?_, R.paO, (fun P q h => (R.tb P q h).keep S fun ps e => by rw [upd_ne (ne_of_none e hp)]; exact e), R.tg⟩
  · by_cases e : b = p
    · subst e; rw [upd_same] at q ⊢; exact q
    · rw [upd_ne e] at q ⊢; exact R.sub b u q
  · rw [upd_ne (fun e => by subst e; rw [h00] at q; cases q)]
    exact R.fr b u q z
  · by_cases e : b = p
    · subst e; exact .inr h00
    · rw [upd_ne e] at q; exact R.fz b q
  · obtain ⟨v, h1, h2⟩ := R.im i d e
    exact ⟨v, h1, h2.same S⟩
  · obtain ⟨a, h1, h2, h3⟩ := R.lo i d e
    obtain ⟨a', ea, hn, hh⟩ := h3.ref
    cases ea
    have ne : a ≠ p := fun z => hh (by rw [z]; exact hp)
    exact ⟨a, h1, h2, h3.stay S (by rw [upd_ne ne]; exact hn) (by rw [upd_ne ne])⟩
  · obtain ⟨a, h1, h2, h3⟩ := R.pa i d e
    obtain ⟨a', ea, hn, hh⟩ := h3.ref
    cases ea
    have ne : a ≠ p := fun z => hh (by rw [z]; exact hp)
    exact ⟨a, h1, h2, h3.stay S (by rw [upd_ne ne]; exact hn) (by rw [upd_ne ne])⟩
  · have ne : a ≠ p := fun e => npa (e ▸ z)
    rw [upd_ne ne, upd_ne ne]
    exact R.paH a z
/-- a new cell, not frozen -/
theorem Rep0.layN (R : Rep0 M Γ Hf σ H ρ) {p : Addr} (hp : H p = none) (o : HO) : Rep0 M Γ Hf σ (upd H p o) ρ ∧ Γ.H0 p = none ∧ Hf p = none ∧ ∀ (i : Nat) x, ρ[i]? = some x → x.own → σ[i]? ≠ some (some (.ref p)) := by
  have hf : Hf p = none := R.sub.free hp
  have npa : ¬ Γ.pa p := fun z => (R.paH p z).1 hp
  have h00 : Γ.H0 p = none := by
    cases q : Γ.H0 p with
    | none => rfl
    | some u =>
      exact absurd hp (R.fr p u q npa).ne
  refine ⟨⟨R.len, fun b u q => ?_, R.gr, fun b u q z => ?_, R.fz, R.im, fun i d e => ?_, fun i d e => ?_, R.inj, fun a z => ?_, R.paO, (fun P q h => (R.tb P q h).keep (Same.refl _) fun ps e => by rw [upd_ne (ne_of_none e hp)]; exact e), R.tg⟩, h00, hf, fun i x e ho es => ?_⟩
  · rw [upd_ne (ne_of_none q hf)]; exact R.sub b u q
  · rw [upd_ne (fun e => by subst e; rw [h00] at q; cases q)]
    exact R.fr b u q z
  · obtain ⟨a, h1, h2, h3⟩ := R.lo i d e
    obtain ⟨a', ea, hn, hh⟩ := h3.ref
    cases ea
    have ne : a ≠ p := fun z => hh (by rw [z]; exact hp)
    exact ⟨a, h1, h2, h3.stay (Same.refl _) hn (by rw [upd_ne ne])⟩
  · obtain ⟨a, h1, h2, h3⟩ := R.pa i d e
    obtain ⟨a', ea, hn, hh⟩ := h3.ref
    cases ea
    have ne : a ≠ p := fun z => hh (by rw [z]; exact hp)
    exact ⟨a, h1, h2, h3.stay (Same.refl _) hn (by rw [upd_ne ne])⟩
  · have ne : a ≠ p := fun e => npa (e ▸ z)
    rw [upd_ne ne]
    exact R.paH a z
  · have nn : ∀ a, σ[i]? = some (some (.ref a)) → a = p := fun a q => by rw [es] at q; cases q; rfl
    cases x with
    | no => exact ho
    | im d => exact ho
    | lo d =>
      obtain ⟨a, h1, h2, h3⟩ := R.lo i d e
      obtain ⟨a', ea, hn, hh⟩ := h3.ref
      cases ea
      exact hh (by rw [nn a h1]; exact hp)
    | pa d =>
      obtain ⟨a, h1, h2, h3⟩ := R.pa i d e
      obtain ⟨a', ea, hn, hh⟩ := h3.ref
      cases ea
      exact hh (by rw [nn a h1]; exact hp)
/-- the content of a slot -/
def Sl.peek : Sl → Option D
  | .no => none
  | .im d => some d
  | .lo d => some d
  | .pa d => some d
def peek (ρ : Env) : Rs → Option D
  | .slot i => (ρ[i]?).bind Sl.peek
  | .im d => some d
  | .nw d => some d
theorem Rep0.peek (R : Rep0 M Γ Hf σ H ρ) {r : Rs} {v : V} {d : D} (h : RsIs0 M Γ Hf σ H ρ r v) (e : Fx.peek ρ r = some d) : HasT M Hf H d v := by
  cases r with
  | im d' => cases e; exact Has.top R.sub h
  | nw d' => cases e; obtain ⟨a, rfl, _, h, _⟩ := h; exact h.top
  | slot i =>
    have h' : σ[i]? = some (some v) := h
    have e' : (ρ[i]?).bind Sl.peek = some d := e
    cases q : ρ[i]? with
    | none => rw [q] at e'; cases e'
    | some x =>
      rw [q] at e'
      cases x with
      | no => cases e'
      | im d' =>
        cases e'
        obtain ⟨u, h1, h2⟩ := R.im i d q
        rw [h'] at h1; cases h1
        exact Has.top R.sub h2
      | lo d' =>
        cases e'
        obtain ⟨u, h1, _, h2⟩ := R.lo i d q
        rw [h'] at h1; cases h1
        exact h2.top
      | pa d' =>
        cases e'
        obtain ⟨u, h1, _, h2⟩ := R.pa i d q
        rw [h'] at h1; cases h1
        exact h2.top
/-- a container of one's own, at a, is frozen -/
theorem Rep0.frz (R : Rep0 M Γ Hf σ H ρ) {a : Addr} {d : D} (h0 : Γ.H0 a = none) (h : LocAt M Hf H d (.ref a)) :
    ∃ Hf', Same Hf Hf' ∧ Has M Hf' d (.ref a) ∧ Same Hf' H ∧ (∀ b, b ≠ a → Hf' b = Hf b) ∧ (∀ b, Hf' b ≠ none → Γ.F0 b ≠ none ∨ Γ.H0 b = none) := by
  obtain ⟨a', ea, hn, hh⟩ := h.ref
  cases ea
  refine ⟨fun b => if b = a then H a else Hf b, fun b u q => ?_, ?_, fun b u q => ?_, fun b hb => if_neg hb, fun b q => ?_⟩
  · show (if b = a then H a else Hf b) = some u
    rw [if_neg (fun e => by subst e; rw [hn] at q; cases q)]
    exact q
  · refine h.freeze (fun b u q => ?_) (if_pos rfl)
    show (if b = a then H a else Hf b) = some u
    rw [if_neg (fun e => by subst e; rw [hn] at q; cases q)]
    exact q
  · by_cases e : b = a
    · subst e
      exact (if_pos rfl).symm.trans q
    · exact R.sub b u ((if_neg e).symm.trans q)
  · by_cases e : b = a
    · subst e; exact .inr h0
    · exact R.fz b (by rw [← (if_neg e : (if b = a then H a else Hf b) = Hf b)]; exact q)
theorem Rep0.grow (R : Rep0 M Γ Hf σ H ρ) {Hf' : Hp} {ρ' : Env} (S : Same Hf Hf') (sub : Same Hf' H) (fz : ∀ b, Hf' b ≠ none → Γ.F0 b ≠ none ∨ Γ.H0 b = none) (len : ρ'.length = ρ.length)
    (sl : ∀ (i : Nat) x, ρ'[i]? = some x → x = .no ∨ (∃ d, x = .im d ∧ ∃ v, σ[i]? = some (some v) ∧ Has M Hf' d v) ∨ (ρ[i]? = some x ∧ (x.own → ∀ a, σ[i]? = some (some (.ref a)) → Hf' a = none)))
    (hpa : ∀ a, Γ.pa a → Hf' a = none) : Rep0 M Γ Hf' σ H ρ' := by
  refine ⟨len.trans R.len, sub, R.gr.trans S, R.fr, fz, fun i d e => ?_, fun i d e => ?_, fun i d e => ?_, fun i j x y ne ex ey ox oy => ?_, fun a z => ⟨(R.paH a z).1, hpa a z⟩, R.paO, (fun P q h => (R.tb P q h).keep S fun _ e => e), R.tg⟩
  · rcases sl i _ e with z | ⟨d', z, q⟩ | ⟨q, _⟩
    · cases z
    · cases z; exact q
    · obtain ⟨v, h1, h2⟩ := R.im i d q
      exact ⟨v, h1, h2.same S⟩
  · rcases sl i _ e with z | ⟨d', z, q⟩ | ⟨q, n⟩
    · cases z
    · cases z
    · obtain ⟨a, h1, h2, h3⟩ := R.lo i d q
      exact ⟨a, h1, h2, h3.stay S (n trivial a h1) rfl⟩
  · rcases sl i _ e with z | ⟨d', z, q⟩ | ⟨q, n⟩
    · cases z
    · cases z
    · obtain ⟨a, h1, h2, h3⟩ := R.pa i d q
      exact ⟨a, h1, h2, h3.stay S (n trivial a h1) rfl⟩
  · have f : ∀ {i : Nat} {x : Sl}, ρ'[i]? = some x → x.own → ρ[i]? = some x := fun {i x} e o => by
      rcases sl i _ e with z | ⟨d', z, q⟩ | ⟨q, n⟩
      · subst z; exact o.elim
      · subst z; exact o.elim
      · exact q
    exact R.inj i j x y ne (f ex ox) (f ey oy) ox oy
end
end Fx

set_option Elab.async false
set_option linter.all false
set_option maxRecDepth 100000
set_option maxHeartbeats 4000000
namespace Fx
open PySem L2
variable [Tb]
section
variable {M : Md} {Γ : Gm} {Hf : Hp} {σ : L2.St} {H : Hp} {ρ : Env}

/-- a name, if its slot is filled -/
def rN (i : Nat) : Env → Rz (Env × Rs) := fun ρ => match ρ[i]? with
  | some (.im _) | some (.lo _) | some (.pa _) => .ok (ρ, .slot i)
  | _ => .no
/-- as data that never changes: one's own container is frozen -/
def use (ρ : Env) (r : Rs) : Rz (Env × D) := match r with
  | .slot i => match ρ[i]? with
    | some (.im d) => .ok (ρ, d)
    | some (.lo d) => .ok (ρ.set i (.im d), d)
    | _ => .no
  | .im d => .ok (ρ, d)
  | .nw d => .ok (ρ, d)
theorem set_get {α : Type} {l : List α} {i j : Nat} {x y : α} (h : (l.set i x)[j]? = some y) : (j = i ∧ y = x) ∨ (j ≠ i ∧ l[j]? = some y) := by
  by_cases e : j = i
  · subst e
    rw [List.getElem?_set] at h
    simp only [if_true] at h
    split at h
    · cases h; exact .inl ⟨rfl, rfl⟩
    · cases h
  · rw [List.getElem?_set_ne (Ne.symm e)] at h
    exact .inr ⟨e, h⟩
theorem Rep0.own_pa (R : Rep0 M Γ Hf σ H ρ) {a : Addr} (h0 : Γ.H0 a = none) : ¬ Γ.pa a := fun z => R.paO a z h0
/-- freezing a slot of one's own -/
theorem Rep0.frz_slot (R : Rep0 M Γ Hf σ H ρ) {i : Nat} {d : D} (e : ρ[i]? = some (.lo d)) :
    ∃ Hf' a, Same Hf Hf' ∧ σ[i]? = some (some (.ref a)) ∧ Has M Hf' d (.ref a) ∧ Rep0 M Γ Hf' σ H (ρ.set i (.im d)) := by
  obtain ⟨a, h1, h2, h3⟩ := R.lo i d e
  obtain ⟨Hf', S, hh, sub, ne, fz⟩ := R.frz h2 h3
  refine ⟨Hf', a, S, h1, hh, R.grow S sub fz (by simp) (fun j x q => ?_) fun b z => ?_⟩
  · rcases set_get q with ⟨rfl, rfl⟩ | ⟨hj, q⟩
    · exact .inr (.inl ⟨d, rfl, _, h1, hh⟩)
    · refine .inr (.inr ⟨q, fun o b es => ?_⟩)
      have nb : b ≠ a := fun z => by
        subst z
        exact R.inj j i x _ hj q e o trivial (es.trans h1.symm)
      rw [ne b nb]
      cases x with
      | no => exact o.elim
      | im _ => exact o.elim
      | lo d' =>
        obtain ⟨b', k1, _, k3⟩ := R.lo j d' q
        rw [es] at k1; cases k1
        obtain ⟨_, eb, hn, _⟩ := k3.ref
        cases eb; exact hn
      | pa d' =>
        obtain ⟨b', k1, _, k3⟩ := R.pa j d' q
        rw [es] at k1; cases k1
        obtain ⟨_, eb, hn, _⟩ := k3.ref
        cases eb; exact hn
  · have nb : b ≠ a := fun e => R.own_pa h2 (e ▸ z)
    rw [ne b nb]
    exact (R.paH b z).2
theorem Rep0.use (R : Rep0 M Γ Hf σ H ρ) {r : Rs} {v : V} {ρ' : Env} {d : D} (h : RsIs0 M Γ Hf σ H ρ r v) (e : Fx.use ρ r = .ok (ρ', d)) :
    ∃ Hf', Same Hf Hf' ∧ Rep0 M Γ Hf' σ H ρ' ∧ Has M Hf' d v := by
  cases r with
  | im d' => cases e; exact ⟨Hf, Same.refl _, R, h⟩
  | nw d' =>
    cases e
    obtain ⟨a, rfl, h0, hl, hne⟩ := h
    obtain ⟨Hf', S, hh, sub, ne, fz⟩ := R.frz h0 hl
    refine ⟨Hf', S, R.grow S sub fz rfl (fun j x q => ?_) fun b z => ?_, hh⟩
    · refine .inr (.inr ⟨q, fun o b es => ?_⟩)
      have nb : b ≠ a := fun z => by subst z; exact hne j x q o es
      rw [ne b nb]
      cases x with
      | no => exact o.elim
      | im _ => exact o.elim
      | lo d' =>
        obtain ⟨b', k1, _, k3⟩ := R.lo j d' q
        rw [es] at k1; cases k1
        obtain ⟨_, eb, hn, _⟩ := k3.ref
        cases eb; exact hn
      | pa d' =>
        obtain ⟨b', k1, _, k3⟩ := R.pa j d' q
        rw [es] at k1; cases k1
        obtain ⟨_, eb, hn, _⟩ := k3.ref
        cases eb; exact hn
    · have nb : b ≠ a := fun e => R.own_pa h0 (e ▸ z)
      rw [ne b nb]
      exact (R.paH b z).2
  | slot i =>
    have h' : σ[i]? = some (some v) := h
    unfold Fx.use at e
    cases q : ρ[i]? with
    | none => simp [q] at e
    | some x =>
      cases x with
      | no => simp [q] at e
      | pa d' => simp [q] at e
      | im d' =>
        simp [q] at e
        obtain ⟨rfl, rfl⟩ := e
        obtain ⟨u, k1, k2⟩ := R.im i d' q
        rw [h'] at k1; cases k1
        exact ⟨Hf, Same.refl _, R, k2⟩
      | lo d' =>
        simp [q] at e
        obtain ⟨rfl, rfl⟩ := e
        obtain ⟨Hf', a, S, k1, k2, k3⟩ := R.frz_slot q
        rw [h'] at k1; cases k1
        exact ⟨Hf', S, k3, k2⟩

/-- forgetting what slots hold -/
theorem Rep0.forget (R : Rep0 M Γ Hf σ H ρ) {σ' : L2.St} {ρ' : Env} (lσ : σ'.length = σ.length) (lρ : ρ'.length = ρ.length) (h : ∀ (i : Nat) x, ρ'[i]? = some x → x = .no ∨ (ρ[i]? = some x ∧ σ'[i]? = σ[i]?)) : Rep0 M Γ Hf σ' H ρ' := by
  refine ⟨by rw [lρ, lσ]; exact R.len, R.sub, R.gr, R.fr, R.fz, fun i d e => ?_, fun i d e => ?_, fun i d e => ?_, fun i j x y ne ex ey ox oy => ?_, R.paH, R.paO, R.tb, R.tg⟩
  · rcases h i _ e with z | ⟨q, es⟩
    · cases z
    · rw [es]; exact R.im i d q
  · rcases h i _ e with z | ⟨q, es⟩
    · cases z
    · rw [es]; exact R.lo i d q
  · rcases h i _ e with z | ⟨q, es⟩
    · cases z
    · rw [es]; exact R.pa i d q
  · rcases h i _ ex with z | ⟨q1, e1⟩
    · subst z; exact ox.elim
    · rcases h j _ ey with z | ⟨q2, e2⟩
      · subst z; exact oy.elim
      · rw [e1, e2]; exact R.inj i j x y ne q1 q2 ox oy
/-- a slot is stored -/
theorem Rep0.put (R : Rep0 M Γ Hf σ H ρ) {i : Nat} {x : Sl} {v : V} (hi : i < σ.length)
    (hx : x = .no ∨ (∃ d, x = .im d ∧ Has M Hf d v) ∨ ∃ d a, x = .lo d ∧ v = .ref a ∧ Γ.H0 a = none ∧ LocAt M Hf H d (.ref a) ∧ ∀ (j : Nat) y, j ≠ i → ρ[j]? = some y → y.own → σ[j]? ≠ some (some (.ref a))) :
    Rep0 M Γ Hf (σ.set i (some v)) H (ρ.set i x) := by
  have at_i : (σ.set i (some v))[i]? = some (some v) := by rw [List.getElem?_set]; simp [hi]
  have at_j : ∀ {j : Nat}, j ≠ i → (σ.set i (some v))[j]? = σ[j]? := fun {j} h => List.getElem?_set_ne (Ne.symm h)
  refine ⟨by simpa using R.len, R.sub, R.gr, R.fr, R.fz, fun j d e => ?_, fun j d e => ?_, fun j d e => ?_, fun j k y z ne ey ez oy oz => ?_, R.paH, R.paO, R.tb, R.tg⟩
  · rcases set_get e with ⟨rfl, ex⟩ | ⟨hj, q⟩
    · subst ex
      rcases hx with z | ⟨d', z, q⟩ | ⟨d', a, z, _⟩
      · cases z
      · cases z; exact ⟨v, at_i, q⟩
      · cases z
    · rw [at_j hj]; exact R.im j d q
  · rcases set_get e with ⟨rfl, ex⟩ | ⟨hj, q⟩
    · subst ex
      rcases hx with z | ⟨d', z, q⟩ | ⟨d', a, z, ev, h0, hl, _⟩
      · cases z
      · cases z
      · cases z; subst ev; exact ⟨a, at_i, h0, hl⟩
    · rw [at_j hj]; exact R.lo j d q
  · rcases set_get e with ⟨rfl, ex⟩ | ⟨hj, q⟩
    · subst ex
      rcases hx with z | ⟨d', z, q⟩ | ⟨d', a, z, ev, h0, hl, _⟩
      · cases z
      · cases z
      · cases z
    · rw [at_j hj]; exact R.pa j d q
  · rcases set_get ey with ⟨rfl, ex⟩ | ⟨hj, q⟩
    · subst ex
      rcases set_get ez with ⟨rfl, _⟩ | ⟨hk, q'⟩
      · exact absurd rfl ne
      · rw [at_i, at_j hk]
        rcases hx with z | ⟨d', z, _⟩ | ⟨d', a, _, ev, _, _, hn⟩
        · subst z; exact oy.elim
        · subst z; exact oy.elim
        · subst ev
          exact fun e => hn k z hk q' oz e.symm
    · rcases set_get ez with ⟨rfl, ex⟩ | ⟨hk, q'⟩
      · subst ex
        rw [at_i, at_j hj]
        rcases hx with z | ⟨d', z, _⟩ | ⟨d', a, _, ev, _, _, hn⟩
        · subst z; exact oz.elim
        · subst z; exact oz.elim
        · subst ev
          exact fun e => hn j y hj q oy e
      · rw [at_j hj, at_j hk]
        exact R.inj j k y z ne q q' oy oz
/-- the slot of a name that is stored, by what is stored; a caller's container is never let go -/
def put (ρ : Env) (i : Nat) (r : Rs) : Rz Env := match ρ[i]? with
  | none => .no
  | some (.pa _) => .no
  | _ => match r with
    | .im d => .ok (ρ.set i (.im d))
    | .nw d => .ok (ρ.set i (.lo d))
    | .slot j => (use ρ (.slot j)) >>= fun p => .ok (p.1.set i (.im p.2))
theorem use_len {ρ ρ' : Env} {r : Rs} {d : D} (e : use ρ r = .ok (ρ', d)) : ρ'.length = ρ.length := by
  cases r with
  | im _ => cases e; rfl
  | nw _ => cases e; rfl
  | slot i =>
    unfold use at e
    cases q : ρ[i]? with
    | none => simp [q] at e
    | some x =>
      cases x with
      | no => simp [q] at e
      | pa _ => simp [q] at e
      | im _ => simp [q] at e; rw [← e.1]
      | lo _ => simp [q] at e; rw [← e.1]; simp
theorem Rep0.store (R : Rep0 M Γ Hf σ H ρ) {i : Nat} {r : Rs} {v : V} {ρ' : Env} (h : RsIs0 M Γ Hf σ H ρ r v) (e : Fx.put ρ i r = .ok ρ') :
    ∃ Hf', Same Hf Hf' ∧ Rep0 M Γ Hf' (σ.set i (some v)) H ρ' := by
  unfold Fx.put at e
  have hi : ∀ {x}, ρ[i]? = some x → i < σ.length := fun q => by rw [← R.len]; exact (List.getElem?_eq_some_iff.mp q).1
  cases q : ρ[i]? with
  | none => simp [q] at e
  | some x =>
    have hlt := hi q
    have main : (match r with
      | .im d => (.ok (ρ.set i (.im d)) : Rz Env)
      | .nw d => .ok (ρ.set i (.lo d))
      | .slot j => (Fx.use ρ (.slot j)) >>= fun p => .ok (p.1.set i (.im p.2))) = .ok ρ' := by
      cases x <;> simp [q] at e <;> exact e
    clear e
    cases r with
    | im d =>
      cases main
      exact ⟨Hf, Same.refl _, R.put hlt (.inr (.inl ⟨d, rfl, h⟩))⟩
    | nw d =>
      cases main
      obtain ⟨a, rfl, h0, hl, hn⟩ := h
      exact ⟨Hf, Same.refl _, R.put hlt (.inr (.inr ⟨d, a, rfl, rfl, h0, hl, fun j y _ e o => hn j y e o⟩))⟩
    | slot j =>
      replace main : ((Fx.use ρ (.slot j)) >>= fun p => (.ok (p.1.set i (.im p.2)) : Rz Env)) = .ok ρ' := main
      cases u : Fx.use ρ (.slot j) with
      | no => rw [u] at main; cases main
      | ex _ _ => rw [u] at main; cases main
      | ok p =>
        rw [u] at main
        cases main
        obtain ⟨Hf', S, R', hh⟩ := R.use h u
        exact ⟨Hf', S, R'.put hlt (.inr (.inl ⟨_, rfl, hh⟩))⟩
/-- one's own container, with another content -/
def Sl.withD : Sl → D → Sl
  | .lo _, d => .lo d
  | .pa _, d => .pa d
  | x, _ => x
/-- a container in a slot is written -/
theorem Rep0.write (R : Rep0 M Γ Hf σ H ρ) {i : Nat} {x : Sl} {a : Addr} {d : D} {o : HO} (e : ρ[i]? = some x) (ox : x.own) (es : σ[i]? = some (some (.ref a))) (hl : LocAt M Hf (upd H a o) d (.ref a)) :
    Rep0 M Γ Hf σ (upd H a o) (ρ.set i (x.withD d)) := by
  have na : Hf a = none := by
    obtain ⟨_, ea, hn, _⟩ := hl.ref
    cases ea; exact hn
  have free : Γ.H0 a = none ∨ Γ.pa a := by
    cases x with
    | no => exact ox.elim
    | im _ => exact ox.elim
    | lo d' =>
      obtain ⟨b, k1, k2, k3⟩ := R.lo i d' e
      rw [es] at k1; cases k1; exact .inl k2
    | pa d' =>
      obtain ⟨b, k1, k2, k3⟩ := R.pa i d' e
      rw [es] at k1; cases k1; exact .inr ⟨i, k2⟩
  have tbA : ∀ {ps : Array Value}, H a ≠ some (.tbl ps) := fun {ps} => by
    cases x with
    | no => exact ox.elim
    | im _ => exact ox.elim
    | lo d' =>
      obtain ⟨b, k1, k2, k3⟩ := R.lo i d' e
      rw [es] at k1; cases k1; exact k3.ntb
    | pa d' =>
      obtain ⟨b, k1, k2, k3⟩ := R.pa i d' e
      rw [es] at k1; cases k1; exact k3.ntb
  have off : ∀ {j : Nat} {y : Sl} {b : Addr}, j ≠ i → ρ[j]? = some y → y.own → σ[j]? = some (some (.ref b)) → b ≠ a := fun {j y b} hj q o es' z => by
    subst z
    exact R.inj j i y x hj q e o ox (es'.trans es.symm)
  refine ⟨by simpa using R.len, fun b u q => ?_, R.gr, fun b u q z => ?_, R.fz, fun j d' q => ?_, fun j d' q => ?_, fun j d' q => ?_, fun j k y z ne ey ez oy oz => ?_, fun b z => ?_, R.paO, (fun P q h => (R.tb P q h).keep (Same.refl _) fun ps ep => by rw [upd_ne (fun z => tbA (z ▸ ep))]; exact ep), R.tg⟩
  · rw [upd_ne (ne_of_none q na)]; exact R.sub b u q
  · have nb : b ≠ a := fun eb => by
      subst eb
      rcases free with h | h
      · rw [h] at q; cases q
      · exact z h
    rw [upd_ne nb]
    exact R.fr b u q z
  · rcases set_get q with ⟨rfl, ex⟩ | ⟨hj, q⟩
    · cases x with
      | no => exact ox.elim
      | im _ => exact ox.elim
      | lo _ => cases ex
      | pa _ => cases ex
    · exact R.im j d' q
  · rcases set_get q with ⟨rfl, ex⟩ | ⟨hj, q⟩
    · cases x with
      | no => exact ox.elim
      | im _ => exact ox.elim
      | pa _ => cases ex
      | lo d0 =>
        cases ex
        obtain ⟨b, k1, k2, k3⟩ := R.lo j d0 e
        rw [es] at k1; cases k1
        exact ⟨a, es, k2, hl⟩
    · obtain ⟨b, k1, k2, k3⟩ := R.lo j d' q
      have nb := off hj q trivial k1
      obtain ⟨_, eb, hn, _⟩ := k3.ref
      cases eb
      exact ⟨b, k1, k2, k3.stay (Same.refl _) hn (by rw [upd_ne nb])⟩
  · rcases set_get q with ⟨rfl, ex⟩ | ⟨hj, q⟩
    · cases x with
      | no => exact ox.elim
      | im _ => exact ox.elim
      | lo _ => cases ex
      | pa d0 =>
        cases ex
        obtain ⟨b, k1, k2, k3⟩ := R.pa j d0 e
        rw [es] at k1; cases k1
        exact ⟨a, es, k2, hl⟩
    · obtain ⟨b, k1, k2, k3⟩ := R.pa j d' q
      have nb := off hj q trivial k1
      obtain ⟨_, eb, hn, _⟩ := k3.ref
      cases eb
      exact ⟨b, k1, k2, k3.stay (Same.refl _) hn (by rw [upd_ne nb])⟩
  · have f : ∀ {j : Nat} {y : Sl}, (ρ.set i (x.withD d))[j]? = some y → y.own → ∃ y', ρ[j]? = some y' ∧ y'.own := fun {j y} q o => by
      rcases set_get q with ⟨rfl, ex⟩ | ⟨hj, q⟩
      · exact ⟨x, e, ox⟩
      · exact ⟨y, q, o⟩
    obtain ⟨y', q1, o1⟩ := f ey oy
    obtain ⟨z', q2, o2⟩ := f ez oz
    exact R.inj j k y' z' ne q1 q2 o1 o2
  · by_cases eb : b = a
    · subst eb
      rw [upd_same]
      exact ⟨by simp, na⟩
    · rw [upd_ne eb]
      exact R.paH b z
end


/-! ### the state with what is held beside the slots (lists being made, values that wait) -/
structure Gh where
  g : Gm
  τ : L2.St
  γ : Env
structure Rep (M : Md) (Γ : Gh) (Hf : Hp) (σ : L2.St) (H : Hp) (ρ : Env) : Prop where
  len : ρ.length = σ.length
  r0 : Rep0 M Γ.g Hf (σ ++ Γ.τ) H (ρ ++ Γ.γ)
def RsIs (M : Md) (Γ : Gh) (Hf : Hp) (σ : L2.St) (H : Hp) (ρ : Env) : Rs → V → Prop
  | .slot i, v => σ[i]? = some (some v)
  | .im d, v => Has M Hf d v
  | .nw d, v => ∃ a, v = .ref a ∧ Γ.g.H0 a = none ∧ LocAt M Hf H d (.ref a) ∧ ∀ (i : Nat) x, (ρ ++ Γ.γ)[i]? = some x → x.own → (σ ++ Γ.τ)[i]? ≠ some (some (.ref a))
section
variable {M : Md} {Γ : Gh} {Hf : Hp} {σ : L2.St} {H : Hp} {ρ : Env}
theorem Rep.sub (R : Rep M Γ Hf σ H ρ) : Same Hf H := R.r0.sub
theorem get_app {α : Type} {l k : List α} {i : Nat} {x : α} (h : l[i]? = some x) : (l ++ k)[i]? = some x := by
  rw [List.getElem?_append_left (List.getElem?_eq_some_iff.mp h).1]
  exact h
theorem get_left {α : Type} {l k : List α} {i : Nat} (h : i < l.length) : (l ++ k)[i]? = l[i]? := List.getElem?_append_left h
theorem set_left {α : Type} {l k : List α} {i : Nat} {v : α} (h : i < l.length) : (l ++ k).set i v = l.set i v ++ k := by
  rw [List.set_append]
  simp [h]
theorem RsIs.to0 {r : Rs} {v : V} (h : RsIs M Γ Hf σ H ρ r v) : RsIs0 M Γ.g Hf (σ ++ Γ.τ) H (ρ ++ Γ.γ) r v := by
  cases r with
  | slot i => exact get_app (show σ[i]? = some (some v) from h)
  | im d => exact h
  | nw d => exact h
theorem use_app {γ ρ' : Env} {r : Rs} {d : D} (h : use ρ r = .ok (ρ', d)) : use (ρ ++ γ) r = .ok (ρ' ++ γ, d) := by
  cases r with
  | im _ => cases h; rfl
  | nw _ => cases h; rfl
  | slot i =>
    cases q : ρ[i]? with
    | none => simp [Fx.use, q] at h
    | some x =>
      have q2 := get_app (k := γ) q
      cases x with
      | no => simp [Fx.use, q] at h
      | pa _ => simp [Fx.use, q] at h
      | im _ =>
        simp [Fx.use, q] at h
        simp [Fx.use, q2]; exact ⟨by rw [h.1], h.2⟩
      | lo _ =>
        simp [Fx.use, q] at h
        simp only [Fx.use, q2]
        rw [← h.1, ← h.2, set_left (List.getElem?_eq_some_iff.mp q).1]
theorem peek_app {γ : Env} {r : Rs} {d : D} (h : peek ρ r = some d) : peek (ρ ++ γ) r = some d := by
  cases r with
  | im _ => exact h
  | nw _ => exact h
  | slot i =>
    have h' : (ρ[i]?).bind Sl.peek = some d := h
    cases q : ρ[i]? with
    | none => rw [q] at h'; cases h'
    | some x =>
      show ((ρ ++ γ)[i]?).bind Sl.peek = some d
      rw [get_app q, ← q]
      exact h'
theorem Rep.peek (R : Rep M Γ Hf σ H ρ) {r : Rs} {v : V} {d : D} (h : RsIs M Γ Hf σ H ρ r v) (e : Fx.peek ρ r = some d) : HasT M Hf H d v := R.r0.peek h.to0 (peek_app e)
theorem Rep.use (R : Rep M Γ Hf σ H ρ) {r : Rs} {v : V} {ρ' : Env} {d : D} (h : RsIs M Γ Hf σ H ρ r v) (e : Fx.use ρ r = .ok (ρ', d)) : ∃ Hf', Same Hf Hf' ∧ Rep M Γ Hf' σ H ρ' ∧ Has M Hf' d v := by
  obtain ⟨Hf', S, R', hh⟩ := R.r0.use h.to0 (use_app e)
  exact ⟨Hf', S, ⟨(use_len e).trans R.len, R'⟩, hh⟩
theorem put_app {γ ρ' : Env} {i : Nat} {r : Rs} (h : put ρ i r = .ok ρ') : put (ρ ++ γ) i r = .ok (ρ' ++ γ) ∧ i < ρ.length ∧ ρ'.length = ρ.length := by
  unfold put at h ⊢
  cases q : ρ[i]? with
  | none => simp [q] at h
  | some x =>
    have lt := (List.getElem?_eq_some_iff.mp q).1
    rw [get_app q]
    have main : (match r with
      | .im d => (.ok (ρ.set i (.im d)) : Rz Env)
      | .nw d => .ok (ρ.set i (.lo d))
      | .slot j => (Fx.use ρ (.slot j)) >>= fun p => .ok (p.1.set i (.im p.2))) = .ok ρ' ∧ (∀ d, x ≠ .pa d) := by
      cases x <;> simp [q] at h <;> exact ⟨h, fun d e => by cases e⟩
    obtain ⟨main, npa⟩ := main
    have goal : (match r with
      | .im d => (.ok ((ρ ++ γ).set i (.im d)) : Rz Env)
      | .nw d => .ok ((ρ ++ γ).set i (.lo d))
      | .slot j => (Fx.use (ρ ++ γ) (.slot j)) >>= fun p => .ok (p.1.set i (.im p.2))) = .ok (ρ' ++ γ) ∧ ρ'.length = ρ.length := by
      cases r with
      | im d => cases main; exact ⟨by show Rz.ok _ = _; rw [set_left lt], by simp⟩
      | nw d => cases main; exact ⟨by show Rz.ok _ = _; rw [set_left lt], by simp⟩
      | slot j =>
        replace main : ((Fx.use ρ (.slot j)) >>= fun p => (.ok (p.1.set i (.im p.2)) : Rz Env)) = .ok ρ' := main
        cases u : Fx.use ρ (.slot j) with
        | no => rw [u] at main; cases main
        | ex _ _ => rw [u] at main; cases main
        | ok p =>
          rw [u] at main
          cases main
          have l1 : p.1.length = ρ.length := use_len (ρ' := p.1) (d := p.2) u
          refine ⟨?_, by simp [l1]⟩
          show ((Fx.use (ρ ++ γ) (.slot j)) >>= fun p => (.ok (p.1.set i (.im p.2)) : Rz Env)) = _
          rw [use_app (ρ' := p.1) (d := p.2) u]
          show Rz.ok _ = _
          rw [set_left (by rw [l1]; exact lt)]
    refine ⟨?_, lt, goal.2⟩
    cases x with
    | pa d => exact absurd rfl (npa d)
    | _ => exact goal.1
theorem Rep.store (R : Rep M Γ Hf σ H ρ) {i : Nat} {r : Rs} {v : V} {ρ' : Env} (h : RsIs M Γ Hf σ H ρ r v) (e : Fx.put ρ i r = .ok ρ') : ∃ Hf', Same Hf Hf' ∧ Rep M Γ Hf' (σ.set i (some v)) H ρ' := by
  obtain ⟨e', lt, l⟩ := put_app (γ := Γ.γ) e
  obtain ⟨Hf', S, R'⟩ := R.r0.store h.to0 e'
  rw [set_left (by rw [← R.len]; exact lt)] at R'
  exact ⟨Hf', S, ⟨by rw [l, List.length_set]; exact R.len, R'⟩⟩
theorem Rep.lay (R : Rep M Γ Hf σ H ρ) {p : Addr} (hp : H p = none) (o : HO) : Same Hf (upd Hf p o) ∧ Rep M Γ (upd Hf p o) σ (upd H p o) ρ := by
  obtain ⟨S, R'⟩ := R.r0.lay hp o
  exact ⟨S, ⟨R.len, R'⟩⟩
theorem Rep.layN (R : Rep M Γ Hf σ H ρ) {p : Addr} (hp : H p = none) (o : HO) : Rep M Γ Hf σ (upd H p o) ρ ∧ Γ.g.H0 p = none ∧ Hf p = none ∧ ∀ (i : Nat) x, (ρ ++ Γ.γ)[i]? = some x → x.own → (σ ++ Γ.τ)[i]? ≠ some (some (.ref p)) := by
  obtain ⟨R', h0, hf, hn⟩ := R.r0.layN hp o
  exact ⟨⟨R.len, R'⟩, h0, hf, hn⟩
end

/-! ### readings -/
/-- what is wanted behind an exception, from a state on -/
def EPf (M : Md) (W : WX) (Γ : Gh) (Hf : Hp) (σ : L2.St) : Exn → Env → Prop := fun x ρ' => ∀ Hf' H' c d, Same Hf Hf' → Rep M Γ Hf' σ H' ρ' → ExIs M Γ.g.H0 Hf' H' x c d → W c d σ H'
theorem EPf.up {M : Md} {W : WX} {Γ : Gh} {Hf Hf1 : Hp} {σ : L2.St} (S : Same Hf Hf1) : ∀ x ρ, EPf M W Γ Hf σ x ρ → EPf M W Γ Hf1 σ x ρ := fun x ρ h Hf' H' c d S' R e => h Hf' H' c d (S.trans S') R e
/-- data -/
def rdV (M : Md) (W : WX) (f : Env → Rz (Env × D)) : TE := fun σ H Q => ∃ Γ Hf ρ, Rep M Γ Hf σ H ρ ∧
  (f ρ).wp (fun p => ∀ Hf' H' v, Same Hf Hf' → Rep M Γ Hf' σ H' p.1 → Has M Hf' p.2 v → Q v H') (EPf M W Γ Hf σ)
/-- any result -/
def rdE (M : Md) (W : WX) (f : Env → Rz (Env × Rs)) : TE := fun σ H Q => ∃ Γ Hf ρ, Rep M Γ Hf σ H ρ ∧
  (f ρ).wp (fun p => ∀ Hf' H' v, Same Hf Hf' → Rep M Γ Hf' σ H' p.1 → RsIs M Γ Hf' σ H' p.1 p.2 v → Q v H') (EPf M W Γ Hf σ)
/-- a test -/
def rdT (M : Md) (W : WX) (f : Env → Rz (Env × Bool)) : TT := fun σ H Q => ∃ Γ Hf ρ, Rep M Γ Hf σ H ρ ∧
  (f ρ).wp (fun p => ∀ Hf' H', Same Hf Hf' → Rep M Γ Hf' σ H' p.1 → Q p.2 H') (EPf M W Γ Hf σ)
/-- arguments as data -/
def rdA (M : Md) (W : WX) (f : Env → Rz (Env × List D)) : TA := fun σ H Q => ∃ Γ Hf ρ, Rep M Γ Hf σ H ρ ∧
  (f ρ).wp (fun p => ∀ Hf' H' vs, Same Hf Hf' → Rep M Γ Hf' σ H' p.1 → HasAll M Hf' p.2 vs → Q vs H') (EPf M W Γ Hf σ)

theorem pe_mono {X : Cx} {e : Expr} {t t' : TE} (h : PE X e t) (i : ∀ σ H Q, t' σ H Q → t σ H Q) : PE X e t' := ⟨fun pins s σ H Q I q => h.run pins s σ H Q I (i σ H Q q)⟩
theorem pt_mono {X : Cx} {e : Expr} {t t' : TT} (h : PT X e t) (i : ∀ σ H Q, t' σ H Q → t σ H Q) : PT X e t' := ⟨fun pins s σ H Q I q => h.run pins s σ H Q I (i σ H Q q)⟩
theorem pw_mono {X : Cx} {e : Expr} {t t' : TT} (h : PW X e t) (i : ∀ σ H Q, t' σ H Q → t σ H Q) : PW X e t' := ⟨fun wh pins s σ H Q I q => h.run wh pins s σ H Q I (i σ H Q q)⟩
theorem pa_mono {X : Cx} {e : List Expr} {t t' : TA} (h : PA X e t) (i : ∀ σ H Q, t' σ H Q → t σ H Q) : PA X e t' := ⟨fun pos pins s σ H Q I q => h.run pos pins s σ H Q I (i σ H Q q)⟩

abbrev RV (X : Cx) (W : WX) (e : Expr) (f : Env → Rz (Env × D)) : Prop := PE X e (rdV ⟨X.K, X.mg⟩ W f)
abbrev RE (X : Cx) (W : WX) (e : Expr) (f : Env → Rz (Env × Rs)) : Prop := PE X e (rdE ⟨X.K, X.mg⟩ W f)
abbrev RT (X : Cx) (W : WX) (e : Expr) (f : Env → Rz (Env × Bool)) : Prop := PT X e (rdT ⟨X.K, X.mg⟩ W f)
abbrev RW (X : Cx) (W : WX) (e : Expr) (f : Env → Rz (Env × Bool)) : Prop := PW X e (rdT ⟨X.K, X.mg⟩ W f)
abbrev RA (X : Cx) (W : WX) (es : List Expr) (f : Env → Rz (Env × List D)) : Prop := PA X es (rdA ⟨X.K, X.mg⟩ W f)

section
variable {M : Md} {W : WX} {Γ : Gh} {Hf : Hp} {σ : L2.St} {H : Hp} {ρ : Env} {β : Type} {P : β → Prop}
/-- a part that gives data, then the rest -/
theorem bindV {f : Env → Rz (Env × D)} {g : Env × D → Rz β} {Q : VK} (R : Rep M Γ Hf σ H ρ) (hw : ((f ρ).bind g).wp P (EPf M W Γ Hf σ))
    (k : ∀ ρ1 d Hf1 H1 v, Same Hf Hf1 → Rep M Γ Hf1 σ H1 ρ1 → Has M Hf1 d v → (g (ρ1, d)).wp P (EPf M W Γ Hf1 σ) → Q v H1) : rdV M W f σ H Q :=
  ⟨Γ, Hf, ρ, R, Rz.wp_mono (Rz.wp_bind hw) (fun p hp Hf1 H1 v S R1 hv => k p.1 p.2 Hf1 H1 v S R1 hv (Rz.wp_mono hp (fun _ z => z) (EPf.up S))) (fun _ _ z => z)⟩
theorem bindE {f : Env → Rz (Env × Rs)} {g : Env × Rs → Rz β} {Q : VK} (R : Rep M Γ Hf σ H ρ) (hw : ((f ρ).bind g).wp P (EPf M W Γ Hf σ))
    (k : ∀ ρ1 r Hf1 H1 v, Same Hf Hf1 → Rep M Γ Hf1 σ H1 ρ1 → RsIs M Γ Hf1 σ H1 ρ1 r v → (g (ρ1, r)).wp P (EPf M W Γ Hf1 σ) → Q v H1) : rdE M W f σ H Q :=
  ⟨Γ, Hf, ρ, R, Rz.wp_mono (Rz.wp_bind hw) (fun p hp Hf1 H1 v S R1 hv => k p.1 p.2 Hf1 H1 v S R1 hv (Rz.wp_mono hp (fun _ z => z) (EPf.up S))) (fun _ _ z => z)⟩
theorem bindT {f : Env → Rz (Env × Bool)} {g : Env × Bool → Rz β} {Q : Bool → Hp → Prop} (R : Rep M Γ Hf σ H ρ) (hw : ((f ρ).bind g).wp P (EPf M W Γ Hf σ))
    (k : ∀ ρ1 b Hf1 H1, Same Hf Hf1 → Rep M Γ Hf1 σ H1 ρ1 → (g (ρ1, b)).wp P (EPf M W Γ Hf1 σ) → Q b H1) : rdT M W f σ H Q :=
  ⟨Γ, Hf, ρ, R, Rz.wp_mono (Rz.wp_bind hw) (fun p hp Hf1 H1 S R1 => k p.1 p.2 Hf1 H1 S R1 (Rz.wp_mono hp (fun _ z => z) (EPf.up S))) (fun _ _ z => z)⟩
theorem bindA {f : Env → Rz (Env × List D)} {g : Env × List D → Rz β} {Q : List V → Hp → Prop} (R : Rep M Γ Hf σ H ρ) (hw : ((f ρ).bind g).wp P (EPf M W Γ Hf σ))
    (k : ∀ ρ1 ds Hf1 H1 vs, Same Hf Hf1 → Rep M Γ Hf1 σ H1 ρ1 → HasAll M Hf1 ds vs → (g (ρ1, ds)).wp P (EPf M W Γ Hf1 σ) → Q vs H1) : rdA M W f σ H Q :=
  ⟨Γ, Hf, ρ, R, Rz.wp_mono (Rz.wp_bind hw) (fun p hp Hf1 H1 v S R1 hv => k p.1 p.2 Hf1 H1 v S R1 hv (Rz.wp_mono hp (fun _ z => z) (EPf.up S))) (fun _ _ z => z)⟩
end

section
variable {X : Cx} {W : WX} {e a b c : Expr} {pos : Pos}
/-- a result as data -/
def vU (f : Env → Rz (Env × Rs)) : Env → Rz (Env × D) := fun ρ => (f ρ).bind fun p => use p.1 p.2
def hV (f : Env → Rz (Env × D)) : Env → Rz (Env × Rs) := fun ρ => (f ρ).bind fun p => .ok (p.1, .im p.2)
theorem rv_of {f : Env → Rz (Env × Rs)} (h : RE X W e f) : RV X W e (vU f) := pe_mono h fun σ H Q ⟨Γ, Hf, ρ, R, hw⟩ =>
  bindE R hw fun ρ1 r Hf1 H1 v S R1 hv hq => by
    revert hq
    cases u : use ρ1 r with
    | no => exact fun hq => hq.elim
    | ex x ρ' =>
      exfalso
      cases r with
      | im _ => cases u
      | nw _ => cases u
      | slot i =>
        unfold use at u
        cases q : ρ1[i]? with
        | none => simp [q] at u
        | some y => cases y <;> simp [q] at u
    | ok p =>
      intro hq
      obtain ⟨Hf2, S2, R2, hh⟩ := R1.use hv u
      exact hq Hf2 H1 v (S.trans S2) R2 hh
theorem re_of {f : Env → Rz (Env × D)} (h : RV X W e f) : RE X W e (hV f) := pe_mono h fun σ H Q ⟨Γ, Hf, ρ, R, hw⟩ =>
  bindV R hw fun ρ1 d Hf1 H1 v S R1 hv hq => hq Hf1 H1 v S R1 hv
/-- a name -/
theorem pe_monoI {X : Cx} {e : Expr} {t t' : TE} (h : PE X e t) (i : ∀ σ H Q, σ.length = X.N.length → t' σ H Q → t σ H Q) : PE X e t' := ⟨fun pins s σ H Q I q => h.run pins s σ H Q I (i σ H Q I.len q)⟩
theorem rN_ok {M : Md} {Γ : Gh} {Hf : Hp} {σ : L2.St} {H : Hp} {ρ : Env} {i : Nat} {Q : Env × Rs → Prop} {E : Exn → Env → Prop} (R : Rep M Γ Hf σ H ρ) (hw : (rN i ρ).wp Q E) : ∃ v, σ[i]? = some (some v) ∧ Q (ρ, .slot i) := by
  unfold rN at hw
  cases q : ρ[i]? with
  | none => simp [q] at hw; exact hw.elim
  | some y =>
    have lt : i < σ.length := by rw [← R.len]; exact (List.getElem?_eq_some_iff.mp q).1
    have q' := get_app (k := Γ.γ) q
    cases y with
    | no => simp [q] at hw; exact hw.elim
    | im d =>
      simp only [q] at hw
      obtain ⟨v, h1, _⟩ := R.r0.im i d q'
      exact ⟨v, by rw [← get_left lt]; exact h1, hw⟩
    | lo d =>
      simp only [q] at hw
      obtain ⟨a, h1, _⟩ := R.r0.lo i d q'
      exact ⟨_, by rw [← get_left lt]; exact h1, hw⟩
    | pa d =>
      simp only [q] at hw
      obtain ⟨a, h1, _⟩ := R.r0.pa i d q'
      exact ⟨_, by rw [← get_left lt]; exact h1, hw⟩
theorem re_name {x : Str} (i : Nat) (hN : X.N[i]? = some x := by rfl) (hv : Vis X.env.scope x := by first | exact Or.inl rfl | exact Or.inr (Or.inl rfl) | exact Or.inr (Or.inr rfl)) (hd : (x == ("__debug__" : Str)) = false := by decide)
    (hcd : (x == ("__classdict__" : Str)) = false := by decide) : RE X W (.Name x pos) (rN i) := pe_mono (pe_var hN hv hd hcd) fun σ H Q ⟨Γ, Hf, ρ, R, hw⟩ => by
  obtain ⟨v, h1, hq⟩ := rN_ok R hw
  exact ⟨v, h1, hq Hf H v (Same.refl _) R h1⟩
def vN (i : Nat) : Env → Rz (Env × D) := vU (rN i)
theorem rv_name {x : Str} (i : Nat) (hN : X.N[i]? = some x := by rfl) (hv : Vis X.env.scope x := by first | exact Or.inl rfl | exact Or.inr (Or.inl rfl) | exact Or.inr (Or.inr rfl)) (hd : (x == ("__debug__" : Str)) = false := by decide)
    (hcd : (x == ("__classdict__" : Str)) = false := by decide) : RV X W (.Name x pos) (vN i) := rv_of (re_name i hN hv hd hcd)
/-- constants -/
def vC (d : D) : Env → Rz (Env × D) := fun ρ => .ok (ρ, d)
theorem rv_const {d : D} {v : V} (h : PE X e (tC v)) (hh : ∀ G, Has ⟨X.K, X.mg⟩ G d v) : RV X W e (vC d) := pe_mono h fun σ H Q ⟨Γ, Hf, ρ, R, hw⟩ => hw Hf H v (Same.refl _) R (hh Hf)
theorem rv_int {i j} : RV X W (.Constant (.int i) j pos) (vC (.int i)) := rv_const pe_int fun _ => .int i
theorem rv_bl {b j} : RV X W (.Constant (.bool b) j pos) (vC (.bl b)) := rv_const pe_bl fun _ => .bl b
theorem rv_non {j} : RV X W (.Constant .none j pos) (vC .non) := rv_const pe_non fun _ => .non
theorem rv_str {x j} : RV X W (.Constant (.str x) j pos) (vC (.str x)) := rv_const pe_str fun _ => .str x
/-- a constant of the module, as data of its written part -/
theorem rv_glob {x : Str} {d : D} {v : V} {u : Value} (hg : Gl X x) (hm : X.mg x = some u) (r : RelV v u) (hh : ∀ G, Has ⟨X.K, X.mg⟩ G d v) (hd : (x == ("__debug__" : Str)) = false := by decide) : RV X W (.Name x pos) (vC d) :=
  rv_const (pe_glob hg hm r hd) hh

end
end Fx

set_option Elab.async false
set_option linter.all false
set_option maxRecDepth 100000
set_option maxHeartbeats 4000000
namespace Fx
open PySem L2
variable [Tb]
/-! ### held operands: a slot, or frozen data -/
def Rs.hold : Rs → Rs
  | .nw d => .im d
  | r => r
def HsIs (M : Md) (Hf : Hp) (σ : L2.St) : Rs → V → Prop
  | .slot i, v => σ[i]? = some (some v)
  | .im d, v => Has M Hf d v
  | .nw _, _ => False
theorem HsIs.up {M : Md} {Hf Hf' : Hp} {σ : L2.St} {r : Rs} {v : V} (S : Same Hf Hf') (h : HsIs M Hf σ r v) : HsIs M Hf' σ r v := by
  cases r with
  | slot i => exact h
  | im d => exact Has.same S h
  | nw d => exact h
theorem HsIs.rs {M : Md} {Γ : Gh} {Hf H : Hp} {σ : L2.St} {ρ : Env} {r : Rs} {v : V} (h : HsIs M Hf σ r v) : RsIs M Γ Hf σ H ρ r v := by
  cases r with
  | slot i => exact h
  | im d => exact h
  | nw d => exact h.elim
inductive HsAll (M : Md) (Hf : Hp) (σ : L2.St) : List Rs → List V → Prop
  | nil : HsAll M Hf σ [] []
  | cons {r : Rs} {rs : List Rs} {v : V} {vs : List V} : HsIs M Hf σ r v → HsAll M Hf σ rs vs → HsAll M Hf σ (r :: rs) (v :: vs)
theorem HsAll.up {M : Md} {Hf Hf' : Hp} {σ : L2.St} (S : Same Hf Hf') : ∀ {rs : List Rs} {vs : List V}, HsAll M Hf σ rs vs → HsAll M Hf' σ rs vs
  | _, _, .nil => .nil
  | _, _, .cons h t => .cons (h.up S) (t.up S)
def rdH (M : Md) (W : WX) (f : Env → Rz (Env × Rs)) : TE := fun σ H Q => ∃ Γ Hf ρ, Rep M Γ Hf σ H ρ ∧
  (f ρ).wp (fun p => ∀ Hf' H' v, Same Hf Hf' → Rep M Γ Hf' σ H' p.1 → HsIs M Hf' σ p.2 v → Q v H') (EPf M W Γ Hf σ)
def rdHs (M : Md) (W : WX) (f : Env → Rz (Env × List Rs)) : TA := fun σ H Q => ∃ Γ Hf ρ, Rep M Γ Hf σ H ρ ∧
  (f ρ).wp (fun p => ∀ Hf' H' vs, Same Hf Hf' → Rep M Γ Hf' σ H' p.1 → HsAll M Hf' σ p.2 vs → Q vs H') (EPf M W Γ Hf σ)
abbrev RH (X : Cx) (W : WX) (e : Expr) (f : Env → Rz (Env × Rs)) : Prop := PE X e (rdH ⟨X.K, X.mg⟩ W f)
abbrev RHs (X : Cx) (W : WX) (es : List Expr) (f : Env → Rz (Env × List Rs)) : Prop := PA X es (rdHs ⟨X.K, X.mg⟩ W f)
section
variable {M : Md} {W : WX} {Γ : Gh} {Hf : Hp} {σ : L2.St} {H : Hp} {ρ : Env} {β : Type} {P : β → Prop}
theorem bindH {f : Env → Rz (Env × Rs)} {g : Env × Rs → Rz β} {Q : VK} (R : Rep M Γ Hf σ H ρ) (hw : ((f ρ).bind g).wp P (EPf M W Γ Hf σ))
    (k : ∀ ρ1 r Hf1 H1 v, Same Hf Hf1 → Rep M Γ Hf1 σ H1 ρ1 → HsIs M Hf1 σ r v → (g (ρ1, r)).wp P (EPf M W Γ Hf1 σ) → Q v H1) : rdH M W f σ H Q :=
  ⟨Γ, Hf, ρ, R, Rz.wp_mono (Rz.wp_bind hw) (fun p hp Hf1 H1 v S R1 hv => k p.1 p.2 Hf1 H1 v S R1 hv (Rz.wp_mono hp (fun _ z => z) (EPf.up S))) (fun _ _ z => z)⟩
theorem bindHs {f : Env → Rz (Env × List Rs)} {g : Env × List Rs → Rz β} {Q : List V → Hp → Prop} (R : Rep M Γ Hf σ H ρ) (hw : ((f ρ).bind g).wp P (EPf M W Γ Hf σ))
    (k : ∀ ρ1 rs Hf1 H1 vs, Same Hf Hf1 → Rep M Γ Hf1 σ H1 ρ1 → HsAll M Hf1 σ rs vs → (g (ρ1, rs)).wp P (EPf M W Γ Hf1 σ) → Q vs H1) : rdHs M W f σ H Q :=
  ⟨Γ, Hf, ρ, R, Rz.wp_mono (Rz.wp_bind hw) (fun p hp Hf1 H1 v S R1 hv => k p.1 p.2 Hf1 H1 v S R1 hv (Rz.wp_mono hp (fun _ z => z) (EPf.up S))) (fun _ _ z => z)⟩
end
/-- an Option's value in the way -/
theorem ofO_bind {α β : Type} {o : Option α} {f : α → Rz β} {Q : β → Prop} {E : Exn → Env → Prop} (h : ((Rz.ofO o).bind f).wp Q E) : ∃ a, o = some a ∧ (f a).wp Q E := by
  cases o with
  | none => exact h.elim
  | some a => exact ⟨a, rfl, h⟩
section
variable {X : Cx} {W : WX} {e a b c : Expr} {es : List Expr} {pos : Pos}
def hH (f : Env → Rz (Env × Rs)) : Env → Rz (Env × Rs) := fun ρ => (f ρ).bind fun p => .ok (p.1, p.2.hold)
theorem rh_re {f : Env → Rz (Env × Rs)} (h : RE X W e f) : RH X W e (hH f) := pe_mono h fun σ H Q ⟨Γ, Hf, ρ, R, hw⟩ =>
  bindE R hw fun ρ1 r Hf1 H1 v S R1 hv hq => by
    cases r with
    | slot i => exact hq Hf1 H1 v S R1 hv
    | im d => exact hq Hf1 H1 v S R1 hv
    | nw d =>
      obtain ⟨Hf2, S2, R2, hh⟩ := R1.use (r := .nw d) (ρ' := ρ1) (d := d) hv rfl
      exact hq Hf2 H1 v (S.trans S2) R2 hh
theorem rh_name {x : Str} (i : Nat) (hN : X.N[i]? = some x := by rfl) (hv : Vis X.env.scope x := by first | exact Or.inl rfl | exact Or.inr (Or.inl rfl) | exact Or.inr (Or.inr rfl)) (hd : (x == ("__debug__" : Str)) = false := by decide)
    (hcd : (x == ("__classdict__" : Str)) = false := by decide) : RH X W (.Name x pos) (rN i) := pe_mono (pe_var hN hv hd hcd) fun σ H Q ⟨Γ, Hf, ρ, R, hw⟩ => by
  obtain ⟨v, h1, hq⟩ := rN_ok R hw
  exact ⟨v, h1, hq Hf H v (Same.refl _) R h1⟩
theorem rh_rv {f : Env → Rz (Env × D)} (h : RV X W e f) : RH X W e (hV f) := pe_mono h fun σ H Q ⟨Γ, Hf, ρ, R, hw⟩ =>
  bindV R hw fun ρ1 d Hf1 H1 v S R1 hv hq => hq Hf1 H1 v S R1 hv
/-- a constant as an operand -/
def hC (d : D) : Env → Rz (Env × Rs) := fun ρ => .ok (ρ, .im d)
theorem rh_c {d : D} (h : RV X W e (vC d)) : RH X W e (hC d) := pe_mono h fun σ H Q ⟨Γ, Hf, ρ, R, hw⟩ => ⟨Γ, Hf, ρ, R, fun Hf' H' v S R' h => hw Hf' H' v S R' h⟩
/-! ### arguments -/
def aNil : Env → Rz (Env × List Rs) := fun ρ => .ok (ρ, [])
def aCons (f : Env → Rz (Env × Rs)) (g : Env → Rz (Env × List Rs)) : Env → Rz (Env × List Rs) := fun ρ => (f ρ).bind fun p => (g p.1).bind fun q => .ok (q.1, p.2 :: q.2)
theorem ra_nil : RHs X W [] aNil := pa_mono pa_nil fun σ H Q ⟨Γ, Hf, ρ, R, hw⟩ => hw Hf H [] (Same.refl _) R .nil
theorem ra_cons {f : Env → Rz (Env × Rs)} {g : Env → Rz (Env × List Rs)} (ha : RH X W e f) (hr : RHs X W es g) (hs : starEach (e :: es) X.env = (false, eval e X.env) :: starEach es X.env := by rfl) : RHs X W (e :: es) (aCons f g) :=
  pa_mono (pa_cons ha hr hs) fun σ H Q ⟨Γ, Hf, ρ, R, hw⟩ => bindH R hw fun ρ1 r Hf1 H1 v S1 R1 hv hq => bindHs R1 hq fun ρ2 rs Hf2 H2 vs S2 R2 hvs hq2 =>
    hq2 Hf2 H2 (v :: vs) (S1.trans S2) R2 (.cons (hv.up S2) hvs)
/-- all as data that never changes -/
def useAll : Env → List Rs → Rz (Env × List D)
  | ρ, [] => .ok (ρ, [])
  | ρ, r :: rs => (use ρ r).bind fun p => (useAll p.1 rs).bind fun q => .ok (q.1, p.2 :: q.2)
theorem use_noex {ρ : Env} {r : Rs} {x : Exn} {ρ' : Env} : use ρ r ≠ .ex x ρ' := by
  intro u
  cases r with
  | im _ => cases u
  | nw _ => cases u
  | slot i =>
    unfold use at u
    cases q : ρ[i]? with
    | none => simp [q] at u
    | some y => cases y <;> simp [q] at u
theorem Rep.useAll {M : Md} {Γ : Gh} {σ : L2.St} {H : Hp} : ∀ {rs : List Rs} {vs : List V} {Hf : Hp} {ρ ρ' : Env} {ds : List D}, Rep M Γ Hf σ H ρ → HsAll M Hf σ rs vs → Fx.useAll ρ rs = .ok (ρ', ds) →
    ∃ Hf', Same Hf Hf' ∧ Rep M Γ Hf' σ H ρ' ∧ HasAll M Hf' ds vs
  | _, _, Hf, ρ, ρ', ds, R, .nil, e => by cases e; exact ⟨Hf, Same.refl _, R, .nil⟩
  | r :: rs, v :: vs, Hf, ρ, ρ', ds, R, .cons h t, e => by
    have e' : ((Fx.use ρ r).bind fun p => (Fx.useAll p.1 rs).bind fun q => .ok (q.1, p.2 :: q.2)) = Rz.ok (ρ', ds) := e
    cases u : Fx.use ρ r with
    | no => rw [u] at e'; cases e'
    | ex _ _ => exact absurd u use_noex
    | ok p =>
      rw [u] at e'
      obtain ⟨Hf1, S1, R1, h1⟩ := R.use h.rs u
      cases u2 : Fx.useAll p.1 rs with
      | no => rw [Rz.ok_bind, u2] at e'; cases e'
      | ex _ _ => rw [Rz.ok_bind, u2] at e'; cases e'
      | ok q =>
        rw [Rz.ok_bind, u2] at e'
        cases e'
        obtain ⟨Hf2, S2, R2, h2⟩ := Rep.useAll R1 (t.up S1) u2
        exact ⟨Hf2, S1.trans S2, R2, .cons (h1.same S2) h2⟩
theorem useAll_noex : ∀ {rs : List Rs} {ρ : Env} {x : Exn} {ρ' : Env}, useAll ρ rs ≠ .ex x ρ'
  | [], ρ, x, ρ', u => by cases u
  | r :: rs, ρ, x, ρ', u => by
    have u' : ((use ρ r).bind fun p => (useAll p.1 rs).bind fun q => .ok (q.1, p.2 :: q.2)) = Rz.ex x ρ' := u
    cases u1 : use ρ r with
    | no => rw [u1] at u'; cases u'
    | ex _ _ => exact use_noex u1
    | ok p =>
      rw [u1] at u'
      cases u2 : useAll p.1 rs with
      | no => rw [Rz.ok_bind, u2] at u'; cases u'
      | ex _ _ => exact useAll_noex u2
      | ok q => rw [Rz.ok_bind, u2] at u'; cases u'
theorem use_wp {β : Type} {ρ : Env} {r : Rs} {g : Env × D → Rz β} {Q : β → Prop} {E : Exn → Env → Prop} (h : ((use ρ r).bind g).wp Q E) : ∃ p, use ρ r = .ok p ∧ (g p).wp Q E := by
  cases u : use ρ r with
  | no => rw [u] at h; exact h.elim
  | ex _ _ => exact absurd u use_noex
  | ok p => rw [u] at h; exact ⟨p, rfl, h⟩
theorem useAll_wp {β : Type} {ρ : Env} {rs : List Rs} {g : Env × List D → Rz β} {Q : β → Prop} {E : Exn → Env → Prop} (h : ((useAll ρ rs).bind g).wp Q E) : ∃ p, useAll ρ rs = .ok p ∧ (g p).wp Q E := by
  cases u : useAll ρ rs with
  | no => rw [u] at h; exact h.elim
  | ex _ _ => exact absurd u useAll_noex
  | ok p => rw [u] at h; exact ⟨p, rfl, h⟩

/-! ### displays -/
def sz (n : Nat) : Bool := decide (n ≤ sizeLine)
theorem sz_ok {n : Nat} (h : sz n = true) : n ≤ sizeLine := of_decide_eq_true h
def vTup (f : Env → Rz (Env × List Rs)) : Env → Rz (Env × D) := fun ρ => (f ρ).bind fun p => (useAll p.1 p.2).bind fun q => if sz q.2.length then .ok (q.1, .nd .tup q.2) else .no
def eLst (f : Env → Rz (Env × List Rs)) : Env → Rz (Env × Rs) := fun ρ => (f ρ).bind fun p => (useAll p.1 p.2).bind fun q => if sz q.2.length then .ok (q.1, .nw (.nd .lst q.2)) else .no
theorem ite_wp {α : Type} {c : Bool} {r : Rz α} {Q : α → Prop} {E : Exn → Env → Prop} (h : (if c = true then r else .no).wp Q E) : c = true ∧ r.wp Q E := by
  cases c with
  | true => exact ⟨rfl, h⟩
  | false => exact h.elim
theorem rv_tup {f : Env → Rz (Env × List Rs)} {x1} (h : RHs X W es f) : RV X W (.Tuple es x1 pos) (vTup f) := pe_mono (pe_tup h) fun σ H Q ⟨Γ, Hf, ρ, R, hw⟩ =>
  bindHs R hw fun ρ1 rs Hf1 H1 vs S1 R1 hvs hq => by
    obtain ⟨p, u, hq⟩ := useAll_wp hq
    obtain ⟨Hf2, S2, R2, h2⟩ := R1.useAll hvs u
    obtain ⟨z, hq⟩ := ite_wp hq
    refine ⟨by rw [← h2.length]; exact sz_ok z, fun q hp => ?_⟩
    obtain ⟨S3, R3⟩ := R2.lay hp (.tup vs)
    exact hq _ _ _ (S1.trans (S2.trans S3)) R3 (.tup (SqT.of upd_same) (h2.same S3))
theorem re_lst {f : Env → Rz (Env × List Rs)} (h : RHs X W es f) : RE X W (.List es pos) (eLst f) := pe_mono (pe_lst h) fun σ H Q ⟨Γ, Hf, ρ, R, hw⟩ =>
  bindHs R hw fun ρ1 rs Hf1 H1 vs S1 R1 hvs hq => by
    obtain ⟨p, u, hq⟩ := useAll_wp hq
    obtain ⟨Hf2, S2, R2, h2⟩ := R1.useAll hvs u
    obtain ⟨z, hq⟩ := ite_wp hq
    refine ⟨by rw [← h2.length]; exact sz_ok z, fun q hp => ?_⟩
    obtain ⟨R3, h0, hf, hn⟩ := R2.layN hp (.lst vs)
    exact hq _ _ _ (S1.trans S2) R3 ⟨q, rfl, h0, .lst hf upd_same h2, hn⟩

/-! ### two-place operations -/
def D.av : D → Option V
  | .non => some .non
  | .bl b => some (.bl b)
  | .int i => some (.int i)
  | .str x => some (.str x)
  | _ => none
theorem has_av {M : Md} {G : Hp} {d : D} {v : V} (h : d.av = some v) : Has M G d v := by
  cases d with
  | non => cases h; exact .non
  | bl b => cases h; exact .bl b
  | int i => cases h; exact .int i
  | str x => cases h; exact .str x
  | ob a => cases h
  | nd k xs => cases h
/-- the results are atoms, nothing is laid -/
def ServesV (M : Md) (r : R2) (F : D → D → Option D) : Prop := ∀ Hf H x y d e g, HasT M Hf H d x → HasT M Hf H e y → Same Hf H → F d e = some g → ∃ v, g.av = some v ∧ ∀ Q : VK, Q v H → r x y H Q
def ServesB (M : Md) (r : R2) (F : D → D → Option Bool) : Prop := ∀ Hf H x y d e g, HasT M Hf H d x → HasT M Hf H e y → Same Hf H → F d e = some g → ∀ Q : VK, Q (.bl g) H → r x y H Q
/-- results of any kind -/
def ServesR (M : Md) (r : R2) (F : D → D → Option Rs) : Prop := ∀ Γ Hf σ H ρ x y d e g, Rep M Γ Hf σ H ρ → HasT M Hf H d x → HasT M Hf H e y → F d e = some g →
  ∀ Q : VK, (∀ Hf' H' v, Same Hf Hf' → Rep M Γ Hf' σ H' ρ → RsIs M Γ Hf' σ H' ρ g v → Q v H') → r x y H Q
def v2 (F : D → D → Option D) (f g : Env → Rz (Env × Rs)) : Env → Rz (Env × D) := fun ρ => (f ρ).bind fun p => (g p.1).bind fun q => (Rz.ofO (peek q.1 p.2)).bind fun d => (Rz.ofO (peek q.1 q.2)).bind fun e => (Rz.ofO (F d e)).bind fun r => .ok (q.1, r)
def t2 (F : D → D → Option Bool) (f g : Env → Rz (Env × Rs)) : Env → Rz (Env × Bool) := fun ρ => (f ρ).bind fun p => (g p.1).bind fun q => (Rz.ofO (peek q.1 p.2)).bind fun d => (Rz.ofO (peek q.1 q.2)).bind fun e => (Rz.ofO (F d e)).bind fun r => .ok (q.1, r)
def e2 (F : D → D → Option Rs) (f g : Env → Rz (Env × Rs)) : Env → Rz (Env × Rs) := fun ρ => (f ρ).bind fun p => (g p.1).bind fun q => (Rz.ofO (peek q.1 p.2)).bind fun d => (Rz.ofO (peek q.1 q.2)).bind fun e => (Rz.ofO (F d e)).bind fun r => .ok (q.1, r)
def dB (F : D → D → Option Bool) : D → D → Option D := fun d e => (F d e).map .bl
variable {f g : Env → Rz (Env × Rs)}
theorem two {M : Md} {α : Type} {F : D → D → Option α} {P : Env × α → Prop} {R0 : V → V → Hp → Prop} :
    ∀ σ H, (∃ Γ Hf ρ, Rep M Γ Hf σ H ρ ∧ (∀ ρ2 Hf2 H2 x y d e r, Rep M Γ Hf2 σ H2 ρ2 → Same Hf Hf2 → HasT M Hf2 H2 d x → HasT M Hf2 H2 e y → F d e = some r → P (ρ2, r) → R0 x y H2) ∧
      ((f ρ).bind fun p => (g p.1).bind fun q => (Rz.ofO (peek q.1 p.2)).bind fun d => (Rz.ofO (peek q.1 q.2)).bind fun e => (Rz.ofO (F d e)).bind fun r => Rz.ok (q.1, r)).wp P (EPf M W Γ Hf σ)) →
    rdH M W f σ H fun x H1 => rdH M W g σ H1 fun y H2 => R0 x y H2 := by
  rintro σ H ⟨Γ, Hf, ρ, R, fin, hw⟩
  refine bindH R hw fun ρ1 r1 Hf1 H1 x S1 R1 hx hq => bindH R1 hq fun ρ2 r2 Hf2 H2 y S2 R2 hy hq2 => ?_
  obtain ⟨d, e1, hq2⟩ := ofO_bind hq2
  obtain ⟨e, e2, hq2⟩ := ofO_bind hq2
  obtain ⟨r, e3, hq2⟩ := ofO_bind hq2
  exact fin ρ2 Hf2 H2 x y d e r R2 (S1.trans S2) (R2.peek (hx.up S2).rs e1) (R2.peek hy.rs e2) e3 hq2
def ServesD (M : Md) (r : R2) (F : D → D → Option D) : Prop := ∀ Hf H x y d e g, HasT M Hf H d x → HasT M Hf H e y → Same Hf H → F d e = some g → ∀ Q : VK, (∀ v, Has M Hf g v → Q v H) → r x y H Q
theorem ServesV.d {M : Md} {r : R2} {F : D → D → Option D} (hs : ServesV M r F) : ServesD M r F := fun Hf H x y d e g hx hy S h Q q => by
  obtain ⟨v, ev, fin⟩ := hs Hf H x y d e g hx hy S h
  exact fin Q (q v (has_av ev))
theorem v2_imp {M : Md} {r : R2} {F : D → D → Option D} (hs : ServesD M r F) : ∀ σ H Q, rdV M W (v2 F f g) σ H Q → tOp r (rdH M W f) (rdH M W g) σ H Q := by
  rintro σ H Q ⟨Γ, Hf, ρ, R, hw⟩
  refine two (M := M) σ H ⟨Γ, Hf, ρ, R, fun ρ2 Hf2 H2 x y d e g R2 S hx hy e3 hq => ?_, hw⟩
  exact hs Hf2 H2 x y d e g hx hy R2.sub e3 Q fun v hv => hq Hf2 H2 v S R2 hv
theorem e2_imp {M : Md} {r : R2} {F : D → D → Option Rs} (hs : ServesR M r F) : ∀ σ H Q, rdE M W (e2 F f g) σ H Q → tOp r (rdH M W f) (rdH M W g) σ H Q := by
  rintro σ H Q ⟨Γ, Hf, ρ, R, hw⟩
  refine two (M := M) σ H ⟨Γ, Hf, ρ, R, fun ρ2 Hf2 H2 x y d e g R2 S hx hy e3 hq => ?_, hw⟩
  exact hs Γ Hf2 _ H2 ρ2 x y d e g R2 hx hy e3 Q fun Hf' H' v S' R' h => hq Hf' H' v (S.trans S') R' h
theorem t2_imp {M : Md} {r : R2} {F : D → D → Option Bool} (hs : ServesB M r F) : ∀ σ H Q, rdT M W (t2 F f g) σ H Q → tTest (tOp r (rdH M W f) (rdH M W g)) σ H Q := by
  rintro σ H Q ⟨Γ, Hf, ρ, R, hw⟩
  refine two (M := M) σ H ⟨Γ, Hf, ρ, R, fun ρ2 Hf2 H2 x y d e g R2 S hx hy e3 hq => ?_, hw⟩
  exact hs Hf2 H2 x y d e g hx hy R2.sub e3 _ ⟨g, rfl, hq Hf2 H2 S R2⟩
theorem ServesB.v {M : Md} {r : R2} {F : D → D → Option Bool} (hs : ServesB M r F) : ServesV M r (dB F) := fun Hf H x y d e g hx hy S h => by
  unfold dB at h
  cases q : F d e with
  | none => rw [q] at h; cases h
  | some b => rw [q] at h; cases h; exact ⟨.bl b, rfl, hs Hf H x y d e b hx hy S q⟩
theorem rv_op {op : Operator} {r : R2} {F : D → D → Option D} (ho : OpR X (binaryOp op) r) (hs : ServesV ⟨X.K, X.mg⟩ r F) (ha : RH X W a f) (hb : RH X W b g) : RV X W (.BinOp a op b pos) (v2 F f g) := pe_mono (pe_op ho ha hb) (v2_imp hs.d)
theorem re_op {op : Operator} {r : R2} {F : D → D → Option Rs} (ho : OpR X (binaryOp op) r) (hs : ServesR ⟨X.K, X.mg⟩ r F) (ha : RH X W a f) (hb : RH X W b g) : RE X W (.BinOp a op b pos) (e2 F f g) := pe_mono (pe_op ho ha hb) (e2_imp hs)
theorem rv_cmp {op : CmpOp} {r : R2} {F : D → D → Option Bool} (ho : OpR X (compareOp op) r) (hs : ServesB ⟨X.K, X.mg⟩ r F) (ha : RH X W a f) (hb : RH X W b g) (hm : behindInMarks op b = false := by first | exact nomark _ | rfl | with_unfolding_all rfl) : RV X W (.Compare a [op] [b] pos) (v2 (dB F) f g) :=
  pe_mono (pe_cmpR ho ha hb hm) (v2_imp hs.v.d)
theorem rt_cmp {op : CmpOp} {r : R2} {F : D → D → Option Bool} (ho : OpR X (compareOp op) r) (hs : ServesB ⟨X.K, X.mg⟩ r F) (ha : RH X W a f) (hb : RH X W b g) (hm : behindInMarks op b = false := by first | exact nomark _ | rfl | with_unfolding_all rfl) : RT X W (.Compare a [op] [b] pos) (t2 F f g) :=
  pt_mono (pt_cmpR ho ha hb hm) (t2_imp hs)
end

/-! ### ints -/
def dI2 (C : Int → Int → Bool) (g : Int → Int → Int) : D → D → Option D
  | .int i, .int j => if C i j then some (.int (g i j)) else none
  | _, _ => none
def dBI (g : Int → Int → Bool) : D → D → Option Bool
  | .int i, .int j => some (g i j)
  | _, _ => none
section
variable {M : Md}
theorem serves_I0 {g : Int → Int → Int} : ServesV M (rI0 fun i j => .int (g i j)) (dI2 (fun _ _ => true) g) := fun Hf H x y d e r hx hy S h => by
  cases hx <;> cases hy <;> first | (cases h; exact ⟨_, rfl, fun Q q => ⟨_, _, rfl, rfl, q⟩⟩) | cases h
theorem serves_I {C : Int → Int → Prop} {C' : Int → Int → Bool} {g : Int → Int → Int} (hc : ∀ i j, C' i j = true → C i j) : ServesV M (rI C fun i j => .int (g i j)) (dI2 C' g) := fun Hf H x y d e r hx hy S h => by
  cases hx <;> cases hy <;> first
    | (rename_i i j
       have h' : (if C' i j = true then some (D.int (g i j)) else none) = some r := h
       by_cases c : C' i j = true
       · rw [if_pos c] at h'; cases h'; exact ⟨_, rfl, fun Q q => ⟨_, _, rfl, rfl, hc _ _ c, q⟩⟩
       · rw [if_neg c] at h'; cases h')
    | cases h
theorem serves_BI {g : Int → Int → Bool} : ServesB M (rI0 fun i j => .bl (g i j)) (dBI g) := fun Hf H x y d e r hx hy S h => by
  cases hx <;> cases hy <;> first | (cases h; exact fun Q q => ⟨_, _, rfl, rfl, q⟩) | cases h
end
abbrev dSub : D → D → Option D := dI2 (fun _ _ => true) fun i j => i - j
abbrev dAddI : D → D → Option D := dI2 (fun _ _ => true) fun i j => i + j
def cMul (i j : Int) : Bool := (decide (-(2 ^ 64) < i) && decide (i < 2 ^ 64)) || (decide (-(2 ^ 64) < j) && decide (j < 2 ^ 64))
abbrev dMul : D → D → Option D := dI2 cMul fun i j => i * j
def cMod (_ j : Int) : Bool := decide (0 < j)
abbrev dMod : D → D → Option D := dI2 cMod fun i j => i % j
def cDiv (_ j : Int) : Bool := decide (0 < j) && decide (j < 1073741824)
abbrev dDiv : D → D → Option D := dI2 cDiv fun i j => i / j
def cPow (i j : Int) : Bool := decide (0 ≤ j) && (decide (j ≤ 1000000) && decide (i.natAbs < 2 ^ 64))
abbrev dPow : D → D → Option D := dI2 cPow fun i j => i ^ j.toNat
abbrev dLt : D → D → Option Bool := dBI fun i j => decide (i < j)
abbrev dLe : D → D → Option Bool := dBI fun i j => decide (i ≤ j)
abbrev dGt : D → D → Option Bool := dBI fun i j => decide (i > j)
abbrev dGe : D → D → Option Bool := dBI fun i j => decide (i ≥ j)
section
variable {X : Cx} {W : WX} {a b : Expr} {pos : Pos} {f g : Env → Rz (Env × Rs)}
theorem rv_sub (ha : RH X W a f) (hb : RH X W b g) : RV X W (.BinOp a .Sub b pos) (v2 dSub f g) := rv_op op_sub serves_I0 ha hb
theorem rv_addI (ha : RH X W a f) (hb : RH X W b g) : RV X W (.BinOp a .Add b pos) (v2 dAddI f g) := rv_op op_add serves_I0 ha hb
theorem rv_mul (ha : RH X W a f) (hb : RH X W b g) : RV X W (.BinOp a .Mult b pos) (v2 dMul f g) := rv_op op_mul (serves_I (C' := cMul) fun i j h => by
  unfold cMul at h
  simp only [Bool.or_eq_true, Bool.and_eq_true, decide_eq_true_eq] at h
  exact h) ha hb
theorem rv_mod (ha : RH X W a f) (hb : RH X W b g) : RV X W (.BinOp a .Mod b pos) (v2 dMod f g) := rv_op op_mod (serves_I (C' := cMod) fun i j h => of_decide_eq_true h) ha hb
theorem rv_div (ha : RH X W a f) (hb : RH X W b g) : RV X W (.BinOp a .FloorDiv b pos) (v2 dDiv f g) := rv_op op_fdiv (serves_I (C' := cDiv) fun i j h => by
  unfold cDiv at h
  simp only [Bool.and_eq_true, decide_eq_true_eq] at h
  exact h) ha hb
theorem rv_pow (ha : RH X W a f) (hb : RH X W b g) : RV X W (.BinOp a .Pow b pos) (v2 dPow f g) := rv_op op_pow (serves_I (C' := cPow) fun i j h => by
  unfold cPow at h
  simp only [Bool.and_eq_true, decide_eq_true_eq] at h
  exact h) ha hb
theorem rv_lt (ha : RH X W a f) (hb : RH X W b g) : RV X W (.Compare a [.Lt] [b] pos) (v2 (dB dLt) f g) := rv_cmp op_lt serves_BI ha hb
theorem rt_lt (ha : RH X W a f) (hb : RH X W b g) : RT X W (.Compare a [.Lt] [b] pos) (t2 dLt f g) := rt_cmp op_lt serves_BI ha hb
theorem rv_le (ha : RH X W a f) (hb : RH X W b g) : RV X W (.Compare a [.LtE] [b] pos) (v2 (dB dLe) f g) := rv_cmp op_le serves_BI ha hb
theorem rt_le (ha : RH X W a f) (hb : RH X W b g) : RT X W (.Compare a [.LtE] [b] pos) (t2 dLe f g) := rt_cmp op_le serves_BI ha hb
theorem rv_gt (ha : RH X W a f) (hb : RH X W b g) : RV X W (.Compare a [.Gt] [b] pos) (v2 (dB dGt) f g) := rv_cmp op_gt serves_BI ha hb
theorem rt_gt (ha : RH X W a f) (hb : RH X W b g) : RT X W (.Compare a [.Gt] [b] pos) (t2 dGt f g) := rt_cmp op_gt serves_BI ha hb
theorem rv_ge (ha : RH X W a f) (hb : RH X W b g) : RV X W (.Compare a [.GtE] [b] pos) (v2 (dB dGe) f g) := rv_cmp op_ge serves_BI ha hb
theorem rt_ge (ha : RH X W a f) (hb : RH X W b g) : RT X W (.Compare a [.GtE] [b] pos) (t2 dGe f g) := rt_cmp op_ge serves_BI ha hb
end
end Fx

set_option Elab.async false
set_option linter.all false
set_option maxRecDepth 100000
set_option maxHeartbeats 4000000
namespace Fx
open PySem L2
variable [Tb]
/-! ### data as the library's data -/
mutual
def D.py : D → PyData
  | .non => .none
  | .bl b => .bool b
  | .int i => .int i
  | .str x => .str x
  | .ob _ => .none
  | .nd .tup xs => .tuple (D.pys xs)
  | .nd .lst xs => .list (D.pys xs)
  | .nd .scr _ => .none
  | .nd (.dct _) _ => .none
  | .nd (.obj _ _) _ => .none
  | .nd (.exn _ _) _ => .none
  | .nd .tupN _ => .none
  | .nd (.dcx _) _ => .none
def D.pys : List D → List PyData
  | [] => []
  | x :: xs => x.py :: D.pys xs
end
mutual
def D.plain : D → Bool
  | .non => true
  | .bl _ => true
  | .int _ => true
  | .str _ => true
  | .ob _ => false
  | .nd .tup xs => D.plains xs
  | .nd .lst xs => D.plains xs
  | .nd .scr _ => false
  | .nd (.dct _) _ => false
  | .nd (.obj _ _) _ => false
  | .nd (.exn _ _) _ => false
  | .nd .tupN _ => false
  | .nd (.dcx _) _ => false
def D.plains : List D → Bool
  | [] => true
  | x :: xs => x.plain && D.plains xs
end
theorem pys_map : ∀ xs : List D, D.pys xs = xs.map D.py
  | [] => by simp [D.pys]
  | x :: xs => by simp [D.pys, pys_map xs]
section
variable {M : Md} {G : Hp}
mutual
theorem Has.dp : ∀ {d : D} {v : V}, Has M G d v → d.plain = true → Dp M.K G v d.py
  | _, _, .non, _ => by rw [D.py]; exact .non
  | _, _, .bl b, _ => by rw [D.py]; exact .bl b
  | _, _, .int i, _ => by rw [D.py]; exact .int i
  | _, _, .str x, _ => by rw [D.py]; exact .str x
  | _, _, .ob a, h => by rw [D.plain] at h; cases h
  | _, _, .tup s t, h => by rw [D.py]; exact .tup s (HasAll.dp t (by rw [D.plain] at h; exact h))
  | _, _, .lst s t, h => by rw [D.py]; exact .lst (SqL.of s) (HasAll.dp t (by rw [D.plain] at h; exact h))
  | _, _, .scr s t, h => by rw [D.plain] at h; cases h
  | _, _, .dct s t, h => by rw [D.plain] at h; cases h
  | _, _, .obj g s t, h => by rw [D.plain] at h; cases h
  | _, _, .exn g s s2 t, h => by rw [D.plain] at h; cases h
  | _, _, .tupN s n t, h => by rw [D.plain] at h; cases h
  | _, _, .dcx s, h => by rw [D.plain] at h; cases h
theorem HasAll.dp : ∀ {ds : List D} {vs : List V}, HasAll M G ds vs → D.plains ds = true → DpAll M.K G vs (D.pys ds)
  | _, _, .nil, _ => by rw [D.pys]; exact .nil
  | _, _, .cons h t, e => by
    rw [D.plains, Bool.and_eq_true] at e
    rw [D.pys]
    exact .cons (Has.dp h e.1) (HasAll.dp t e.2)
end
theorem HasT.dp {H : Hp} {d : D} {v : V} (S : Same G H) (h : HasT M G H d v) (e : d.plain = true) : Dp M.K H v d.py := by
  cases h with
  | non => rw [D.py]; exact .non
  | bl b => rw [D.py]; exact .bl b
  | int i => rw [D.py]; exact .int i
  | str x => rw [D.py]; exact .str x
  | ob a => rw [D.plain] at e; cases e
  | tup s t => rw [D.py]; exact .tup (SqT.same S s) (HasAll.dp (t.same S) (by rw [D.plain] at e; exact e))
  | lst s t => rw [D.py]; exact .lst (SqL.of s) (HasAll.dp (t.same S) (by rw [D.plain] at e; exact e))
  | scr s t => rw [D.plain] at e; cases e
  | dct s t => rw [D.plain] at e; cases e
  | obj g s t => rw [D.plain] at e; cases e
  | exn g s s2 t => rw [D.plain] at e; cases e
  | tupN s n t => rw [D.plain] at e; cases e
  | dcx s => rw [D.plain] at e; cases e
end
/-- data that is compared, shown -/
def D.fit (d : D) : Bool := d.plain && SeqAt.shaped d.py
theorem D.fit_ok {d : D} (h : d.fit = true) : d.plain = true ∧ SeqAt.shaped d.py = true := by
  unfold D.fit at h
  rwa [Bool.and_eq_true] at h
def D.eqv (d e : D) : Bool := PyData.eqv d.py e.py
def dEq : D → D → Option Bool := fun d e => if d.fit && e.fit then some (d.eqv e) else none
def dNe : D → D → Option Bool := fun d e => if d.fit && e.fit then some (!d.eqv e) else none
theorem opt_ite {α : Type} {c : Bool} {a b : α} (h : (if c = true then some a else none) = some b) : c = true ∧ a = b := by
  cases c with
  | true => exact ⟨rfl, Option.some.inj h⟩
  | false => cases h
section
variable {M : Md}
theorem serves_eq : ServesB M (rEqD M.K) dEq := fun Hf H x y d e g hx hy S h Q q => by
  obtain ⟨c, rfl⟩ := opt_ite h
  rw [Bool.and_eq_true] at c
  obtain ⟨p1, s1⟩ := D.fit_ok c.1
  obtain ⟨p2, s2⟩ := D.fit_ok c.2
  exact ⟨d.py, e.py, hx.dp S p1, hy.dp S p2, s1, s2, q⟩
theorem serves_ne : ServesB M (rNeD M.K) dNe := fun Hf H x y d e g hx hy S h Q q => by
  obtain ⟨c, rfl⟩ := opt_ite h
  rw [Bool.and_eq_true] at c
  obtain ⟨p1, s1⟩ := D.fit_ok c.1
  obtain ⟨p2, s2⟩ := D.fit_ok c.2
  exact ⟨d.py, e.py, hx.dp S p1, hy.dp S p2, s1, s2, q⟩
end
/-! ### in, not in: lists and tuples of data; one sign in a text -/
def rInTD (K : PySem.W.Frag) (neg : Bool) : R2 := fun x y H Q => ∃ d ds, Dp K H x d ∧ Dp K H y (.tuple ds) ∧ SeqAt.shaped d = true ∧ SeqAt.shaped (.tuple ds) = true ∧ Q (.bl (if neg then !ds.any fun z => PyData.eqv z d else ds.any fun z => PyData.eqv z d)) H
section
variable {X : Cx}
theorem op_inTD (hu : X.A.units + 65 < cLine) : OpR X (compareOp .In) (rInTD X.K false) := by
  intro pins s σ H x y v u Q I rx ry h
  obtain ⟨d, ds, hd, he, sd, se, q⟩ := h
  obtain ⟨as, r1⟩ := Dp.reads I d x v hd rx
  obtain ⟨bs, r2⟩ := Dp.reads I (.tuple ds) y u he ry
  exact SeqAt.in_tuple_reads r2 r1 (SeqAt.canLay_of_shaped se) (SeqAt.canLay_of_shaped sd) (PyProof.Rows.room_in_shaped sd hu) ⟨.bl _, H, I, rfl, q⟩
theorem op_notInTD (hu : X.A.units + 65 < cLine) : OpR X (compareOp .NotIn) (rInTD X.K true) := by
  intro pins s σ H x y v u Q I rx ry h
  obtain ⟨d, ds, hd, he, sd, se, q⟩ := h
  obtain ⟨as, r1⟩ := Dp.reads I d x v hd rx
  obtain ⟨bs, r2⟩ := Dp.reads I (.tuple ds) y u he ry
  exact SeqAt.notIn_tuple_reads r2 r1 (SeqAt.canLay_of_shaped se) (SeqAt.canLay_of_shaped sd) (PyProof.Rows.room_in_shaped sd hu) ⟨.bl _, H, I, rfl, q⟩
theorem OpR.or {f : Value → Value → Sem Value} {r r' : R2} (h : OpR X f r) (h' : OpR X f r') : OpR X f (fun x y H Q => r x y H Q ∨ r' x y H Q) := by
  intro pins s σ H x y v u Q I rx ry q
  rcases q with q | q
  · exact h pins s σ H x y v u Q I rx ry q
  · exact h' pins s σ H x y v u Q I rx ry q
end
/-- one sign of a text -/
def Str.one : Str → Option Nat
  | ⟨#[c]⟩ => some c
  | _ => none
def memD (x : D) : D → Option Bool
  | .nd .tup ds => if x.fit && (D.nd .tup ds).fit then some (ds.any fun z => z.eqv x) else none
  | .nd .lst ds => if x.fit && (D.nd .lst ds).fit then some (ds.any fun z => z.eqv x) else none
  | .nd (.dct ks) _ => match x with
    | .int i => some (ks.any fun k => match k with | .inl j => j == i | _ => false)
    | .str z => some (ks.any fun k => match k with | .inr y => y == z | _ => false)
    | _ => none
  | _ => none
theorem any_py (ds : List D) (x : D) : (D.pys ds).any (fun z => PyData.eqv z x.py) = ds.any fun z => z.eqv x := by
  rw [pys_map, List.any_map]; rfl
section
variable {M : Md}
def rInAll (K : PySem.W.Frag) (neg : Bool) : R2 := fun x y H Q => (if neg then rNotInD K else rInD K) x y H Q ∨ rInTD K neg x y H Q
theorem serves_in (neg : Bool) : ServesB M (rInAll M.K neg) (fun d e => match e with | .nd .tup _ | .nd .lst _ => (memD d e).map fun b => if neg then !b else b | _ => none) := fun Hf H x y d e g hx hy S h Q q => by
  cases hy with
  | non => cases h
  | bl b => cases h
  | int i => cases h
  | str z => cases h
  | ob a => cases h
  | scr s t => cases h
  | dct s t => cases h
  | obj g' s t => cases h
  | exn g' s s2 t => cases h
  | tupN s n t => cases h
  | dcx s => cases h
  | tup s t =>
    rename_i a vs ds
    have h' : ((if (d.fit && (D.nd .tup ds).fit) = true then some (ds.any fun z => z.eqv d) else none).map fun b => if neg then !b else b) = some g := h
    cases c : (d.fit && (D.nd .tup ds).fit) with
    | false => rw [c] at h'; cases h'
    | true =>
      rw [c] at h'
      rw [Bool.and_eq_true] at c
      obtain ⟨p1, s1⟩ := D.fit_ok c.1
      obtain ⟨p2, s2⟩ := D.fit_ok c.2
      cases h'
      refine .inr ⟨d.py, D.pys ds, hx.dp S p1, ?_, s1, ?_, ?_⟩
      · have := HasT.dp S (HasT.tup s t) p2
        rw [D.py] at this; exact this
      · rw [D.py] at s2; exact s2
      · rw [any_py]; exact q
  | lst s t =>
    rename_i a vs ds
    have h' : ((if (d.fit && (D.nd .lst ds).fit) = true then some (ds.any fun z => z.eqv d) else none).map fun b => if neg then !b else b) = some g := h
    cases c : (d.fit && (D.nd .lst ds).fit) with
    | false => rw [c] at h'; cases h'
    | true =>
      rw [c] at h'
      rw [Bool.and_eq_true] at c
      obtain ⟨p1, s1⟩ := D.fit_ok c.1
      obtain ⟨p2, s2⟩ := D.fit_ok c.2
      cases h'
      refine .inl ?_
      have hl : Dp M.K H (.ref a) (.list (D.pys ds)) := by
        have := HasT.dp S (HasT.lst s t) p2
        rw [D.py] at this; exact this
      rw [D.py] at s2
      cases neg with
      | true => exact ⟨d.py, D.pys ds, hx.dp S p1, hl, s1, s2, by rw [any_py]; exact q⟩
      | false => exact ⟨d.py, D.pys ds, hx.dp S p1, hl, s1, s2, by rw [any_py]; exact q⟩
end
def dIn : D → D → Option Bool := fun d e => match e with | .nd .tup _ | .nd .lst _ => (memD d e).map fun b => if false then !b else b | _ => none
def dNotIn : D → D → Option Bool := fun d e => match e with | .nd .tup _ | .nd .lst _ => (memD d e).map fun b => if true then !b else b | _ => none
section
variable {X : Cx} {W : WX} {a b : Expr} {pos : Pos} {f g : Env → Rz (Env × Rs)}
theorem op_inAll (hu : X.A.units + 65 < cLine) : OpR X (compareOp .In) (rInAll X.K false) := OpR.or (op_inD hu) (op_inTD hu)
theorem op_notInAll (hu : X.A.units + 65 < cLine) : OpR X (compareOp .NotIn) (rInAll X.K true) := OpR.or (op_notInD hu) (op_notInTD hu)
theorem rv_eq (hu : X.A.units + 64 < cLine) (ha : RH X W a f) (hb : RH X W b g) : RV X W (.Compare a [.Eq] [b] pos) (v2 (dB dEq) f g) := rv_cmp (op_eqD hu) serves_eq ha hb
theorem rt_eq (hu : X.A.units + 64 < cLine) (ha : RH X W a f) (hb : RH X W b g) : RT X W (.Compare a [.Eq] [b] pos) (t2 dEq f g) := rt_cmp (op_eqD hu) serves_eq ha hb
theorem rv_ne (hu : X.A.units + 64 < cLine) (ha : RH X W a f) (hb : RH X W b g) : RV X W (.Compare a [.NotEq] [b] pos) (v2 (dB dNe) f g) := rv_cmp (op_neD hu) serves_ne ha hb
theorem rt_ne (hu : X.A.units + 64 < cLine) (ha : RH X W a f) (hb : RH X W b g) : RT X W (.Compare a [.NotEq] [b] pos) (t2 dNe f g) := rt_cmp (op_neD hu) serves_ne ha hb
theorem rv_in (hu : X.A.units + 65 < cLine) (ha : RH X W a f) (hb : RH X W b g) (hm : behindInMarks .In b = false := by first | rfl | with_unfolding_all rfl) : RV X W (.Compare a [.In] [b] pos) (v2 (dB dIn) f g) := rv_cmp (op_inAll hu) (serves_in false) ha hb hm
theorem rt_in (hu : X.A.units + 65 < cLine) (ha : RH X W a f) (hb : RH X W b g) (hm : behindInMarks .In b = false := by first | rfl | with_unfolding_all rfl) : RT X W (.Compare a [.In] [b] pos) (t2 dIn f g) := rt_cmp (op_inAll hu) (serves_in false) ha hb hm
theorem rv_notin (hu : X.A.units + 65 < cLine) (ha : RH X W a f) (hb : RH X W b g) (hm : behindInMarks .NotIn b = false := by first | rfl | with_unfolding_all rfl) : RV X W (.Compare a [.NotIn] [b] pos) (v2 (dB dNotIn) f g) := rv_cmp (op_notInAll hu) (serves_in true) ha hb hm
theorem rt_notin (hu : X.A.units + 65 < cLine) (ha : RH X W a f) (hb : RH X W b g) (hm : behindInMarks .NotIn b = false := by first | rfl | with_unfolding_all rfl) : RT X W (.Compare a [.NotIn] [b] pos) (t2 dNotIn f g) := rt_cmp (op_notInAll hu) (serves_in true) ha hb hm
end
/-! ### a + b -/
def dAdd : D → D → Option Rs
  | .int i, .int j => some (.im (.int (i + j)))
  | .str x, .str y => if sz (x.length + y.length) then some (.im (.str (x ++ y))) else none
  | .nd .tup xs, .nd .tup ys => if sz (xs.length + ys.length) then some (.im (.nd .tup (xs ++ ys))) else none
  | .nd .lst xs, .nd .lst ys => if sz (xs.length + ys.length) then some (.nw (.nd .lst (xs ++ ys))) else none
  | _, _ => none
/-- xs + ys of lists that are read -/
def rCatL (K : PySem.W.Frag) : R2 := fun x y H Q => ∃ l b xs zs, x = .ref l ∧ y = .ref b ∧ SqL K H l xs ∧ SqL K H b zs ∧ xs.length + zs.length ≤ sizeLine ∧ ∀ p, H p = none → Q (.ref p) (upd H p (.lst (xs ++ zs)))
def rAddAll (K : PySem.W.Frag) : R2 := fun x y H Q => rI0 (fun i j => .int (i + j)) x y H Q ∨ (∃ i j, x = .str i ∧ y = .str j ∧ i.length + j.length ≤ sizeLine ∧ Q (.str (i ++ j)) H) ∨ rCatA K x y H Q ∨ rCat x y H Q

theorem addL {prog : Program} {w : World} {A : Around} {E : Value → Shared → Prop} {s : Shared} {l b : Addr} {vs ws : List Value} {Q : Value → Shared → Prop} (hl : s.heap.IsList l vs.toArray) (hb : s.heap.IsList b ws.toArray)
    (h : Q (.ref s.heap.objs.size) { s with heap := s.heap.push { cls := .type "list", data := .seq (vs ++ ws).toArray } }) (hsz : vs.length + ws.length ≤ sizeLine) :
    wpAny (model prog w) A (binaryOp .Add (.ref l) (.ref b)) Q E s := by
  obtain ⟨⟨cls, dd, data, sl⟩, ho, hc, n, hd⟩ := id hl
  obtain ⟨⟨cls2, dd2, data2, sl2⟩, ho2, hc2, n2, hd2⟩ := id hb
  simp only at hc hd hc2 hd2
  subst hc hd hc2 hd2
  have e : vs.toArray ++ ws.toArray = (vs ++ ws).toArray := by simp
  refine concat_meets ⟨_, ho, rfl⟩ ⟨_, ho2, rfl⟩ noFill_list_add seq_list_add PySem.F.slot_list_add PySem.F.entry_list_add (PySem.F.args_list_add_2 _ _) (PyProof.Rows.list_addW l b vs.toArray ws.toArray n n2 dd dd2 sl sl2 (by simpa using hsz)) ⟨ho, ho2, ?_⟩
  rw [e]
  exact h
section
variable {X : Cx}
theorem op_catL : OpR X (binaryOp .Add) (rCatL X.K) := by
  intro pins s σ H x y v u Q I rx ry h
  obtain ⟨l, b, xs, zs, rfl, rfl, hH, hB, hz, q⟩ := h
  cases rx
  cases ry
  obtain ⟨its, r, p, hl⟩ := I.list hH
  obtain ⟨its2, r2, p2, hl2⟩ := I.list hB
  refine addL p.isList p2.isList ?_ (by rw [← r.length, ← r2.length]; exact hz)
  exact ⟨.ref _, _, I.lnew (t' := s.toks) (r.append r2) (by rw [List.length_append]; omega), rfl, q _ I.fresh⟩
def rAddA (K : PySem.W.Frag) : R2 := fun x y H Q => rI0 (fun i j => .int (i + j)) x y H Q ∨ ((∃ i j, x = .str i ∧ y = .str j ∧ i.length + j.length ≤ sizeLine ∧ Q (.str (i ++ j)) H) ∨ (rCatA K x y H Q ∨ rCatL K x y H Q))
theorem op_addA : OpR X (binaryOp .Add) (rAddA X.K) := OpR.or op_add (OpR.or op_add_str (OpR.or op_catA op_catL))
end
section
variable {M : Md}
theorem serves_add : ServesR M (rAddA M.K) dAdd := fun Γ Hf σ H ρ x y d e g R hx hy h Q q => by
  cases hx with
  | int i =>
    cases hy <;> first
      | (rename_i j; cases h; exact .inl ⟨i, j, rfl, rfl, q Hf H _ (Same.refl _) R (.int _)⟩)
      | cases h
  | str i =>
    cases hy with
    | str j =>
      obtain ⟨c, e⟩ := opt_ite h
      subst e
      exact .inr (.inl ⟨i, j, rfl, rfl, sz_ok c, q Hf H _ (Same.refl _) R (.str _)⟩)
    | _ => cases h
  | tup s t =>
    cases hy with
    | tup s2 t2 =>
      obtain ⟨c, e⟩ := opt_ite h
      subst e
      have c := sz_ok c
      rw [t.length, t2.length] at c
      refine .inr (.inr (.inl ⟨_, _, _, _, rfl, rfl, SqT.same R.sub s, SqT.same R.sub s2, c, fun e => ?_, fun _ e => ?_, fun _ _ p hp => ?_⟩))
      · subst e
        cases t
        exact q Hf H _ (Same.refl _) R (.tup s2 t2)
      · subst e
        cases t2
        exact q Hf H _ (Same.refl _) R (by rw [List.append_nil]; exact .tup s t)
      · obtain ⟨S3, R3⟩ := R.lay hp (.tup _)
        exact q _ _ _ S3 R3 (.tup (SqT.of upd_same) ((t.append t2).same S3))
    | _ => cases h
  | lst s t =>
    cases hy with
    | lst s2 t2 =>
      obtain ⟨c, e⟩ := opt_ite h
      subst e
      have c := sz_ok c
      rw [t.length, t2.length] at c
      refine .inr (.inr (.inr ⟨_, _, _, _, rfl, rfl, SqL.of s, SqL.of s2, c, fun p hp => ?_⟩))
      obtain ⟨R3, h0, hf, hn⟩ := R.layN hp (.lst _)
      exact q _ _ _ (Same.refl _) R3 ⟨p, rfl, h0, .lst hf upd_same (t.append t2), hn⟩
    | _ => cases h
  | non => cases h
  | bl b => cases h
  | ob a => cases h
  | scr s t => cases h
  | dct s t => cases h
  | obj g s t => cases h
  | exn g s s2 t => cases h
  | tupN s n t => cases h
  | dcx s => cases h
end
end Fx

set_option Elab.async false
set_option linter.all false
set_option maxRecDepth 100000
set_option maxHeartbeats 4000000
namespace Fx
open PySem L2
variable [Tb]
section
variable {X : Cx} {W : WX} {a b e : Expr} {pos : Pos} {f g : Env → Rz (Env × Rs)}
theorem re_add (ha : RH X W a f) (hb : RH X W b g) : RE X W (.BinOp a .Add b pos) (e2 dAdd f g) := re_op op_addA serves_add ha hb
end
/-! ### a[i] -/
def dIx : D → D → Option D
  | .nd .tup xs, .int i => atI xs i
  | .nd .lst xs, .int i => atI xs i
  | .str z, .int i => if sz z.length then (atI z.cps.toList i).map fun c => .str ⟨#[c]⟩ else none
  | _, _ => none
theorem HasAll.at {M : Md} {G : Hp} {ds : List D} {vs : List V} {i : Int} {d : D} (h : HasAll M G ds vs) (e : atI ds i = some d) : ∃ v, atI vs i = some v ∧ Has M G d v := by
  unfold atI at e ⊢
  rw [h.length] at e
  cases q : ixN vs.length i with
  | none => rw [q] at e; cases e
  | some j => rw [q] at e; exact h.get (show ds[j]? = some d from e)
theorem serves_ix {M : Md} : ServesD M (rIx M.K) dIx := fun Hf H x y d e g hx hy S h Q q => by
  cases hx with
  | tup s t =>
    cases hy with
    | int i =>
      obtain ⟨v, h1, h2⟩ := t.at h
      exact .inr (.inl ⟨_, _, i, v, rfl, rfl, SqT.same S s, h1, q v h2⟩)
    | _ => cases h
  | lst s t =>
    cases hy with
    | int i =>
      obtain ⟨v, h1, h2⟩ := t.at h
      exact .inl ⟨_, _, i, v, rfl, rfl, SqL.of s, h1, q v h2⟩
    | _ => cases h
  | str z =>
    cases hy with
    | int i =>
      have h' : (if sz z.length = true then (atI z.cps.toList i).map fun c => D.str ⟨#[c]⟩ else none) = some g := h
      cases c : sz z.length with
      | false => rw [c] at h'; cases h'
      | true =>
        rw [c] at h'
        cases q2 : atI z.cps.toList i with
        | none => rw [q2] at h'; cases h'
        | some k =>
          rw [q2] at h'
          cases h'
          exact .inr (.inr ⟨z, i, k, rfl, rfl, sz_ok c, q2, q _ (.str _)⟩)
    | _ => cases h
  | int i => cases hy <;> cases h
  | non => cases hy <;> cases h
  | bl b => cases hy <;> cases h
  | ob a => cases hy <;> cases h
  | scr s t => cases hy <;> cases h
  | dct s t => cases hy <;> cases h
  | obj g s t => cases hy <;> cases h
  | exn g s s2 t => cases hy <;> cases h
  | tupN s n t => cases hy <;> cases h
  | dcx s => cases hy <;> cases h
section
variable {X : Cx} {W : WX} {a b e : Expr} {pos p2 : Pos} {f g : Env → Rz (Env × Rs)}
theorem rv_ix (ha : RH X W a f) (hb : RH X W b g) (hs : PlainIx b := by exact fun _ _ => rfl) : RV X W (.Subscript a b pos) (v2 dIx f g) := pe_mono (pe_ix ix_seq ha hb hs) (v2_imp serves_ix)
/-! ### a[lo:hi], xs[::-1] -/
def rdO (M : Md) (W : WX) (f : Env → Rz (Env × Option Int)) : TO := fun σ H Q => ∃ Γ Hf ρ, Rep M Γ Hf σ H ρ ∧
  (f ρ).wp (fun p => ∀ Hf' H', Same Hf Hf' → Rep M Γ Hf' σ H' p.1 → Q p.2 H') (EPf M W Γ Hf σ)
abbrev RO (X : Cx) (W : WX) (e : Option Expr) (f : Env → Rz (Env × Option Int)) : Prop := PO X e (rdO ⟨X.K, X.mg⟩ W f)
theorem po_mono {e : Option Expr} {t t' : TO} (h : PO X e t) (i : ∀ σ H Q, t' σ H Q → t σ H Q) : PO X e t' := ⟨fun pins s σ H Q I q => h.run pins s σ H Q I (i σ H Q q)⟩
theorem bindO {M : Md} {Γ : Gh} {Hf : Hp} {σ : L2.St} {H : Hp} {ρ : Env} {β : Type} {P : β → Prop} {f : Env → Rz (Env × Option Int)} {g : Env × Option Int → Rz β} {Q : Option Int → Hp → Prop} (R : Rep M Γ Hf σ H ρ) (hw : ((f ρ).bind g).wp P (EPf M W Γ Hf σ))
    (k : ∀ ρ1 b Hf1 H1, Same Hf Hf1 → Rep M Γ Hf1 σ H1 ρ1 → (g (ρ1, b)).wp P (EPf M W Γ Hf1 σ) → Q b H1) : rdO M W f σ H Q :=
  ⟨Γ, Hf, ρ, R, Rz.wp_mono (Rz.wp_bind hw) (fun p hp Hf1 H1 S R1 => k p.1 p.2 Hf1 H1 S R1 (Rz.wp_mono hp (fun _ z => z) (EPf.up S))) (fun _ _ z => z)⟩
def oNone : Env → Rz (Env × Option Int) := fun ρ => .ok (ρ, none)
def oSome (f : Env → Rz (Env × D)) : Env → Rz (Env × Option Int) := fun ρ => (f ρ).bind fun p => match p.2 with
  | .int i => .ok (p.1, some i)
  | _ => .no
theorem ro_none : RO X W none oNone := po_mono po_none fun σ H Q ⟨Γ, Hf, ρ, R, hw⟩ => hw Hf H (Same.refl _) R
theorem ro_some {f : Env → Rz (Env × D)} (h : RV X W e f) : RO X W (some e) (oSome f) := po_mono (po_some h) fun σ H Q ⟨Γ, Hf, ρ, R, hw⟩ =>
  bindV R hw fun ρ1 d Hf1 H1 v S R1 hv hq => by
    cases hv with
    | int i => exact ⟨i, rfl, hq Hf1 H1 S R1⟩
    | _ => exact hq.elim
def cutA {α : Type} (xs : List α) (lo hi : Option Int) : List α := (xs.drop (HT.sIx xs.length 0 lo)).take (HT.sIx xs.length xs.length hi - HT.sIx xs.length 0 lo)
theorem HasAll.cut {M : Md} {G : Hp} {ds : List D} {vs : List V} (h : HasAll M G ds vs) (lo hi : Option Int) : HasAll M G (cutA ds lo hi) (cutV vs lo hi) := by
  unfold cutA cutV
  rw [h.length]
  exact (h.drop _).take _
def dSl : D → Option Int → Option Int → Option Rs
  | .nd .tup xs, lo, hi => some (.im (.nd .tup (cutA xs lo hi)))
  | .nd .lst xs, lo, hi => some (.nw (.nd .lst (cutA xs lo hi)))
  | .nd .scr xs, lo, hi => some (.nw (.nd .lst (cutA xs lo hi)))
  | .str z, lo, hi => if sz z.length then some (.im (.str (cutS z lo hi))) else none
  | _, _, _ => none
def eSl (f : Env → Rz (Env × Rs)) (l h : Env → Rz (Env × Option Int)) : Env → Rz (Env × Rs) := fun ρ => (f ρ).bind fun p => (l p.1).bind fun q => (h q.1).bind fun r => (Rz.ofO (peek r.1 p.2)).bind fun d => (Rz.ofO (dSl d q.2 r.2)).bind fun x => .ok (r.1, x)
theorem cut_whole {α : Type} {xs : List α} {lo hi : Option Int} (h : HT.sIx xs.length 0 lo = 0 ∧ HT.sIx xs.length xs.length hi = xs.length) : cutA xs lo hi = xs := by
  unfold cutA
  rw [h.1, h.2, List.drop_zero, Nat.sub_zero, List.take_length]
theorem re_slice {lo hi : Option Expr} {l h : Env → Rz (Env × Option Int)} (ha : RH X W a f) (hl : RO X W lo l) (hh : RO X W hi h) : RE X W (.Subscript a (.Slice lo hi none p2) pos) (eSl f l h) :=
  pe_mono (pe_slice (SlR.or sl_list (SlR.or sl_tupA sl_str)) ha hl hh) fun σ H Q ⟨Γ, Hf, ρ, R, hw⟩ => bindH R hw fun ρ1 r Hf1 H1 v S1 R1 hv hq => bindO R1 hq fun ρ2 lo' Hf2 H2 S2 R2 hq2 => bindO R2 hq2 fun ρ3 hi' Hf3 H3 S3 R3 hq3 => by
    obtain ⟨d, e1, hq3⟩ := ofO_bind hq3
    obtain ⟨x, e2, hq3⟩ := ofO_bind hq3
    have T := R3.peek ((hv.up S2).up S3).rs e1
    have S := S1.trans (S2.trans S3)
    cases T with
    | tup s t =>
      cases e2
      refine .inr (.inl ⟨_, _, rfl, SqT.same R3.sub s, fun w => ?_, fun _ p hp => ?_⟩)
      · have e : cutA _ lo' hi' = _ := cut_whole (by rw [← t.length] at w; exact w)
        exact hq3 Hf3 H3 _ S R3 (by show Has _ _ _ _; rw [e]; exact .tup s t)
      · obtain ⟨S4, R4⟩ := R3.lay hp (.tup _)
        exact hq3 _ _ _ (S.trans S4) R4 (.tup (SqT.of upd_same) ((t.cut lo' hi').same S4))
    | lst s t =>
      cases e2
      refine .inl ⟨_, _, rfl, SqL.of s, fun p hp => ?_⟩
      obtain ⟨R4, h0, hf, hn⟩ := R3.layN hp (.lst _)
      exact hq3 _ _ _ S R4 ⟨p, rfl, h0, .lst hf upd_same (t.cut lo' hi'), hn⟩
    | scr s t =>
      cases e2
      refine .inl ⟨_, _, rfl, R3.sub.seq s, fun p hp => ?_⟩
      obtain ⟨R4, h0, hf, hn⟩ := R3.layN hp (.lst _)
      exact hq3 _ _ _ S R4 ⟨p, rfl, h0, .lst hf upd_same (t.cut lo' hi'), hn⟩
    | str z =>
      obtain ⟨c, ex⟩ := opt_ite e2
      subst ex
      exact .inr (.inr ⟨z, rfl, sz_ok c, hq3 Hf3 H3 _ S R3 (.str _)⟩)
    | _ => cases e2
def dRev : D → Option D
  | .nd .lst xs => some (.nd .lst xs.reverse)
  | _ => none
def eRev (f : Env → Rz (Env × Rs)) : Env → Rz (Env × Rs) := fun ρ => (f ρ).bind fun p => (Rz.ofO (peek p.1 p.2)).bind fun d => (Rz.ofO (dRev d)).bind fun x => .ok (p.1, .nw x)
theorem re_rev {k : Nat} {p1 p2 p3 : Pos} (ha : RH X W a f) : RE X W (.Subscript a (.Slice none none (some (.UnaryOp .USub (.Constant (.int 1) k p1) p2)) p3) pos) (eRev f) :=
  pe_mono (pe_revL ha) fun σ H Q ⟨Γ, Hf, ρ, R, hw⟩ => bindH R hw fun ρ1 r Hf1 H1 v S1 R1 hv hq => by
    obtain ⟨d, e1, hq⟩ := ofO_bind hq
    obtain ⟨x, e2, hq⟩ := ofO_bind hq
    have T := R1.peek hv.rs e1
    cases T with
    | lst s t =>
      cases e2
      refine ⟨_, _, rfl, SqL.of s, fun p hp => ?_⟩
      obtain ⟨R4, h0, hf, hn⟩ := R1.layN hp (.lst _)
      exact hq _ _ _ S1 R4 ⟨p, rfl, h0, .lst hf upd_same t.reverse, hn⟩
    | _ => cases e2

/-! ### tests, and, or, not, if else -/
def tV (f : Env → Rz (Env × D)) : Env → Rz (Env × Bool) := fun ρ => (f ρ).bind fun p => match p.2 with
  | .bl b => .ok (p.1, b)
  | _ => .no
theorem rt_val {f : Env → Rz (Env × D)} (h : RV X W e f) (he : ∀ whole, isTrue e X.env whole = (do let v ← whole; standAt e.pos; holding [v] (truthy v)) := by intro _; rfl) : RT X W e (tV f) :=
  pt_mono (pt_val h he) fun σ H Q ⟨Γ, Hf, ρ, R, hw⟩ => bindV R hw fun ρ1 d Hf1 H1 v S R1 hv hq => by
    cases hv with
    | bl b => exact ⟨b, rfl, hq Hf1 H1 S R1⟩
    | _ => exact hq.elim
def dTru : D → Option Bool
  | .non => some false
  | .bl b => some b
  | .int i => some (i != 0)
  | .str x => if sz x.length then some ((x.length : Int) != 0) else none
  | .nd .tup xs => some (!xs.isEmpty)
  | .nd .lst xs => some (!xs.isEmpty)
  | _ => none
def tTru (f : Env → Rz (Env × Rs)) : Env → Rz (Env × Bool) := fun ρ => (f ρ).bind fun p => (Rz.ofO (peek p.1 p.2)).bind fun d => (Rz.ofO (dTru d)).bind fun b => .ok (p.1, b)
def tAnd (f g : Env → Rz (Env × Bool)) : Env → Rz (Env × Bool) := fun ρ => (f ρ).bind fun p => if p.2 = true then g p.1 else .ok (p.1, false)
def tOr (f g : Env → Rz (Env × Bool)) : Env → Rz (Env × Bool) := fun ρ => (f ρ).bind fun p => if p.2 = true then .ok (p.1, true) else g p.1
def tNot (f : Env → Rz (Env × Bool)) : Env → Rz (Env × Bool) := fun ρ => (f ρ).bind fun p => .ok (p.1, !p.2)
variable {tf tg : Env → Rz (Env × Bool)} {rest : List Expr}
theorem rdT_pass {M : Md} {f : Env → Rz (Env × Bool)} {Γ : Gh} {Hf : Hp} {σ : L2.St} {H : Hp} {ρ : Env} {Q : Bool → Hp → Prop} (R : Rep M Γ Hf σ H ρ) (h : (f ρ).wp (fun p => ∀ Hf' H', Same Hf Hf' → Rep M Γ Hf' σ H' p.1 → Q p.2 H') (EPf M W Γ Hf σ)) : rdT M W f σ H Q := ⟨Γ, Hf, ρ, R, h⟩
theorem and_imp {M : Md} : ∀ σ H Q, rdT M W (tAnd tf tg) σ H Q → L2.tAnd (rdT M W tf) (rdT M W tg) σ H Q := fun σ H Q ⟨Γ, Hf, ρ, R, hw⟩ => bindT R hw fun ρ1 b Hf1 H1 S R1 hq => by
  cases b with
  | true => exact iteT (rdT_pass R1 (Rz.wp_mono hq (fun p hp Hf' H' S' R' => hp Hf' H' (S.trans S') R') fun _ _ z => z))
  | false => exact iteF (hq Hf1 H1 S R1)
theorem or_imp {M : Md} : ∀ σ H Q, rdT M W (tOr tf tg) σ H Q → L2.tOr (rdT M W tf) (rdT M W tg) σ H Q := fun σ H Q ⟨Γ, Hf, ρ, R, hw⟩ => bindT R hw fun ρ1 b Hf1 H1 S R1 hq => by
  cases b with
  | true => exact iteT (hq Hf1 H1 S R1)
  | false => exact iteF (rdT_pass R1 (Rz.wp_mono hq (fun p hp Hf' H' S' R' => hp Hf' H' (S.trans S') R') fun _ _ z => z))
theorem rw_and1 (ha : RT X W a tf) : RW X W (.BoolOp .And [a] pos) tf := pw_and1 ha
theorem rw_or1 (ha : RT X W a tf) : RW X W (.BoolOp .Or [a] pos) tf := pw_or1 ha
theorem rw_and (ha : RT X W a tf) (hb : RW X W (.BoolOp .And (b :: rest) pos) tg) : RW X W (.BoolOp .And (a :: b :: rest) pos) (tAnd tf tg) := pw_mono (pw_and ha hb) and_imp
theorem rw_or (ha : RT X W a tf) (hb : RW X W (.BoolOp .Or (b :: rest) pos) tg) : RW X W (.BoolOp .Or (a :: b :: rest) pos) (tOr tf tg) := pw_mono (pw_or ha hb) or_imp
theorem rt_w (h : RW X W e tf) : RT X W e tf := h.pt
theorem rt_not (ha : RT X W a tf) : RT X W (.UnaryOp .Not a pos) (tNot tf) := pt_mono (pt_not ha) fun σ H Q ⟨Γ, Hf, ρ, R, hw⟩ => bindT R hw fun ρ1 b Hf1 H1 S R1 hq => hq Hf1 H1 S R1
/-- an expression of any kind as a test -/
theorem rt_tru (ha : RH X W e f) (he : ∀ whole, isTrue e X.env whole = (do let v ← whole; standAt e.pos; holding [v] (truthy v)) := by intro _; rfl) : RT X W e (tTru f) :=
  pt_mono (pt_truth ha he) fun σ H Q ⟨Γ, Hf, ρ, R, hw⟩ => bindH R hw fun ρ1 r Hf1 H1 v S1 R1 hv hq => by
    obtain ⟨d, e1, hq⟩ := ofO_bind hq
    obtain ⟨x, e2, hq⟩ := ofO_bind hq
    have T := R1.peek hv.rs e1
    refine ⟨x, ?_, hq Hf1 H1 S1 R1⟩
    cases T with
    | non => cases e2; rfl
    | bl b => cases e2; rfl
    | int i => cases e2; rfl
    | str z =>
      obtain ⟨c, ex⟩ := opt_ite e2
      exact ⟨sz_ok c, ex.symm⟩
    | tup s t => cases e2; exact .inr (.inl ⟨_, SqT.same R1.sub s, by cases t <;> rfl⟩)
    | lst s t => cases e2; exact .inl ⟨_, SqL.of s, by cases t <;> rfl⟩
    | _ => cases e2
/-- as values: truths -/
def vAnd (f g : Env → Rz (Env × D)) : Env → Rz (Env × D) := fun ρ => (f ρ).bind fun p => match p.2 with
  | .bl true => g p.1
  | .bl false => .ok (p.1, .bl false)
  | _ => .no
def vOr (f g : Env → Rz (Env × D)) : Env → Rz (Env × D) := fun ρ => (f ρ).bind fun p => match p.2 with
  | .bl true => .ok (p.1, .bl true)
  | .bl false => g p.1
  | _ => .no
def vNot (f : Env → Rz (Env × D)) : Env → Rz (Env × D) := fun ρ => (f ρ).bind fun p => match p.2 with
  | .bl b => .ok (p.1, .bl (!b))
  | _ => .no
theorem rdV_pass {M : Md} {f : Env → Rz (Env × D)} {Γ : Gh} {Hf : Hp} {σ : L2.St} {H : Hp} {ρ : Env} {Q : VK} (R : Rep M Γ Hf σ H ρ) (h : (f ρ).wp (fun p => ∀ Hf' H' v, Same Hf Hf' → Rep M Γ Hf' σ H' p.1 → Has M Hf' p.2 v → Q v H') (EPf M W Γ Hf σ)) : rdV M W f σ H Q := ⟨Γ, Hf, ρ, R, h⟩
variable {vf vg : Env → Rz (Env × D)}
theorem rv_and1 {op} (h : RV X W a vf) : RV X W (.BoolOp op [a] pos) vf := pe_one h
theorem rv_and (ha : RV X W a vf) (hb : RV X W (.BoolOp .And (b :: rest) pos) vg) : RV X W (.BoolOp .And (a :: b :: rest) pos) (vAnd vf vg) :=
  pe_mono (pe_and ha hb) fun σ H Q ⟨Γ, Hf, ρ, R, hw⟩ => bindV R hw fun ρ1 d Hf1 H1 v S R1 hv hq => by
    cases hv with
    | bl b =>
      refine ⟨b, rfl, ?_⟩
      cases b with
      | true => exact iteT (rdV_pass R1 (Rz.wp_mono hq (fun p hp Hf' H' v S' R' => hp Hf' H' v (S.trans S') R') fun _ _ z => z))
      | false => exact iteF (hq Hf1 H1 _ S R1 (.bl _))
    | _ => exact hq.elim
theorem rv_or (ha : RV X W a vf) (hb : RV X W (.BoolOp .Or (b :: rest) pos) vg) : RV X W (.BoolOp .Or (a :: b :: rest) pos) (vOr vf vg) :=
  pe_mono (pe_or ha hb) fun σ H Q ⟨Γ, Hf, ρ, R, hw⟩ => bindV R hw fun ρ1 d Hf1 H1 v S R1 hv hq => by
    cases hv with
    | bl b =>
      refine ⟨b, rfl, ?_⟩
      cases b with
      | true => exact iteT (hq Hf1 H1 _ S R1 (.bl _))
      | false => exact iteF (rdV_pass R1 (Rz.wp_mono hq (fun p hp Hf' H' v S' R' => hp Hf' H' v (S.trans S') R') fun _ _ z => z))
    | _ => exact hq.elim
theorem rv_not (ha : RV X W a vf) : RV X W (.UnaryOp .Not a pos) (vNot vf) := pe_mono (pe_not ha) fun σ H Q ⟨Γ, Hf, ρ, R, hw⟩ => bindV R hw fun ρ1 d Hf1 H1 v S R1 hv hq => by
    cases hv with
    | bl b => exact ⟨b, rfl, hq Hf1 H1 _ S R1 (.bl _)⟩
    | _ => exact hq.elim
/-- a if t else b -/
def vIf (t : Env → Rz (Env × Bool)) (f g : Env → Rz (Env × D)) : Env → Rz (Env × D) := fun ρ => (t ρ).bind fun p => if p.2 = true then f p.1 else g p.1
def eIf (t : Env → Rz (Env × Bool)) (f g : Env → Rz (Env × Rs)) : Env → Rz (Env × Rs) := fun ρ => (t ρ).bind fun p => if p.2 = true then f p.1 else g p.1
theorem rv_if {c : Expr} (hc : RT X W c tf) (ha : RV X W a vf) (hb : RV X W b vg) : RV X W (.IfExp c a b pos) (vIf tf vf vg) :=
  pe_mono (pe_ifExp hc ha hb) fun σ H Q ⟨Γ, Hf, ρ, R, hw⟩ => bindT R hw fun ρ1 b Hf1 H1 S R1 hq => by
    cases b with
    | true => exact iteT (rdV_pass R1 (Rz.wp_mono hq (fun p hp Hf' H' v S' R' => hp Hf' H' v (S.trans S') R') fun _ _ z => z))
    | false => exact iteF (rdV_pass R1 (Rz.wp_mono hq (fun p hp Hf' H' v S' R' => hp Hf' H' v (S.trans S') R') fun _ _ z => z))
theorem re_if {c : Expr} (hc : RT X W c tf) (ha : RE X W a f) (hb : RE X W b g) : RE X W (.IfExp c a b pos) (eIf tf f g) :=
  pe_mono (pe_ifExp hc ha hb) fun σ H Q ⟨Γ, Hf, ρ, R, hw⟩ => bindT R hw fun ρ1 b Hf1 H1 S R1 hq => by
    cases b with
    | true => exact iteT ⟨Γ, Hf1, ρ1, R1, (Rz.wp_mono hq (fun p hp Hf' H' v S' R' => hp Hf' H' v (S.trans S') R') fun _ _ z => z)⟩
    | false => exact iteF ⟨Γ, Hf1, ρ1, R1, (Rz.wp_mono hq (fun p hp Hf' H' v S' R' => hp Hf' H' v (S.trans S') R') fun _ _ z => z)⟩
/-- -a -/
def dNeg : D → Option D
  | .int i => some (.int (-i))
  | _ => none
def v1 (F : D → Option D) (f : Env → Rz (Env × Rs)) : Env → Rz (Env × D) := fun ρ => (f ρ).bind fun p => (Rz.ofO (peek p.1 p.2)).bind fun d => (Rz.ofO (F d)).bind fun x => .ok (p.1, x)
theorem rv_neg (ha : RH X W a f) : RV X W (.UnaryOp .USub a pos) (v1 dNeg f) := pe_mono (pe_un un_neg ha) fun σ H Q ⟨Γ, Hf, ρ, R, hw⟩ => bindH R hw fun ρ1 r Hf1 H1 v S1 R1 hv hq => by
    obtain ⟨d, e1, hq⟩ := ofO_bind hq
    obtain ⟨x, e2, hq⟩ := ofO_bind hq
    have T := R1.peek hv.rs e1
    cases T with
    | int i => cases e2; exact ⟨i, rfl, hq Hf1 H1 _ S1 R1 (.int _)⟩
    | _ => cases e2
/-- a is None -/
def dIsN (d : D) : Bool := match d with
  | .non => true
  | _ => false
theorem isN_eq {M : Md} {Hf H : Hp} {d : D} {v : V} (T : HasT M Hf H d v) : decide (v = .non) = dIsN d := by cases T <;> rfl
def vIsN (f : Env → Rz (Env × Rs)) : Env → Rz (Env × D) := v1 (fun d => some (.bl (dIsN d))) f
def vNotN (f : Env → Rz (Env × Rs)) : Env → Rz (Env × D) := v1 (fun d => some (.bl (!dIsN d))) f
theorem rv_isN {j pos'} (ha : RH X W a f) : RV X W (.Compare a [.Is] [.Constant .none j pos'] pos) (vIsN f) := pe_mono (pe_cmp (pc_isN ha) rfl) fun σ H Q ⟨Γ, Hf, ρ, R, hw⟩ => bindH R hw fun ρ1 r Hf1 H1 v S1 R1 hv hq => by
    obtain ⟨d, e1, hq⟩ := ofO_bind hq
    have T := R1.peek hv.rs e1
    rw [isN_eq T]
    exact hq Hf1 H1 _ S1 R1 (.bl _)
theorem rv_notN {j pos'} (ha : RH X W a f) : RV X W (.Compare a [.IsNot] [.Constant .none j pos'] pos) (vNotN f) := pe_mono (pe_cmp (pc_notN ha) rfl) fun σ H Q ⟨Γ, Hf, ρ, R, hw⟩ => bindH R hw fun ρ1 r Hf1 H1 v S1 R1 hv hq => by
    obtain ⟨d, e1, hq⟩ := ofO_bind hq
    have T := R1.peek hv.rs e1
    rw [isN_eq T]
    exact hq Hf1 H1 _ S1 R1 (.bl _)
end
end Fx

set_option Elab.async false
set_option linter.all false
set_option maxRecDepth 100000
set_option maxHeartbeats 4000000
namespace Fx
open PySem L2
variable [Tb]
/-! ### calls of built-ins, by the data of the arguments -/
inductive HasTAll (M : Md) (Hf H : Hp) : List D → List V → Prop
  | nil : HasTAll M Hf H [] []
  | cons {d : D} {ds : List D} {v : V} {vs : List V} : HasT M Hf H d v → HasTAll M Hf H ds vs → HasTAll M Hf H (d :: ds) (v :: vs)
def peekAll (ρ : Env) : List Rs → Option (List D)
  | [] => some []
  | r :: rs => (peek ρ r).bind fun d => (peekAll ρ rs).bind fun ds => some (d :: ds)
theorem Rep.peekAll {M : Md} {Γ : Gh} {Hf : Hp} {σ : L2.St} {H : Hp} {ρ : Env} (R : Rep M Γ Hf σ H ρ) : ∀ {rs : List Rs} {vs : List V} {ds : List D}, HsAll M Hf σ rs vs → Fx.peekAll ρ rs = some ds → HasTAll M Hf H ds vs
  | _, _, _, .nil, e => by cases e; exact .nil
  | r :: rs, _, ds, .cons h t, e => by
    have e' : ((Fx.peek ρ r).bind fun d => (Fx.peekAll ρ rs).bind fun ds => some (d :: ds)) = some ds := e
    cases u : Fx.peek ρ r with
    | none => rw [u] at e'; cases e'
    | some d =>
      rw [u] at e'
      cases u2 : Fx.peekAll ρ rs with
      | none => rw [Option.bind_some, u2] at e'; cases e'
      | some ds' =>
        rw [Option.bind_some, u2] at e'
        cases e'
        exact .cons (R.peek h.rs u) (R.peekAll t u2)
def ServesC (M : Md) (r : List V → Hp → VK → Prop) (F : List D → Option Rs) : Prop := ∀ Γ Hf σ H ρ vs ds g, Rep M Γ Hf σ H ρ → HasTAll M Hf H ds vs → F ds = some g →
  ∀ Q : VK, (∀ Hf' H' v, Same Hf Hf' → Rep M Γ Hf' σ H' ρ → RsIs M Γ Hf' σ H' ρ g v → Q v H') → r vs H Q
def eB (F : List D → Option Rs) (f : Env → Rz (Env × List Rs)) : Env → Rz (Env × Rs) := fun ρ => (f ρ).bind fun p => (Rz.ofO (peekAll p.1 p.2)).bind fun ds => (Rz.ofO (F ds)).bind fun x => .ok (p.1, x)
section
variable {X : Cx} {W : WX} {e : Expr} {es : List Expr} {pos p : Pos} {f : Env → Rz (Env × List Rs)} {x : Str} {id T : String} {r : List V → Hp → VK → Prop} {F : List D → Option Rs}
theorem eB_imp {M : Md} (hs : ServesC M r F) : ∀ σ H Q, rdE M W (eB F f) σ H Q → tCB r (rdHs M W f) σ H Q := fun σ H Q ⟨Γ, Hf, ρ, R, hw⟩ => bindHs R hw fun ρ1 rs Hf1 H1 vs S1 R1 hvs hq => by
  obtain ⟨ds, e1, hq⟩ := ofO_bind hq
  obtain ⟨g, e2, hq⟩ := ofO_bind hq
  exact hs Γ Hf1 _ H1 ρ1 vs ds g R1 (R1.peekAll hvs e1) e2 Q fun Hf' H' v S' R' h => hq Hf' H' v (S1.trans S') R' h
theorem re_callB (hc : CallR X (.builtin id) r) (hs : ServesC ⟨X.K, X.mg⟩ r F) (hg : Gl X x) (hm : X.mg x = none) (hv : bootBuiltins x = some (.builtin id)) (ha : RHs X W (e :: es) f) (hn : x ≠ "__name__" := by decide) (hdb : (x == ("__debug__" : Str)) = false := by decide)
    (he : starEach (e :: es) X.env = (false, eval e X.env) :: starEach es X.env := by rfl) (hpl : (backTo pos (starEach es X.env)).any (·.1) = false := by rfl) : RE X W (.Call (.Name x p) (e :: es) [] pos) (eB F f) :=
  pe_mono (pe_callB hc hg hm hv ha hn hdb he hpl) (eB_imp hs)
theorem re_callT (hc : CallR X (.type T) r) (hs : ServesC ⟨X.K, X.mg⟩ r F) (hg : Gl X x) (hm : X.mg x = none) (hv : bootBuiltins x = some (.type T)) (ha : RHs X W (e :: es) f) (hn : x ≠ "__name__" := by decide) (hdb : (x == ("__debug__" : Str)) = false := by decide)
    (he : starEach (e :: es) X.env = (false, eval e X.env) :: starEach es X.env := by rfl) (hpl : (backTo pos (starEach es X.env)).any (·.1) = false := by rfl) : RE X W (.Call (.Name x p) (e :: es) [] pos) (eB F f) :=
  pe_mono (pe_callTy hc hg hm hv ha hn hdb he hpl) (eB_imp hs)
end
def dInt : List D → Option Rs
  | [.int i] => some (.im (.int i))
  | [.bl b] => some (.im (.int (if b then 1 else 0)))
  | _ => none
def dAbs : List D → Option Rs
  | [.int i] => some (.im (.int (if i < 0 then -i else i)))
  | _ => none
def dLen : List D → Option Rs
  | [.nd .tup xs] => some (.im (.int xs.length))
  | [.nd .lst xs] => some (.im (.int xs.length))
  | [.str z] => if sz z.length then some (.im (.int z.length)) else none
  | _ => none
def dTuple : List D → Option Rs
  | [.nd .tup xs] => some (.im (.nd .tup xs))
  | [.nd .lst xs] => some (.im (.nd .tup xs))
  | _ => none
def dList : List D → Option Rs
  | [.nd .tup xs] => some (.nw (.nd .lst xs))
  | [.nd .lst xs] => some (.nw (.nd .lst xs))
  | _ => none
def D.showable (d : D) : Bool := d.plain && (PyData.showable d.py && (sz d.py.shown.length && decide (d.py.depth ≤ 64)))
def dRepr : List D → Option Rs
  | [d] => if d.showable then some (.im (.str d.py.shown)) else none
  | _ => none
section
variable {M : Md}
theorem serves_int : ServesC M (fun xs H Q => (∃ i, xs = [.int i] ∧ Q (.int i) H) ∨ ∃ k, xs = [.bl k] ∧ Q (.int (if k then 1 else 0)) H) dInt := fun Γ Hf σ H ρ vs ds g R hv h Q q => by
  cases hv with
  | nil => cases h
  | cons h1 h2 =>
    cases h2 with
    | cons _ _ => cases h1 <;> cases h
    | nil =>
      cases h1 with
      | int i => cases h; exact .inl ⟨i, rfl, q Hf H _ (Same.refl _) R (.int _)⟩
      | bl b => cases h; exact .inr ⟨b, rfl, q Hf H _ (Same.refl _) R (.int _)⟩
      | _ => cases h
theorem serves_abs : ServesC M (fun xs H Q => ∃ i, xs = [.int i] ∧ Q (.int (if i < 0 then -i else i)) H) dAbs := fun Γ Hf σ H ρ vs ds g R hv h Q q => by
  cases hv with
  | nil => cases h
  | cons h1 h2 =>
    cases h2 with
    | cons _ _ => cases h1 <;> cases h
    | nil =>
      cases h1 with
      | int i => cases h; exact ⟨i, rfl, q Hf H _ (Same.refl _) R (.int _)⟩
      | _ => cases h
theorem serves_len : ServesC M (fun xs H Q => ∃ x n, xs = [x] ∧ LenV M.K x H n ∧ Q (.int n) H) dLen := fun Γ Hf σ H ρ vs ds g R hv h Q q => by
  cases hv with
  | nil => cases h
  | cons h1 h2 =>
    cases h2 with
    | cons _ _ => cases h1 <;> cases h
    | nil =>
      cases h1 with
      | tup s t => cases h; exact ⟨_, _, rfl, .inr ⟨_, SqT.same R.sub s, t.length⟩, q Hf H _ (Same.refl _) R (.int _)⟩
      | lst s t => cases h; exact ⟨_, _, rfl, .inl ⟨_, SqL.of s, t.length⟩, q Hf H _ (Same.refl _) R (.int _)⟩
      | str z =>
        obtain ⟨c, e⟩ := opt_ite h
        subst e
        exact ⟨_, _, rfl, ⟨sz_ok c, rfl⟩, q Hf H _ (Same.refl _) R (.int _)⟩
      | _ => cases h
theorem serves_tuple : ServesC M (fun xs H Q => ∃ p ys, xs = [.ref p] ∧ ((SqL M.K H p ys ∧ ∀ l, H l = none → Q (.ref l) (upd H l (.tup ys))) ∨ (SqT M.K H p ys ∧ Q (.ref p) H))) dTuple := fun Γ Hf σ H ρ vs ds g R hv h Q q => by
  cases hv with
  | nil => cases h
  | cons h1 h2 =>
    cases h2 with
    | cons _ _ => cases h1 <;> cases h
    | nil =>
      cases h1 with
      | tup s t => cases h; exact ⟨_, _, rfl, .inr ⟨SqT.same R.sub s, q Hf H _ (Same.refl _) R (.tup s t)⟩⟩
      | lst s t =>
        cases h
        refine ⟨_, _, rfl, .inl ⟨SqL.of s, fun p hp => ?_⟩⟩
        obtain ⟨S, R'⟩ := R.lay hp (.tup _)
        exact q _ _ _ S R' (.tup (SqT.of upd_same) (t.same S))
      | _ => cases h
theorem serves_list : ServesC M (fun xs H Q => ∃ p ys, xs = [.ref p] ∧ (SqL M.K H p ys ∨ SqT M.K H p ys) ∧ ∀ l, H l = none → Q (.ref l) (upd H l (.lst ys))) dList := fun Γ Hf σ H ρ vs ds g R hv h Q q => by
  have fin : ∀ {vs : List V} {ds : List D}, HasAll M Hf ds vs → g = .nw (.nd .lst ds) → ∀ l, H l = none → Q (.ref l) (upd H l (.lst vs)) := fun {vs ds} t e p hp => by
    subst e
    obtain ⟨R4, h0, hf, hn⟩ := R.layN hp (.lst vs)
    exact q _ _ _ (Same.refl _) R4 ⟨p, rfl, h0, .lst hf upd_same t, hn⟩
  cases hv with
  | nil => cases h
  | cons h1 h2 =>
    cases h2 with
    | cons _ _ => cases h1 <;> cases h
    | nil =>
      cases h1 with
      | tup s t => cases h; exact ⟨_, _, rfl, .inr (SqT.same R.sub s), fin t rfl⟩
      | lst s t => cases h; exact ⟨_, _, rfl, .inl (SqL.of s), fin t rfl⟩
      | _ => cases h
end
/-- repr of data -/
def rRepr (K : PySem.W.Frag) : List V → Hp → VK → Prop := fun xs H Q => ∃ x d, xs = [x] ∧ Dp K H x d ∧ PyData.showable d = true ∧ d.shown.length ≤ sizeLine ∧ d.depth ≤ 64 ∧ Q (.str d.shown) H
theorem dp_noDict {K : PySem.W.Frag} {H : Hp} : ∀ (d : PyData) (x : V), Dp K H x d → PyData.hasDict d = false := by
  have all : (∀ (d : PyData) (x : V), Dp K H x d → PyData.hasDict d = false) ∧ (∀ (ds : List PyData) (xs : List V), DpAll K H xs ds → PyData.hasDictAll ds = false) := by
    constructor
    · intro d x h
      exact Dp.rec (motive_1 := fun x d _ => PyData.hasDict d = false) (motive_2 := fun xs ds _ => PyData.hasDictAll ds = false)
        (by rw [PyData.hasDict]) (fun _ => by rw [PyData.hasDict]) (fun _ => by rw [PyData.hasDict]) (fun _ => by rw [PyData.hasDict]) (fun _ _ ih => by rw [PyData.hasDict]; exact ih) (fun _ _ ih => by rw [PyData.hasDict]; exact ih)
        (by rw [PyData.hasDictAll]) (fun _ _ i1 i2 => by rw [PyData.hasDictAll, i1, i2]; rfl) h
    · intro ds xs h
      exact DpAll.rec (motive_1 := fun x d _ => PyData.hasDict d = false) (motive_2 := fun xs ds _ => PyData.hasDictAll ds = false)
        (by rw [PyData.hasDict]) (fun _ => by rw [PyData.hasDict]) (fun _ => by rw [PyData.hasDict]) (fun _ => by rw [PyData.hasDict]) (fun _ _ ih => by rw [PyData.hasDict]; exact ih) (fun _ _ ih => by rw [PyData.hasDict]; exact ih)
        (by rw [PyData.hasDictAll]) (fun _ _ i1 i2 => by rw [PyData.hasDictAll, i1, i2]; rfl) h
  exact all.1
section
variable {X : Cx}
theorem call_reprD (hg : X.A.guards = some []) (hu : X.A.units + 65 < cLine) : CallR X (.builtin "repr") (rRepr X.K) := by
  intro pins s σ H xs us Q I r h
  obtain ⟨x, d, rfl, hd, hs, hz, hdep, q⟩ := h
  obtain ⟨u, rfl, rx⟩ := vals1 r
  obtain ⟨as, rd⟩ := Dp.reads I d x u hd rx
  have nd : PyData.hasDict d = false := dp_noDict d x hd
  have fin : ∀ (h' : Heap) (t : Tok) (tk : Nat), (∀ b o, s.heap.get? b = some o → h'.get? b = some o) → EP X pins σ Q (.str d.shown t) { s with heap := h', toks := tk } := fun h' t tk k => ⟨.str d.shown, H, I.kept k, ⟨_, rfl⟩, q⟩
  cases u with
  | ref a => exact repr_of_reads' rd hs (PyData.noDict_hsm nd) hg (by omega) (fun _ _ e => e) (fun h' u tk k => fin h' u tk k) hz
  | none => cases rd; exact PySem.P.repr_of_none (by have := fin s.heap s.toks (s.toks + 1) (fun _ _ e => e); rw [PyData.shown] at this; exact this)
  | bool b => cases rd; exact PySem.P.repr_of_bool (by have := fin s.heap s.toks (s.toks + 1) (fun _ _ e => e); rw [PyData.shown] at this; exact this)
  | int i t =>
    cases rd
    rw [PyData.showable] at hs
    exact PySem.P.repr_of_int (of_decide_eq_true hs) (by have := fin s.heap s.toks (s.toks + 1) (fun _ _ e => e); rw [PyData.shown] at this; exact this)
  | str z t =>
    cases rd
    rw [PyData.shown] at hz
    exact PySem.P.repr_of_str (by have := fin s.heap s.toks (s.toks + 1) (fun _ _ e => e); rw [PyData.shown] at this; exact this) hz
  | _ => cases rd
end
theorem serves_repr {M : Md} : ServesC M (rRepr M.K) dRepr := fun Γ Hf σ H ρ vs ds g R hv h Q q => by
  cases hv with
  | nil => cases h
  | cons h1 h2 =>
    cases h2 with
    | cons _ _ => cases h
    | nil =>
      rename_i d v
      obtain ⟨c, e⟩ := opt_ite h
      subst e
      unfold D.showable at c
      rw [Bool.and_eq_true, Bool.and_eq_true, Bool.and_eq_true] at c
      exact ⟨v, d.py, rfl, h1.dp R.sub c.1, c.2.1, sz_ok c.2.2.1, of_decide_eq_true c.2.2.2, q Hf H _ (Same.refl _) R (.str _)⟩
/-! ### sorted of a list of data -/
def D.alike (d e : D) : Bool := PySem.W.alike d.py e.py
def allAlike (ds : List D) : Bool := ds.all fun d => ds.all fun e => d.alike e
def sortableD (ds : List D) : Bool := (ds.all fun d => match d with | .nd .tup (_ :: _) => true | _ => false) || (ds.all fun d => match d with | .bl _ | .int _ | .str _ | .nd .lst _ => true | _ => false)
def sortD (ds : List D) : List D := ds.mergeSort (PySem.W.dataLe false D.py)
def sortOk (ds : List D) : Bool := D.plains ds && (allAlike ds && (sortableD ds && ds.all fun d => decide (d.py.depth ≤ 64)))
def dSorted : List D → Option Rs
  | [.nd .lst ds] => if sortOk ds then some (.nw (.nd .lst (sortD ds))) else none
  | _ => none

/-- pairs of values and data -/
def rSorted (K : PySem.W.Frag) : List V → Hp → VK → Prop := fun xs H Q => ∃ (a : Addr) (ps : List (V × D)), xs = [.ref a] ∧ SqL K H a (ps.map (·.1)) ∧ (∀ p ∈ ps, Dp K H p.1 p.2.py) ∧ PySem.W.AllAlike (ps.map fun p => p.2.py) ∧ PySem.W.Sortable (ps.map fun p => p.2.py) ∧ (∀ p ∈ ps, p.2.py.depth ≤ 64) ∧
  ∀ l, H l = none → Q (.ref l) (upd H l (.lst ((ps.mergeSort (PySem.W.dataLe false fun p => p.2.py)).map (·.1))))
theorem each_rel : ∀ {ps : List (V × D)} {us : List Value}, Vals (ps.map (·.1)) us → PySem.W.EachIs (fun v (p : V × D) => RelV p.1 v) us ps
  | [], _, h => by cases h; exact .nil
  | p :: ps, _, h => by
    cases h with
    | cons h1 h2 => exact .cons h1 (each_rel h2)
theorem rel_each : ∀ {ps : List (V × D)} {us : List Value}, PySem.W.EachIs (fun v (p : V × D) => RelV p.1 v) us ps → Vals (ps.map (·.1)) us
  | _, _, .nil => .nil
  | _, _, .cons h t => .cons h (rel_each t)
theorem each_and {α β : Type} {R S : α → β → Prop} : ∀ {as : List α} {bs : List β}, PySem.W.EachIs R as bs → (∀ a b, R a b → b ∈ bs → S a b) → PySem.W.EachIs S as bs
  | _, _, .nil, _ => .nil
  | _, _, .cons h t, f => .cons (f _ _ h List.mem_cons_self) (each_and t fun a b r m => f a b r (List.mem_cons_of_mem _ m))
section
variable {X : Cx}
theorem call_sortedD (hu : X.A.units + 70 < cLine) : CallR X (.builtin "sorted") (rSorted X.K) := by
  intro pins s σ H xs us Q I r h
  obtain ⟨a, ps, rfl, hl, hd, hal, hk, hdep, q⟩ := h
  obtain ⟨u, rfl, rx⟩ := vals1 r
  cases rx
  obtain ⟨its, rv, pl, hz⟩ := I.list hl
  have lenP : ps.length = its.length := by have := rv.length; rwa [List.length_map] at this
  have e := each_rel rv
  refine PySem.W.sorted_data (R := fun v (p : V × D) => RelV p.1 v) (enc := fun p => p.2.py) (vs := its) (bs := ps) pl.isList e (each_and e fun v p rp hp => Dp.reads I _ _ _ (hd p hp) rp) hal hk (by rw [List.length_map] at hz; exact hz) (fun p hp => by have := hdep p hp; omega) fun out hlen eo => ?_
  obtain ⟨e', he'⟩ := PyProof.Rows.sortedAll_at s.heap its (List.toArray out)
  have fr : H (s.heap.objs.size + 1) = none := I.hok.fresh (Nat.le_succ _)
  refine ⟨.ref (s.heap.objs.size + 1), _, I.laid (t' := s.toks) (o := .lst ((ps.mergeSort (PySem.W.dataLe false fun p => p.2.py)).map (·.1))) (fun b o q => PyProof.Rows.sortedAll_old q) (Nat.le_succ _) ?_, rfl, q _ fr⟩
  refine ⟨?_, out, e', rel_each eo, he'⟩
  rw [List.length_map, List.length_mergeSort]
  rw [List.length_map] at hz
  exact hz
end
theorem zip_fst {α β : Type} : ∀ {l : List α} {k : List β}, l.length = k.length → (l.zip k).map (·.1) = l
  | [], _, _ => by simp
  | a :: l, [], h => by cases h
  | a :: l, b :: k, h => by
    rw [List.zip_cons_cons, List.map_cons, zip_fst (by simpa using h)]
theorem zip_snd {α β : Type} : ∀ {l : List α} {k : List β}, l.length = k.length → (l.zip k).map (·.2) = k
  | [], [], _ => by simp
  | [], _ :: _, h => by cases h
  | a :: l, [], h => by cases h
  | a :: l, b :: k, h => by
    rw [List.zip_cons_cons, List.map_cons, zip_snd (by simpa using h)]
theorem zip_has {M : Md} {G : Hp} : ∀ {ds : List D} {vs : List V}, HasAll M G ds vs → ∀ p ∈ vs.zip ds, Has M G p.2 p.1
  | _, _, .nil, p, h => by simp at h
  | _, _, .cons h t, p, hp => by
    rw [List.zip_cons_cons] at hp
    rcases List.mem_cons.mp hp with e | hp
    · rw [e]; exact h
    · exact zip_has t p hp
theorem has_pairs {M : Md} {G : Hp} : ∀ {ps : List (V × D)}, (∀ p ∈ ps, Has M G p.2 p.1) → HasAll M G (ps.map (·.2)) (ps.map (·.1))
  | [], _ => .nil
  | p :: ps, h => .cons (h p List.mem_cons_self) (has_pairs fun q hq => h q (List.mem_cons_of_mem _ hq))
theorem plains_mem : ∀ {ds : List D} {d : D}, D.plains ds = true → d ∈ ds → d.plain = true
  | [], d, _, h => by cases h
  | e :: ds, d, hp, h => by
    rw [D.plains, Bool.and_eq_true] at hp
    rcases List.mem_cons.mp h with z | h
    · rw [z]; exact hp.1
    · exact plains_mem hp.2 h
theorem serves_sorted {M : Md} : ServesC M (rSorted M.K) dSorted := fun Γ Hf σ H ρ vs ds g R hv h Q q => by
  cases hv with
  | nil => cases h
  | cons h1 h2 =>
    cases h2 with
    | cons _ _ => cases h1 <;> cases h
    | nil =>
      cases h1 with
      | lst s t =>
        rename_i a vs ds
        obtain ⟨c, e⟩ := opt_ite h
        subst e
        unfold sortOk at c
        rw [Bool.and_eq_true, Bool.and_eq_true, Bool.and_eq_true] at c
        obtain ⟨c1, c2, c3, c4⟩ := c
        have hlen : vs.length = ds.length := t.length.symm
        have efst := zip_fst hlen
        have esnd := zip_snd hlen
        have hm := zip_has t
        have msnd : ∀ p ∈ vs.zip ds, p.2 ∈ ds := fun p hp => by
          rw [← esnd]; exact List.mem_map_of_mem hp
        have epy : (vs.zip ds).map (fun p => p.2.py) = ds.map D.py := by
          conv => rhs; rw [← esnd]
          rw [List.map_map]; rfl
        refine ⟨a, vs.zip ds, rfl, by rw [efst]; exact SqL.of s, fun p hp => ((hm p hp).same R.sub).dp (plains_mem c1 (msnd p hp)), ?_, ?_, fun p hp => ?_, fun l hl => ?_⟩
        · rw [epy]
          intro d hd d' hd'
          obtain ⟨x, hx, rfl⟩ := List.mem_map.mp hd
          obtain ⟨y, hy, rfl⟩ := List.mem_map.mp hd'
          unfold allAlike at c2
          exact List.all_eq_true.mp (List.all_eq_true.mp c2 x hx) y hy
        · rw [epy]
          unfold sortableD at c3
          rw [Bool.or_eq_true] at c3
          rcases c3 with c3 | c3
          · refine .inl fun d hd => ?_
            obtain ⟨x, hx, rfl⟩ := List.mem_map.mp hd
            have z := List.all_eq_true.mp c3 x hx
            cases x with
            | nd k xs =>
              cases k with
              | tup =>
                cases xs with
                | nil => cases z
                | cons y ys => exact ⟨y.py, D.pys ys, by rw [D.py, D.pys]⟩
              | _ => cases z
            | _ => cases z
          · refine .inr fun d hd => ?_
            obtain ⟨x, hx, rfl⟩ := List.mem_map.mp hd
            have z := List.all_eq_true.mp c3 x hx
            cases x with
            | nd k xs =>
              cases k with
              | lst => rw [D.py]; exact ⟨(fun q => nomatch q), (fun _ q => nomatch q)⟩
              | _ => cases z
            | bl b => rw [D.py]; exact ⟨(fun q => nomatch q), (fun _ q => nomatch q)⟩
            | int b => rw [D.py]; exact ⟨(fun q => nomatch q), (fun _ q => nomatch q)⟩
            | str b => rw [D.py]; exact ⟨(fun q => nomatch q), (fun _ q => nomatch q)⟩
            | _ => cases z
        · exact of_decide_eq_true (List.all_eq_true.mp c4 p.2 (msnd p hp))
        · obtain ⟨R4, h0, hf, hn⟩ := R.layN hl (.lst (((vs.zip ds).mergeSort (PySem.W.dataLe false fun p => p.2.py)).map (·.1)))
          refine q _ _ _ (Same.refl _) R4 ⟨l, rfl, h0, .lst hf upd_same ?_, hn⟩
          have ems : sortD ds = ((vs.zip ds).mergeSort (PySem.W.dataLe false fun p => p.2.py)).map (·.2) := by
            have z := List.map_mergeSort (r := PySem.W.dataLe false fun p : V × D => p.2.py) (s := PySem.W.dataLe false D.py) (f := fun p : V × D => p.2) (l := vs.zip ds) (fun p _ q _ => rfl)
            rw [esnd] at z
            exact z.symm
          rw [ems]
          exact has_pairs fun p hp => hm p ((List.mergeSort_perm _ _).mem_iff.mp hp)
      | _ => cases h
end Fx

set_option Elab.async false
set_option linter.all false
set_option maxRecDepth 100000
set_option maxHeartbeats 4000000
namespace Fx
open PySem L2
variable [Tb]
/-! ### statements -/
inductive Fl where
  | nx | rt (r : Rs) | bk | ct
def FlOk (M : Md) (Γ : Gh) (Hf : Hp) (σ : L2.St) (H : Hp) (ρ : Env) (D : Ends) : Fl → Prop
  | .nx => D.nx σ H
  | .bk => D.bk σ H
  | .ct => D.ct σ H
  | .rt r => ∀ v, RsIs M Γ Hf σ H ρ r v → D.rt v H
def EPs (M : Md) (W : WX) (Γ : Gh) (Hf : Hp) (n : Nat) : Exn → Env → Prop := fun x ρ' => ∀ Hf' σ' H' c d, σ'.length = n → Same Hf Hf' → Rep M Γ Hf' σ' H' ρ' → ExIs M Γ.g.H0 Hf' H' x c d → W c d σ' H'
theorem EPs.up {M : Md} {W : WX} {Γ : Gh} {Hf Hf1 : Hp} {n : Nat} (S : Same Hf Hf1) : ∀ x ρ, EPs M W Γ Hf n x ρ → EPs M W Γ Hf1 n x ρ := fun x ρ h Hf' σ' H' c d hl S' R e => h Hf' σ' H' c d hl (S.trans S') R e
theorem EPs.ex {M : Md} {W : WX} {Γ : Gh} {Hf : Hp} {σ : L2.St} {n : Nat} (hn : σ.length = n) : ∀ x ρ, EPs M W Γ Hf n x ρ → EPf M W Γ Hf σ x ρ := fun x ρ h Hf' H' c d S' R e => h Hf' σ H' c d hn S' R e
def rdS (M : Md) (W : WX) (g : Env → Rz (Env × Fl)) : TS := fun D σ H => ∃ Γ Hf ρ, Rep M Γ Hf σ H ρ ∧
  (g ρ).wp (fun p => ∀ Hf' σ' H', σ'.length = σ.length → Same Hf Hf' → Rep M Γ Hf' σ' H' p.1 → FlOk M Γ Hf' σ' H' p.1 D p.2) (EPs M W Γ Hf σ.length)
abbrev RS (X : Cx) (W : WX) (st : Stmt) (g : Env → Rz (Env × Fl)) : Prop := PS X st (rdS ⟨X.K, X.mg⟩ W g)
abbrev RSs (X : Cx) (W : WX) (st : List Stmt) (g : Env → Rz (Env × Fl)) : Prop := PSs X st (rdS ⟨X.K, X.mg⟩ W g)
theorem ps_mono {X : Cx} {e : Stmt} {t t' : TS} (h : PS X e t) (i : ∀ D σ H, t' D σ H → t D σ H) : PS X e t' := ⟨fun pins s σ H D I q => h.run pins s σ H D I (i D σ H q)⟩
theorem ps_monoI {X : Cx} {e : Stmt} {t t' : TS} (h : PS X e t) (i : ∀ D σ H, σ.length = X.N.length → t' D σ H → t D σ H) : PS X e t' := ⟨fun pins s σ H D I q => h.run pins s σ H D I (i D σ H I.len q)⟩
theorem pss_mono {X : Cx} {e : List Stmt} {t t' : TS} (h : PSs X e t) (i : ∀ D σ H, t' D σ H → t D σ H) : PSs X e t' := ⟨fun pins s σ H D I q => h.run pins s σ H D I (i D σ H q)⟩
section
variable {M : Md} {W : WX} {Γ : Gh} {Hf : Hp} {σ : L2.St} {H : Hp} {ρ : Env} {β : Type} {P : β → Prop}
/-- an expression that gives data, within a statement -/
theorem sbV {f : Env → Rz (Env × D)} {g : Env × D → Rz β} {Q : VK} (R : Rep M Γ Hf σ H ρ) (hw : ((f ρ).bind g).wp P (EPs M W Γ Hf σ.length))
    (k : ∀ ρ1 d Hf1 H1 v, Same Hf Hf1 → Rep M Γ Hf1 σ H1 ρ1 → Has M Hf1 d v → (g (ρ1, d)).wp P (EPs M W Γ Hf1 σ.length) → Q v H1) : rdV M W f σ H Q :=
  ⟨Γ, Hf, ρ, R, Rz.wp_mono (Rz.wp_bind hw) (fun p hp Hf1 H1 v S R1 hv => k p.1 p.2 Hf1 H1 v S R1 hv (Rz.wp_mono hp (fun _ z => z) (EPs.up S))) (EPs.ex rfl)⟩
theorem sbE {f : Env → Rz (Env × Rs)} {g : Env × Rs → Rz β} {Q : VK} (R : Rep M Γ Hf σ H ρ) (hw : ((f ρ).bind g).wp P (EPs M W Γ Hf σ.length))
    (k : ∀ ρ1 r Hf1 H1 v, Same Hf Hf1 → Rep M Γ Hf1 σ H1 ρ1 → RsIs M Γ Hf1 σ H1 ρ1 r v → (g (ρ1, r)).wp P (EPs M W Γ Hf1 σ.length) → Q v H1) : rdE M W f σ H Q :=
  ⟨Γ, Hf, ρ, R, Rz.wp_mono (Rz.wp_bind hw) (fun p hp Hf1 H1 v S R1 hv => k p.1 p.2 Hf1 H1 v S R1 hv (Rz.wp_mono hp (fun _ z => z) (EPs.up S))) (EPs.ex rfl)⟩
theorem sbH {f : Env → Rz (Env × Rs)} {g : Env × Rs → Rz β} {Q : VK} (R : Rep M Γ Hf σ H ρ) (hw : ((f ρ).bind g).wp P (EPs M W Γ Hf σ.length))
    (k : ∀ ρ1 r Hf1 H1 v, Same Hf Hf1 → Rep M Γ Hf1 σ H1 ρ1 → HsIs M Hf1 σ r v → (g (ρ1, r)).wp P (EPs M W Γ Hf1 σ.length) → Q v H1) : rdH M W f σ H Q :=
  ⟨Γ, Hf, ρ, R, Rz.wp_mono (Rz.wp_bind hw) (fun p hp Hf1 H1 v S R1 hv => k p.1 p.2 Hf1 H1 v S R1 hv (Rz.wp_mono hp (fun _ z => z) (EPs.up S))) (EPs.ex rfl)⟩
theorem sbT {f : Env → Rz (Env × Bool)} {g : Env × Bool → Rz β} {Q : Bool → Hp → Prop} (R : Rep M Γ Hf σ H ρ) (hw : ((f ρ).bind g).wp P (EPs M W Γ Hf σ.length))
    (k : ∀ ρ1 b Hf1 H1, Same Hf Hf1 → Rep M Γ Hf1 σ H1 ρ1 → (g (ρ1, b)).wp P (EPs M W Γ Hf1 σ.length) → Q b H1) : rdT M W f σ H Q :=
  ⟨Γ, Hf, ρ, R, Rz.wp_mono (Rz.wp_bind hw) (fun p hp Hf1 H1 S R1 => k p.1 p.2 Hf1 H1 S R1 (Rz.wp_mono hp (fun _ z => z) (EPs.up S))) (EPs.ex rfl)⟩
theorem sbS {f : Env → Rz (Env × Fl)} {g : Env × Fl → Rz β} {D : Ends} (R : Rep M Γ Hf σ H ρ) (hw : ((f ρ).bind g).wp P (EPs M W Γ Hf σ.length))
    (k : ∀ ρ1 fl Hf1 σ1 H1, σ1.length = σ.length → Same Hf Hf1 → Rep M Γ Hf1 σ1 H1 ρ1 → (g (ρ1, fl)).wp P (EPs M W Γ Hf1 σ1.length) → FlOk M Γ Hf1 σ1 H1 ρ1 D fl) : rdS M W f D σ H :=
  ⟨Γ, Hf, ρ, R, Rz.wp_mono (Rz.wp_bind hw) (fun p hp Hf1 σ1 H1 hl S R1 => k p.1 p.2 Hf1 σ1 H1 hl S R1 (by rw [hl]; exact Rz.wp_mono hp (fun _ z => z) (EPs.up S))) (fun _ _ z => z)⟩
end
def gNext : Env → Rz (Env × Fl) := fun ρ => .ok (ρ, .nx)
def gBreak : Env → Rz (Env × Fl) := fun ρ => .ok (ρ, .bk)
def gCont : Env → Rz (Env × Fl) := fun ρ => .ok (ρ, .ct)
def gSeq (f g : Env → Rz (Env × Fl)) : Env → Rz (Env × Fl) := fun ρ => (f ρ).bind fun p => match p.2 with
  | .nx => g p.1
  | fl => .ok (p.1, fl)
def gRet (f : Env → Rz (Env × Rs)) : Env → Rz (Env × Fl) := fun ρ => (f ρ).bind fun p => .ok (p.1, .rt p.2)
def gExpr (f : Env → Rz (Env × Rs)) : Env → Rz (Env × Fl) := fun ρ => (f ρ).bind fun p => .ok (p.1, .nx)
def gIf (t : Env → Rz (Env × Bool)) (f g : Env → Rz (Env × Fl)) : Env → Rz (Env × Fl) := fun ρ => (t ρ).bind fun p => if p.2 = true then f p.1 else g p.1
def gSet (i : Nat) (f : Env → Rz (Env × Rs)) : Env → Rz (Env × Fl) := fun ρ => (f ρ).bind fun p => (put p.1 i p.2).bind fun ρ' => .ok (ρ', .nx)
section
variable {X : Cx} {W : WX} {st : Stmt} {rest : List Stmt} {e : Expr} {pos : Pos} {f g : Env → Rz (Env × Fl)} {ef : Env → Rz (Env × Rs)} {vf : Env → Rz (Env × D)} {tf : Env → Rz (Env × Bool)}
theorem rss_nil : RSs X W [] gNext := pss_mono pss_nil fun D σ H ⟨Γ, Hf, ρ, R, hw⟩ => hw Hf σ H rfl (Same.refl _) R
theorem rs_pass : RS X W (.Pass pos) gNext := ps_mono ps_pass fun D σ H ⟨Γ, Hf, ρ, R, hw⟩ => hw Hf σ H rfl (Same.refl _) R
theorem rs_break : RS X W (.Break pos) gBreak := ps_mono ps_break fun D σ H ⟨Γ, Hf, ρ, R, hw⟩ => hw Hf σ H rfl (Same.refl _) R
theorem rs_cont : RS X W (.Continue pos) gCont := ps_mono ps_continue fun D σ H ⟨Γ, Hf, ρ, R, hw⟩ => hw Hf σ H rfl (Same.refl _) R
/-- to go on with a statement from a state -/
theorem rdS_pass {M : Md} {g : Env → Rz (Env × Fl)} {Γ : Gh} {Hf Hf0 : Hp} {σ : L2.St} {n : Nat} {H : Hp} {ρ : Env} {D : Ends} (R : Rep M Γ Hf σ H ρ) (hn : σ.length = n) (S0 : Same Hf0 Hf)
    (h : (g ρ).wp (fun p => ∀ Hf' σ' H', σ'.length = n → Same Hf0 Hf' → Rep M Γ Hf' σ' H' p.1 → FlOk M Γ Hf' σ' H' p.1 D p.2) (EPs M W Γ Hf σ.length)) : rdS M W g D σ H :=
  ⟨Γ, Hf, ρ, R, Rz.wp_mono h (fun p hp Hf' σ' H' hl S' R' => hp Hf' σ' H' (hl.trans hn) (S0.trans S') R') fun _ _ z => z⟩
theorem rss_cons (h1 : RS X W st f) (h2 : RSs X W rest g) : RSs X W (st :: rest) (gSeq f g) := pss_mono (pss_cons h1 h2) fun D σ H ⟨Γ, Hf, ρ, R, hw⟩ =>
  sbS R hw fun ρ1 fl Hf1 σ1 H1 hl S R1 hq => by
    cases fl with
    | nx => exact rdS_pass R1 hl S hq
    | rt r => exact hq Hf1 σ1 H1 hl S R1
    | bk => exact hq Hf1 σ1 H1 hl S R1
    | ct => exact hq Hf1 σ1 H1 hl S R1
theorem rss_one (h1 : RS X W st f) : RSs X W [st] f := pss_one h1
theorem rs_ret (he : RE X W e ef) : RS X W (.Return (some e) pos) (gRet ef) := ps_mono (ps_ret he) fun D σ H ⟨Γ, Hf, ρ, R, hw⟩ =>
  sbE R hw fun ρ1 r Hf1 H1 v S R1 hv hq => hq Hf1 σ H1 rfl S R1 v hv
theorem rs_retN : RS X W (.Return none pos) (gRet (hC .non)) := ps_mono ps_retN fun D σ H ⟨Γ, Hf, ρ, R, hw⟩ => hw Hf σ H rfl (Same.refl _) R .non (show Has _ _ _ _ from .non)
theorem rs_expr (he : RE X W e ef) (hs : swapsWith e none pos.line X.env = pure false := by rfl) : RS X W (.Expr e pos) (gExpr ef) := ps_mono (ps_expr he hs) fun D σ H ⟨Γ, Hf, ρ, R, hw⟩ =>
  sbE R hw fun ρ1 r Hf1 H1 v S R1 hv hq => hq Hf1 σ H1 rfl S R1
theorem rs_doc {x j pos'} : RS X W (.Expr (.Constant (.str x) j pos) pos') gNext := ps_mono ps_doc fun D σ H ⟨Γ, Hf, ρ, R, hw⟩ => hw Hf σ H rfl (Same.refl _) R
theorem rs_if {c : Expr} {a b : List Stmt} (hc : RT X W c tf) (ha : RSs X W a f) (hb : RSs X W b g) : RS X W (.If c a b pos) (gIf tf f g) := ps_mono (ps_if hc ha hb) fun D σ H ⟨Γ, Hf, ρ, R, hw⟩ =>
  sbT R hw fun ρ1 b Hf1 H1 S R1 hq => by
    cases b with
    | true => exact iteT (rdS_pass R1 rfl S hq)
    | false => exact iteF (rdS_pass R1 rfl S hq)
theorem put_wp {β : Type} {ρ : Env} {i : Nat} {r : Rs} {g : Env → Rz β} {Q : β → Prop} {E : Exn → Env → Prop} (h : ((put ρ i r).bind g).wp Q E) : ∃ ρ', put ρ i r = .ok ρ' ∧ (g ρ').wp Q E := by
  cases u : put ρ i r with
  | ok p => rw [u] at h; exact ⟨p, rfl, h⟩
  | no => rw [u] at h; exact h.elim
  | ex x ρ' =>
    exfalso
    unfold put at u
    cases q : ρ[i]? with
    | none => simp [q] at u
    | some y =>
      cases r with
      | im d => cases y <;> simp [q] at u
      | nw d => cases y <;> simp [q] at u
      | slot j =>
        have z : ∀ ρ2, (use ρ (.slot j) >>= fun p => (.ok (p.1.set i (.im p.2)) : Rz Env)) ≠ .ex x ρ2 := fun ρ2 e => by
          cases u2 : use ρ (.slot j) with
          | ok p => rw [u2] at e; cases e
          | no => rw [u2] at e; cases e
          | ex _ _ => exact use_noex u2
        cases y <;> simp [q] at u <;> exact z _ u
/-- x = e -/
theorem rs_set {i : Nat} {x : Str} {pos' : Pos} (hN : X.N.Nodup) (he : RE X W e ef) (hi : X.N[i]? = some x := by rfl) (hx : Loc X.env.scope x := by first | exact Or.inl rfl | exact Or.inr rfl) (hs : swapsWith e (some (.Name x pos')) pos.line X.env = pure false := by rfl)
    (hf : X.fn x = true ∨ X.env.scope.names.lookup x = some .local := by first | exact .inl rfl | exact .inr rfl | assumption) :
    RS X W (.Assign [.Name x pos'] e pos) (gSet i ef) := ps_monoI (ps_set hN hi hx he hs hf) fun D σ H hl ⟨Γ, Hf, ρ, R, hw⟩ =>
  sbE R hw fun ρ1 r Hf1 H1 v S R1 hv hq => by
    obtain ⟨ρ', e1, hq⟩ := put_wp hq
    obtain ⟨Hf2, S2, R2⟩ := R1.store hv e1
    exact hq Hf2 (σ.set i (some v)) H1 (by simp) (S.trans S2) R2
/-! ### while -/
def gWhile (t : Env → Rz (Env × Bool)) (g : Env → Rz (Env × Fl)) : Nat → Env → Rz (Env × Fl)
  | 0, _ => .no
  | n + 1, ρ => (t ρ).bind fun p => if p.2 = true then (g p.1).bind fun q => (match q.2 with
      | .nx => gWhile t g n q.1
      | .ct => gWhile t g n q.1
      | .bk => .ok (q.1, .nx)
      | .rt r => .ok (q.1, .rt r)) else .ok (p.1, .nx)
theorem while_imp {M : Md} (n : Nat) : ∀ D σ H, rdS M W (gWhile tf f n) D σ H → tWhile (rdT M W tf) (rdS M W f) D σ H := by
  rintro D σ H ⟨Γ, Hf, ρ, R, hw⟩
  refine ⟨fun m σ1 H1 => σ1.length = σ.length ∧ ∃ Hf1 ρ1, Same Hf Hf1 ∧ Rep M Γ Hf1 σ1 H1 ρ1 ∧
    (gWhile tf f m ρ1).wp (fun p => ∀ Hf' σ' H', σ'.length = σ.length → Same Hf1 Hf' → Rep M Γ Hf' σ' H' p.1 → FlOk M Γ Hf' σ' H' p.1 D p.2) (EPs M W Γ Hf1 σ.length), ⟨n, rfl, Hf, ρ, Same.refl _, R, hw⟩, ?_⟩
  rintro m σ1 H1 ⟨l1, Hf1, ρ1, S1, R1, hw1⟩
  cases m with
  | zero => exact hw1.elim
  | succ m =>
    rw [← l1] at hw1
    refine sbT R1 hw1 fun ρ2 b Hf2 H2 S2 R2 hq => ?_
    cases b with
    | false => exact iteF (hq Hf2 σ1 H2 rfl S2 R2)
    | true =>
      refine iteT ⟨fun σ' H' => σ'.length = σ.length ∧ ∃ Hf1 ρ1, Same Hf Hf1 ∧ Rep M Γ Hf1 σ' H' ρ1 ∧
        (gWhile tf f m ρ1).wp (fun p => ∀ Hf' σ' H', σ'.length = σ.length → Same Hf1 Hf' → Rep M Γ Hf' σ' H' p.1 → FlOk M Γ Hf' σ' H' p.1 D p.2) (EPs M W Γ Hf1 σ.length), fun σ' H' h => ⟨m, Nat.lt_succ_self m, h⟩, ?_⟩
      refine sbS R2 hq fun ρ3 fl Hf3 σ3 H3 l3 S3 R3 hq3 => ?_
      have on : ∀ {r : Rz (Env × Fl)}, r.wp (fun p => ∀ Hf' σ' H', σ'.length = σ1.length → Same Hf1 Hf' → Rep M Γ Hf' σ' H' p.1 → FlOk M Γ Hf' σ' H' p.1 D p.2) (EPs M W Γ Hf3 σ3.length) →
          r.wp (fun p => ∀ Hf' σ' H', σ'.length = σ.length → Same Hf3 Hf' → Rep M Γ Hf' σ' H' p.1 → FlOk M Γ Hf' σ' H' p.1 D p.2) (EPs M W Γ Hf3 σ.length) := fun h =>
        Rz.wp_mono h (fun p hp Hf' σ' H' hl S' R' => hp Hf' σ' H' (hl.trans l1.symm) (S2.trans (S3.trans S')) R') fun x ρ h => by rw [l3, l1] at h; exact h
      cases fl with
      | nx => exact ⟨l3.trans l1, Hf3, ρ3, S1.trans (S2.trans S3), R3, on hq3⟩
      | ct => exact ⟨l3.trans l1, Hf3, ρ3, S1.trans (S2.trans S3), R3, on hq3⟩
      | bk => exact hq3 Hf3 σ3 H3 l3 (S2.trans S3) R3
      | rt r => exact hq3 Hf3 σ3 H3 l3 (S2.trans S3) R3
theorem rs_while {c : Expr} {body : List Stmt} (n : Nat) (hp : PassesOwn (model X.prog X.w) X.A X.env X.xe) (hc : RT X W c tf) (hb : RSs X W body f) : RS X W (.While c body [] pos) (gWhile tf f n) := ps_mono (ps_while hp hc hb) (while_imp n)
end
/-! ### what is walked -/
/-- an iteration over data: it goes on while the frozen heap stands -/
structure Walks (M : Md) (J : It) (Hf : Hp) (ds : List D) : Prop where
  go : ∀ i H, Same Hf H → i < ds.length → J.go i H
  stop : ∀ i H, Same Hf H → ds.length ≤ i → J.stop i H
  yld : ∀ i H v H' d, J.yld i H v H' → ds[i]? = some d → ∀ Γ Hf1 σ ρ, Same Hf Hf1 → Rep M Γ Hf1 σ H ρ → ∃ Hf2, Same Hf1 Hf2 ∧ Rep M Γ Hf2 σ H' ρ ∧ Has M Hf2 d v
theorem Walks.up {M : Md} {J : It} {Hf Hf' : Hp} {ds : List D} (w : Walks M J Hf ds) (S : Same Hf Hf') : Walks M J Hf' ds :=
  ⟨fun i H S' => w.go i H (S.trans S'), fun i H S' => w.stop i H (S.trans S'), fun i H v H' d y e Γ Hf1 σ ρ S' R => w.yld i H v H' d y e Γ Hf1 σ ρ (S.trans S') R⟩
def rdI (M : Md) (W : WX) (f : Env → Rz (Env × List D)) : TI := fun σ H Q => ∃ Γ Hf ρ, Rep M Γ Hf σ H ρ ∧
  (f ρ).wp (fun p => ∀ Hf' H' J, Same Hf Hf' → Rep M Γ Hf' σ H' p.1 → Walks M J Hf' p.2 → Q J H') (EPf M W Γ Hf σ)
abbrev RI (X : Cx) (W : WX) (tg iter : Expr) (f : Env → Rz (Env × List D)) : Prop := PI X tg iter (rdI ⟨X.K, X.mg⟩ W f)
theorem pi_mono {X : Cx} {tg e : Expr} {t t' : TI} (h : PI X tg e t) (i : ∀ σ H Q, t' σ H Q → t σ H Q) : PI X tg e t' := ⟨fun pins s σ H R I q => h.run pins s σ H R I (i σ H R q)⟩
/-- a list, a tuple that stands still -/
def iSeq (f : Env → Rz (Env × D)) : Env → Rz (Env × List D) := fun ρ => (f ρ).bind fun p => match p.2 with
  | .nd .tup ds => .ok (p.1, ds)
  | .nd .lst ds => .ok (p.1, ds)
  | _ => .no
theorem walks_list {M : Md} {Hf : Hp} {a : Addr} {vs : List V} {ds : List D} (hl : SqL M.K Hf a vs) (h : HasAll M Hf ds vs) : Walks M (Itl M.K a) Hf ds where
  go := fun i H S hi => by
    have hi' : i < vs.length := by rw [← h.length]; exact hi
    exact ⟨vs, vs[i], S.seq hl, List.getElem?_eq_getElem hi'⟩
  stop := fun i H S hi => ⟨vs, S.seq hl, by rw [← h.length]; exact hi⟩
  yld := fun i H v H' d y e Γ Hf1 σ ρ S R => by
    obtain ⟨rfl, y⟩ := y
    have y2 := y vs (R.sub.seq (S.seq hl))
    obtain ⟨u, h1, h2⟩ := h.get e
    rw [y2] at h1
    cases h1
    exact ⟨Hf1, Same.refl _, R, h2.same S⟩
theorem walks_tup {M : Md} {Hf : Hp} {a : Addr} {vs : List V} {ds : List D} (hl : SqT M.K Hf a vs) (h : HasAll M Hf ds vs) : Walks M (Itt M.K a) Hf ds where
  go := fun i H S hi => by
    have hi' : i < vs.length := by rw [← h.length]; exact hi
    exact ⟨vs, vs[i], SqT.same S hl, List.getElem?_eq_getElem hi'⟩
  stop := fun i H S hi => ⟨vs, SqT.same S hl, by rw [← h.length]; exact hi⟩
  yld := fun i H v H' d y e Γ Hf1 σ ρ S R => by
    obtain ⟨rfl, y⟩ := y
    have y2 := y vs (SqT.same R.sub (SqT.same S hl))
    obtain ⟨u, h1, h2⟩ := h.get e
    rw [y2] at h1
    cases h1
    exact ⟨Hf1, Same.refl _, R, h2.same S⟩
/-- ints from lo on -/
def intsD (lo : Int) (n : Nat) : List D := (List.range n).map fun i : Nat => D.int (lo + (i : Int))
theorem walks_range {M : Md} {Hf : Hp} {lo : Int} {n : Nat} : Walks M (Itr lo n) Hf (intsD lo n) where
  go := fun i H S hi => by have h : i < n := by (simpa [intsD] using hi)
                           exact h
  stop := fun i H S hi => by have h : n ≤ i := by (simpa [intsD] using hi)
                             exact h
  yld := fun i H v H' d y e Γ Hf1 σ ρ S R => by
    obtain ⟨rfl, rfl⟩ := y
    have : d = .int (lo + i) := by
      unfold intsD at e
      rw [List.getElem?_map] at e
      cases q : (List.range n)[i]? with
      | none => rw [q] at e; cases e
      | some j =>
        rw [q] at e
        have hj : j = i := by
          obtain ⟨h1, h2⟩ := List.getElem?_eq_some_iff.mp q
          simpa using h2.symm
        subst hj
        exact (Option.some.inj e).symm
    subst this
    exact ⟨Hf1, Same.refl _, R, .int _⟩
section
variable {X : Cx} {W : WX} {tg e a b : Expr} {pos p : Pos} {vf : Env → Rz (Env × D)} {f : Env → Rz (Env × List Rs)}
/-- a list or a tuple: whichever stands there -/
theorem pi_seq {l : Expr} {tl : TE} (hl : PE X l tl) : PI X tg l (fun σ H R => tl σ H fun x H1 => ∃ a, x = .ref a ∧ (((∃ xs, SqL X.K H1 a xs) ∧ R (Itl X.K a) H1) ∨ ((∃ xs, SqT X.K H1 a xs) ∧ R (Itt X.K a) H1))) := by
  refine ⟨fun pins s σ H R I h => ?_⟩
  refine thn (hl.run pins s σ H _ I h) fun v s1 ⟨x, H1, I1, r1, q1⟩ => ?_
  obtain ⟨a, e, q1⟩ := q1
  subst e
  cases r1
  rcases q1 with ⟨⟨xs, hq⟩, q⟩ | ⟨⟨xs, hq⟩, q⟩
  · obtain ⟨its, rv, p, hz⟩ := I1.list hq
    refine wpAny_pyIter_list p.isList ?_
    refine ⟨s1.heap.objs.size, [s1.heap.objs.size], _, _, H1, rfl, I1.kept (t' := s1.toks) fun b o e => Heap.get?_push_of_some _ e, turn_list a _, ⟨_, Heap.get?_push_size _ rfl, rfl, rfl⟩, fun b hb => ?_, q⟩
    have e : b = s1.heap.objs.size := by simpa using hb
    subst e
    exact I1.fpOk (Nat.le_refl _) (I1.hok.fresh (Nat.le_refl _))
  · obtain ⟨its, rv, p, hz⟩ := I1.tuple hq
    refine wpAny_pyIter_tuple (show s1.heap.IsTuple a its.toArray from p) ?_
    refine ⟨s1.heap.objs.size, [s1.heap.objs.size], _, _, H1, rfl, I1.kept (t' := s1.toks) fun b o e => Heap.get?_push_of_some _ e, turn_tuple a _, ⟨_, Heap.get?_push_size _ rfl, rfl, rfl⟩, fun b hb => ?_, q⟩
    have e : b = s1.heap.objs.size := by simpa using hb
    subst e
    exact I1.fpOk (Nat.le_refl _) (I1.hok.fresh (Nat.le_refl _))
theorem ri_seq (h : RV X W e vf) : RI X W tg e (iSeq vf) := pi_mono (pi_seq h) fun σ H Q ⟨Γ, Hf, ρ, R, hw⟩ => bindV R hw fun ρ1 d Hf1 H1 v S R1 hv hq => by
  cases hv with
  | tup s t => exact ⟨_, rfl, .inr ⟨⟨_, SqT.same R1.sub s⟩, hq Hf1 H1 _ S R1 (walks_tup s t)⟩⟩
  | lst s t => exact ⟨_, rfl, .inl ⟨⟨_, SqL.of (R1.sub _ _ s)⟩, hq Hf1 H1 _ S R1 (walks_list (SqL.of s) t)⟩⟩
  | _ => exact hq.elim
def rngOk (i : Int) : Bool := decide (-(2 ^ 62) ≤ i) && decide (i < 2 ^ 62)
theorem rng_ok {i : Int} (h : rngOk i = true) : -(2 ^ 62) ≤ i ∧ i < 2 ^ 62 := by
  unfold rngOk at h
  rw [Bool.and_eq_true, decide_eq_true_eq, decide_eq_true_eq] at h
  exact h
/-- range(b), range(a, b) -/
def dRng1 : List D → Option (List D)
  | [.int j] => if rngOk j then some (intsD 0 j.toNat) else none
  | _ => none
def dRng2 : List D → Option (List D)
  | [.int i, .int j] => if rngOk i && rngOk j then some (intsD i (j - i).toNat) else none
  | _ => none
def iRng (F : List D → Option (List D)) (f : Env → Rz (Env × List Rs)) : Env → Rz (Env × List D) := fun ρ => (f ρ).bind fun p => (Rz.ofO (peekAll p.1 p.2)).bind fun ds => (Rz.ofO (F ds)).bind fun x => .ok (p.1, x)
theorem ri_range1 (hg : Gl X "range") (hm : X.mg "range" = none) (ha : RHs X W [a] f) (hs : starEach [a] X.env = [(false, eval a X.env)] := by rfl) : RI X W tg (.Call (.Name "range" p) [a] [] pos) (iRng dRng1 f) :=
  pi_mono (pi_range1 hg hm ha hs) fun σ H Q ⟨Γ, Hf, ρ, R, hw⟩ => bindHs R hw fun ρ1 rs Hf1 H1 vs S R1 hv hq => by
    obtain ⟨ds, e1, hq⟩ := ofO_bind hq
    obtain ⟨xs, e2, hq⟩ := ofO_bind hq
    have T := R1.peekAll hv e1
    cases T with
    | nil => cases e2
    | cons t1 t2 =>
      cases t2 with
      | cons t2 t3 => cases t1 <;> cases e2
      | nil =>
        cases t1 with
        | int j =>
          obtain ⟨c, e⟩ := opt_ite e2
          subst e
          obtain ⟨c1, c2⟩ := rng_ok c
          exact ⟨j, rfl, c1, c2, hq Hf1 H1 _ S R1 walks_range⟩
        | _ => cases e2
theorem ri_range2 (hg : Gl X "range") (hm : X.mg "range" = none) (ha : RHs X W [a, b] f) (hs : starEach [a, b] X.env = [(false, eval a X.env), (false, eval b X.env)] := by rfl) (hs2 : starEach [b] X.env = [(false, eval b X.env)] := by rfl) : RI X W tg (.Call (.Name "range" p) [a, b] [] pos) (iRng dRng2 f) :=
  pi_mono (pi_range2 hg hm ha hs hs2) fun σ H Q ⟨Γ, Hf, ρ, R, hw⟩ => bindHs R hw fun ρ1 rs Hf1 H1 vs S R1 hv hq => by
    obtain ⟨ds, e1, hq⟩ := ofO_bind hq
    obtain ⟨xs, e2, hq⟩ := ofO_bind hq
    have T := R1.peekAll hv e1
    cases T with
    | nil => cases e2
    | cons t1 t2 =>
      cases t2 with
      | nil => cases t1 <;> cases e2
      | cons t2 t3 =>
        cases t3 with
        | cons _ _ => cases t1 <;> first | (cases e2; done) | (cases t2 <;> cases e2)
        | nil =>
          cases t1 with
          | int i =>
            cases t2 with
            | int j =>
              obtain ⟨c, e⟩ := opt_ite e2
              subst e
              rw [Bool.and_eq_true] at c
              obtain ⟨c1, c2⟩ := rng_ok c.1
              obtain ⟨c3, c4⟩ := rng_ok c.2
              exact ⟨i, j, rfl, ⟨c1, c2, c3, c4⟩, hq Hf1 H1 _ S R1 walks_range⟩
            | _ => cases e2
          | _ => cases t2 <;> cases e2
/-! ### targets -/
theorem put_ok {ρ : Env} {i : Nat} {r : Rs} {Q : Env → Prop} {E : Exn → Env → Prop} (h : (put ρ i r).wp Q E) : ∃ ρ', put ρ i r = .ok ρ' ∧ Q ρ' := by
  have e : ((put ρ i r).bind fun ρ' => Rz.ok ρ') = put ρ i r := by cases put ρ i r <;> rfl
  rw [← e] at h
  exact put_wp h
def rdG (M : Md) (W : WX) (is : List Nat) (tgf : D → Env → Rz Env) : TG := fun v σ H Q => ∃ Γ Hf ρ d, Rep M Γ Hf σ H ρ ∧ Has M Hf d v ∧
  (tgf d ρ).wp (fun ρ' => ∀ Hf' σ' H', σ'.length = σ.length → (∀ j, j ∉ is → σ'[j]? = σ[j]?) → Same Hf Hf' → Rep M Γ Hf' σ' H' ρ' → Q σ' H') (EPs M W Γ Hf σ.length)
abbrev RG (X : Cx) (W : WX) (tg : Expr) (is : List Nat) (tgf : D → Env → Rz Env) : Prop := PG X tg (rdG ⟨X.K, X.mg⟩ W is tgf)
def tgN (i : Nat) : D → Env → Rz Env := fun d ρ => put ρ i (.im d)
theorem pg_monoI {X : Cx} {tg : Expr} {t t' : TG} (h : PG X tg t) (i : ∀ v σ H Q, σ.length = X.N.length → t' v σ H Q → t v σ H Q) : PG X tg t' := ⟨fun pins s σ H v u Q I r q => h.run pins s σ H v u Q I r (i v σ H Q I.len q)⟩
theorem rg_name {i : Nat} {x : Str} (hN : X.N.Nodup) (hi : X.N[i]? = some x := by rfl) (hx : Loc X.env.scope x := by first | exact Or.inl rfl | exact Or.inr rfl) (hf : X.fn x = true ∨ X.env.scope.names.lookup x = some .local := by first | exact .inl rfl | exact .inr rfl | assumption) :
    RG X W (.Name x pos) [i] (tgN i) := pg_monoI (pg_name hN hi hx hf) fun v σ H Q hl ⟨Γ, Hf, ρ, d, R, hv, hw⟩ => by
  obtain ⟨ρ', e1, hq⟩ := put_ok hw
  obtain ⟨Hf2, S2, R2⟩ := R.store (r := .im d) hv e1
  exact hq Hf2 (σ.set i (some v)) H (by simp) (fun j hj => List.getElem?_set_ne fun e => hj (by simp [e])) S2 R2
/-- a, b, .. of a tuple -/
def tgAll : List (D → Env → Rz Env) → List D → Env → Rz Env
  | [], [], ρ => .ok ρ
  | t :: ts, d :: ds, ρ => (t d ρ).bind fun ρ' => tgAll ts ds ρ'
  | _, _, _ => .no
def rdGs (M : Md) (W : WX) (is : List Nat) (ts : List (D → Env → Rz Env)) : TGs := fun vs σ H Q => ∃ Γ Hf ρ ds, Rep M Γ Hf σ H ρ ∧ HasAll M Hf ds vs ∧
  (tgAll ts ds ρ).wp (fun ρ' => ∀ Hf' σ' H', σ'.length = σ.length → (∀ j, j ∉ is → σ'[j]? = σ[j]?) → Same Hf Hf' → Rep M Γ Hf' σ' H' ρ' → Q σ' H') (EPs M W Γ Hf σ.length)
abbrev RGs (X : Cx) (W : WX) (tgs : List Expr) (is : List Nat) (ts : List (D → Env → Rz Env)) : Prop := PGs X tgs (rdGs ⟨X.K, X.mg⟩ W is ts)
theorem pgs_mono {X : Cx} {tg : List Expr} {t t' : TGs} (h : PGs X tg t) (i : ∀ v σ H Q, t' v σ H Q → t v σ H Q) : PGs X tg t' := ⟨fun pins s σ H v u Q I r q => h.run pins s σ H v u Q I r (i v σ H Q q)⟩
theorem rgs_nil : RGs X W [] [] [] := pgs_mono pgs_nil fun vs σ H Q ⟨Γ, Hf, ρ, ds, R, hv, hw⟩ => by
  cases hv with
  | nil => exact ⟨rfl, hw Hf σ H rfl (fun _ _ => rfl) (Same.refl _) R⟩
  | cons _ _ => exact hw.elim
theorem rgs_cons {t : D → Env → Rz Env} {ts : List (D → Env → Rz Env)} {es : List Expr} {is js : List Nat} (h1 : RG X W e is t) (h2 : RGs X W es js ts) (hs : (assignEach (e :: es) X.env).map (·.2) = assign e X.env :: (assignEach es X.env).map (·.2) := by rfl) : RGs X W (e :: es) (is ++ js) (t :: ts) :=
  pgs_mono (pgs_cons h1 h2 hs) fun vs σ H Q ⟨Γ, Hf, ρ, ds, R, hv, hw⟩ => by
    cases hv with
    | nil => exact hw.elim
    | cons hd hvs =>
      refine ⟨_, _, rfl, Γ, Hf, ρ, _, R, hd, Rz.wp_mono (Rz.wp_bind hw) (fun ρ' hp Hf1 σ1 H1 l1 o1 S1 R1 => ?_) fun _ _ z => z⟩
      exact ⟨Γ, Hf1, ρ', _, R1, hvs.same S1, Rz.wp_mono hp (fun ρ2 h Hf' σ' H' l' o' S' R' => h Hf' σ' H' (l'.trans l1) (fun j hj => (o' j fun z => hj (List.mem_append_right _ z)).trans (o1 j fun z => hj (List.mem_append_left _ z))) (S1.trans S') R') fun x ρ2 h => by rw [l1]; exact EPs.up S1 x ρ2 h⟩
def tgT (ts : List (D → Env → Rz Env)) : D → Env → Rz Env := fun d ρ => match d with
  | .nd .tup ds => if ds.length = ts.length then tgAll ts ds ρ else .no
  | _ => .no
theorem rg_tup {es : List Expr} {k : Nat} {ts : List (D → Env → Rz Env)} {is : List Nat} (hc : X.calm = true) (h : RGs X W es is ts) (hn : (assignEach es X.env).length = ts.length := by rfl) (hst : (assignEach es X.env).findIdx? (·.1) = none := by rfl) : RG X W (.Tuple es k pos) is (tgT ts) :=
  pg_monoI (pg_tup hc h hn hst) fun v σ H Q hl ⟨Γ, Hf, ρ, d, R, hv, hw⟩ => by
    cases hv with
    | tup s t =>
      have hw' : (if _ then tgAll ts _ ρ else Rz.no).wp _ _ := hw
      split at hw'
      · rename_i c
        exact ⟨_, _, rfl, SqT.same R.sub s, by rw [← t.length]; exact c, Γ, Hf, ρ, _, R, t, hw'⟩
      · exact hw'.elim
    | _ => exact hw.elim
/-- target = value -/
def gAsg (tgf : D → Env → Rz Env) (f : Env → Rz (Env × D)) : Env → Rz (Env × Fl) := fun ρ => (f ρ).bind fun p => (tgf p.2 p.1).bind fun ρ' => .ok (ρ', .nx)
theorem rs_asg {tgf : D → Env → Rz Env} {is : List Nat} (he : RV X W e vf) (hg : RG X W tg is tgf) (hs : swapsWithSole [tg] e pos.line X.env = pure false := by rfl) (hw : swappedStores [tg] e X.env = pure none := by rfl)
    (h1 : (assignEach [tg] X.env).map (·.2) = [assign tg X.env] := by rfl) : RS X W (.Assign [tg] e pos) (gAsg tgf vf) := ps_mono (ps_asg he hg hs hw h1) fun D σ H ⟨Γ, Hf, ρ, R, hw⟩ =>
  sbV R hw fun ρ1 d Hf1 H1 v S R1 hv hq => ⟨Γ, Hf1, ρ1, d, R1, hv, Rz.wp_mono (Rz.wp_bind hq) (fun ρ' hp Hf' σ' H' l' _ S' R' => hp Hf' σ' H' l' (S.trans S') R') fun _ _ z => z⟩
/-! ### for -/
def gForL (tgf : D → Env → Rz Env) (g : Env → Rz (Env × Fl)) : List D → Env → Rz (Env × Fl)
  | [], ρ => .ok (ρ, .nx)
  | d :: ds, ρ => (tgf d ρ).bind fun ρ1 => (g ρ1).bind fun q => match q.2 with
      | .nx => gForL tgf g ds q.1
      | .ct => gForL tgf g ds q.1
      | .bk => .ok (q.1, .nx)
      | .rt r => .ok (q.1, .rt r)
def gFor (it : Env → Rz (Env × List D)) (tgf : D → Env → Rz Env) (g : Env → Rz (Env × Fl)) : Env → Rz (Env × Fl) := fun ρ => (it ρ).bind fun p => gForL tgf g p.2 p.1
variable {g : Env → Rz (Env × Fl)} {itf : Env → Rz (Env × List D)} {tgf : D → Env → Rz Env} {is : List Nat}
theorem for_imp {M : Md} : ∀ D σ H, rdS M W (gFor itf tgf g) D σ H → tFor (rdI M W itf) (rdG M W is tgf) (rdS M W g) D σ H := by
  rintro D σ H ⟨Γ, Hf, ρ, R, hw⟩
  refine ⟨Γ, Hf, ρ, R, Rz.wp_mono (Rz.wp_bind hw) (fun p hp Hf1 H1 J S1 R1 Wk => ?_) (EPs.ex rfl)⟩
  obtain ⟨ρ1, ds⟩ := p
  -- the state ahead of turn i
  refine ⟨fun i m σ1 H2 => m = ds.length - i ∧ i ≤ ds.length ∧ σ1.length = σ.length ∧ ∃ Hf2 ρ2, Same Hf1 Hf2 ∧ Rep M Γ Hf2 σ1 H2 ρ2 ∧
    (gForL tgf g (ds.drop i) ρ2).wp (fun p => ∀ Hf' σ' H', σ'.length = σ.length → Same Hf2 Hf' → Rep M Γ Hf' σ' H' p.1 → FlOk M Γ Hf' σ' H' p.1 D p.2) (EPs M W Γ Hf2 σ.length),
    ⟨ds.length, by simp, Nat.zero_le _, rfl, Hf1, ρ1, Same.refl _, R1, ?_⟩, ?_⟩
  · exact Rz.wp_mono hp (fun p h Hf' σ' H' l S R' => h Hf' σ' H' l (S1.trans S) R') (EPs.up S1)
  rintro i m σ1 H2 ⟨rfl, hi, l1, Hf2, ρ2, S2, R2, hq⟩
  by_cases hlt : i < ds.length
  · refine .inr ⟨Wk.go i H2 (S2.trans R2.sub) hlt, fun σ' H' => σ'.length = σ.length ∧ ∃ Hf3 ρ3, Same Hf1 Hf3 ∧ Rep M Γ Hf3 σ' H' ρ3 ∧
      (gForL tgf g (ds.drop (i + 1)) ρ3).wp (fun p => ∀ Hf' σ' H', σ'.length = σ.length → Same Hf3 Hf' → Rep M Γ Hf' σ' H' p.1 → FlOk M Γ Hf' σ' H' p.1 D p.2) (EPs M W Γ Hf3 σ.length),
      fun σ' H' h => ⟨ds.length - (i + 1), by omega, rfl, hlt, h⟩, fun v H3 y => ?_⟩
    have ed : ds.drop i = ds[i] :: ds.drop (i + 1) := List.drop_eq_getElem_cons hlt
    rw [ed] at hq
    obtain ⟨Hf3, S3, R3, hd⟩ := Wk.yld i H2 v H3 ds[i] y (List.getElem?_eq_getElem hlt) Γ Hf2 σ1 ρ2 S2 R2
    refine ⟨Γ, Hf3, ρ2, ds[i], R3, hd, ?_⟩
    refine Rz.wp_mono (Rz.wp_bind hq) (fun ρ3 hp3 Hf4 σ4 H4 l4 _ S4 R4 => ?_) fun x ρ h => by rw [l1]; exact EPs.up S3 x ρ h
    have S24 : Same Hf2 Hf4 := S3.trans S4
    have hp4 : ((g ρ3).bind fun q => match q.2 with
      | .nx => gForL tgf g (ds.drop (i + 1)) q.1
      | .ct => gForL tgf g (ds.drop (i + 1)) q.1
      | .bk => .ok (q.1, .nx)
      | .rt r => .ok (q.1, .rt r)).wp (fun p => ∀ Hf' σ' H', σ'.length = σ.length → Same Hf2 Hf' → Rep M Γ Hf' σ' H' p.1 → FlOk M Γ Hf' σ' H' p.1 D p.2) (EPs M W Γ Hf4 σ4.length) := Rz.wp_mono hp3 (fun _ z => z) fun x ρ h => by rw [l4, l1]; exact EPs.up S24 x ρ h
    refine sbS R4 hp4 fun ρ5 fl Hf5 σ5 H5 l5 S5 R5 hq5 => ?_
    have l5' : σ5.length = σ.length := l5.trans (l4.trans l1)
    have on : ∀ {r : Rz (Env × Fl)}, r.wp (fun p => ∀ Hf' σ' H', σ'.length = σ.length → Same Hf2 Hf' → Rep M Γ Hf' σ' H' p.1 → FlOk M Γ Hf' σ' H' p.1 D p.2) (EPs M W Γ Hf5 σ5.length) →
        r.wp (fun p => ∀ Hf' σ' H', σ'.length = σ.length → Same Hf5 Hf' → Rep M Γ Hf' σ' H' p.1 → FlOk M Γ Hf' σ' H' p.1 D p.2) (EPs M W Γ Hf5 σ.length) := fun h =>
      Rz.wp_mono h (fun p hp Hf' σ' H' hl S' R' => hp Hf' σ' H' hl (S24.trans (S5.trans S')) R') fun x ρ h => by rw [l5'] at h; exact h
    cases fl with
    | nx => exact ⟨l5', Hf5, ρ5, S2.trans (S24.trans S5), R5, on hq5⟩
    | ct => exact ⟨l5', Hf5, ρ5, S2.trans (S24.trans S5), R5, on hq5⟩
    | bk => exact hq5 Hf5 σ5 H5 l5' (S24.trans S5) R5
    | rt r => exact hq5 Hf5 σ5 H5 l5' (S24.trans S5) R5
  · have e : i = ds.length := by omega
    subst e
    rw [List.drop_length] at hq
    exact .inl ⟨Wk.stop _ H2 (S2.trans R2.sub) (Nat.le_refl _), hq Hf2 σ1 H2 l1 (Same.refl _) R2⟩
theorem rs_for {iter : Expr} {body : List Stmt} (hp : PassesOwn (model X.prog X.w) X.A X.env X.xe) (hc : X.calm = true) (hi : RI X W tg iter itf) (hg : RG X W tg is tgf) (hb : RSs X W body g)
    (hs : ∀ x, foldedSetIterable iter X.env x = pure x := by intro _; rfl) : RS X W (.For tg iter body [] pos) (gFor itf tgf g) := ps_mono (ps_for hp hc hi hg hb hs) for_imp
end
end Fx

set_option Elab.async false
set_option linter.all false
set_option maxRecDepth 100000
set_option maxHeartbeats 4000000
namespace Fx
open PySem L2
variable [Tb]
/-! ### a container held beside the slots -/
theorem app_last {α : Type} {l : List α} {x y : α} {i : Nat} (h : (l ++ [x])[i]? = some y) : (i = l.length ∧ y = x) ∨ (i < l.length ∧ l[i]? = some y) := by
  by_cases e : i < l.length
  · rw [List.getElem?_append_left e] at h
    exact .inr ⟨e, h⟩
  · rw [List.getElem?_append_right (by omega)] at h
    by_cases e2 : i = l.length
    · subst e2
      rw [Nat.sub_self] at h
      simp at h
      exact .inl ⟨rfl, h.symm⟩
    · have : 1 ≤ i - l.length := by omega
      rw [List.getElem?_eq_none (by simpa using this)] at h
      cases h
theorem Rep0.push {M : Md} {g : Gm} {Hf : Hp} {σ : L2.St} {H : Hp} {ρ : Env} (R : Rep0 M g Hf σ H ρ) {a : Addr} {d : D} (h0 : g.H0 a = none) (hl : LocAt M Hf H d (.ref a)) (hn : ∀ (i : Nat) x, ρ[i]? = some x → x.own → σ[i]? ≠ some (some (.ref a))) :
    Rep0 M g Hf (σ ++ [some (.ref a)]) H (ρ ++ [.lo d]) := by
  have L := R.len
  have last : (σ ++ [some (V.ref a)])[ρ.length]? = some (some (.ref a)) := by rw [L]; simp
  refine ⟨by simp [L], R.sub, R.gr, R.fr, R.fz, fun i d' e => ?_, fun i d' e => ?_, fun i d' e => ?_, fun i j x y ne ex ey ox oy => ?_, R.paH, R.paO, R.tb, R.tg⟩
  · rcases app_last e with ⟨_, z⟩ | ⟨lt, q⟩
    · cases z
    · obtain ⟨v, h1, h2⟩ := R.im i d' q
      exact ⟨v, get_app h1, h2⟩
  · rcases app_last e with ⟨rfl, z⟩ | ⟨lt, q⟩
    · cases z; exact ⟨a, last, h0, hl⟩
    · obtain ⟨b, h1, h2, h3⟩ := R.lo i d' q
      exact ⟨b, get_app h1, h2, h3⟩
  · rcases app_last e with ⟨_, z⟩ | ⟨lt, q⟩
    · cases z
    · obtain ⟨b, h1, h2, h3⟩ := R.pa i d' q
      exact ⟨b, get_app h1, h2, h3⟩
  · rcases app_last ex with ⟨rfl, z⟩ | ⟨l1, q1⟩
    · rcases app_last ey with ⟨rfl, _⟩ | ⟨l2, q2⟩
      · exact absurd rfl ne
      · rw [last, get_left (by omega)]
        exact fun e => hn j y q2 oy e.symm
    · rcases app_last ey with ⟨rfl, z⟩ | ⟨l2, q2⟩
      · rw [last, get_left (by omega)]
        exact hn i x q1 ox
      · rw [get_left (by omega), get_left (by omega)]
        exact R.inj i j x y ne q1 q2 ox oy
theorem Rep0.pop {M : Md} {g : Gm} {Hf : Hp} {σ : L2.St} {H : Hp} {ρ : Env} {a : Addr} {d : D} (R : Rep0 M g Hf (σ ++ [some (.ref a)]) H (ρ ++ [.lo d])) :
    Rep0 M g Hf σ H ρ ∧ g.H0 a = none ∧ LocAt M Hf H d (.ref a) ∧ ∀ (i : Nat) x, ρ[i]? = some x → x.own → σ[i]? ≠ some (some (.ref a)) := by
  have L : ρ.length = σ.length := by have := R.len; simp at this; exact this
  have eρ : (ρ ++ [Sl.lo d])[ρ.length]? = some (.lo d) := by simp
  have eσ : (σ ++ [some (V.ref a)])[ρ.length]? = some (some (.ref a)) := by rw [L]; simp
  have lt : ∀ {i : Nat} {x : Sl}, ρ[i]? = some x → i < ρ.length := fun q => (List.getElem?_eq_some_iff.mp q).1
  have sg : ∀ {i : Nat} {x : Sl}, ρ[i]? = some x → (σ ++ [some (V.ref a)])[i]? = σ[i]? := fun q => get_left (by rw [← L]; exact lt q)
  obtain ⟨b, h1, h2, h3⟩ := R.lo ρ.length d eρ
  rw [eσ] at h1
  cases h1
  refine ⟨⟨L, R.sub, R.gr, R.fr, R.fz, fun i d' e => ?_, fun i d' e => ?_, fun i d' e => ?_, fun i j x y ne ex ey ox oy => ?_, R.paH, R.paO, R.tb, R.tg⟩, h2, h3, fun i x e o => ?_⟩
  · have := R.im i d' (get_app e)
    rw [sg e] at this; exact this
  · have := R.lo i d' (get_app e)
    rw [sg e] at this; exact this
  · have := R.pa i d' (get_app e)
    rw [sg e] at this; exact this
  · have := R.inj i j x y ne (get_app ex) (get_app ey) ox oy
    rw [sg ex, sg ey] at this; exact this
  · have := R.inj i ρ.length x (.lo d) (Nat.ne_of_lt (lt e)) (get_app e) eρ o trivial
    rw [sg e, eσ] at this; exact this
def Gh.add (Γ : Gh) (a : Addr) (d : D) : Gh := ⟨Γ.g, Γ.τ ++ [some (.ref a)], Γ.γ ++ [.lo d]⟩
section
variable {M : Md} {Γ : Gh} {Hf : Hp} {σ : L2.St} {H : Hp} {ρ : Env} {a : Addr} {d : D}
theorem Rep.push (R : Rep M Γ Hf σ H ρ) (h : RsIs M Γ Hf σ H ρ (.nw d) (.ref a)) : Rep M (Γ.add a d) Hf σ H ρ := by
  obtain ⟨b, e, h0, hl, hn⟩ := h
  cases e
  refine ⟨R.len, ?_⟩
  have := R.r0.push h0 hl hn
  rw [List.append_assoc, List.append_assoc] at this
  exact this
theorem Rep.pop (R : Rep M (Γ.add a d) Hf σ H ρ) : Rep M Γ Hf σ H ρ ∧ RsIs M Γ Hf σ H ρ (.nw d) (.ref a) := by
  have r := R.r0
  unfold Gh.add at r
  simp only at r
  rw [← List.append_assoc, ← List.append_assoc] at r
  obtain ⟨r', h0, hl, hn⟩ := r.pop
  exact ⟨⟨R.len, r'⟩, a, rfl, h0, hl, hn⟩
/-- a new list's address, at hand -/
theorem nw_of {p : Addr} {ds : List D} {vs : List V} (x : Rep M Γ Hf σ (upd H p (.lst vs)) ρ ∧ Γ.g.H0 p = none ∧ Hf p = none ∧ ∀ (i : Nat) x, (ρ ++ Γ.γ)[i]? = some x → x.own → (σ ++ Γ.τ)[i]? ≠ some (some (.ref p))) (t : HasAll M Hf ds vs) :
    RsIs M Γ Hf σ (upd H p (.lst vs)) ρ (.nw (.nd .lst ds)) (.ref p) := ⟨p, rfl, x.2.1, .lst x.2.2.1 upd_same t, x.2.2.2⟩
/-- the list held last grows -/
theorem Rep.growTop {ds : List D} (R : Rep M (Γ.add a (.nd .lst ds)) Hf σ H ρ) : ∃ vs, H a = some (.lst vs) ∧ HasAll M Hf ds vs ∧ ∀ (e : D) (v : V), Has M Hf e v → Rep M (Γ.add a (.nd .lst (ds ++ [e]))) Hf σ (upd H a (.lst (vs ++ [v]))) ρ := by
  have hl := R.pop.2
  obtain ⟨b, e, h0, hl, hn⟩ := hl
  cases e
  cases hl with
  | lst n h t =>
    rename_i vs
    refine ⟨vs, h, t, fun e v he => ⟨R.len, ?_⟩⟩
    have eρ : (ρ ++ (Γ.add a (.nd .lst ds)).γ)[(ρ ++ Γ.γ).length]? = some (.lo (.nd .lst ds)) := by
      show (ρ ++ (Γ.γ ++ [_]))[(ρ ++ Γ.γ).length]? = _
      rw [← List.append_assoc]; simp
    have eσ : (σ ++ (Γ.add a (.nd .lst ds)).τ)[(ρ ++ Γ.γ).length]? = some (some (.ref a)) := by
      have L := R.pop.1.r0.len
      show (σ ++ (Γ.τ ++ [_]))[(ρ ++ Γ.γ).length]? = _
      rw [← List.append_assoc, L]; simp
    have hw := R.r0.write (o := .lst (vs ++ [v])) (d := .nd .lst (ds ++ [e])) eρ trivial eσ (.lst n upd_same (t.append (.single he)))
    have es : (ρ ++ (Γ.add a (.nd .lst ds)).γ).set (ρ ++ Γ.γ).length (Sl.withD (.lo (.nd .lst ds)) (.nd .lst (ds ++ [e]))) = ρ ++ (Γ.add a (.nd .lst (ds ++ [e]))).γ := by
      show (ρ ++ (Γ.γ ++ [_])).set _ (Sl.lo _) = ρ ++ (Γ.γ ++ [_])
      rw [← List.append_assoc, ← List.append_assoc, List.set_append]
      simp
    rw [es] at hw
    exact hw
/-! ### slots forgotten -/
def wipeE (ρ : Env) : List Nat → Env
  | [] => ρ
  | v :: vs => (wipeE ρ vs).set v .no
theorem wipeE_length (ρ : Env) : ∀ vs : List Nat, (wipeE ρ vs).length = ρ.length
  | [] => rfl
  | v :: vs => by unfold wipeE; rw [List.length_set, wipeE_length ρ vs]
theorem wipeE_get {i : Nat} {x : Sl} : ∀ {vs : List Nat}, (wipeE ρ vs)[i]? = some x → x = .no ∨ (ρ[i]? = some x ∧ i ∉ vs)
  | [], h => .inr ⟨h, by simp⟩
  | v :: vs, h => by
    unfold wipeE at h
    rcases set_get h with ⟨rfl, z⟩ | ⟨ne, q⟩
    · exact .inl z
    · rcases wipeE_get q with z | ⟨q, n⟩
      · exact .inl z
      · exact .inr ⟨q, by simp only [List.mem_cons, not_or]; exact ⟨ne, n⟩⟩
theorem wipe_get {σ : L2.St} {i : Nat} : ∀ {vs : List Nat}, i ∉ vs → (wipe σ vs)[i]? = σ[i]?
  | [], _ => rfl
  | v :: vs, h => by
    simp only [List.mem_cons, not_or] at h
    unfold wipe
    rw [List.getElem?_set_ne (fun e => h.1 e.symm), wipe_get h.2]
theorem wipe_eq {σ σ2 : L2.St} {vs : List Nat} (hl : σ2.length = σ.length) (h : ∀ j, j ∉ vs → σ2[j]? = (wipe σ vs)[j]?) : wipe σ2 vs = wipe σ vs := by
  have key : ∀ (σ : L2.St) (vs : List Nat) (j : Nat), j ∈ vs → j < σ.length → (wipe σ vs)[j]? = some none := by
    intro σ vs
    induction vs with
    | nil => intro j hj; cases hj
    | cons v vs ih =>
      intro j hj lt
      unfold wipe
      by_cases e : j = v
      · subst e
        rw [List.getElem?_set_self (by rw [wipe_length]; exact lt)]
      · rw [List.getElem?_set_ne (fun q => e q.symm)]
        exact ih j ((List.mem_cons.mp hj).resolve_left e) lt
  apply List.ext_getElem?
  intro j
  by_cases hj : j ∈ vs
  · by_cases lt : j < σ.length
    · rw [key σ2 vs j hj (by rw [hl]; exact lt), key σ vs j hj lt]
    · rw [List.getElem?_eq_none (by rw [wipe_length, hl]; omega), List.getElem?_eq_none (by rw [wipe_length]; omega)]
  · rw [wipe_get hj]
    exact h j hj
/-- the slots vs are empty -/
def NoAt (ρ : Env) (vs : List Nat) : Prop := ∀ (i : Nat) x, i ∈ vs → ρ[i]? = some x → x = .no
theorem noAt_wipe {ρ : Env} {vs : List Nat} : NoAt (wipeE ρ vs) vs := fun i x hi e => by
  rcases wipeE_get e with z | ⟨_, n⟩
  · exact z
  · exact absurd hi n
theorem Rep.forget (R : Rep M Γ Hf σ H ρ) {σ' : L2.St} {ρ' : Env} (lσ : σ'.length = σ.length) (lρ : ρ'.length = ρ.length) (h : ∀ (i : Nat) x, ρ'[i]? = some x → x = .no ∨ (ρ[i]? = some x ∧ σ'[i]? = σ[i]?)) : Rep M Γ Hf σ' H ρ' := by
  refine ⟨by rw [lρ, lσ]; exact R.len, R.r0.forget (by simp [lσ]) (by simp [lρ]) fun i x e => ?_⟩
  have L := R.len
  by_cases lt : i < ρ'.length
  · rw [get_left lt] at e
    rcases h i x e with z | ⟨q, es⟩
    · exact .inl z
    · refine .inr ⟨get_app q, ?_⟩
      rw [get_left (by omega), get_left (by omega)]
      exact es
  · rw [List.getElem?_append_right (by omega)] at e
    refine .inr ⟨?_, ?_⟩
    · rw [List.getElem?_append_right (by omega), ← lρ]; exact e
    · rw [List.getElem?_append_right (by omega), List.getElem?_append_right (by omega), lσ]
theorem Rep.wipe (R : Rep M Γ Hf σ H ρ) (vs : List Nat) : Rep M Γ Hf σ H (wipeE ρ vs) := R.forget rfl (wipeE_length ρ vs) fun i x e => (wipeE_get e).imp id fun ⟨q, _⟩ => ⟨q, rfl⟩
theorem Rep.wipeS (R : Rep M Γ Hf σ H ρ) {vs : List Nat} (n : NoAt ρ vs) : Rep M Γ Hf (L2.wipe σ vs) H ρ := R.forget (wipe_length σ vs) rfl fun i x e => by
  by_cases hi : i ∈ vs
  · exact .inl (n i x hi e)
  · exact .inr ⟨e, wipe_get hi⟩
theorem Rep.unwipe {σ2 : L2.St} (R : Rep M Γ Hf σ2 H ρ) {vs : List Nat} (hl : σ2.length = σ.length) (h : ∀ j, j ∉ vs → σ2[j]? = σ[j]?) : Rep M Γ Hf σ H (wipeE ρ vs) := R.forget hl.symm (wipeE_length ρ vs) fun i x e => (wipeE_get e).imp id fun ⟨q, n⟩ => ⟨q, (h i n).symm⟩
end
/-! ### [e for target in iter if ..] -/
def tYes : Env → Rz (Env × Bool) := fun ρ => .ok (ρ, true)
def lcL (vs : List Nat) (tgf : D → Env → Rz Env) (tt : Env → Rz (Env × Bool)) (vf : Env → Rz (Env × D)) : List D → Env → List D → Rz (Env × List D)
  | [], ρ, acc => .ok (ρ, acc)
  | d :: ds, ρ, acc => (tgf d ρ).bind fun ρ1 => (tt ρ1).bind fun p =>
      if p.2 = true then (vf p.1).bind fun q => if sz (acc.length + 1) = true then lcL vs tgf tt vf ds (wipeE q.1 vs) (acc ++ [q.2]) else .no
      else lcL vs tgf tt vf ds (wipeE p.1 vs) acc
/-- nothing is let out -/
def noX {α : Type} : Rz α → Rz α
  | .ok a => .ok a
  | _ => .no
@[simp] theorem noX_ok {α : Type} (a : α) : noX (.ok a) = .ok a := rfl
theorem noX_wp {α : Type} {r : Rz α} {Q : α → Prop} {E : Exn → Env → Prop} (h : (noX r).wp Q E) : r.wp Q fun _ _ => False := by
  cases r <;> exact h
def eLc (vs : List Nat) (it : Env → Rz (Env × List D)) (tgf : D → Env → Rz Env) (tt : Env → Rz (Env × Bool)) (vf : Env → Rz (Env × D)) : Env → Rz (Env × Rs) := fun ρ => (it ρ).bind fun p => (noX (lcL vs tgf tt vf p.2 (wipeE p.1 vs) [])).bind fun q => .ok (q.1, .nw (.nd .lst q.2))
abbrev W0 : WX := fun _ _ _ _ => False
abbrev RTs (X : Cx) (W : WX) (ifs : List Expr) (tt : Env → Rz (Env × Bool)) : Prop := PTs X ifs (rdT ⟨X.K, X.mg⟩ W tt)
theorem pts_mono {X : Cx} {ifs : List Expr} {t t' : TT} (h : PTs X ifs t) (i : ∀ σ H Q, t' σ H Q → t σ H Q) : PTs X ifs t' := ⟨fun pins s σ H Q I q => h.run pins s σ H Q I (i σ H Q q)⟩
theorem rts_nil {X : Cx} {W : WX} : RTs X W [] tYes := pts_mono pts_nil fun σ H Q ⟨Γ, Hf, ρ, R, hw⟩ => hw Hf H (Same.refl _) R
theorem rts_one {X : Cx} {W : WX} {c : Expr} {tt : Env → Rz (Env × Bool)} (h : RT X W c tt) : RTs X W [c] tt := pts_one h
section
variable {M : Md} {W : WX} {vs is : List Nat} {itf : Env → Rz (Env × List D)} {tgf : D → Env → Rz Env} {tt : Env → Rz (Env × Bool)} {vf : Env → Rz (Env × D)}
theorem lc_imp (hv : ∀ i ∈ is, i ∈ vs) : ∀ σ H Q, rdE M W (eLc vs itf tgf tt vf) σ H Q → tLc (rdI M W itf) (rdG M W0 is tgf) (rdT M W0 tt) (rdV M W0 vf) vs σ H Q := by
  rintro σ H Q ⟨Γ, Hf, ρ, R, hw⟩
  refine ⟨Γ, Hf, ρ, R, Rz.wp_mono (Rz.wp_bind hw) (fun p hp Hf1 H1 J S1 R1 Wk L hL => ?_) fun _ _ z => z⟩
  obtain ⟨ρ1, ds⟩ := p
  have N0 := R1.layN hL (.lst [])
  have R1n := N0.1.push (nw_of N0 (.nil : HasAll M Hf1 [] []))
  have R1w := R1n.wipe vs
  have hp' := noX_wp (Rz.wp_bind hp)
  -- the state ahead of turn i
  refine ⟨fun i m H2 => m = ds.length - i ∧ i ≤ ds.length ∧ ∃ Hf2 ρ2 acc, Same Hf1 Hf2 ∧ Rep M (Γ.add L (.nd .lst acc)) Hf2 σ H2 ρ2 ∧ NoAt ρ2 vs ∧
    (lcL vs tgf tt vf (ds.drop i) ρ2 acc).wp (fun q => ∀ Hf' H' v, Same Hf2 Hf' → Rep M Γ Hf' σ H' q.1 → RsIs M Γ Hf' σ H' q.1 (.nw (.nd .lst q.2)) v → Q v H') (fun _ _ => False),
    ⟨ds.length, by simp, Nat.zero_le _, Hf1, wipeE ρ1 vs, [], Same.refl _, R1w, noAt_wipe, ?_⟩, ?_⟩
  · exact Rz.wp_mono hp' (fun q h Hf' H' v S R' h' => h Hf' H' v (S1.trans S) R' h') fun _ _ z => z
  rintro i m H2 ⟨rfl, hi, Hf2, ρ2, acc, S2, R2, n2, hq⟩
  by_cases hlt : i < ds.length
  · refine .inr ⟨Wk.go i H2 (S2.trans R2.sub) hlt, fun H' => ∃ Hf2 ρ2 acc, Same Hf1 Hf2 ∧ Rep M (Γ.add L (.nd .lst acc)) Hf2 σ H' ρ2 ∧ NoAt ρ2 vs ∧
      (lcL vs tgf tt vf (ds.drop (i + 1)) ρ2 acc).wp (fun q => ∀ Hf' H' v, Same Hf2 Hf' → Rep M Γ Hf' σ H' q.1 → RsIs M Γ Hf' σ H' q.1 (.nw (.nd .lst q.2)) v → Q v H') (fun _ _ => False),
      fun H' h => ⟨ds.length - (i + 1), by omega, rfl, hlt, h⟩, fun v H3 y => ?_⟩
    have ed : ds.drop i = ds[i] :: ds.drop (i + 1) := List.drop_eq_getElem_cons hlt
    rw [ed] at hq
    obtain ⟨Hf3, S3, R3, hd⟩ := Wk.yld i H2 v H3 ds[i] y (List.getElem?_eq_getElem hlt) _ Hf2 σ ρ2 S2 R2
    have hq1 := Rz.wp_bind (show ((tgf ds[i] ρ2).bind _).wp _ _ from hq)
    refine ⟨_, Hf3, ρ2, ds[i], R3.wipeS n2, hd, Rz.wp_mono hq1 (fun ρ3 hq3 Hf4 σ4 H4 l4 o4 S4 R4 => ?_) fun _ _ z => z.elim⟩
    have l4' : σ4.length = σ.length := by rw [l4, wipe_length]
    have o4' : ∀ j, j ∉ vs → σ4[j]? = σ[j]? := fun j hj => (o4 j fun z => hj (hv j z)).trans (wipe_get hj)
    have ew : wipe σ4 vs = wipe σ vs := wipe_eq l4' fun j hj => o4 j fun z => hj (hv j z)
    refine ⟨ew, _, Hf4, ρ3, R4, Rz.wp_mono (Rz.wp_bind hq3) (fun pb hq5 Hf5 H5 S5 R5 => ?_) fun _ _ z => z.elim⟩
    obtain ⟨ρ5, b⟩ := pb
    have S35 : Same Hf2 Hf5 := S3.trans (S4.trans S5)
    cases b with
    | false =>
      refine iteF ⟨Hf5, wipeE ρ5 vs, acc, S2.trans S35, R5.unwipe l4' o4', noAt_wipe, ?_⟩
      exact Rz.wp_mono hq5 (fun q h Hf' H' v S R' h' => h Hf' H' v (S35.trans S) R' h') fun _ _ z => z
    | true =>
      refine iteT ⟨_, Hf5, ρ5, R5, Rz.wp_mono (Rz.wp_bind (show ((vf ρ5).bind _).wp _ _ from hq5)) (fun pv hq6 Hf6 H6 y6 S6 R6 hy => ?_) fun _ _ z => z.elim⟩
      obtain ⟨ρ6, e⟩ := pv
      obtain ⟨zsz, hq6⟩ := ite_wp hq6
      have zsz := sz_ok zsz
      obtain ⟨av, hav, tav, grow⟩ := R6.growTop
      refine ⟨av, hav, ?_, Hf6, wipeE ρ6 vs, acc ++ [e], S2.trans (S35.trans S6), (grow e y6 hy).unwipe l4' o4', noAt_wipe, ?_⟩
      · have := tav.length; omega
      · exact Rz.wp_mono hq6 (fun q h Hf' H' v S R' h' => h Hf' H' v (S35.trans (S6.trans S)) R' h') fun _ _ z => z
  · have e : i = ds.length := by omega
    subst e
    rw [List.drop_length] at hq
    obtain ⟨R2', h2⟩ := R2.pop
    exact .inl ⟨Wk.stop _ H2 (S2.trans R2.sub) (Nat.le_refl _), hq Hf2 H2 _ (Same.refl _) R2' h2⟩
end
section
variable {X : Cx} {W : WX} {vs is : List Nat} {itf : Env → Rz (Env × List D)} {tgf : D → Env → Rz Env} {tt : Env → Rz (Env × Bool)} {vf : Env → Rz (Env × D)} {elt tg iter : Expr} {ifs : List Expr} {scope : Scope} {own : List (Str × Nat)} {pos spos py : Pos} {i : Nat} {y : Str}
theorem re_lc (own : List (Str × Nat)) (hc : X.calm = true) (hN : X.N.Nodup) (hi : RI X W tg iter itf) (ok : BlkOk X.N X.env.scope scope own) (hv : ∀ i ∈ is, i ∈ own.map (·.2))
    (hg : ∀ (s : Shared) (H : Hp) (C : Addr) (cl : List (Str × Addr)) (fp : List Addr), RG (X.blk s H scope (compEnvC scope cl C X.env) fp) W0 tg is tgf) (ht : ∀ (s : Shared) (H : Hp) (C : Addr) (cl : List (Str × Addr)) (fp : List Addr), RTs (X.blk s H scope (compEnvC scope cl C X.env) fp) W0 ifs tt)
    (he : ∀ (s : Shared) (H : Hp) (C : Addr) (cl : List (Str × Addr)) (fp : List Addr), RV (X.blk s H scope (compEnvC scope cl C X.env) fp) W0 elt vf) (hs : ∀ x, foldedSetIterable iter X.env x = pure x := by intro _; rfl) :
    RE X W (.ListComp elt [⟨tg, iter, ifs, 0⟩] scope pos) (eLc (own.map (·.2)) itf tgf tt vf) := pe_mono (pe_lc (own := own) hc hN hi ok hg ht he hs) (lc_imp hv)
/-- y = [..] -/
theorem rs_setLc (own : List (Str × Nat)) (hc : X.calm = true) (hN : X.N.Nodup) (hi : RI X W tg iter itf) (ok : BlkOk X.N X.env.scope scope own) (hv : ∀ i ∈ is, i ∈ own.map (·.2))
    (hg : ∀ (s : Shared) (H : Hp) (C : Addr) (cl : List (Str × Addr)) (fp : List Addr), RG (X.blk s H scope (compEnvC scope cl C X.env) fp) W0 tg is tgf) (ht : ∀ (s : Shared) (H : Hp) (C : Addr) (cl : List (Str × Addr)) (fp : List Addr), RTs (X.blk s H scope (compEnvC scope cl C X.env) fp) W0 ifs tt)
    (he : ∀ (s : Shared) (H : Hp) (C : Addr) (cl : List (Str × Addr)) (fp : List Addr), RV (X.blk s H scope (compEnvC scope cl C X.env) fp) W0 elt vf)
    (hsw : swapsWith (.ListComp elt [⟨tg, iter, ifs, 0⟩] scope pos) (some (.Name y py)) spos.line X.env = pure true)
    (hy : X.N[i]? = some y := by rfl) (hyl : X.env.scope.names.lookup y = some .local := by rfl) (hs : ∀ x, foldedSetIterable iter X.env x = pure x := by intro _; rfl) :
    RS X W (.Assign [.Name y py] (.ListComp elt [⟨tg, iter, ifs, 0⟩] scope pos) spos) (gSet i (eLc (own.map (·.2)) itf tgf tt vf)) :=
  ps_mono (ps_setLc (own := own) hc hN hy hyl hsw hi ok hg ht he hs) fun D σ H ⟨Γ, Hf, ρ, R, hw⟩ => lc_imp hv σ H _ (sbE R hw fun ρ1 r Hf1 H1 v S R1 hv hq => by
    obtain ⟨ρ', e1, hq⟩ := put_wp hq
    obtain ⟨Hf2, S2, R2⟩ := R1.store hv e1
    exact hq Hf2 (σ.set i (some v)) H1 (by simp) (S.trans S2) R2)
end
end Fx

set_option Elab.async false
set_option linter.all false
set_option maxRecDepth 100000
set_option maxHeartbeats 4000000
namespace Fx
open PySem L2
variable [Tb]
/-! ### one's own container in a slot -/
def Sl.ownD : Sl → Option D
  | .lo d => some d
  | .pa d => some d
  | _ => none
section
variable {M : Md} {Γ : Gh} {Hf : Hp} {σ : L2.St} {H : Hp} {ρ : Env}
theorem Rep.ownAt (R : Rep M Γ Hf σ H ρ) {i : Nat} {x : Sl} {d : D} (e : ρ[i]? = some x) (ed : x.ownD = some d) : x.own ∧ ∃ a, σ[i]? = some (some (.ref a)) ∧ LocAt M Hf H d (.ref a) ∧
    ∀ (d' : D) (o : HO), LocAt M Hf (upd H a o) d' (.ref a) → Rep M Γ Hf σ (upd H a o) (ρ.set i (x.withD d')) := by
  have lt : i < σ.length := by rw [← R.len]; exact (List.getElem?_eq_some_iff.mp e).1
  have lt' : i < ρ.length := (List.getElem?_eq_some_iff.mp e).1
  have e' := get_app (k := Γ.γ) e
  have fin : ∀ {a : Addr}, x.own → σ[i]? = some (some (.ref a)) → ∀ (d' : D) (o : HO), LocAt M Hf (upd H a o) d' (.ref a) → Rep M Γ Hf σ (upd H a o) (ρ.set i (x.withD d')) := fun {a} ox hs d' o hl => by
    have := R.r0.write (o := o) e' ox (get_app hs) hl
    rw [set_left lt'] at this
    exact ⟨by simpa using R.len, this⟩
  cases x with
  | no => cases ed
  | im _ => cases ed
  | lo d0 =>
    cases ed
    obtain ⟨a, h1, _, h3⟩ := R.r0.lo i _ e'
    rw [get_left lt] at h1
    exact ⟨trivial, a, h1, h3, fin trivial h1⟩
  | pa d0 =>
    cases ed
    obtain ⟨a, h1, _, h3⟩ := R.r0.pa i _ e'
    rw [get_left lt] at h1
    exact ⟨trivial, a, h1, h3, fin trivial h1⟩
/-- a list of one's own -/
theorem Rep.ownL (R : Rep M Γ Hf σ H ρ) {i : Nat} {x : Sl} {ds : List D} (e : ρ[i]? = some x) (ed : x.ownD = some (.nd .lst ds)) : ∃ a vs, σ[i]? = some (some (.ref a)) ∧ H a = some (.lst vs) ∧ HasAll M Hf ds vs ∧
    ∀ ds' vs', HasAll M Hf ds' vs' → Rep M Γ Hf σ (upd H a (.lst vs')) (ρ.set i (x.withD (.nd .lst ds'))) := by
  obtain ⟨ox, a, h1, h2, fin⟩ := R.ownAt e ed
  cases h2 with
  | lst n h t => exact ⟨a, _, h1, h, t, fun ds' vs' t' => fin _ _ (.lst n upd_same t')⟩
end
/-- the content of a slot that one may write -/
def ownC (ρ : Env) (i : Nat) : Option (Sl × D) := (ρ[i]?).bind fun x => (x.ownD).map fun d => (x, d)
theorem ownC_some {ρ : Env} {i : Nat} {p : Sl × D} (h : ownC ρ i = some p) : ρ[i]? = some p.1 ∧ p.1.ownD = some p.2 := by
  unfold ownC at h
  cases q : ρ[i]? with
  | none => rw [q] at h; cases h
  | some x =>
    rw [q] at h
    cases q2 : x.ownD with
    | none =>
      have h' : (x.ownD).map (fun d => (x, d)) = some p := h
      rw [q2] at h'; cases h'
    | some d =>
      have h' : (x.ownD).map (fun d => (x, d)) = some p := h
      rw [q2] at h'; cases h'
      exact ⟨rfl, q2⟩
/-- a method of the list in slot i that changes it: F: the items, the arguments to the new items and the result -/
def isLst : D → Bool
  | .nd .lst _ => true
  | _ => false
def eMth (i : Nat) (F : List D → List D → Option (List D × D)) (args : Env → Rz (Env × List Rs)) : Env → Rz (Env × Rs) := fun ρ => (Rz.ofO (ownC ρ i)).bind fun c0 => if isLst c0.2 = true then
  (args ρ).bind fun p => (useAll p.1 p.2).bind fun q => (Rz.ofO (ownC q.1 i)).bind fun c => match c.2 with
  | .nd .lst ds => (Rz.ofO (F ds q.2)).bind fun r => .ok (q.1.set i (c.1.withD (.nd .lst r.1)), .im r.2)
  | _ => .no
  else .no
/-- r serves F -/
def ServesM (M : Md) (r : V → List V → Hp → VK → Prop) (F : List D → List D → Option (List D × D)) : Prop := ∀ Hf H a vs ds as us p, Same Hf H → H a = some (.lst vs) → HasAll M Hf ds vs → HasAll M Hf as us → F ds as = some p →
  ∃ vs' v', HasAll M Hf p.1 vs' ∧ Has M Hf p.2 v' ∧ ∀ Q : VK, Q v' (upd H a (.lst vs')) → r (.ref a) us H Q
section
variable {X : Cx} {W : WX} {e : Expr} {es : List Expr} {apos cpos npos pos : Pos} {f : Env → Rz (Env × List Rs)} {x name : Str} {T id : String} {r : V → List V → Hp → VK → Prop} {F : List D → List D → Option (List D × D)} {i : Nat}
theorem tyV_list {K : PySem.W.Frag} {H : Hp} {a : Addr} {vs : List V} (h : H a = some (.lst vs)) : tyV K "list" (.ref a) H := .inl ⟨rfl, _, SqL.of h⟩
theorem rN_own {ρ : Env} {p : Sl × D} (h : ownC ρ i = some p) : rN i ρ = .ok (ρ, .slot i) := by
  obtain ⟨h1, h2⟩ := ownC_some h
  obtain ⟨x, d⟩ := p
  unfold rN
  rw [h1]
  cases x with
  | no => exact nomatch h2
  | im _ => exact nomatch h2
  | lo _ => rfl
  | pa _ => rfl
/-- behind the arguments -/
theorem mth_end {M : Md} (hs : ServesM M r F) {Γ : Gh} {Hf : Hp} {σ : L2.St} {H : Hp} {ρ : Env} {rs : List Rs} {us : List V} {v : V} {Q : VK} {E : Exn → Env → Prop} (R : Rep M Γ Hf σ H ρ) (hv : σ[i]? = some (some v)) (ha : HsAll M Hf σ rs us)
    (hq : ((useAll ρ rs).bind fun q => (Rz.ofO (ownC q.1 i)).bind fun c => match c.2 with
      | .nd .lst ds => (Rz.ofO (F ds q.2)).bind fun r => .ok (q.1.set i (c.1.withD (.nd .lst r.1)), Rs.im r.2)
      | _ => .no).wp (fun p => ∀ Hf' H' v, Same Hf Hf' → Rep M Γ Hf' σ H' p.1 → RsIs M Γ Hf' σ H' p.1 p.2 v → Q v H') E) : r v us H Q := by
  obtain ⟨q, u, hq⟩ := useAll_wp hq
  obtain ⟨Hf2, S2, R2, h2⟩ := R.useAll ha u
  obtain ⟨c, e1, hq⟩ := ofO_bind hq
  obtain ⟨sl, d⟩ := c
  cases d with
  | nd k ds =>
    cases k with
    | lst =>
      obtain ⟨res, e2, hq⟩ := ofO_bind hq
      obtain ⟨g1, g2⟩ := ownC_some e1
      obtain ⟨a, vs, es, ea, t, fin⟩ := R2.ownL g1 g2
      rw [hv] at es
      cases es
      obtain ⟨vs', v', t', hv', go⟩ := hs Hf2 H a vs ds q.2 us res R2.sub ea t h2 e2
      exact go Q (hq Hf2 _ v' S2 (fin _ _ t') hv')
    | _ => exact hq.elim
  | _ => exact hq.elim
theorem own_start {M : Md} {β : Type} {Γ : Gh} {Hf : Hp} {σ : L2.St} {H : Hp} {ρ : Env} {g : Rz β} {P : β → Prop} {E : Exn → Env → Prop} {Q : VK} (R : Rep M Γ Hf σ H ρ)
    (hw : ((Rz.ofO (ownC ρ i)).bind fun c0 => if isLst c0.2 = true then g else .no).wp P E)
    (k : g.wp P E → ∀ Hf1 H1 v, Same Hf Hf1 → Rep M Γ Hf1 σ H1 ρ → σ[i]? = some (some v) → (∃ a vs, v = .ref a ∧ H1 a = some (.lst vs)) → Q v H1) : rdH M W (rN i) σ H Q := by
  obtain ⟨c0, e0, hw⟩ := ofO_bind hw
  obtain ⟨z, hw⟩ := ite_wp hw
  refine ⟨Γ, Hf, ρ, R, ?_⟩
  rw [rN_own e0]
  intro Hf1 H1 v S1 R1 hv
  obtain ⟨g1, g2⟩ := ownC_some e0
  obtain ⟨sl, d⟩ := c0
  cases d with
  | nd kk ds =>
    cases kk with
    | lst =>
      obtain ⟨a, vs, es, ea, t, fin⟩ := R1.ownL g1 g2
      have hv' : σ[i]? = some (some v) := hv
      rw [hv'] at es
      cases es
      exact k hw Hf1 H1 _ S1 R1 hv ⟨a, vs, rfl, ea⟩
    | _ => cases z
  | _ => cases z
theorem mth_imp {M : Md} (hs : ServesM M r F) : ∀ σ H Q, rdE M W (eMth i F f) σ H Q → tBM M.K "list" r (rdH M W (rN i)) (rdHs M W f) σ H Q := by
  rintro σ H Q ⟨Γ, Hf, ρ, R, hw⟩
  refine own_start R hw fun hq Hf1 H1 v S1 R1 hv ⟨a, vs, ev, ea⟩ => ?_
  subst ev
  refine ⟨tyV_list ea, bindHs R1 (Rz.wp_mono hq (fun _ z => z) (EPf.up S1)) fun ρ2 rs Hf2 H2 us S2 R2 hus hq2 => ?_⟩
  exact mth_end hs R2 hv hus (Rz.wp_mono hq2 (fun p hp Hf' H' v S' R' h' => hp Hf' H' v (S1.trans (S2.trans S')) R' h') fun _ _ z => z)
/-- .. without arguments -/
theorem mth_imp0 {M : Md} (hs : ServesM M r F) : ∀ σ H Q, rdE M W (eMth i F aNil) σ H Q → tBM0 M.K "list" r (rdH M W (rN i)) σ H Q := by
  rintro σ H Q ⟨Γ, Hf, ρ, R, hw⟩
  refine own_start R hw fun hq Hf1 H1 v S1 R1 hv ⟨a, vs, ev, ea⟩ => ?_
  subst ev
  refine ⟨tyV_list ea, mth_end (rs := []) (us := []) hs R1 hv .nil (Rz.wp_mono (show ((useAll ρ []).bind _).wp _ _ from hq) (fun p hp Hf' H' v S' R' h' => hp Hf' H' v (S1.trans S') R' h') fun _ _ z => z)⟩
theorem re_mth (slot : Slot "list" name id) (hty : typeOf (.builtin id) = pure (.type "method_descriptor")) (hm : MtR X id r) (hs : ServesM ⟨X.K, X.mg⟩ r F) (ha : RHs X W (e :: es) f) (hN : X.N[i]? = some x := by rfl)
    (hv : Vis X.env.scope x := by first | exact Or.inl rfl | exact Or.inr (Or.inl rfl) | exact Or.inr (Or.inr rfl)) (hd : (x == ("__debug__" : Str)) = false := by decide) (hcd : (x == ("__classdict__" : Str)) = false := by decide)
    (hbase : attributeBase (.Name x npos) name X.env (eval (.Name x npos) X.env) = eval (.Name x npos) X.env := by rfl)
    (hfew : ((backTo cpos (starEach (e :: es) X.env)).all (fun x => !x.1) && (backToKw cpos (keywordEach [] X.env)).all (fun x => x.1.isSome)
      && decide ((e :: es).length + ([] : List Keyword).length + (if ([] : List Keyword).isEmpty then 0 else 1) < 30)) = true := by rfl)
    (hline : (apos.endLine == cpos.line) = true := by rfl) (hst : starEach (e :: es) X.env = (false, eval e X.env) :: starEach es X.env := by rfl) (hplain : (backTo cpos (starEach es X.env)).any (·.1) = false := by rfl) :
    RE X W (.Call (.Attribute (.Name x npos) name apos) (e :: es) [] cpos) (eMth i F f) :=
  pe_mono (pe_bm PySem.F.plainAttrs_list slot hty hm (rh_name i hN hv hd hcd) ha hbase hfew hline hst hplain) (mth_imp hs)
theorem re_mth0 (slot : Slot "list" name id) (hty : typeOf (.builtin id) = pure (.type "method_descriptor")) (hm : MtR X id r) (hs : ServesM ⟨X.K, X.mg⟩ r F) (hN : X.N[i]? = some x := by rfl)
    (hv : Vis X.env.scope x := by first | exact Or.inl rfl | exact Or.inr (Or.inl rfl) | exact Or.inr (Or.inr rfl)) (hd : (x == ("__debug__" : Str)) = false := by decide) (hcd : (x == ("__classdict__" : Str)) = false := by decide)
    (hbase : attributeBase (.Name x npos) name X.env (eval (.Name x npos) X.env) = eval (.Name x npos) X.env := by rfl) (hline : (apos.endLine == cpos.line) = true := by rfl) :
    RE X W (.Call (.Attribute (.Name x npos) name apos) [] [] cpos) (eMth i F aNil) :=
  pe_mono (pe_bm0 PySem.F.plainAttrs_list slot hty hm (rh_name i hN hv hd hcd) hbase hline) (mth_imp0 hs)
def mAppend : List D → List D → Option (List D × D)
  | ds, [d] => if sz (ds.length + 1) then some (ds ++ [d], .non) else none
  | _, _ => none
def mExtend : List D → List D → Option (List D × D)
  | ds, [.nd .lst es] => if sz (ds.length + es.length) then some (ds ++ es, .non) else none
  | _, _ => none
def mPop : List D → List D → Option (List D × D)
  | ds, [] => (ds.getLast?).map fun d => (ds.dropLast, d)
  | _, _ => none
theorem serves_append {M : Md} : ServesM M rAppend mAppend := fun Hf H a vs ds as us p S ea t ha h => by
  cases ha with
  | nil => cases h
  | cons h1 h2 =>
    cases h2 with
    | cons _ _ => cases h
    | nil =>
      obtain ⟨c, e⟩ := opt_ite h
      subst e
      have := sz_ok c
      rw [t.length] at this
      exact ⟨_, .non, t.append (.single h1), .non, fun Q q => ⟨a, vs, _, rfl, rfl, ea, by omega, q⟩⟩
theorem serves_extend {M : Md} : ServesM M rExtend mExtend := fun Hf H a vs ds as us p S ea t ha h => by
  cases ha with
  | nil => cases h
  | cons h1 h2 =>
    cases h2 with
    | cons _ _ => cases h1 <;> cases h
    | nil =>
      cases h1 with
      | lst s t2 =>
        obtain ⟨c, e⟩ := opt_ite h
        subst e
        have := sz_ok c
        rw [t.length, t2.length] at this
        exact ⟨_, .non, t.append t2, .non, fun Q q => ⟨a, _, vs, _, rfl, rfl, ea, S _ _ s, this, q⟩⟩
      | _ => cases h
theorem serves_pop {M : Md} : ServesM M rPop mPop := fun Hf H a vs ds as us p S ea t ha h => by
  cases ha with
  | cons _ _ => cases h
  | nil =>
    cases q : ds.getLast? with
    | none => simp [mPop, q] at h
    | some d =>
      simp [mPop, q] at h
      subst h
      have hd : ds[ds.length - 1]? = some d := by rw [← List.getLast?_eq_getElem?]; exact q
      obtain ⟨v, hv, hh⟩ := t.get hd
      exact ⟨_, v, t.dropLast, hh, fun Q q => ⟨a, vs, v, rfl, rfl, ea, by rw [← t.length]; exact hv, q⟩⟩
end
/-! ### a slot's list: xs[i] = e -/
def gSub (i : Nat) (ix : Env → Rz (Env × Rs)) (f : Env → Rz (Env × D)) : Env → Rz (Env × Fl) := fun ρ => (f ρ).bind fun p => (Rz.ofO (ownC p.1 i)).bind fun _ => (ix p.1).bind fun q => (Rz.ofO (peek q.1 q.2)).bind fun k => (Rz.ofO (ownC q.1 i)).bind fun c => match c.2, k with
  | .nd .lst ds, .int k => (Rz.ofO (ixN ds.length k)).bind fun j => .ok (q.1.set i (c.1.withD (.nd .lst (ds.set j p.2))), .nx)
  | _, _ => .no
section
variable {X : Cx} {W : WX} {e ie : Expr} {npos tpos pos : Pos} {x : Str} {i : Nat} {ix : Env → Rz (Env × Rs)} {vf : Env → Rz (Env × D)}
theorem rs_sub (i : Nat) (he : RV X W e vf) (hix : RH X W ie ix) (hN : X.N[i]? = some x := by rfl)
    (hv : Vis X.env.scope x := by first | exact Or.inl rfl | exact Or.inr (Or.inl rfl) | exact Or.inr (Or.inr rfl)) (hd : (x == ("__debug__" : Str)) = false := by decide) (hcd : (x == ("__classdict__" : Str)) = false := by decide)
    (ha : ∀ v, assign (.Subscript (.Name x npos) ie tpos) X.env v = (do
      let ov ← holding [v] (eval (.Name x npos) X.env)
      let iv ← holding [v, ov] (eval ie X.env)
      standAt tpos
      holding [v, ov, iv] (setItem ov iv v)
      release [v, ov, iv] []) := by intro _; rfl)
    (hs : swapsWithSole [.Subscript (.Name x npos) ie tpos] e pos.line X.env = pure false := by rfl) (hw : swappedStores [.Subscript (.Name x npos) ie tpos] e X.env = pure none := by rfl)
    (h1 : (assignEach [.Subscript (.Name x npos) ie tpos] X.env).map (·.2) = [assign (.Subscript (.Name x npos) ie tpos) X.env] := by rfl) :
    RS X W (.Assign [.Subscript (.Name x npos) ie tpos] e pos) (gSub i ix vf) :=
  ps_mono (ps_asg he (pg_sub (rh_name (W := W) i hN hv hd hcd) hix set_list ha) hs hw h1) fun D σ H ⟨Γ, Hf, ρ, R, hw⟩ => sbV R hw fun ρ1 d Hf1 H1 v S1 R1 hv hq => by
    obtain ⟨c0, e0, hq⟩ := ofO_bind hq
    refine ⟨Γ, Hf1, ρ1, R1, ?_⟩
    rw [rN_own e0]
    intro Hf2 H2 o S2 R2 ho
    refine sbH R2 (Rz.wp_mono hq (fun _ z => z) (EPs.up S2)) fun ρ3 r3 Hf3 H3 iv S3 R3 hiv hq3 => ?_
    obtain ⟨k, e1, hq3⟩ := ofO_bind hq3
    obtain ⟨c, e2, hq3⟩ := ofO_bind hq3
    have T := R3.peek hiv.rs e1
    obtain ⟨g1, g2⟩ := ownC_some e2
    obtain ⟨sl, dd⟩ := c
    cases dd with
    | nd kk ds =>
      cases kk with
      | lst =>
        cases T with
        | int k =>
          obtain ⟨j, e3, hq3⟩ := ofO_bind hq3
          obtain ⟨a, vs, es, ea, t, fin⟩ := R3.ownL g1 g2
          have ho' : σ[i]? = some (some o) := ho
          rw [ho'] at es
          cases es
          have hv3 : Has ⟨X.K, X.mg⟩ Hf3 d v := hv.same (S2.trans S3)
          exact ⟨a, vs, k, j, rfl, rfl, ea, by rw [← t.length]; exact e3, hq3 Hf3 σ _ rfl (S1.trans (S2.trans S3)) (fin _ _ (HasAll.set hv3 j t))⟩
        | _ => exact hq3.elim
      | _ => cases T <;> exact hq3.elim
    | _ => cases T <;> exact hq3.elim
end
/-! ### stars in displays -/
def aStar (f : Env → Rz (Env × Rs)) (g : Env → Rz (Env × List Rs)) : Env → Rz (Env × List Rs) := fun ρ => (f ρ).bind fun p => (Rz.ofO (peek p.1 p.2)).bind fun d => match d with
  | .nd .tup ds => (g p.1).bind fun q => .ok (q.1, ds.map .im ++ q.2)
  | .nd .lst ds => (g p.1).bind fun q => .ok (q.1, ds.map .im ++ q.2)
  | _ => .no
theorem HasAll.ims {M : Md} {Hf : Hp} {σ : L2.St} : ∀ {ds : List D} {vs : List V}, HasAll M Hf ds vs → HsAll M Hf σ (ds.map .im) vs
  | _, _, .nil => .nil
  | _, _, .cons h t => .cons h (HasAll.ims t)
theorem HsAll.append {M : Md} {Hf : Hp} {σ : L2.St} : ∀ {rs qs : List Rs} {vs ws : List V}, HsAll M Hf σ rs vs → HsAll M Hf σ qs ws → HsAll M Hf σ (rs ++ qs) (vs ++ ws)
  | _, _, _, _, .nil, h => h
  | _, _, _, _, .cons h t, k => .cons h (t.append k)
section
variable {X : Cx} {W : WX} {e : Expr} {es : List Expr} {p : Pos} {f : Env → Rz (Env × Rs)} {g : Env → Rz (Env × List Rs)}
theorem ra_star (ha : RH X W e f) (hr : RHs X W es g) (hs : starEach (.Starred e p :: es) X.env = (true, eval e X.env) :: starEach es X.env := by rfl) : RHs X W (.Starred e p :: es) (aStar f g) :=
  pa_mono (StX.pa_star ha hr hs) fun σ H Q ⟨Γ, Hf, ρ, R, hw⟩ => bindH R hw fun ρ1 r Hf1 H1 v S1 R1 hv hq => by
    obtain ⟨d, e1, hq⟩ := ofO_bind hq
    have T := R1.peek hv.rs e1
    cases T with
    | tup s t =>
      refine ⟨_, _, rfl, .inl (SqT.same R1.sub s), bindHs R1 hq fun ρ2 rs Hf2 H2 vs S2 R2 hvs hq2 => ?_⟩
      exact hq2 Hf2 H2 _ (S1.trans S2) R2 ((HasAll.ims (t.same S2)).append hvs)
    | lst s t =>
      refine ⟨_, _, rfl, .inr (SqL.of s), bindHs R1 hq fun ρ2 rs Hf2 H2 vs S2 R2 hvs hq2 => ?_⟩
      exact hq2 Hf2 H2 _ (S1.trans S2) R2 ((HasAll.ims (t.same S2)).append hvs)
    | _ => exact hq.elim
end
/-! ### a, b = e1, e2: values that wait -/
def QRep (M : Md) (Hf : Hp) (σ : L2.St) (H : Hp) (ρ : Env) : Gh → List Rs → List V → Prop
  | Γ, [], [] => Rep M Γ Hf σ H ρ
  | Γ, .nw d :: rs, .ref a :: vs => QRep M Hf σ H ρ (Γ.add a d) rs vs
  | Γ, .im d :: rs, v :: vs => Has M Hf d v ∧ QRep M Hf σ H ρ Γ rs vs
  | _, _, _ => False
def rdQ (M : Md) (W : WX) (f : Env → Rz (Env × List Rs)) : TA := fun σ H Q => ∃ Γ Hf ρ, Rep M Γ Hf σ H ρ ∧
  (f ρ).wp (fun p => ∀ Hf' H' vs, Same Hf Hf' → QRep M Hf' σ H' p.1 Γ p.2 vs → Q vs H') (EPf M W Γ Hf σ)
abbrev RQ (X : Cx) (W : WX) (es : List Expr) (f : Env → Rz (Env × List Rs)) : Prop := PA X es (rdQ ⟨X.K, X.mg⟩ W f)
def toNw (p : Env × Rs) : Rz (Env × Rs) := match p.2 with
  | .slot i => (use p.1 (.slot i)).bind fun q => .ok (q.1, .im q.2)
  | r => .ok (p.1, r)
def qCons (f : Env → Rz (Env × Rs)) (g : Env → Rz (Env × List Rs)) : Env → Rz (Env × List Rs) := fun ρ => (f ρ).bind fun p => (toNw p).bind fun p => (noX (g p.1)).bind fun q => .ok (q.1, p.2 :: q.2)
section
variable {X : Cx} {W : WX} {e : Expr} {es : List Expr} {p : Pos} {f : Env → Rz (Env × Rs)} {g : Env → Rz (Env × List Rs)}
theorem rq_nil : RQ X W [] aNil := pa_mono pa_nil fun σ H Q ⟨Γ, Hf, ρ, R, hw⟩ => hw Hf H [] (Same.refl _) R
theorem rq_cons (ha : RE X W e f) (hr : RQ X W es g) (hs : starEach (e :: es) X.env = (false, eval e X.env) :: starEach es X.env := by rfl) : RQ X W (e :: es) (qCons f g) :=
  pa_mono (pa_cons ha hr hs) fun σ H Q ⟨Γ, Hf, ρ, R, hw⟩ => bindE R hw fun ρ1 r Hf1 H1 v S1 R1 hv hq => by
    have main : ∀ {ρ2 : Env} {Hf2 : Hp} {d : D}, Same Hf1 Hf2 → Rep ⟨X.K, X.mg⟩ Γ Hf2 σ H1 ρ2 → Has ⟨X.K, X.mg⟩ Hf2 d v → ((noX (g ρ2)).bind fun q => Rz.ok (q.1, Rs.im d :: q.2)).wp (fun p => ∀ Hf' H' vs, Same Hf Hf' → QRep ⟨X.K, X.mg⟩ Hf' σ H' p.1 Γ p.2 vs → Q vs H') (EPf ⟨X.K, X.mg⟩ W Γ Hf1 σ) →
        rdQ ⟨X.K, X.mg⟩ W g σ H1 fun xs H2 => Q (v :: xs) H2 := fun {ρ2 Hf2 d} S2 R2 h2 hq => by
      refine ⟨Γ, Hf2, ρ2, R2, Rz.wp_mono (noX_wp (Rz.wp_bind hq)) (fun q hp Hf3 H3 vs S3 hQ => ?_) fun _ _ z => z.elim⟩
      exact hp Hf3 H3 (v :: vs) (S1.trans (S2.trans S3)) ⟨h2.same S3, hQ⟩
    cases r with
    | slot i =>
      have hq' : (((use ρ1 (.slot i)).bind fun q => Rz.ok (q.1, Rs.im q.2)).bind fun p => (noX (g p.1)).bind fun q => Rz.ok (q.1, p.2 :: q.2)).wp _ _ := hq
      cases u : use ρ1 (.slot i) with
      | no => rw [u] at hq'; exact hq'.elim
      | ex _ _ => exact absurd u use_noex
      | ok q0 =>
        rw [u] at hq'
        obtain ⟨Hf2, S2, R2, h2⟩ := R1.use (ρ' := q0.1) (d := q0.2) hv u
        exact main S2 R2 h2 hq'
    | im d => exact main (Same.refl _) R1 hv hq
    | nw d =>
      obtain ⟨a, ev, rest⟩ := hv
      subst ev
      have Rp := R1.push ⟨a, rfl, rest⟩
      refine ⟨_, Hf1, ρ1, Rp, Rz.wp_mono (noX_wp (Rz.wp_bind (show ((noX (g ρ1)).bind _).wp _ _ from hq))) (fun q hp Hf3 H3 vs S3 hQ => ?_) fun _ _ z => z.elim⟩
      exact hp Hf3 H3 (.ref a :: vs) (S1.trans S3) hQ
end
/-- stored from the right -/
def parSet : List Nat → List Rs → Env → Rz Env
  | [], [], ρ => .ok ρ
  | i :: is, r :: rs, ρ => (parSet is rs ρ).bind fun ρ' => put ρ' i r
  | _, _, _ => .no
def setAll (σ : L2.St) : List Nat → List V → L2.St
  | i :: is, v :: vs => (setAll σ is vs).set i (some v)
  | _, _ => σ
theorem setAll_length (σ : L2.St) : ∀ (is : List Nat) (vs : List V), (setAll σ is vs).length = σ.length
  | [], _ => by simp [setAll]
  | _ :: _, [] => by simp [setAll]
  | i :: is, v :: vs => by rw [setAll, List.length_set, setAll_length σ is vs]
theorem QRep.store {M : Md} {H : Hp} {σ : L2.St} : ∀ {is : List Nat} {rs : List Rs} {vs : List V} {Hf : Hp} {Γ : Gh} {ρ ρ' : Env}, QRep M Hf σ H ρ Γ rs vs → parSet is rs ρ = .ok ρ' → ∃ Hf', Same Hf Hf' ∧ Rep M Γ Hf' (setAll σ is vs) H ρ'
  | [], [], [], Hf, Γ, ρ, ρ', h, e => by
    cases e
    exact ⟨Hf, Same.refl _, h⟩
  | [], [], _ :: _, Hf, Γ, ρ, ρ', h, e => h.elim
  | [], _ :: _, _, Hf, Γ, ρ, ρ', h, e => by cases e
  | _ :: _, [], _, Hf, Γ, ρ, ρ', h, e => by cases e
  | i :: is, r :: rs, [], Hf, Γ, ρ, ρ', h, e => by cases r <;> exact h.elim
  | i :: is, r :: rs, v :: vs, Hf, Γ, ρ, ρ', h, e => by
    have e' : ((parSet is rs ρ).bind fun ρ' => put ρ' i r) = .ok ρ' := e
    cases u : parSet is rs ρ with
    | no => rw [u] at e'; cases e'
    | ex _ _ => rw [u] at e'; cases e'
    | ok ρ1 =>
      rw [u] at e'
      cases r with
      | slot j => exact h.elim
      | im d =>
        obtain ⟨h1, h2⟩ := h
        obtain ⟨Hf1, S1, R1⟩ := QRep.store h2 u
        obtain ⟨Hf2, S2, R2⟩ := R1.store (r := .im d) (v := v) (h1.same S1) e'
        exact ⟨Hf2, S1.trans S2, R2⟩
      | nw d =>
        cases v with
        | ref a =>
          have h' : QRep M Hf σ H ρ (Γ.add a d) rs vs := h
          obtain ⟨Hf1, S1, R1⟩ := QRep.store h' u
          obtain ⟨R1', hn⟩ := R1.pop
          obtain ⟨Hf2, S2, R2⟩ := R1'.store (r := .nw d) (v := .ref a) hn e'
          exact ⟨Hf2, S1.trans S2, R2⟩
        | _ => exact h.elim
theorem QRep.length {M : Md} {H : Hp} {σ : L2.St} {Hf : Hp} {ρ : Env} : ∀ {rs : List Rs} {vs : List V} {Γ : Gh}, QRep M Hf σ H ρ Γ rs vs → rs.length = vs.length
  | [], [], _, _ => rfl
  | [], _ :: _, _, h => h.elim
  | .slot _ :: _, [], _, h => h.elim
  | .slot _ :: _, _ :: _, _, h => h.elim
  | .im _ :: _, [], _, h => h.elim
  | .im _ :: _, _ :: _, _, h => congrArg (· + 1) (QRep.length h.2)
  | .nw _ :: _, [], _, h => h.elim
  | .nw d :: rs, .ref a :: vs, Γ, h => congrArg (· + 1) (QRep.length (show QRep M Hf σ H ρ (Γ.add a d) rs vs from h))
  | .nw _ :: _, .non :: _, _, h => h.elim
  | .nw _ :: _, .bl _ :: _, _, h => h.elim
  | .nw _ :: _, .int _ :: _, _, h => h.elim
  | .nw _ :: _, .str _ :: _, _, h => h.elim
  | .nw _ :: _, .byt _ :: _, _, h => h.elim
  | .nw _ :: _, .flt _ :: _, _, h => h.elim
  | .nw _ :: _, .ty _ :: _, _, h => h.elim
theorem parSet_length : ∀ {is : List Nat} {rs : List Rs} {ρ ρ' : Env}, parSet is rs ρ = .ok ρ' → rs.length = is.length
  | [], [], _, _, _ => rfl
  | [], _ :: _, _, _, e => by cases e
  | _ :: _, [], _, _, e => by cases e
  | i :: is, r :: rs, ρ, ρ', e => by
    have e' : ((parSet is rs ρ).bind fun ρ' => put ρ' i r) = .ok ρ' := e
    cases u : parSet is rs ρ with
    | no => rw [u] at e'; cases e'
    | ex _ _ => rw [u] at e'; cases e'
    | ok ρ1 => exact congrArg (· + 1) (parSet_length u)
def gPar (is : List Nat) (f : Env → Rz (Env × List Rs)) : Env → Rz (Env × Fl) := fun ρ => (f ρ).bind fun p => (parSet is p.2 p.1).bind fun ρ' => .ok (ρ', .nx)
theorem parSet_wp {β : Type} {is : List Nat} {rs : List Rs} {ρ : Env} {g : Env → Rz β} {Q : β → Prop} {E : Exn → Env → Prop} (h : ((parSet is rs ρ).bind g).wp Q E) (hx : ∀ x ρ', parSet is rs ρ ≠ .ex x ρ') : ∃ ρ', parSet is rs ρ = .ok ρ' ∧ (g ρ').wp Q E := by
  cases u : parSet is rs ρ with
  | no => rw [u] at h; exact h.elim
  | ex x ρ' => exact absurd u (hx x ρ')
  | ok ρ' => rw [u] at h; exact ⟨ρ', rfl, h⟩
theorem put_noex {ρ : Env} {i : Nat} {r : Rs} {x : Exn} {ρ' : Env} : put ρ i r ≠ .ex x ρ' := fun u => by
  have h : ((put ρ i r).bind fun ρ => Rz.ok ρ).wp (fun _ => False) (fun _ _ => True) := by rw [u]; trivial
  obtain ⟨_, _, z⟩ := put_wp h
  exact z
theorem parSet_noex : ∀ {is : List Nat} {rs : List Rs} {ρ : Env} {x : Exn} {ρ' : Env}, parSet is rs ρ ≠ .ex x ρ'
  | [], [], _, _, _, u => by cases u
  | [], _ :: _, _, _, _, u => by cases u
  | _ :: _, [], _, _, _, u => by cases u
  | i :: is, r :: rs, ρ, x, ρ', u => by
    have e' : ((parSet is rs ρ).bind fun ρ' => put ρ' i r) = .ex x ρ' := u
    cases u2 : parSet is rs ρ with
    | no => rw [u2] at e'; cases e'
    | ex _ _ => exact parSet_noex u2
    | ok ρ1 => rw [u2] at e'; exact put_noex e'
section
variable {X : Cx} {W : WX} {a b c : Expr} {f : Env → Rz (Env × List Rs)} {x y z : Str} {px py pz pt pos : Pos} {kt k2 pt2} {i j l : Nat}
theorem rs_par (i j : Nat) (hc : X.calm = true) (hN : X.N.Nodup) (hij : i ≠ j) (ha : RQ X W [a, b] f) (hw : swappedStores [.Tuple [.Name x px, .Name y py] kt pt] (.Tuple [a, b] k2 pt2) X.env = pure (some [x, y]))
    (hi : X.N[i]? = some x := by rfl) (hj : X.N[j]? = some y := by rfl) (hx : X.env.scope.names.lookup x = some .local := by rfl) (hy : X.env.scope.names.lookup y = some .local := by rfl)
    (hs : swapsWithSole [.Tuple [.Name x px, .Name y py] kt pt] (.Tuple [a, b] k2 pt2) pos.line X.env = pure false := by rfl) :
    RS X W (.Assign [.Tuple [.Name x px, .Name y py] kt pt] (.Tuple [a, b] k2 pt2) pos) (gPar [i, j] f) := ps_mono (ps_par hc hN hi hj hij hx hy ha hw hs) fun D σ H ⟨Γ, Hf, ρ, R, hw⟩ => by
  refine ⟨Γ, Hf, ρ, R, Rz.wp_mono (Rz.wp_bind hw) (fun p hp Hf1 H1 vs S1 hQ => ?_) (EPs.ex rfl)⟩
  obtain ⟨ρ', e1, hq⟩ := parSet_wp hp fun _ _ => parSet_noex
  obtain ⟨Hf2, S2, R2⟩ := hQ.store e1
  obtain ⟨ρ1, rs⟩ := p
  have fin : ∀ v w, vs = [v, w] → D.nx ((σ.set i (some v)).set j (some w)) H1 := fun v w e => by
    subst e
    have : setAll σ [i, j] [v, w] = (σ.set i (some v)).set j (some w) := by
      show (σ.set j (some w)).set i (some v) = _
      rw [List.set_comm _ _ hij.symm]
    rw [this] at R2
    exact hq Hf2 _ H1 (by simp) (S1.trans S2) R2
  have len := hQ.length
  have len2 : rs.length = 2 := parSet_length e1
  rw [len2] at len
  match vs, len with
  | [v, w], _ => exact ⟨v, w, rfl, fin v w rfl⟩
theorem rs_par3 (i j l : Nat) (hc : X.calm = true) (hN : X.N.Nodup) (hij : i ≠ j) (hil : i ≠ l) (hjl : j ≠ l) (ha : RQ X W [a, b, c] f) (hw : swappedStores [.Tuple [.Name x px, .Name y py, .Name z pz] kt pt] (.Tuple [a, b, c] k2 pt2) X.env = pure (some [x, y, z]))
    (hi : X.N[i]? = some x := by rfl) (hj : X.N[j]? = some y := by rfl) (hl : X.N[l]? = some z := by rfl) (hx : X.env.scope.names.lookup x = some .local := by rfl) (hy : X.env.scope.names.lookup y = some .local := by rfl) (hz : X.env.scope.names.lookup z = some .local := by rfl)
    (hs : swapsWithSole [.Tuple [.Name x px, .Name y py, .Name z pz] kt pt] (.Tuple [a, b, c] k2 pt2) pos.line X.env = pure false := by rfl) :
    RS X W (.Assign [.Tuple [.Name x px, .Name y py, .Name z pz] kt pt] (.Tuple [a, b, c] k2 pt2) pos) (gPar [i, j, l] f) := ps_mono (ps_par3 hc hN hi hj hl hij hil hjl hx hy hz ha hw hs) fun D σ H ⟨Γ, Hf, ρ, R, hw⟩ => by
  refine ⟨Γ, Hf, ρ, R, Rz.wp_mono (Rz.wp_bind hw) (fun p hp Hf1 H1 vs S1 hQ => ?_) (EPs.ex rfl)⟩
  obtain ⟨ρ', e1, hq⟩ := parSet_wp hp fun _ _ => parSet_noex
  obtain ⟨Hf2, S2, R2⟩ := hQ.store e1
  obtain ⟨ρ1, rs⟩ := p
  have fin : ∀ u v w, vs = [u, v, w] → D.nx (((σ.set i (some u)).set j (some v)).set l (some w)) H1 := fun u v w e => by
    subst e
    have : setAll σ [i, j, l] [u, v, w] = ((σ.set i (some u)).set j (some v)).set l (some w) := by
      show ((σ.set l (some w)).set j (some v)).set i (some u) = _
      rw [List.set_comm _ _ hjl.symm, List.set_comm _ _ hil.symm, List.set_comm _ _ hij.symm]
    rw [this] at R2
    exact hq Hf2 _ H1 (by simp) (S1.trans S2) R2
  have len := hQ.length
  have len2 : rs.length = 3 := parSet_length e1
  rw [len2] at len
  match vs, len with
  | [u, v, w], _ => exact ⟨u, v, w, rfl, fin u v w rfl⟩
end
end Fx

set_option Elab.async false
set_option linter.all false
set_option maxRecDepth 100000
set_option maxHeartbeats 4000000
namespace Fx
open PySem L2
variable [Tb]
/-! ### a def's promise by a function of its arguments' data -/
structure Args (M : Md) (H Hf : Hp) (vs : List V) (args : Env) : Prop where
  len : args.length = vs.length
  sub : Same Hf H
  ok : ∀ (i : Nat) x, args[i]? = some x → (∃ d v, x = .im d ∧ vs[i]? = some v ∧ Has M Hf d v) ∨ ∃ d a, x = .pa d ∧ vs[i]? = some (.ref a) ∧ LocAt M Hf H d (.ref a)
  inj : ∀ (i j : Nat) x y, i ≠ j → args[i]? = some x → args[j]? = some y → x.own → y.own → vs[i]? ≠ vs[j]?
  tb : ∀ P q, Tb.tab P q → TabF Hf H P q
  tg : ∀ P q, Tb.tab P q → Hf P = none
structure Back (M : Md) (H Hf : Hp) (vs : List V) (args : Env) (Hf' H' : Hp) (outs : Env) : Prop where
  up : Same Hf Hf'
  sub : Same Hf' H'
  fr : ∀ b o, H b = some o → (∀ (i : Nat) d, args[i]? = some (.pa d) → vs[i]? ≠ some (.ref b)) → Kp o (H' b)
  fz : ∀ b, Hf' b ≠ none → Hf b ≠ none ∨ H b = none
  out : ∀ (i : Nat) d, args[i]? = some (.pa d) → ∃ d' a, outs[i]? = some (.pa d') ∧ vs[i]? = some (.ref a) ∧ LocAt M Hf' H' d' (.ref a)
  tb : ∀ P q, Tb.tab P q → TabF Hf' H' P q
def ResIs (M : Md) (H Hf' H' : Hp) : Rs → V → Prop
  | .slot _, _ => False
  | .im d, v => Has M Hf' d v
  | .nw d, v => ∃ a, v = .ref a ∧ H a = none ∧ LocAt M Hf' H' d (.ref a)
def spF (M : Md) (F : Env → Rz (Env × Rs)) : Sp := fun vs H Q E => ∃ Hf args, Args M H Hf vs args ∧
  (F args).wp (fun p => ∀ Hf' H' v, Back M H Hf vs args Hf' H' p.1 → ResIs M H Hf' H' p.2 v → Q v H') (fun x outs => ∀ Hf' H' c d, Back M H Hf vs args Hf' H' outs → ExIs M H Hf' H' x c d → E c d H')
/-- n arguments -/
def spN (n : Nat) (M : Md) (F : Env → Rz (Env × Rs)) : Sp := fun vs H Q E => vs.length = n ∧ spF M F vs H Q E
def retV (ρ : Env) : Rs → Rz Rs
  | .slot i => match ρ[i]? with
    | some (.im d) => .ok (.im d)
    | some (.lo d) => .ok (.nw d)
    | _ => .no
  | r => .ok r
def okOuts : Env → Env → Bool
  | [], _ => true
  | .pa _ :: args, .pa _ :: outs => okOuts args outs
  | .pa _ :: _, _ => false
  | _ :: args, _ :: outs => okOuts args outs
  | _ :: _, [] => false
def runF (n : Nat) (body : Env → Rz (Env × Fl)) (args : Env) : Rz (Env × Rs) := match body (args ++ List.replicate (n - args.length) .no) with
  | .ok (ρ', fl) => if okOuts args ρ' then match fl with
      | .nx => .ok (ρ'.take args.length, .im .non)
      | .rt r => (retV ρ' r).bind fun r' => .ok (ρ'.take args.length, r')
      | _ => .no
    else .no
  | .ex x ρ' => if okOuts args ρ' then .ex x (ρ'.take args.length) else .no
  | .no => .no
theorem okOuts_get : ∀ {args outs : Env} {i : Nat} {d : D}, okOuts args outs = true → args[i]? = some (.pa d) → ∃ d', outs[i]? = some (.pa d')
  | [], _, _, _, _, e => by simp at e
  | .pa _ :: _, .pa d' :: _, 0, _, h, e => ⟨d', rfl⟩
  | .pa _ :: args, .pa _ :: outs, i + 1, d, h, e => by
    obtain ⟨d', q⟩ := okOuts_get (args := args) (outs := outs) (i := i) (d := d) h (by simpa using e)
    exact ⟨d', by simpa using q⟩
  | .pa _ :: _, [], _, _, h, _ => by cases h
  | .pa _ :: _, .no :: _, _, _, h, _ => by cases h
  | .pa _ :: _, .im _ :: _, _, _, h, _ => by cases h
  | .pa _ :: _, .lo _ :: _, _, _, h, _ => by cases h
  | .no :: args, o :: outs, 0, d, h, e => by simp at e
  | .im _ :: args, o :: outs, 0, d, h, e => by simp at e
  | .lo _ :: args, o :: outs, 0, d, h, e => by simp at e
  | .no :: args, o :: outs, i + 1, d, h, e => by
    obtain ⟨d', q⟩ := okOuts_get (args := args) (outs := outs) (i := i) (d := d) (by cases o <;> exact h) (by simpa using e)
    exact ⟨d', by simpa using q⟩
  | .im _ :: args, o :: outs, i + 1, d, h, e => by
    obtain ⟨d', q⟩ := okOuts_get (args := args) (outs := outs) (i := i) (d := d) (by cases o <;> exact h) (by simpa using e)
    exact ⟨d', by simpa using q⟩
  | .lo _ :: args, o :: outs, i + 1, d, h, e => by
    obtain ⟨d', q⟩ := okOuts_get (args := args) (outs := outs) (i := i) (d := d) (by cases o <;> exact h) (by simpa using e)
    exact ⟨d', by simpa using q⟩
  | .no :: _, [], _, _, h, _ => by cases h
  | .im _ :: _, [], _, _, h, _ => by cases h
  | .lo _ :: _, [], _, _, h, _ => by cases h
/-- the state at a def's entry -/
def adrOf (vs : List V) (args : Env) (i : Nat) : Option Addr := match args[i]?, vs[i]? with
  | some (.pa _), some (.ref a) => some a
  | _, _ => none
theorem adrOf_some {vs : List V} {args : Env} {i : Nat} {a : Addr} (h : adrOf vs args i = some a) : ∃ d, args[i]? = some (.pa d) ∧ vs[i]? = some (.ref a) := by
  unfold adrOf at h
  split at h
  · rename_i d a' e1 e2
    cases h
    exact ⟨_, e1, e2⟩
  · cases h
theorem adrOf_mk {vs : List V} {args : Env} {i : Nat} {a : Addr} {d : D} (h1 : args[i]? = some (.pa d)) (h2 : vs[i]? = some (.ref a)) : adrOf vs args i = some a := by
  unfold adrOf; rw [h1, h2]
def ghOf (H Hf : Hp) (vs : List V) (args : Env) : Gh := ⟨⟨H, Hf, adrOf vs args⟩, [], []⟩
section
variable {M : Md} {H Hf : Hp} {vs : List V} {args : Env}
theorem Args.rep (A : Args M H Hf vs args) {N : List Str} (hN : vs.length ≤ N.length) : Rep M (ghOf H Hf vs args) Hf (L2.start N vs) H (args ++ List.replicate (N.length - args.length) .no) := by
  have L := A.len
  have cut : ∀ {i : Nat} {x : Sl}, (args ++ List.replicate (N.length - args.length) Sl.no)[i]? = some x → x = .no ∨ (args[i]? = some x ∧ i < vs.length) := fun {i x} e => by
    by_cases lt : i < args.length
    · rw [List.getElem?_append_left lt] at e; exact .inr ⟨e, by omega⟩
    · rw [List.getElem?_append_right (by omega), List.getElem?_replicate] at e
      split at e
      · cases e; exact .inl rfl
      · cases e
  have st : ∀ {i : Nat}, i < vs.length → (L2.start N vs)[i]? = (vs[i]?).map some := fun {i} lt => by
    unfold L2.start
    rw [List.getElem?_append_left (by simpa using lt), List.getElem?_map]
  refine ⟨by unfold L2.start; simp [L], ?_⟩
  show Rep0 M ⟨H, Hf, adrOf vs args⟩ Hf (start N vs ++ []) H ((args ++ List.replicate (N.length - args.length) .no) ++ [])
  rw [List.append_nil, List.append_nil]
  refine ⟨by unfold L2.start; simp [L], A.sub, Same.refl _, fun b o e _ => .inl e, fun b e => .inl e, fun i d e => ?_, fun i d e => ?_, fun i d e => ?_, fun i j x y ne ex ey ox oy => ?_, fun a z => ?_, fun a z => ?_, A.tb, fun P q h => ⟨A.tg P q h, fun z => by
    have z : H P = none := z
    obtain ⟨ps, e, _⟩ := A.tb P q h
    rw [z] at e; cases e⟩⟩
  · rcases cut e with z | ⟨q, lt⟩
    · cases z
    · rcases A.ok i _ q with ⟨d', v, z, h1, h2⟩ | ⟨d', a, z, _⟩
      · cases z; exact ⟨v, by rw [st lt, h1]; rfl, h2⟩
      · cases z
  · rcases cut e with z | ⟨q, lt⟩
    · cases z
    · rcases A.ok i _ q with ⟨d', v, z, h1, h2⟩ | ⟨d', a, z, _⟩ <;> cases z
  · rcases cut e with z | ⟨q, lt⟩
    · cases z
    · rcases A.ok i _ q with ⟨d', v, z, h1, h2⟩ | ⟨d', a, z, h1, h2⟩
      · cases z
      · cases z; exact ⟨a, by rw [st lt, h1]; rfl, adrOf_mk q h1, h2⟩
  · rcases cut ex with z | ⟨q1, l1⟩
    · subst z; exact ox.elim
    · rcases cut ey with z | ⟨q2, l2⟩
      · subst z; exact oy.elim
      · rw [st l1, st l2]
        intro e
        have i1 : vs[i]? = some vs[i] := List.getElem?_eq_getElem l1
        have i2 : vs[j]? = some vs[j] := List.getElem?_eq_getElem l2
        rw [i1, i2] at e
        have : vs[i] = vs[j] := by simpa using e
        exact A.inj i j x y ne q1 q2 ox oy (by rw [i1, i2, this])
  · obtain ⟨i, hi⟩ := z
    obtain ⟨d, h1, h2⟩ := adrOf_some hi
    rcases A.ok i _ h1 with ⟨d', v, z, _⟩ | ⟨d', a', z, k1, k2⟩
    · cases z
    · rw [h2] at k1
      cases k1
      obtain ⟨_, ea, n, hh⟩ := k2.ref
      cases ea
      exact ⟨hh, n⟩
  · obtain ⟨i, hi⟩ := z
    obtain ⟨d, h1, h2⟩ := adrOf_some hi
    rcases A.ok i _ h1 with ⟨d', v, z, _⟩ | ⟨d', a', z, k1, k2⟩
    · cases z
    · rw [h2] at k1
      cases k1
      obtain ⟨_, ea, n, hh⟩ := k2.ref
      cases ea
      exact hh
/-- what a state at a def's end says to the caller -/
theorem Rep.back {Hf' H' : Hp} {σ' : L2.St} {ρ' : Env} (A : Args M H Hf vs args) (R : Rep M (ghOf H Hf vs args) Hf' σ' H' ρ') (ho : okOuts args ρ' = true) : Back M H Hf vs args Hf' H' (ρ'.take args.length) := by
  have r := R.r0
  have r' : Rep0 M ⟨H, Hf, adrOf vs args⟩ Hf' σ' H' ρ' := by
    have : Rep0 M ⟨H, Hf, adrOf vs args⟩ Hf' (σ' ++ []) H' (ρ' ++ []) := r
    rwa [List.append_nil, List.append_nil] at this
  refine ⟨r'.gr, r'.sub, fun b o e h => r'.fr b o e ?_, r'.fz, fun i d e => ?_, r'.tb⟩
  · rintro ⟨i, hi⟩
    obtain ⟨d, h1, h2⟩ := adrOf_some hi
    exact h i d h1 h2
  · obtain ⟨d', q⟩ := okOuts_get ho e
    obtain ⟨a, h1, h2, h3⟩ := r'.pa i d' q
    obtain ⟨d2, k1, k2⟩ := adrOf_some h2
    refine ⟨d', a, ?_, k2, h3⟩
    rw [List.getElem?_take_of_lt (List.getElem?_eq_some_iff.mp e).1]
    exact q
theorem Rep.ret {Hf' H' : Hp} {σ' : L2.St} {ρ' : Env} {r r' : Rs} {v : V} (R : Rep M (ghOf H Hf vs args) Hf' σ' H' ρ') (h : RsIs M (ghOf H Hf vs args) Hf' σ' H' ρ' r v) (e : retV ρ' r = .ok r') : ResIs M H Hf' H' r' v := by
  cases r with
  | im d => cases e; exact h
  | nw d =>
    cases e
    obtain ⟨a, ev, h0, hl, _⟩ := h
    exact ⟨a, ev, h0, hl⟩
  | slot i =>
    have h' : σ'[i]? = some (some v) := h
    unfold retV at e
    cases q : ρ'[i]? with
    | none => simp [q] at e
    | some x =>
      have lt : i < σ'.length := by rw [← R.len]; exact (List.getElem?_eq_some_iff.mp q).1
      cases x with
      | no => simp [q] at e
      | pa d => simp [q] at e
      | im d =>
        simp [q] at e
        subst e
        obtain ⟨u, k1, k2⟩ := R.r0.im i d (get_app q)
        rw [get_left lt, h'] at k1
        cases k1
        exact k2
      | lo d =>
        simp [q] at e
        subst e
        obtain ⟨a, k1, k2, k3⟩ := R.r0.lo i d (get_app q)
        rw [get_left lt, h'] at k1
        cases k1
        exact ⟨a, rfl, k2, k3⟩
end
/-! ### a def by its body -/
/-- a def keeps its promise where no repr is running -/
structure FnG (P : Program) (w : World) (K : PySem.W.Frag) (mg : Str → Option Value) (base : Heap) (CX : CXT) (k : Nat) (f : Addr) (fd : FuncData) (ps : List Str) (sp : Sp) : Prop where
  len : ∀ vs H Q E, sp vs H Q E → vs.length = ps.length
  run : ∀ (A : Around) (outer : List PySem.Env) (s : Shared) (H : Hp) (args : PySem.Args) (us : List Value) (vs : List V) (Q : VK) (E : XK), Room k A → A.guards = some [] → Env0 P w K mg base A outer s H → BindsTo s fd args (ps.zip us) → Vals vs us → sp vs H Q E →
    codeAny (model P w) A (.call (.ref f) args) (CR CX outer P w H s Q E) s
theorem FnG.mono {P : Program} {w : World} {K : PySem.W.Frag} {mg : Str → Option Value} {base : Heap} {CX : CXT} {j k : Nat} {f : Addr} {fd : FuncData} {ps : List Str} {sp : Sp} (F : FnG P w K mg base CX j f fd ps sp) (h : j ≤ k) :
    FnG P w K mg base CX k f fd ps sp := ⟨F.len, fun A outer s H args us vs Q E hr => F.run A outer s H args us vs Q E (hr.mono h)⟩
theorem FnG.imp {P : Program} {w : World} {K : PySem.W.Frag} {mg : Str → Option Value} {base : Heap} {CX : CXT} {k : Nat} {f : Addr} {fd : FuncData} {ps : List Str} {sp sp' : Sp} (F : FnG P w K mg base CX k f fd ps sp)
    (h : ∀ vs H Q E, sp' vs H Q E → sp vs H Q E) : FnG P w K mg base CX k f fd ps sp' :=
  ⟨fun vs H Q E q => F.len vs H Q E (h _ _ _ _ q), fun A outer s H args us vs Q E hr hg he hb hv hs => F.run A outer s H args us vs Q E hr hg he hb hv (h _ _ _ _ hs)⟩
abbrev frameOf (qual : Str) (scope : Scope) (s : Shared) (f : Addr) (cdv : Value) : PySem.Env := PyProof.Rows.envOfC qual scope s.heap.objs.size f cdv
theorem fnG_of {CX : CXT} {P : Program} {w : World} {K : PySem.W.Frag} {mg : Str → Option Value} {base : Heap} {k : Nat} {f : Addr} {name qual : Str} {params : Arguments} {body : List Stmt} {scope : Scope} {dV kV doc pm cdv ct oc : Value} {an od : Option Addr}
    {osl : Array (Option Value)} {N ps : List Str} {sp : Sp} (look : K.lookup f = some ⟨oc, od, .func (PySem.W.fnOf name qual params body scope dV kV doc pm an cdv ct), osl⟩) (hcode : PySem.W.codeIn K cdv qual = true) (S : FnScope N ps scope)
    (len : ∀ vs H Q E, sp vs H Q E → vs.length = ps.length)
    (hbody : ∀ (A : Around) (outer : List PySem.Env) (s : Shared) (H : Hp) (vs : List V) (Q : VK) (E : XK), Room k (A.deeper (frameOf qual scope s f cdv)) → A.guards = some [] → sp vs H Q E →
      ∃ t, PSs (cxOf CX P w K mg base N qual scope f cdv A outer s H E) body t ∧ t { nx := fun _ H' => Q .non H', rt := Q } (L2.start N vs) H) :
    FnG P w K mg base CX (k + 1) f (PySem.W.fnOf name qual params body scope dV kV doc pm an cdv ct) ps sp := by
  refine ⟨len, fun A outer s H args us vs Q E room hgd st bind rel want => ?_⟩
  have lens := len _ _ _ _ want
  have inHeap : K.In s.heap := st.mod.kin.keeps fun b o z => (st.bs b o z).1
  have unlim : s.heap.NoLimit := st.mod.nolimit.keeps fun b o z => (st.bs b o z).1
  have kinds : ∀ y ∈ ps.zip us, scope.names.lookup y.1 = some .local ∨ (scope.names.lookup y.1 = some .cell ∧ ((cellsFrom (s.heap.objs.size + 1) scope.names []).lookup y.1).isSome = true) := by
    rintro ⟨n, v⟩ hy
    have hm := (List.of_mem_zip hy).1
    cases S.par n hm with
    | inl q => exact .inl q
    | inr q => exact .inr ⟨q, PySem.W.cellsFrom_some _ _ _ (.inl q)⟩
  refine codeAny_call_function room.depth (inHeap _ _ look) rfl S.co S.gen rfl (PySem.W.codeRec_of inHeap hcode) (bind _ _ _ _ ?_)
  refine wpAny_newFunctionEnv_cells S.kind kinds fun env henv s1 ent => ?_
  subst henv
  refine ⟨unlim.keeps ent.toInCall.keep, codeAny_func ?_⟩
  obtain ⟨t, ht, hq⟩ := hbody A outer s H vs Q E (room.deeper _) hgd want
  have I : Inv (cxOf CX P w K mg base N qual scope f cdv A outer s H E) [] (L2.start N vs) H s1 := inv_start S room.hd st lens rel ent
  refine wpAny_mono (ht.run [] s1 (L2.start N vs) H _ I hq) (fun fl s' done => ?_) fun _ _ z => z
  have leave : ∀ {σ' : L2.St} {H' : Hp} {v : V} {u : Value}, Inv (cxOf CX P w K mg base N qual scope f cdv A outer s H E) [] σ' H' s' → RelV v u → Q v H' → CE outer P w H s Q u s' := by
    intro σ' H' v u J rv q
    exact ⟨v, H', J.os, J.bare, J.base, J.hok, rv, q⟩
  cases fl with
  | next =>
    obtain ⟨σ', H', J, q⟩ := done
    exact leave (v := V.non) (u := Value.none) J rfl q
  | ret u =>
    obtain ⟨v, σ', H', J, rv, q⟩ := done
    exact leave J rv q
  | brk => obtain ⟨_, _, _, q⟩ := done; exact q.elim
  | cont => obtain ⟨_, _, _, q⟩ := done; exact q.elim
/-- how runF's value reaches the end of a body -/
theorem runF_ends {M : Md} {W : WX} {H : Hp} {vs : List V} {Q : VK} {E : XK} {N : List Str} {body : Env → Rz (Env × Fl)} (hN : vs.length ≤ N.length) (hW : ∀ c d σ H', E c d H' → W c d σ H') (h : spF M (runF N.length body) vs H Q E) :
    rdS M W body { nx := fun _ H' => Q .non H', rt := Q } (L2.start N vs) H := by
  obtain ⟨Hf, args, A, hw⟩ := h
  have R := A.rep hN
  refine ⟨_, Hf, _, R, ?_⟩
  unfold runF at hw
  cases u : body (args ++ List.replicate (N.length - args.length) .no) with
  | no => rw [u] at hw; exact hw.elim
  | ok p =>
    obtain ⟨ρ', fl⟩ := p
    rw [u] at hw
    simp only at hw
    obtain ⟨ho, hw⟩ := ite_wp hw
    intro Hf' σ' H' hl S' R'
    have B := R'.back A ho
    cases fl with
    | nx => exact hw Hf' H' .non B .non
    | bk => exact hw.elim
    | ct => exact hw.elim
    | rt r =>
      intro v hv
      replace hw : ((retV ρ' r).bind fun r' => Rz.ok (ρ'.take args.length, r')).wp _ _ := hw
      cases e : retV ρ' r with
      | no => rw [e] at hw; exact hw.elim
      | ex _ _ =>
        exfalso
        cases r with
        | im _ => cases e
        | nw _ => cases e
        | slot i =>
          unfold retV at e
          cases q : ρ'[i]? with
          | none => simp [q] at e
          | some y => cases y <;> simp [q] at e
      | ok r' =>
        rw [e] at hw
        exact hw Hf' H' v B (R'.ret hv e)
  | ex x ρ' =>
    rw [u] at hw
    simp only at hw
    cases ho : okOuts args ρ' with
    | false => rw [ho] at hw; exact hw.elim
    | true =>
      rw [ho] at hw
      intro Hf' σ' H' c d hl S' R' he
      exact hW c d σ' H' (hw Hf' H' c d (R'.back A ho) he)
/-- THE RULE for a def that lets no exception out, by its body's function -/
theorem fun_okG {P : Program} {w : World} {K : PySem.W.Frag} {mg : Str → Option Value} {base : Heap} {x qual : Str} {st : Stmt} {f : Addr} {fd : FuncData} {N ps : List Str} {k : Nat} {body : Env → Rz (Env × Fl)} (F : Fun K x qual st f fd) (S : FnScope N ps (defScope st)) (hps : ps.length ≤ N.length)
    (hbody : ∀ (cdv : Value) (A : Around) (outer : List PySem.Env) (s : Shared) (H : Hp) (E : XK), Room k (A.deeper (frameOf qual (defScope st) s f cdv)) → A.guards = some [] →
      RSs (cxOf CX0 P w K mg base N qual (defScope st) f cdv A outer s H E).nox W0 (defBody st) body) : FnG P w K mg base CX0 (k + 1) f fd ps (spN ps.length ⟨K, mg⟩ fun a => noX (runF N.length body a)) := by
  obtain ⟨oc, od, kV, doc, pm, an, cdv, ct, osl, rfl, lk, hcd⟩ := F.ex
  refine fnG_of lk hcd S (fun vs H Q E h => h.1) fun A outer s H vs Q E hr hg hsp => ?_
  refine ⟨_, (hbody cdv A outer s H E hr hg).nox, ?_⟩
  obtain ⟨hl, Hf, args, Ar, hw⟩ := hsp
  exact runF_ends (E := fun _ _ _ => False) (by rw [hl]; exact hps) (fun _ _ _ _ z => z) ⟨Hf, args, Ar, Rz.wp_mono (noX_wp hw) (fun _ z => z) fun _ _ z => z.elim⟩
end Fx

set_option Elab.async false
set_option linter.all false
set_option maxRecDepth 100000
set_option maxHeartbeats 4000000
namespace Fx
open PySem L2
variable [Tb]
/-! ### a call: data by value, containers of one's own by reference -/
def useIm : List Bool → Env → List Rs → Rz (Env × Env)
  | [], ρ, [] => .ok (ρ, [])
  | false :: ms, ρ, r :: rs => (use ρ r).bind fun p => (useIm ms p.1 rs).bind fun q => .ok (q.1, .im p.2 :: q.2)
  | true :: ms, ρ, _ :: rs => (useIm ms ρ rs).bind fun q => .ok (q.1, .no :: q.2)
  | _, _, _ => .no
def fillPa : List Bool → Env → List Rs → Env → Option Env
  | [], _, [], [] => some []
  | false :: ms, ρ, _ :: rs, a :: as => (fillPa ms ρ rs as).map (a :: ·)
  | true :: ms, ρ, .slot i :: rs, _ :: as => (ownC ρ i).bind fun c => (fillPa ms ρ rs as).map (.pa c.2 :: ·)
  | _, _, _, _ => none
def mutIx : List Bool → List Rs → List Nat
  | true :: ms, .slot i :: rs => i :: mutIx ms rs
  | _ :: ms, _ :: rs => mutIx ms rs
  | _, _ => []
def putBack : List Bool → List Rs → Env → Env → Env
  | true :: ms, .slot i :: rs, .pa d :: outs, ρ => putBack ms rs outs (ρ.set i (((ρ[i]?).getD .no).withD d))
  | _ :: ms, _ :: rs, _ :: outs, ρ => putBack ms rs outs ρ
  | _, _, _, ρ => ρ
def callBy (F : Env → Rz (Env × Rs)) (ms : List Bool) (ρ : Env) (rs : List Rs) : Rz (Env × Rs) := (useIm ms ρ rs).bind fun q => (Rz.ofO (fillPa ms q.1 rs q.2)).bind fun as =>
  if decide (mutIx ms rs).Nodup = true then match F as with
    | .ok r => .ok (putBack ms rs r.1 q.1, r.2)
    | .ex x outs => .ex x (putBack ms rs outs q.1)
    | .no => .no
  else .no
def eCall (F : Env → Rz (Env × Rs)) (ms : List Bool) (args : Env → Rz (Env × List Rs)) : Env → Rz (Env × Rs) := fun ρ => (args ρ).bind fun p => callBy F ms p.1 p.2
inductive ArgsR (M : Md) (Hf : Hp) (σ : L2.St) (ρ : Env) : List Bool → List Rs → List V → Env → Prop
  | nil : ArgsR M Hf σ ρ [] [] [] []
  | im {ms : List Bool} {rs : List Rs} {vs : List V} {as : Env} {r : Rs} {v : V} {d : D} : Has M Hf d v → ArgsR M Hf σ ρ ms rs vs as → ArgsR M Hf σ ρ (false :: ms) (r :: rs) (v :: vs) (.im d :: as)
  | mu {ms : List Bool} {rs : List Rs} {vs : List V} {as : Env} {i : Nat} {x : Sl} {v : V} {d : D} : ρ[i]? = some x → x.ownD = some d → σ[i]? = some (some v) → ArgsR M Hf σ ρ ms rs vs as → ArgsR M Hf σ ρ (true :: ms) (.slot i :: rs) (v :: vs) (.pa d :: as)
theorem useIm_noex : ∀ {ms : List Bool} {ρ : Env} {rs : List Rs} {x : Exn} {ρ' : Env}, useIm ms ρ rs ≠ .ex x ρ'
  | [], _, [], _, _, u => by cases u
  | [], _, _ :: _, _, _, u => by cases u
  | false :: _, _, [], _, _, u => by cases u
  | true :: _, _, [], _, _, u => by cases u
  | false :: ms, ρ, r :: rs, x, ρ', u => by
    have u' : ((use ρ r).bind fun p => (useIm ms p.1 rs).bind fun q => .ok (q.1, .im p.2 :: q.2)) = Rz.ex x ρ' := u
    cases u1 : use ρ r with
    | no => rw [u1] at u'; cases u'
    | ex _ _ => exact use_noex u1
    | ok p =>
      rw [u1, Rz.ok_bind] at u'
      cases u2 : useIm ms p.1 rs with
      | no => rw [u2] at u'; cases u'
      | ex _ _ => exact useIm_noex u2
      | ok q => rw [u2] at u'; cases u'
  | true :: ms, ρ, r :: rs, x, ρ', u => by
    have u' : ((useIm ms ρ rs).bind fun q => .ok (q.1, .no :: q.2)) = Rz.ex x ρ' := u
    cases u2 : useIm ms ρ rs with
    | no => rw [u2] at u'; cases u'
    | ex _ _ => exact useIm_noex u2
    | ok q => rw [u2] at u'; cases u'
section
variable {M : Md} {Γ : Gh} {σ : L2.St} {H : Hp}
/-- the data part: a partial list of arguments -/
inductive PartR (M : Md) (Hf : Hp) (σ : L2.St) : List Bool → List Rs → List V → Env → Prop
  | nil : PartR M Hf σ [] [] [] []
  | im {ms : List Bool} {rs : List Rs} {vs : List V} {as : Env} {r : Rs} {v : V} {d : D} : Has M Hf d v → PartR M Hf σ ms rs vs as → PartR M Hf σ (false :: ms) (r :: rs) (v :: vs) (.im d :: as)
  | mu {ms : List Bool} {rs : List Rs} {vs : List V} {as : Env} {r : Rs} {v : V} : HsIs M Hf σ r v → PartR M Hf σ ms rs vs as → PartR M Hf σ (true :: ms) (r :: rs) (v :: vs) (.no :: as)
theorem Rep.useIm : ∀ {ms : List Bool} {rs : List Rs} {vs : List V} {Hf : Hp} {ρ ρ' : Env} {as : Env}, Rep M Γ Hf σ H ρ → HsAll M Hf σ rs vs → Fx.useIm ms ρ rs = .ok (ρ', as) →
    ∃ Hf', Same Hf Hf' ∧ Rep M Γ Hf' σ H ρ' ∧ PartR M Hf' σ ms rs vs as
  | [], [], _, Hf, ρ, ρ', as, R, .nil, e => by cases e; exact ⟨Hf, Same.refl _, R, .nil⟩
  | [], _ :: _, _, _, _, _, _, _, _, e => by cases e
  | false :: _, [], _, _, _, _, _, _, _, e => by cases e
  | true :: _, [], _, _, _, _, _, _, _, e => by cases e
  | false :: ms, r :: rs, v :: vs, Hf, ρ, ρ', as, R, .cons h t, e => by
    have e' : ((Fx.use ρ r).bind fun p => (Fx.useIm ms p.1 rs).bind fun q => .ok (q.1, .im p.2 :: q.2)) = Rz.ok (ρ', as) := e
    cases u : Fx.use ρ r with
    | no => rw [u] at e'; cases e'
    | ex _ _ => exact absurd u use_noex
    | ok p =>
      rw [u, Rz.ok_bind] at e'
      obtain ⟨Hf1, S1, R1, h1⟩ := R.use (ρ' := p.1) (d := p.2) h.rs u
      cases u2 : Fx.useIm ms p.1 rs with
      | no => rw [u2] at e'; cases e'
      | ex _ _ => exact absurd u2 useIm_noex
      | ok q =>
        rw [u2] at e'
        cases e'
        obtain ⟨Hf2, S2, R2, h2⟩ := Rep.useIm R1 (t.up S1) u2
        exact ⟨Hf2, S1.trans S2, R2, .im (h1.same S2) h2⟩
  | true :: ms, r :: rs, v :: vs, Hf, ρ, ρ', as, R, .cons h t, e => by
    have e' : ((Fx.useIm ms ρ rs).bind fun q => .ok (q.1, .no :: q.2)) = Rz.ok (ρ', as) := e
    cases u2 : Fx.useIm ms ρ rs with
    | no => rw [u2] at e'; cases e'
    | ex _ _ => exact absurd u2 useIm_noex
    | ok q =>
      rw [u2] at e'
      cases e'
      obtain ⟨Hf2, S2, R2, h2⟩ := Rep.useIm R t u2
      exact ⟨Hf2, S2, R2, .mu (h.up S2) h2⟩
theorem PartR.fill {Hf : Hp} {ρ : Env} : ∀ {ms : List Bool} {rs : List Rs} {vs : List V} {as as' : Env}, PartR M Hf σ ms rs vs as → fillPa ms ρ rs as = some as' → ArgsR M Hf σ ρ ms rs vs as'
  | _, _, _, _, _, .nil, e => by cases e; exact .nil
  | _, _, _, _, as', @PartR.im _ _ _ ms rs vs as r v d h t, e => by
    have e' : (fillPa ms ρ rs as).map (Sl.im d :: ·) = some as' := e
    cases u : fillPa ms ρ rs as with
    | none => rw [u] at e'; cases e'
    | some as2 => rw [u] at e'; cases e'; exact .im h (PartR.fill t u)
  | _, _, _, _, as', @PartR.mu _ _ _ ms rs vs as r v h t, e => by
    cases r with
    | im _ => cases e
    | nw _ => cases e
    | slot i =>
      have e' : ((ownC ρ i).bind fun c => (fillPa ms ρ rs as).map (Sl.pa c.2 :: ·)) = some as' := e
      cases u0 : ownC ρ i with
      | none => rw [u0] at e'; cases e'
      | some c =>
        rw [u0, Option.bind_some] at e'
        cases u : fillPa ms ρ rs as with
        | none => rw [u] at e'; cases e'
        | some as2 =>
          rw [u] at e'
          cases e'
          obtain ⟨g1, g2⟩ := ownC_some u0
          exact .mu g1 g2 h (PartR.fill t u)
/-- where arguments lie -/
theorem ArgsR.at {Hf : Hp} {ρ : Env} : ∀ {ms : List Bool} {rs : List Rs} {vs : List V} {as : Env}, ArgsR M Hf σ ρ ms rs vs as → as.length = vs.length ∧
    ∀ (k : Nat) y, as[k]? = some y → (∃ d v, y = .im d ∧ vs[k]? = some v ∧ Has M Hf d v) ∨ ∃ d v i x, y = .pa d ∧ vs[k]? = some v ∧ rs[k]? = some (.slot i) ∧ ms[k]? = some true ∧ i ∈ mutIx ms rs ∧ ρ[i]? = some x ∧ x.ownD = some d ∧ σ[i]? = some (some v)
  | _, _, _, _, .nil => ⟨rfl, fun k y e => by simp at e⟩
  | _, _, _, _, @ArgsR.im _ _ _ _ ms rs vs as r v d h t => by
    obtain ⟨l, f⟩ := t.at
    refine ⟨by simp [l], fun k y e => ?_⟩
    cases k with
    | zero => simp at e; subst e; exact .inl ⟨d, v, rfl, rfl, h⟩
    | succ k =>
      rcases f k y (by simpa using e) with ⟨d', v', z, h1, h2⟩ | ⟨d', v', i, x, z, h1, h2, h3, h4, h5⟩
      · exact .inl ⟨d', v', z, by simpa using h1, h2⟩
      · exact .inr ⟨d', v', i, x, z, by simpa using h1, by simpa using h2, by simpa using h3, by (cases r <;> exact h4), h5⟩
  | _, _, _, _, @ArgsR.mu _ _ _ _ ms rs vs as i x v d e1 e2 e3 t => by
    obtain ⟨l, f⟩ := t.at
    refine ⟨by simp [l], fun k y e => ?_⟩
    cases k with
    | zero => simp at e; subst e; exact .inr ⟨d, v, i, x, rfl, rfl, rfl, rfl, List.mem_cons_self, e1, e2, e3⟩
    | succ k =>
      rcases f k y (by simpa using e) with ⟨d', v', z, h1, h2⟩ | ⟨d', v', i', x', z, h1, h2, h3, h4, h5⟩
      · exact .inl ⟨d', v', z, by simpa using h1, h2⟩
      · exact .inr ⟨d', v', i', x', z, by simpa using h1, by simpa using h2, by simpa using h3, List.mem_cons_of_mem _ h4, h5⟩
/-- two places of one slot are one place -/
theorem mutIx_inj : ∀ {ms : List Bool} {rs : List Rs} {k l i : Nat}, (mutIx ms rs).Nodup → ms[k]? = some true → rs[k]? = some (.slot i) → ms[l]? = some true → rs[l]? = some (.slot i) → k = l := by
  have mem : ∀ {ms : List Bool} {rs : List Rs} {k i : Nat}, ms[k]? = some true → rs[k]? = some (.slot i) → i ∈ mutIx ms rs := by
    intro ms
    induction ms with
    | nil => intro rs k i h; simp at h
    | cons m ms ih =>
      intro rs k i h1 h2
      cases rs with
      | nil => simp at h2
      | cons r rs =>
        cases k with
        | zero => simp at h1 h2; subst h1 h2; exact List.mem_cons_self
        | succ k =>
          have := ih (rs := rs) (k := k) (i := i) (by simpa using h1) (by simpa using h2)
          cases m with
          | true => cases r <;> first | exact List.mem_cons_of_mem _ this | exact this
          | false => exact this
  intro ms
  induction ms with
  | nil => intro rs k l i _ h; simp at h
  | cons m ms ih =>
    intro rs k l i nd h1 h2 h3 h4
    cases rs with
    | nil => simp at h2
    | cons r rs =>
      have tail : (mutIx ms rs).Nodup := by
        cases m with
        | true => cases r <;> first | exact (List.nodup_cons.mp nd).2 | exact nd
        | false => exact nd
      cases k with
      | zero =>
        simp at h1 h2
        subst h1 h2
        cases l with
        | zero => rfl
        | succ l =>
          have := mem (ms := ms) (rs := rs) (k := l) (i := i) (by simpa using h3) (by simpa using h4)
          exact absurd this (List.nodup_cons.mp nd).1
      | succ k =>
        cases l with
        | zero =>
          simp at h3 h4
          subst h3 h4
          have := mem (ms := ms) (rs := rs) (k := k) (i := i) (by simpa using h1) (by simpa using h2)
          exact absurd this (List.nodup_cons.mp nd).1
        | succ l => exact congrArg (· + 1) (ih (rs := rs) (k := k) (l := l) (i := i) tail (by simpa using h1) (by simpa using h2) (by simpa using h3) (by simpa using h4))
theorem own_of {x : Sl} {d : D} (h : x.ownD = some d) : x.own := by
  cases x <;> first | trivial | cases h
theorem Rep.args {Hf : Hp} {ρ : Env} {ms : List Bool} {rs : List Rs} {vs : List V} {as : Env} (R : Rep M Γ Hf σ H ρ) (A : ArgsR M Hf σ ρ ms rs vs as) (nd : (mutIx ms rs).Nodup) : Args M H Hf vs as := by
  obtain ⟨l, f⟩ := A.at
  refine ⟨l, R.sub, fun k y e => ?_, fun k j y z ne ek ej oy oz => ?_, R.r0.tb, fun P q h => R.r0.tn h⟩
  · rcases f k y e with ⟨d, v, z, h1, h2⟩ | ⟨d, v, i, x, z, h1, h2, h3, h4, h5, h6, h7⟩
    · exact .inl ⟨d, v, z, h1, h2⟩
    · obtain ⟨ox, a, es, hl, _⟩ := R.ownAt h5 h6
      rw [h7] at es
      cases es
      exact .inr ⟨d, a, z, h1, hl⟩
  · rcases f k y ek with ⟨d, v, z, h1, h2⟩ | ⟨d, v, i, x, z, h1, h2, h3, h4, h5, h6, h7⟩
    · subst z; exact oy.elim
    · rcases f j _ ej with ⟨d2, v2, z2, k1, k2⟩ | ⟨d2, v2, i2, x2, z2, k1, k2, k3, k4, k5, k6, k7⟩
      · subst z2; exact oz.elim
      · rw [h1, k1]
        intro e
        have ev : v = v2 := by simpa using e
        subst ev
        have ni : i ≠ i2 := fun q => by
          subst q
          exact ne (mutIx_inj nd h3 h2 k3 k2)
        have lt : ∀ {i : Nat} {x : Sl}, ρ[i]? = some x → i < σ.length := fun q => by rw [← R.len]; exact (List.getElem?_eq_some_iff.mp q).1
        refine R.r0.inj i i2 x x2 ni (get_app h5) (get_app k5) (own_of h6) (own_of k6) ?_
        rw [get_left (lt h5), get_left (lt k5), h7, k7]
/-- written one after another -/
def setOuts (L : List (Nat × Addr × D)) (ρ : Env) : Env := L.foldl (fun ρ t => ρ.set t.1 (((ρ[t.1]?).getD .no).withD t.2.2)) ρ
theorem ArgsR.outs {Hf Hf' H' : Hp} {ρ : Env} : ∀ {ms : List Bool} {rs : List Rs} {vs : List V} {as outs : Env}, ArgsR M Hf σ ρ ms rs vs as → as.length ≤ outs.length →
    (∀ (k : Nat) d, as[k]? = some (.pa d) → ∃ d' a, outs[k]? = some (.pa d') ∧ vs[k]? = some (.ref a) ∧ LocAt M Hf' H' d' (.ref a)) →
    ∃ L : List (Nat × Addr × D), (∀ ρ0, putBack ms rs outs ρ0 = setOuts L ρ0) ∧ L.map (·.1) = mutIx ms rs ∧ (∀ t ∈ L, (∃ x d, ρ[t.1]? = some x ∧ x.ownD = some d) ∧ σ[t.1]? = some (some (.ref t.2.1)) ∧ LocAt M Hf' H' t.2.2 (.ref t.2.1)) ∧
      ∀ (k : Nat) d b, as[k]? = some (.pa d) → vs[k]? = some (.ref b) → b ∈ L.map (·.2.1)
  | _, _, _, _, _, .nil, _, _ => ⟨[], fun ρ0 => rfl, rfl, fun t h => (by cases h), fun k d b e => by simp at e⟩
  | _, _, _, _, [], .im _ _, h, _ => by simp at h
  | _, _, _, _, [], .mu _ _ _ _, h, _ => by simp at h
  | _, _, _, _, o :: outs, @ArgsR.im _ _ _ _ ms rs vs as r v d h t, hl, f => by
    obtain ⟨L, h1, h2, h3, h4⟩ := ArgsR.outs (Hf' := Hf') (H' := H') (outs := outs) t (by simpa using hl) fun k d e => by
      have := f (k + 1) d (by simpa using e)
      simpa using this
    refine ⟨L, fun ρ0 => ?_, by (cases r <;> exact h2), h3, fun k d b e1 e2 => ?_⟩
    · rw [← h1 ρ0]
      cases r <;> rfl
    · cases k with
      | zero => simp at e1
      | succ k => exact h4 k d b (by simpa using e1) (by simpa using e2)
  | _, _, _, _, o :: outs, @ArgsR.mu _ _ _ _ ms rs vs as i x v d e1 e2 e3 t, hl, f => by
    obtain ⟨d', a, q1, q2, q3⟩ := f 0 d rfl
    simp at q1 q2
    subst q1 q2
    obtain ⟨L, h1, h2, h3, h4⟩ := ArgsR.outs (Hf' := Hf') (H' := H') (outs := outs) t (by simpa using hl) fun k d e => by
      have := f (k + 1) d (by simpa using e)
      simpa using this
    refine ⟨(i, a, d') :: L, fun ρ0 => h1 _, by rw [List.map_cons, h2]; rfl, fun t ht => ?_, fun k d b k1 k2 => ?_⟩
    · rcases List.mem_cons.mp ht with z | z
      · subst z; exact ⟨⟨x, d, e1, e2⟩, e3, q3⟩
      · exact h3 t z
    · cases k with
      | zero => simp at k2; subst k2; exact List.mem_cons_self
      | succ k => exact List.mem_cons_of_mem _ (h4 k d b (by simpa using k1) (by simpa using k2))
/-- behind a call -/
def midH (H H' : Hp) (L : List (Nat × Addr × D)) : Hp := fun b => if b ∈ L.map (·.2.1) then H b else H' b
theorem Rep.writeAll {Hf' H' : Hp} : ∀ {L : List (Nat × Addr × D)} {ρ : Env}, (L.map (·.1)).Nodup → Rep M Γ Hf' σ (midH H H' L) ρ → (∀ t ∈ L, (∃ x d, ρ[t.1]? = some x ∧ x.ownD = some d) ∧ σ[t.1]? = some (some (.ref t.2.1)) ∧ LocAt M Hf' H' t.2.2 (.ref t.2.1)) →
    Rep M Γ Hf' σ H' (setOuts L ρ)
  | [], ρ, _, R, _ => by
    have e : midH H H' [] = H' := by funext b; simp [midH]
    rw [e] at R
    exact R
  | (i, a, d') :: L, ρ, nd, R, f => by
    obtain ⟨⟨x, d, e1, e2⟩, e3, e4⟩ := f (i, a, d') List.mem_cons_self
    simp only at e1 e3 e4
    have nd' := List.nodup_cons.mp nd
    obtain ⟨ox, a2, es, hl, fin⟩ := R.ownAt e1 e2
    rw [e3] at es
    cases es
    obtain ⟨_, ea, hn, hh⟩ := e4.ref
    cases ea
    cases ho : H' a with
    | none => exact absurd ho hh
    | some o =>
      -- no other of the places lies at a
      have na : a ∉ L.map (·.2.1) := fun hm => by
        obtain ⟨t, ht, et⟩ := List.mem_map.mp hm
        obtain ⟨⟨x', d'', k1, k2⟩, k3, _⟩ := f t (List.mem_cons_of_mem _ ht)
        have ni : i ≠ t.1 := fun q => nd'.1 (by have z := List.mem_map_of_mem (f := fun t : Nat × Addr × D => t.1) ht; rw [← q] at z; exact z)
        have lt : ∀ {i : Nat} {x : Sl}, ρ[i]? = some x → i < σ.length := fun q => by rw [← R.len]; exact (List.getElem?_eq_some_iff.mp q).1
        refine R.r0.inj i t.1 x x' ni (get_app e1) (get_app k1) (own_of e2) (own_of k2) ?_
        rw [get_left (lt e1), get_left (lt k1), e3, k3, et]
      have eu : upd (midH H H' ((i, a, d') :: L)) a o = midH H H' L := by
        funext b
        by_cases eb : b = a
        · subst eb
          rw [upd_same]
          show some o = if b ∈ L.map (·.2.1) then H b else H' b
          rw [if_neg na, ho]
        · rw [upd_ne eb]
          show (if b ∈ a :: L.map (·.2.1) then H b else H' b) = if b ∈ L.map (·.2.1) then H b else H' b
          have : (b ∈ a :: L.map (·.2.1)) ↔ b ∈ L.map (·.2.1) := by simp [eb]
          simp only [this]
      have R2 := fin d' o (e4.stay (Same.refl _) hn (by rw [upd_same, ho]))
      rw [eu] at R2
      have lt : i < ρ.length := (List.getElem?_eq_some_iff.mp e1).1
      have R3 := Rep.writeAll (L := L) (ρ := ρ.set i (x.withD d')) nd'.2 R2 fun t ht => by
        obtain ⟨⟨x', d'', k1, k2⟩, k3, k4⟩ := f t (List.mem_cons_of_mem _ ht)
        have ni : i ≠ t.1 := fun q => nd'.1 (by have z := List.mem_map_of_mem (f := fun t : Nat × Addr × D => t.1) ht; rw [← q] at z; exact z)
        exact ⟨⟨x', d'', by rw [List.getElem?_set_ne ni]; exact k1, k2⟩, k3, k4⟩
      have e5 : setOuts ((i, a, d') :: L) ρ = setOuts L (ρ.set i (x.withD d')) := by
        show setOuts L (ρ.set i (((ρ[i]?).getD .no).withD d')) = _
        rw [e1]
        rfl
      rw [e5]
      exact R3
theorem Rep.called {Hf Hf' H' : Hp} {ρ : Env} {ms : List Bool} {rs : List Rs} {vs : List V} {as outs : Env} {r : Rs} {v : V} (R : Rep M Γ Hf σ H ρ) (A : ArgsR M Hf σ ρ ms rs vs as) (nd : (mutIx ms rs).Nodup)
    (lo : as.length ≤ outs.length) (B : Back M H Hf vs as Hf' H' outs) : Rep M Γ Hf' σ H' (putBack ms rs outs ρ) ∧ (ResIs M H Hf' H' r v → RsIs M Γ Hf' σ H' (putBack ms rs outs ρ) r v) := by
  obtain ⟨L, h1, h2, h3, h4⟩ := A.outs lo B.out
  have r0 := R.r0
  have clear : ∀ {a : Addr}, Hf a = none → H a ≠ none → Hf' a = none := fun {a} n hh => by
    cases q : Hf' a with
    | none => rfl
    | some u =>
      rcases B.fz a (by rw [q]; simp) with z | z
      · exact absurd n z
      · exact absurd z hh
  have inL : ∀ {b : Addr}, b ∉ L.map (·.2.1) → ∀ o, H b = some o → Kp o (H' b) := fun {b} hb o e => B.fr b o e fun k d e1 e2 => hb (h4 k d b e1 e2)
  have mid : ∀ {b : Addr} {o : HO}, H b = some o → Kp o (midH H H' L b) := fun {b o} e => by
    unfold midH
    by_cases hb : b ∈ L.map (·.2.1)
    · rw [if_pos hb]; exact .inl e
    · rw [if_neg hb]; exact inL hb o e
  have midE : ∀ {b : Addr} {d : D}, LocAt M Hf H d (.ref b) → midH H H' L b = H b := fun {b d} hb => by
    obtain ⟨o, q, t⟩ := hb.nt
    rw [q]
    exact (mid q).same t
  have R1 : Rep M Γ Hf' σ (midH H H' L) ρ := by
    refine ⟨R.len, r0.len, fun b o e => ?_, r0.gr.trans B.up, fun b o e z => (r0.fr b o e z).trans fun o' e' => mid e', fun b e => ?_, fun i d e => ?_, fun i d e => ?_, fun i d e => ?_, r0.inj, fun a z => ?_, r0.paO, (fun P q h => (B.tb P q h).keep (Same.refl _) fun ps e => ?_), r0.tg⟩
    · unfold midH
      by_cases hb : b ∈ L.map (·.2.1)
      · obtain ⟨t, ht, et⟩ := List.mem_map.mp hb
        obtain ⟨_, _, k3⟩ := h3 t ht
        obtain ⟨_, ea, hn, _⟩ := k3.ref
        cases ea
        rw [← et, hn] at e
        cases e
      · rw [if_neg hb]; exact B.sub b o e
    · rcases B.fz b e with z | z
      · exact r0.fz b z
      · refine .inr ?_
        cases q : Γ.g.H0 b with
        | none => rfl
        | some o =>
          by_cases w : Γ.g.pa b
          · exact absurd z (r0.paH b w).1
          · exact absurd z (r0.fr b o q w).ne
    · obtain ⟨v, k1, k2⟩ := r0.im i d e
      exact ⟨v, k1, k2.same B.up⟩
    · obtain ⟨a, k1, k2, k3⟩ := r0.lo i d e
      obtain ⟨_, ea, hn, hh⟩ := k3.ref
      cases ea
      exact ⟨a, k1, k2, k3.stay B.up (clear hn hh) (midE k3)⟩
    · obtain ⟨a, k1, k2, k3⟩ := r0.pa i d e
      obtain ⟨_, ea, hn, hh⟩ := k3.ref
      cases ea
      exact ⟨a, k1, k2, k3.stay B.up (clear hn hh) (midE k3)⟩
    · obtain ⟨k1, k2⟩ := r0.paH a z
      refine ⟨?_, clear k2 k1⟩
      cases q : H a with
      | none => exact absurd q k1
      | some o => exact (mid q).ne
    · unfold midH
      by_cases hb : P ∈ L.map (·.2.1)
      · obtain ⟨t, ht, et⟩ := List.mem_map.mp hb
        obtain ⟨_, _, k3⟩ := h3 t ht
        rw [← et] at e
        exact absurd e k3.ntb
      · rw [if_neg hb]; exact e
  have R2 := R1.writeAll (L := L) (by rw [h2]; exact nd) h3
  rw [← h1 ρ] at R2
  refine ⟨R2, fun hr => ?_⟩
  cases r with
  | slot i => exact hr.elim
  | im d => exact hr
  | nw d =>
    obtain ⟨a, ev, hn, hl⟩ := hr
    refine ⟨a, ev, ?_, hl, fun i x ex ox es => ?_⟩
    · cases q : Γ.g.H0 a with
      | none => rfl
      | some o =>
        by_cases w : Γ.g.pa a
        · exact absurd hn (r0.paH a w).1
        · exact absurd hn (r0.fr a o q w).ne
    · -- the own slots' cells were there before the call
      have old : ∀ {i : Nat} {x : Sl}, (setOuts L ρ ++ Γ.γ)[i]? = some x → x.own → ∃ y, (ρ ++ Γ.γ)[i]? = some y ∧ y.own := by
        have step : ∀ (L : List (Nat × Addr × D)) (ρ : Env), (setOuts L ρ).length = ρ.length ∧ ∀ (i : Nat) x, (setOuts L ρ)[i]? = some x → x.own → ∃ y, ρ[i]? = some y ∧ y.own := by
          intro L
          induction L with
          | nil => intro ρ; exact ⟨rfl, fun i x e o => ⟨x, e, o⟩⟩
          | cons t L ih =>
            intro ρ
            obtain ⟨l1, f1⟩ := ih (ρ.set t.1 (((ρ[t.1]?).getD .no).withD t.2.2))
            refine ⟨l1.trans (by simp), fun i x e o => ?_⟩
            obtain ⟨y, k1, k2⟩ := f1 i x e o
            rcases set_get k1 with ⟨rfl, z⟩ | ⟨_, q⟩
            · subst z
              cases q : ρ[t.1]? with
              | none => rw [q] at k2; exact k2.elim
              | some w =>
                rw [q] at k2
                exact ⟨w, rfl, by cases w <;> first | trivial | exact k2.elim⟩
            · exact ⟨y, q, k2⟩
        intro i x e o
        obtain ⟨l1, f1⟩ := step L ρ
        by_cases lt : i < ρ.length
        · rw [List.getElem?_append_left (by rw [l1]; exact lt)] at e
          obtain ⟨y, k1, k2⟩ := f1 i x e o
          exact ⟨y, get_app k1, k2⟩
        · rw [List.getElem?_append_right (by rw [l1]; omega), l1] at e
          exact ⟨x, by rw [List.getElem?_append_right (by omega)]; exact e, o⟩
      rw [h1 ρ] at ex
      obtain ⟨y, k1, k2⟩ := old ex ox
      cases y with
      | no => exact k2
      | im _ => exact k2
      | lo d' =>
        obtain ⟨b, j1, _, j3⟩ := r0.lo i d' k1
        rw [es] at j1
        cases j1
        obtain ⟨_, ea, _, hh⟩ := j3.ref
        cases ea
        exact hh hn
      | pa d' =>
        obtain ⟨b, j1, _, j3⟩ := r0.pa i d' k1
        rw [es] at j1
        cases j1
        obtain ⟨_, ea, _, hh⟩ := j3.ref
        cases ea
        exact hh hn
end
end Fx

set_option Elab.async false
set_option linter.all false
set_option maxRecDepth 100000
set_option maxHeartbeats 4000000
namespace Fx
open PySem L2
variable [Tb]
section
variable {X : Cx} {CX : CXT} {k : Nat} {f : Addr} {fd : FuncData} {ps ks : List Str} {sp : Sp} {E : XK} {x : Str} {p pos : Pos} {e : Expr} {es : List Expr} {kws : List Keyword} {t tk : TA} {W : WX}
/-- the def at f runs -/
theorem goG {pins : List (Addr × Obj)} {σ : L2.St} {H : Hp} {s : Shared} {Q : VK} {args : PySem.Args} {us : List Value} {vs : List V} (F : FnG X.prog X.w X.K X.mg X.base CX k f fd ps sp) (room : Room k X.A) (hgd : X.A.guards = some []) (bind : BindsTo s fd args (ps.zip us)) (hx : Passes CX X E)
    (I : Inv X pins σ H s) (rel : Vals vs us) (want : sp vs H Q E) : wpAny (model X.prog X.w) X.A (call (.ref f) args.pos args.kw) (EP X pins σ Q) X.xe s := by
  obtain ⟨ap, ak⟩ := args
  refine wpAny_call (codeAny_mono (F.run X.A X.stack s H ⟨ap, ak⟩ us vs Q E room hgd I.env0 bind rel want) fun r s' done => ?_)
  match r, done with
  | .error e, done => exact hx pins σ H s e s' I done
  | .ok (.ret u), done => exact I.after done
  | .ok .next, done => exact done.elim
  | .ok .brk, done => exact done.elim
  | .ok .cont, done => exact done.elim
theorem pe_callG (F : FnG X.prog X.w X.K X.mg X.base CX k f fd ps sp) (room : Room k X.A) (hgd : X.A.guards = some []) (gl : Gl X x) (hm : X.mg x = some (.ref f)) (keep : PySem.W.keepIn X.K (.ref f) = true) (bind : Binds X.K fd ps []) (hx : Passes CX X E) (ha : PA X (e :: es) t)
    (hdb : (x == ("__debug__" : Str)) = false := by decide) (he : starEach (e :: es) X.env = (false, eval e X.env) :: starEach es X.env := by rfl) (hpl : (backTo pos (starEach es X.env)).any (·.1) = false := by rfl) :
    PE X (.Call (.Name x p) (e :: es) [] pos) (fun σ H Q => t σ H fun vs H1 => sp vs H1 Q E) := by
  refine ⟨fun pins s σ H Q I h => wpAny_Call_Name_kw (ld_glob I gl hm ?_ hdb)⟩
  refine PySem.W.callWith_K (h₀ := X.base) I.ok.mod.kin keep (thn (ha.run pos pins s σ H _ I h) ?_) he hpl
  rintro us s1 ⟨vs, H1, I1, rel, q⟩
  have hl : (us ++ []).length = ps.length := by
    have := F.len _ _ _ _ q
    rw [rel.length] at this
    simpa using this
  have b := bind s1 us I1.kIn hl
  rw [List.append_nil] at b
  exact ⟨I1.kIn, goG (args := ⟨us, []⟩) F room hgd b hx I1 rel q⟩
theorem pe_callG0 (F : FnG X.prog X.w X.K X.mg X.base CX k f fd ps sp) (room : Room k X.A) (hgd : X.A.guards = some []) (gl : Gl X x) (hm : X.mg x = some (.ref f)) (keep : PySem.W.keepIn X.K (.ref f) = true) (bind : Binds X.K fd ps []) (hx : Passes CX X E) (hps : ps = [])
    (hdb : (x == ("__debug__" : Str)) = false := by decide) : PE X (.Call (.Name x p) [] [] pos) (fun σ H Q => sp [] H Q E) := by
  refine ⟨fun pins s σ H Q I h => wpAny_Call_Name_kw (ld_glob I gl hm ?_ hdb)⟩
  subst hps
  have b := bind s [] I.kIn rfl
  exact PySem.W.callWith_K0 I.kIn keep (goG (args := ⟨[], []⟩) F room hgd b hx I .nil h)
/-- keywords alone, in the parameters' order by perm (its k-th parameter is the keyword at perm[k]) -/
def permV {α : Type} (perm : List Nat) (ws : List α) : List α := perm.filterMap fun i => ws[i]?
structure KwBinds (K : PySem.W.Frag) (fd : FuncData) (ps ks : List Str) (perm : List Nat) : Prop where
  to : ∀ (s : Shared) (ws : List Value), K.In s.heap → ws.length = ks.length → BindsTo s fd ⟨[], ks.zip ws⟩ (ps.zip (permV perm ws))
theorem permV_vals {vs : List V} {ws : List Value} (h : Vals vs ws) : ∀ perm : List Nat, Vals (permV perm vs) (permV perm ws)
  | [] => .nil
  | i :: perm => by
    have ih := permV_vals h perm
    unfold permV at ih ⊢
    rw [List.filterMap_cons, List.filterMap_cons]
    cases q : vs[i]? with
    | none =>
      rw [h.none_of q]
      exact ih
    | some v =>
      obtain ⟨u, hu, r⟩ := h.get q
      rw [hu]
      exact .cons r ih
theorem pe_callGK (perm : List Nat) (F : FnG X.prog X.w X.K X.mg X.base CX k f fd ps sp) (room : Room k X.A) (hgd : X.A.guards = some []) (gl : Gl X x) (hm : X.mg x = some (.ref f)) (keep : PySem.W.keepIn X.K (.ref f) = true) (bind : KwBinds X.K fd ps ks perm) (hx : Passes CX X E) (hkw : PK X kws tk)
    (hall : (backToKw pos (keywordEach kws X.env)).all (·.1.isSome) = true := by rfl) (hks : (backToKw pos (keywordEach kws X.env)).filterMap (·.1) = ks := by rfl) (hdb : (x == ("__debug__" : Str)) = false := by decide)
    (hpl : ((backTo pos (starEach [] X.env)).any (·.1) || (backToKw pos (keywordEach kws X.env)).any (·.1.isNone)) = false := by rfl) :
    PE X (.Call (.Name x p) [] kws pos) (fun σ H Q => tk σ H fun zs H1 => zs.length = ks.length ∧ sp (permV perm zs) H1 Q E) := by
  refine ⟨fun pins s σ H Q I h => wpAny_Call_Name_kw (ld_glob I gl hm ?_ hdb)⟩
  refine PySem.W.callWith_KW0 (h₀ := X.base) I.ok.mod.kin keep hall (thn (hkw.run pos pins s σ H _ I h) ?_) hpl
  rintro ws s1 ⟨zs, H1, I1, rel, hl, q⟩
  rw [hks]
  exact ⟨I1.kIn, goG (args := ⟨[], ks.zip ws⟩) F room hgd (bind.to s1 ws I1.kIn (by rw [← rel.length]; exact hl)) hx I1 (permV_vals rel perm) q⟩
end
theorem Rep.h0 {M : Md} {Γ : Gh} {Hf : Hp} {σ : L2.St} {H : Hp} {ρ : Env} (R : Rep M Γ Hf σ H ρ) {p : Addr} (hp : H p = none) : Γ.g.H0 p = none := by
  cases q : Γ.g.H0 p with
  | none => rfl
  | some u =>
    by_cases z : Γ.g.pa p
    · exact absurd hp (R.r0.paH p z).1
    · exact absurd hp (R.r0.fr p u q z).ne
theorem ExIs.old {M : Md} {Γ : Gh} {Hf Hf' H' : Hp} {σ : L2.St} {H : Hp} {ρ : Env} {x : Exn} {c : Value} {d : Option Addr} (R : Rep M Γ Hf σ H ρ) (h : ExIs M H Hf' H' x c d) : ExIs M Γ.g.H0 Hf' H' x c d := by
  obtain ⟨h1, dd, vs, h2, h3, h4⟩ := h
  exact ⟨h1, dd, vs, h2, R.h0 h3, h4⟩
/-- the functional reading of a call -/
theorem call_end {M : Md} {W : WX} {Fn : Env → Rz (Env × Rs)} {n : Nat} {E : XK} {Γ : Gh} {Hf : Hp} {σ : L2.St} {H : Hp} {ρ : Env} {rs : List Rs} {vs : List V} {ms : List Bool} {Q : VK} (R : Rep M Γ Hf σ H ρ) (ha : HsAll M Hf σ rs vs) (hn : vs.length = n)
    (hE : ∀ x outs, (∃ as, Fn as = .ex x outs) → ∀ c d H', W c d σ H' → E c d H') (hlen : ∀ as r, Fn as = .ok r → as.length ≤ r.1.length) (hlenX : ∀ as x o, Fn as = .ex x o → as.length ≤ o.length)
    (h : (callBy Fn ms ρ rs).wp (fun p => ∀ Hf' H' v, Same Hf Hf' → Rep M Γ Hf' σ H' p.1 → RsIs M Γ Hf' σ H' p.1 p.2 v → Q v H') (EPf M W Γ Hf σ)) : spN n M Fn vs H Q E := by
  refine ⟨hn, ?_⟩
  unfold callBy at h
  cases u : useIm ms ρ rs with
  | no => rw [u] at h; exact h.elim
  | ex _ _ => exact absurd u useIm_noex
  | ok q =>
    rw [u] at h
    obtain ⟨Hf1, S1, R1, P1⟩ := R.useIm ha (ρ' := q.1) (as := q.2) u
    obtain ⟨as, e1, h⟩ := ofO_bind h
    obtain ⟨nd, h⟩ := ite_wp h
    have nd := of_decide_eq_true nd
    have A := P1.fill e1
    refine ⟨Hf1, as, R1.args A nd, ?_⟩
    cases uf : Fn as with
    | no => rw [uf] at h; exact h.elim
    | ok r =>
      rw [uf] at h
      intro Hf' H' v B hr
      obtain ⟨R2, fin⟩ := R1.called (r := r.2) (v := v) A nd (hlen as r uf) B
      exact h Hf' H' v (S1.trans B.up) R2 (fin hr)
    | ex x o =>
      rw [uf] at h
      intro Hf' H' c d B he
      obtain ⟨R2, _⟩ := R1.called (r := .im .non) (v := .non) A nd (hlenX as x o uf) B
      exact hE x o ⟨as, uf⟩ c d H' (h Hf' H' c d (S1.trans B.up) R2 (he.old R1))
/-- outs are as long as the arguments -/
def Long (F : Env → Rz (Env × Rs)) : Prop := (∀ as r, F as = .ok r → as.length ≤ r.1.length) ∧ ∀ as x o, F as = .ex x o → as.length ≤ o.length
theorem okOuts_len : ∀ {args outs : Env}, okOuts args outs = true → args.length ≤ outs.length
  | [], _, _ => Nat.zero_le _
  | .pa _ :: _, .pa _ :: outs, h => Nat.succ_le_succ (okOuts_len (outs := outs) h)
  | .pa _ :: _, [], h => by cases h
  | .pa _ :: _, .no :: _, h => by cases h
  | .pa _ :: _, .im _ :: _, h => by cases h
  | .pa _ :: _, .lo _ :: _, h => by cases h
  | .no :: _, o :: outs, h => Nat.succ_le_succ (okOuts_len (outs := outs) (by cases o <;> exact h))
  | .im _ :: _, o :: outs, h => Nat.succ_le_succ (okOuts_len (outs := outs) (by cases o <;> exact h))
  | .lo _ :: _, o :: outs, h => Nat.succ_le_succ (okOuts_len (outs := outs) (by cases o <;> exact h))
  | .no :: _, [], h => by cases h
  | .im _ :: _, [], h => by cases h
  | .lo _ :: _, [], h => by cases h
theorem long_run (n : Nat) (body : Env → Rz (Env × Fl)) : Long (runF n body) := by
  constructor
  · intro as r h
    unfold runF at h
    split at h
    · rename_i ρ' fl e
      cases ho : okOuts as ρ' with
      | false => rw [ho] at h; cases h
      | true =>
        rw [ho] at h
        have l := okOuts_len ho
        cases fl with
        | nx => cases h; simp [l]
        | bk => cases h
        | ct => cases h
        | rt r0 =>
          replace h : ((retV ρ' r0).bind fun r' => Rz.ok (ρ'.take as.length, r')) = .ok r := h
          cases e2 : retV ρ' r0 with
          | ok r' => rw [e2] at h; cases h; simp [l]
          | no => rw [e2] at h; cases h
          | ex _ _ => rw [e2] at h; cases h
    · rename_i x ρ' e
      cases ho : okOuts as ρ' with
      | false => rw [ho] at h; cases h
      | true => rw [ho] at h; cases h
    · cases h
  · intro as x o h
    unfold runF at h
    split at h
    · rename_i ρ' fl e
      cases ho : okOuts as ρ' with
      | false => rw [ho] at h; cases h
      | true =>
        rw [ho] at h
        cases fl with
        | nx => cases h
        | bk => cases h
        | ct => cases h
        | rt r0 =>
          replace h : ((retV ρ' r0).bind fun r' => Rz.ok (ρ'.take as.length, r')) = .ex x o := h
          cases e2 : retV ρ' r0 with
          | ok r' => rw [e2] at h; cases h
          | no => rw [e2] at h; cases h
          | ex x2 o2 =>
            exfalso
            cases r0 with
            | im _ => cases e2
            | nw _ => cases e2
            | slot i =>
              unfold retV at e2
              cases q : ρ'[i]? with
              | none => simp [q] at e2
              | some y => cases y <;> simp [q] at e2
    · rename_i x2 ρ' e
      cases ho : okOuts as ρ' with
      | false => rw [ho] at h; cases h
      | true =>
        rw [ho] at h
        cases h
        have l := okOuts_len ho
        simp [l]
    · cases h
theorem Long.noX {F : Env → Rz (Env × Rs)} (h : Long F) : Long fun a => noX (F a) := by
  constructor
  · intro as r e
    cases u : F as with
    | ok r' => simp [u, Fx.noX] at e; subst e; exact h.1 as r' u
    | no => simp [u, Fx.noX] at e
    | ex _ _ => simp [u, Fx.noX] at e
  · intro as x o e
    cases u : F as <;> simp [u, Fx.noX] at e
section
variable {X : Cx} {W : WX} {k : Nat} {f : Addr} {fd : FuncData} {ps ks : List Str} {x : Str} {p pos : Pos} {e : Expr} {es : List Expr} {kws : List Keyword} {Fn : Env → Rz (Env × Rs)} {args : Env → Rz (Env × List Rs)}
theorem noX_noex {α : Type} {r : Rz α} {x : Exn} {ρ : Env} : noX r ≠ .ex x ρ := by cases r <;> (intro h; cases h)
/-- a def of the module as it stands: its function object, how it binds -/
structure DefF (K : PySem.W.Frag) (mg : Str → Option Value) (x : Str) (st : Stmt) (ps : List Str) : Prop where
  ex : ∃ f fd, mg x = some (.ref f) ∧ Fun K x x st f fd ∧ Binds K fd ps []
/-- a def's facts, as a call asks them -/
structure Defd (P : Program) (w : World) (K : PySem.W.Frag) (mg : Str → Option Value) (base : Heap) (k : Nat) (x : Str) (st : Stmt) (ps : List Str) (Fn : Env → Rz (Env × Rs)) : Prop where
  ex : ∃ f fd, FnG P w K mg base CX0 k f fd ps (spN ps.length ⟨K, mg⟩ fun a => noX (Fn a)) ∧ mg x = some (.ref f) ∧ Fun K x x st f fd ∧ Binds K fd ps []
  long : Long Fn
section
variable {P : Program} {w : World} {K : PySem.W.Frag} {mg : Str → Option Value} {base : Heap} {j k : Nat} {st : Stmt} {N : List Str} {body : Env → Rz (Env × Fl)}
theorem Defd.mono (D : Defd P w K mg base j x st ps Fn) (h : j ≤ k) : Defd P w K mg base k x st ps Fn := by
  obtain ⟨⟨f, fd, F, r⟩, l⟩ := D
  exact ⟨⟨f, fd, F.mono h, r⟩, l⟩
/-- nothing is promised -/
theorem Defd.zero (D : DefF K mg x st ps) : Defd P w K mg base k x st ps fun _ => .no := by
  obtain ⟨f, fd, hm, F, b⟩ := D.ex
  refine ⟨⟨f, fd, ⟨fun vs H Q E h => h.1, fun A outer s H args us vs Q E _ _ _ _ _ h => ?_⟩, hm, F, b⟩, ⟨(fun as r e => by cases e), (fun as x o e => by cases e)⟩⟩
  obtain ⟨_, Hf, args, _, hw⟩ := h
  exact hw.elim
/-- by its body -/
theorem Defd.of {n : Nat} (D : DefF K mg x st ps) (S : FnScope N ps (defScope st)) (hn : N.length = n) (hps : ps.length ≤ N.length)
    (hbody : ∀ (cdv : Value) (A : Around) (outer : List PySem.Env) (f : Addr) (s : Shared) (H : Hp) (E : XK), Room k (A.deeper (frameOf x (defScope st) s f cdv)) → A.guards = some [] →
      RSs (cxOf CX0 P w K mg base N x (defScope st) f cdv A outer s H E).nox W0 (defBody st) body) : Defd P w K mg base (k + 1) x st ps (runF n body) := by
  subst hn
  obtain ⟨f, fd, hm, F, b⟩ := D.ex
  exact ⟨⟨f, fd, fun_okG F S hps fun cdv A outer s H E hr hg => hbody cdv A outer f s H E hr hg, hm, F, b⟩, long_run _ _⟩
end
/-- a call with n arguments -/
def eCallN (n : Nat) (F : Env → Rz (Env × Rs)) (ms : List Bool) (args : Env → Rz (Env × List Rs)) : Env → Rz (Env × Rs) := fun ρ => (args ρ).bind fun p => if decide (p.2.length = n) = true then callBy F ms p.1 p.2 else .no
theorem HsAll.length {M : Md} {Hf : Hp} {σ : L2.St} {rs : List Rs} {vs : List V} (h : HsAll M Hf σ rs vs) : rs.length = vs.length := by
  induction h with
  | nil => rfl
  | cons _ _ ih => simp [ih]
theorem re_call (ms : List Bool) {st : Stmt} {n : Nat} (D : Defd X.prog X.w X.K X.mg X.base k x st ps Fn) (room : Room k X.A) (hgd : X.A.guards = some []) (ha : RHs X W (e :: es) args) (hn : ps.length = n := by rfl) (gl : Gl X x := by rfl)
    (hdb : (x == ("__debug__" : Str)) = false := by decide) (he : starEach (e :: es) X.env = (false, eval e X.env) :: starEach es X.env := by rfl) (hpl : (backTo pos (starEach es X.env)).any (·.1) = false := by rfl) :
    RE X W (.Call (.Name x p) (e :: es) [] pos) (eCallN n (fun a => noX (Fn a)) ms args) := by
  subst hn
  obtain ⟨⟨f, fd, F, hm, FF, bind⟩, long⟩ := D
  refine pe_mono (pe_callG F room hgd gl hm FF.kp bind pass0 ha hdb he hpl) fun σ H Q ⟨Γ, Hf, ρ, R, hw⟩ => ?_
  refine ⟨Γ, Hf, ρ, R, ?_⟩
  have hw' := Rz.wp_bind hw
  cases u : args ρ with
  | no => rw [u] at hw'; exact hw'.elim
  | ex x ρ' => rw [u] at hw'; exact hw'
  | ok pr =>
    rw [u] at hw'
    obtain ⟨hl, hw'⟩ := ite_wp hw'
    have hl := of_decide_eq_true hl
    intro Hf1 H1 vs S1 R1 hvs
    exact call_end R1 hvs (by rw [← hvs.length]; exact hl) (fun x outs ⟨as, e⟩ => absurd e noX_noex) long.noX.1 long.noX.2
      (Rz.wp_mono hw' (fun p hp Hf' H' v S R h => hp Hf' H' v (S1.trans S) R h) (EPf.up S1))
/-! ### keywords -/
abbrev RHk (X : Cx) (W : WX) (kws : List Keyword) (f : Env → Rz (Env × List Rs)) : Prop := PK X kws (rdHs ⟨X.K, X.mg⟩ W f)
theorem pk_mono {t t' : TA} (h : PK X kws t) (i : ∀ σ H Q, t' σ H Q → t σ H Q) : PK X kws t' := ⟨fun pos pins s σ H Q I q => h.run pos pins s σ H Q I (i σ H Q q)⟩
theorem rk_nil : RHk X W [] aNil := pk_mono pk_nil fun σ H Q ⟨Γ, Hf, ρ, R, hw⟩ => hw Hf H [] (Same.refl _) R .nil
theorem rk_cons {nm : Option Str} {kpos : Pos} {f : Env → Rz (Env × Rs)} {g : Env → Rz (Env × List Rs)} (ha : RH X W e f) (hr : RHk X W kws g) : RHk X W (⟨nm, e, kpos⟩ :: kws) (aCons f g) :=
  pk_mono (pk_cons ha hr) fun σ H Q ⟨Γ, Hf, ρ, R, hw⟩ => bindH R hw fun ρ1 r Hf1 H1 v S1 R1 hv hq =>
    bindHs R1 hq fun ρ2 rs Hf2 H2 vs S2 R2 hvs hq2 => hq2 Hf2 H2 _ (S1.trans S2) R2 (.cons (hv.up S2) hvs)
end
end Fx

set_option Elab.async false
set_option linter.all false
set_option maxRecDepth 100000
set_option maxHeartbeats 4000000
namespace Fx
open PySem L2
variable [Tb]
theorem _root_.L2.Room.u64 {k : Nat} {A : Around} (r : Room k A) : A.units + 64 < cLine := by have := r.un; omega
theorem _root_.L2.Room.u65 {k : Nat} {A : Around} (r : Room k A) : A.units + 65 < cLine := by have := r.un; omega
theorem _root_.L2.Room.u70 {k : Nat} {A : Around} (r : Room k A) : A.units + 70 < cLine := by have := r.un; omega
section
variable {X : Cx} {W : WX} {k : Nat} {f : Addr} {fd : FuncData} {ps ks : List Str} {x : Str} {p pos : Pos} {e : Expr} {es : List Expr} {kws : List Keyword} {Fn : Env → Rz (Env × Rs)} {args : Env → Rz (Env × List Rs)}
/-- a call by keywords: n of them, m parameters -/
def eCallK (n m : Nat) (perm : List Nat) (F : Env → Rz (Env × Rs)) (ms : List Bool) (args : Env → Rz (Env × List Rs)) : Env → Rz (Env × Rs) := fun ρ => (args ρ).bind fun p =>
  if (decide (p.2.length = n) && decide ((permV perm p.2).length = m)) = true then callBy F ms p.1 (permV perm p.2) else .no
theorem HsAll.perm {M : Md} {Hf : Hp} {σ : L2.St} {rs : List Rs} {vs : List V} (h : HsAll M Hf σ rs vs) : ∀ perm : List Nat, HsAll M Hf σ (permV perm rs) (permV perm vs)
  | [] => .nil
  | i :: perm => by
    have ih := HsAll.perm h perm
    unfold permV at ih ⊢
    rw [List.filterMap_cons, List.filterMap_cons]
    have both : (rs[i]? = none ∧ vs[i]? = none) ∨ ∃ r v, rs[i]? = some r ∧ vs[i]? = some v ∧ HsIs M Hf σ r v := by
      clear ih
      induction h generalizing i with
      | nil => exact .inl ⟨by simp, by simp⟩
      | @cons r rs v vs h1 h2 ih =>
        cases i with
        | zero => exact .inr ⟨r, v, by simp, by simp, h1⟩
        | succ i => simpa using ih i
    rcases both with ⟨e1, e2⟩ | ⟨r, v, e1, e2, hv⟩
    · rw [e1, e2]; exact ih
    · rw [e1, e2]; exact .cons hv ih
theorem re_callK (ks : List Str) (perm : List Nat) (ms : List Bool) {st : Stmt} {n n2 : Nat} (D : Defd X.prog X.w X.K X.mg X.base k x st ps Fn) (room : Room k X.A) (hgd : X.A.guards = some [])
    (hb : ∀ (kV doc pm : Value) (an : Option Addr) (cdv ct : Value) (us : List Value), us.length = ks.length → bindArgs (PySem.W.fnOf x x (defArgs st) (defBody st) (defScope st) .none kV doc pm an cdv ct) ⟨[], ks.zip us⟩ = pure (ps.zip (permV perm us)))
    (ha : RHk X W kws args) (hn : ks.length = n := by rfl) (hn2 : ps.length = n2 := by rfl) (gl : Gl X x := by rfl) (hall : (backToKw pos (keywordEach kws X.env)).all (·.1.isSome) = true := by rfl) (hks : (backToKw pos (keywordEach kws X.env)).filterMap (·.1) = ks := by rfl) (hdb : (x == ("__debug__" : Str)) = false := by decide)
    (hpl : ((backTo pos (starEach [] X.env)).any (·.1) || (backToKw pos (keywordEach kws X.env)).any (·.1.isNone)) = false := by rfl) :
    RE X W (.Call (.Name x p) [] kws pos) (eCallK n n2 perm (fun a => noX (Fn a)) ms args) := by
  subst hn hn2
  obtain ⟨⟨f, fd, F, hm, FF, bind⟩, long⟩ := D
  have kb : KwBinds X.K fd ps ks perm := ⟨fun s ws _ hl => by
    obtain ⟨oc, od, kV, doc, pm, an, cdv, ct, osl, rfl, _, _⟩ := FF.ex
    exact .of_eq (hb kV doc pm an cdv ct ws hl)⟩
  refine pe_mono (pe_callGK perm F room hgd gl hm FF.kp kb pass0 ha hall hks hdb hpl) fun σ H Q ⟨Γ, Hf, ρ, R, hw⟩ => ?_
  refine ⟨Γ, Hf, ρ, R, ?_⟩
  have hw' := Rz.wp_bind hw
  cases u : args ρ with
  | no => rw [u] at hw'; exact hw'.elim
  | ex x ρ' => rw [u] at hw'; exact hw'
  | ok pr =>
    rw [u] at hw'
    obtain ⟨hl, hw'⟩ := ite_wp hw'
    rw [Bool.and_eq_true] at hl
    have h1 := of_decide_eq_true hl.1
    have h2 := of_decide_eq_true hl.2
    intro Hf1 H1 vs S1 R1 hvs
    have hp := hvs.perm perm
    refine ⟨by rw [← hvs.length]; exact h1, ?_⟩
    exact call_end R1 hp (by rw [← hp.length]; exact h2) (fun x outs ⟨as, e⟩ => absurd e noX_noex) long.noX.1 long.noX.2
      (Rz.wp_mono hw' (fun p hp Hf' H' v S R h => hp Hf' H' v (S1.trans S) R h) (EPf.up S1))
end
/-! ### what stands at the module's top -/
theorem DefF.of {K : PySem.W.Frag} {h : Heap} {mg : Str → Option Value} {x : Str} {st : Stmt} {ps : List Str} {f : Addr} {od an : Option Addr} {sl : Array (Option Value)} {oc kV dc pm cd ct : Value} (X : K.In h) (G : h.Ns mainGlobals mg)
    (a : PySem.W.nsIn K mainGlobals x = some (some (.ref f))) (l : K.lookup f = some ⟨oc, od, .func (PySem.W.fnOf x x (defArgs st) (defBody st) (defScope st) .none kV dc pm an cd ct), sl⟩) (c : PySem.W.codeIn K cd x = true) (k : PySem.W.keepIn K (.ref f) = true)
    (hb : ∀ (kV doc pm : Value) (an : Option Addr) (cdv ct : Value) (us : List Value), us.length = ps.length → bindArgs (PySem.W.fnOf x x (defArgs st) (defBody st) (defScope st) .none kV doc pm an cdv ct) ⟨us, []⟩ = pure (ps.zip us)) : DefF K mg x st ps :=
  let F := fun_mk (st := st) l c k
  ⟨⟨f, _, PySem.W.mg_of X G a, F, F.binds hb⟩⟩
/-- a constant of the module -/
structure GlobC (K : PySem.W.Frag) (mg : Str → Option Value) (x : Str) (d : D) : Prop where
  ex : ∃ v u, mg x = some u ∧ RelV v u ∧ ∀ G, Has ⟨K, mg⟩ G d v
theorem GlobC.str {K : PySem.W.Frag} {h : Heap} {mg : Str → Option Value} {x z : Str} {t : Tok} (X : K.In h) (G : h.Ns mainGlobals mg) (a : PySem.W.nsIn K mainGlobals x = some (some (.str z t))) : GlobC K mg x (.str z) :=
  ⟨⟨.str z, .str z t, PySem.W.mg_of X G a, ⟨t, rfl⟩, fun _ => .str z⟩⟩
theorem GlobC.int {K : PySem.W.Frag} {h : Heap} {mg : Str → Option Value} {x : Str} {z : Int} {t : Tok} (X : K.In h) (G : h.Ns mainGlobals mg) (a : PySem.W.nsIn K mainGlobals x = some (some (.int z t))) : GlobC K mg x (.int z) :=
  ⟨⟨.int z, .int z t, PySem.W.mg_of X G a, ⟨t, rfl⟩, fun _ => .int z⟩⟩
/-- a tuple of texts and whole numbers -/
inductive AtomIs : D → Value → Prop
  | str (z t) : AtomIs (.str z) (.str z t)
  | int (z t) : AtomIs (.int z) (.int z t)
  | non : AtomIs .non .none
  | bl (b) : AtomIs (.bl b) (.bool b)
inductive AtomsAre : List D → List Value → Prop
  | nil : AtomsAre [] []
  | cons {d ds v vs} : AtomIs d v → AtomsAre ds vs → AtomsAre (d :: ds) (v :: vs)
theorem AtomIs.v {d : D} {u : Value} (h : AtomIs d u) : ∃ v, RelV v u ∧ ∀ (M : Md) G, Has M G d v := by
  cases h with
  | str z t => exact ⟨.str z, ⟨t, rfl⟩, fun M G => .str z⟩
  | int z t => exact ⟨.int z, ⟨t, rfl⟩, fun M G => .int z⟩
  | non => exact ⟨.non, rfl, fun M G => .non⟩
  | bl b => exact ⟨.bl b, rfl, fun M G => .bl b⟩
theorem AtomsAre.vs {ds : List D} {us : List Value} (h : AtomsAre ds us) : ∃ vs, Vals vs us ∧ ∀ (M : Md) G, HasAll M G ds vs := by
  induction h with
  | nil => exact ⟨[], .nil, fun M G => .nil⟩
  | cons h _ ih =>
    obtain ⟨v, r, f⟩ := h.v
    obtain ⟨vs, rs, fs⟩ := ih
    exact ⟨v :: vs, .cons r rs, fun M G => .cons (f M G) (fs M G)⟩
theorem GlobC.tup {K : PySem.W.Frag} {h : Heap} {mg : Str → Option Value} {x : Str} {b : Addr} {ds : List D} {o : Obj} {its : Array Value} {n : Nat} (X : K.In h) (G : h.Ns mainGlobals mg) (a : PySem.W.nsIn K mainGlobals x = some (some (.ref b)))
    (l : K.lookup b = some o) (hc : o.cls = .type "tuple") (hd : o.data = .seq its n) (hs : its.size ≤ sizeLine) (e : AtomsAre ds its.toList) : GlobC K mg x (.nd .tup ds) := by
  obtain ⟨vs, r, f⟩ := e.vs
  exact ⟨⟨.ref b, .ref b, PySem.W.mg_of X G a, rfl, fun H => .tup (.inr ⟨o, its, n, l, hc, hd, hs, r⟩) (f _ _)⟩⟩
theorem rv_globC {X : Cx} {W : WX} {x : Str} {d : D} {pos : Pos} (h : GlobC X.K X.mg x d) (hg : Gl X x := by rfl) (hd : (x == ("__debug__" : Str)) = false := by decide) : RV X W (.Name x pos) (vC d) := by
  obtain ⟨v, u, e, r, hh⟩ := h.ex
  exact rv_glob hg e r hh hd
end Fx

set_option Elab.async false
set_option linter.all false
set_option maxRecDepth 100000
set_option maxHeartbeats 4000000
namespace Fx
open PySem L2
variable [Tb]
/-! ### dicts whose keys are nested tuples -/
mutual
def D.nk : D → Option NestedKey
  | .non => some .none
  | .bl b => some (.num (if b = true then 1 else 0))
  | .int i => some (.num i)
  | .str x => some (.text x)
  | .ob _ => none
  | .nd .tup xs => (D.nks xs).map .tup
  | .nd .lst _ => none
  | .nd .scr _ => none
  | .nd (.dct _) _ => none
  | .nd (.obj _ _) _ => none
  | .nd (.exn _ _) _ => none
  | .nd .tupN _ => none
  | .nd (.dcx _) _ => none
def D.nks : List D → Option (List NestedKey)
  | [] => some []
  | x :: xs => (D.nk x).bind fun k => (D.nks xs).map fun ks => k :: ks
end
section
variable {X : Cx} {pins : List (Addr × Obj)} {σ : L2.St} {H : Hp} {s : Shared}
mutual
theorem Has.key (I : Inv X pins σ H s) : ∀ {d : D} {v : V} {u : Value} {k : NestedKey}, Has ⟨X.K, X.mg⟩ H d v → D.nk d = some k → RelV v u → NestedIs s.heap k u
  | _, _, _, _, .non, e, r => by rw [D.nk] at e; cases e; cases r; exact .none
  | _, _, _, _, .bl b, e, r => by rw [D.nk] at e; cases e; cases r; exact .bool rfl
  | _, _, _, _, .int i, e, r => by rw [D.nk] at e; cases e; obtain ⟨t, rfl⟩ := r; exact .int i t
  | _, _, _, _, .str x, e, r => by rw [D.nk] at e; cases e; obtain ⟨t, rfl⟩ := r; exact .text x t
  | _, _, _, _, .ob a, e, _ => by rw [D.nk] at e; cases e
  | _, _, _, _, .tup q t, e, r => by
    rw [D.nk] at e
    obtain ⟨ks, h1, rfl⟩ := Option.map_eq_some_iff.mp e
    cases r
    obtain ⟨its, rv, ⟨o, ho, hc, n, hd⟩, _⟩ := I.tuple q
    exact .tup ho hc hd (HasAll.keys I t h1 (by simpa using rv))
  | _, _, _, _, .lst _ _, e, _ => by rw [D.nk] at e; cases e
  | _, _, _, _, .scr _ _, e, _ => by rw [D.nk] at e; cases e
  | _, _, _, _, .dct _ _, e, _ => by rw [D.nk] at e; cases e
  | _, _, _, _, .obj _ _ _, e, _ => by rw [D.nk] at e; cases e
  | _, _, _, _, .exn _ _ _ _, e, _ => by rw [D.nk] at e; cases e
  | _, _, _, _, .tupN _ _ _, e, _ => by rw [D.nk] at e; cases e
  | _, _, _, _, .dcx _, e, _ => by rw [D.nk] at e; cases e
theorem HasAll.keys (I : Inv X pins σ H s) : ∀ {ds : List D} {vs : List V} {us : List Value} {ks : List NestedKey}, HasAll ⟨X.K, X.mg⟩ H ds vs → D.nks ds = some ks → Vals vs us → NestedAll s.heap ks us
  | _, _, _, _, .nil, e, r => by rw [D.nks] at e; cases e; cases r; exact .nil
  | _, _, _, _, .cons h t, e, r => by
    rw [D.nks] at e
    obtain ⟨k, h1, h2⟩ := Option.bind_eq_some_iff.mp e
    obtain ⟨ks, h3, rfl⟩ := Option.map_eq_some_iff.mp h2
    cases r with
    | cons r1 r2 => exact .cons (Has.key I h h1 r1) (HasAll.keys I t h3 r2)
end
end
/-- the tuple at b is the key k -/
def KeyAt (M : Md) (G : Hp) (k : NestedKey) (b : Addr) : Prop := ∃ d, Has M G d (.ref b) ∧ D.nk d = some k ∧ k.depth ≤ 8
theorem KeyAt.same {M : Md} {G G' : Hp} {k : NestedKey} {b : Addr} (h : KeyAt M G k b) (S : Same G G') : KeyAt M G' k b := by
  obtain ⟨d, h1, h2⟩ := h
  exact ⟨d, h1.same S, h2⟩
abbrev entN (P : Program) (w : World) (x : NestedKey × Addr × Value) : DictEntry := entryOfKey (nestedKind P w) x
section
variable {X : Cx}
/-- {} -/
def tDN : TE := fun _ H Q => ∀ p, H p = none → Q (.ref p) (upd H p (.ext (dcxRaw p [])))
theorem dcx_ok {P : Program} {w : World} {H : Hp} {h : Heap} {a : Addr} {es : List DictEntry} (x : dcxRaw a es h) : ObjOk P w H h a (.ext (dcxRaw a es)) := by
  refine ⟨x, ?_, fun h1 h2 q k => ?_⟩
  · obtain ⟨_, o, _, _, e, _⟩ := x
    exact ⟨o, e⟩
  · obtain ⟨n, o, arr, ep, e, r⟩ := q
    exact ⟨n, o, arr, ep, k o e, r⟩
theorem pe_dN {pos : Pos} : PE X (.Dict [] [] pos) tDN := ⟨fun pins s σ H Q I h => by
  have n : (s.heap.objs.size == sysModules) = false := by
    exact beq_eq_false_iff_ne.mpr (Nat.ne_of_gt I.big)
  refine wpAny_Dict_empty ⟨.ref s.heap.objs.size, _, I.laid (a := s.heap.objs.size) (t' := s.toks) (fun _ _ q => Heap.get?_push_of_some _ q) (Nat.le_refl _) (dcx_ok ⟨n, _, #[], 0, Heap.get?_push_size _ rfl, ⟨rfl, rfl, rfl⟩, rfl, rfl⟩), rfl, h _ (I.hok.fresh (Nat.le_refl _))⟩⟩
def eDn : Env → Rz (Env × Rs) := fun ρ => .ok (ρ, .nw (.nd (.dcx []) []))
theorem re_dn {W : WX} {pos : Pos} : RE X W (.Dict [] [] pos) eDn := pe_mono pe_dN fun σ H Q ⟨Γ, Hf, ρ, R, hw⟩ p hp => by
  obtain ⟨R2, h0, hf, hn⟩ := R.layN hp (.ext (dcxRaw p []))
  exact hw Hf _ _ (Same.refl _) R2 ⟨p, rfl, h0, .dcx hf upd_same, hn⟩
/-- d.setdefault(k, v) -/
def rSD (P : Program) (w : World) (M : Md) : V → List V → Hp → VK → Prop := fun x xs H Q => ∃ (a kb : Addr) (dv : V) (k : NestedKey) (ents : List (NestedKey × Addr × Value)), x = .ref a ∧ xs = [.ref kb, dv] ∧ H a = some (.ext (dcxRaw a (ents.map (entN P w)))) ∧
  (ents.map (·.1)).Nodup ∧ ents.length < sizeLine ∧ (∀ e ∈ ents, KeyAt M H e.1 e.2.1) ∧ KeyAt M H k kb ∧ (∀ p, atKey ents k = some p → ∀ v, RelV v p.2 → Q v H) ∧ (∀ p, atKey ents k = some p → ∃ v, RelV v p.2) ∧
  (atKey ents k = none → ∀ u, RelV dv u → Q dv (upd H a (.ext (dcxRaw a ((ents ++ [(k, kb, u)]).map (entN P w))))))
theorem mt_sd (hu : X.A.units + 64 < cLine) : MtR X "dict.setdefault" (rSD X.prog X.w ⟨X.K, X.mg⟩) := by
  intro pins s σ H x xs v us Q I rx rxs h
  obtain ⟨a, kb, dv, k, ents, rfl, rfl, ha, nd, hl, hk, hkb, q1, q0, q2⟩ := h
  cases rx
  obtain ⟨u1, u2, rfl, r1, r2⟩ := vals2 rxs
  cases r1
  obtain ⟨⟨hd, o, arr, ep, ho, hc, hdat, hes⟩, _, _⟩ := I.hok a _ ha
  have isK : ∀ {k : NestedKey} {b : Addr}, KeyAt ⟨X.K, X.mg⟩ H k b → (nestedKind X.prog X.w).is s.heap k b := fun {k b} ⟨d, h1, h2, h3⟩ => ⟨Has.key I h1 h2 rfl, h3⟩
  have dd : s.heap.DictOfH (nestedKind X.prog X.w) a ents := ⟨o, arr, ep, ho, hc, hdat, hes, fun e he => isK (hk e he), nd⟩
  refine call_setdefault_heap (hsz := Nat.le_of_lt hl) (by show X.A.in1.units + 8 < cLine; show X.A.units + 1 + 8 < cLine; omega) (isK hkb) hd dd (fun p hp => ?_) fun hn h' dd' hs => ?_
  · obtain ⟨v, rv⟩ := q0 p hp
    show EP X pins σ Q p.2 _
    exact ⟨v, H, I.tok _, rv, q1 p hp v rv⟩
  · rw [storedH_new hn] at dd'
    obtain ⟨o2, arr2, ep2, ho2, hc2, hdat2, hes2, _, nd2⟩ := dd'
    have I2 := d_write (t' := s.toks + (nestedKind X.prog X.w).draws k) (ob := .ext (dcxRaw a ((ents ++ [(k, kb, u2)]).map (entN X.prog X.w)))) I (by rw [ha]; exact True.intro) hs ⟨o2, ho2⟩ (dcx_ok ⟨hd, o2, arr2, ep2, ho2, hc2, hdat2, hes2⟩)
    show EP X pins σ Q u2 _
    exact ⟨dv, _, I2, r2, q2 hn u2 r2⟩
/-- the method's object is such a dict -/
def tSD (r : V → List V → Hp → VK → Prop) (to : TE) (t : TA) : TE := fun σ H Q => to σ H fun x H1 => (∃ a es, x = .ref a ∧ H1 a = some (.ext (dcxRaw a es))) ∧ t σ H1 fun xs H2 => r x xs H2 Q
theorem pe_sd {r : V → List V → Hp → VK → Prop} {o e : Expr} {es : List Expr} {to : TE} {t : TA} {apos cpos : Pos} {name : Str} {id : String} (slot : Slot "dict" name id) (hty : typeOf (.builtin id) = pure (.type "method_descriptor")) (hm : MtR X id r) (ho : PE X o to) (ha : PA X (e :: es) t)
    (hbase : attributeBase o name X.env (eval o X.env) = eval o X.env := by rfl)
    (hfew : ((backTo cpos (starEach (e :: es) X.env)).all (fun x => !x.1) && (backToKw cpos (keywordEach [] X.env)).all (fun x => x.1.isSome) && decide ((e :: es).length + ([] : List Keyword).length + (if ([] : List Keyword).isEmpty then 0 else 1) < 30)) = true := by rfl)
    (hline : (apos.endLine == cpos.line) = true := by rfl) (hs : starEach (e :: es) X.env = (false, eval e X.env) :: starEach es X.env := by rfl) (hplain : (backTo cpos (starEach es X.env)).any (·.1) = false := by rfl) :
    PE X (.Call (.Attribute o name apos) (e :: es) [] cpos) (tSD r to t) := by
  refine ⟨fun pins s σ H Q I h => wpAny_Call_method_late hbase hfew hline rfl (thn (ho.run pins s σ H _ I h) ?_)⟩
  rintro v s1 ⟨x, H1, I1, r1, ⟨a, es2, rfl, ea⟩, q1⟩
  obtain ⟨⟨hd, ob, arr, ep, hob, hc, hdat, _⟩, _, _⟩ := I1.hok a _ ea
  have r1' := r1
  cases r1
  refine ⟨"dict", id, PySem.F.plainAttrs_dict, slot, hty, ⟨ob, hob, hc.1⟩, fun b e => (by cases e; exact ⟨ob, hob, hc.2.1⟩), ?_⟩
  have hA := ha.run cpos pins s1 σ H1 _ I1 q1
  rw [hs] at hA ⊢
  refine Calls.callWith_builtin (by show (false || (backTo cpos (starEach es X.env)).any (·.1)) = false; rw [hplain] <;> rfl) (Calls.evalArgs_plain (thn hA ?_))
  rintro us s2 ⟨vs, H2, I2, r2, q2⟩
  exact hm pins s2 σ H2 _ vs _ us Q I2 r1' r2 q2
end
end Fx

set_option Elab.async false
set_option linter.all false
set_option maxRecDepth 100000
set_option maxHeartbeats 4000000
namespace Fx
open PySem L2 PySem.Spec PyProof.Rows
variable [Tb]
/-! ### the end: the law's def is called with the script -/
/-- what may be tracked ahead of the call: nothing but the script -/
structure Alone (H : Hp) (h : Heap) (a : Addr) : Prop where
  only : ∀ b o, H b = some o → b = a
  frz : ∀ b o, H b = some o → ∃ ob xs, o = .frz ob (.lst xs)
/-- the promise at the heap behind the module's top, by any abstract heap in which nothing but the script is tracked -/
theorem called {P : Program} {w : World} {K : PySem.W.Frag} {mg mb : Str → Option Value} {k : Nat} {fa a : Addr} {fd : FuncData} {x : Str} {sp : Sp} {s : Shared} {ob : Obj} {H : Hp} {es : List Value} {c : Nat} (KX : K.In s.heap) (g : s.heap.Ns mainGlobals mg)
    (nb : s.heap.Ns builtinsNs mb) (hmb : ∀ y : Str, y ≠ "__name__" → mb y = bootBuiltins y) (nl : s.heap.NoLimit) (hg : s.gens = #[]) (ea : s.heap.get? a = some ob) (eseq : ob.data = .seq es.toArray c) (room : Room k callerA)
    (F : ∀ base : Heap, K.In base → base.Ns mainGlobals mg → FnG P w K mg base CX0 k fa fd [x] sp) (bd : ∀ (s : Shared) (u : Value), BindsTo s fd ⟨[u], []⟩ [(x, u)]) (al : Alone H s.heap a) (ok : HOk P w H s.heap) (free : H a ≠ none → K.lookup a = none)
    (want : sp [.ref a] H (fun v _ => v = .bl true) fun _ _ _ => False) : codeAny (model P w) callerA (.call (.ref fa) ⟨[.ref a], []⟩) (fun r s' => r = .ok (.ret (.bool true)) ∧ OldK s.heap s'.heap ∧ s'.os = s.os ∧ AllBare s'.gens) s := by
  -- an object that is no list stays in the hidden heap
  have dictFree : ∀ {b : Addr} {o : Obj} {ds : Array DictEntry} {ep : Nat}, s.heap.get? b = some o → o.data = .dict ds ep → H b = none := fun {b o ds ep} e d => by
    cases q : H b with
    | none => rfl
    | some u => rw [al.only b u q, ea] at e; cases e; rw [eseq] at d; cases d
  have ns : ∀ {b : Addr} {m : Str → Option Value}, s.heap.Ns b m → (hidT s.heap H).Ns b m := fun ⟨o, ds, ep, e, d, r⟩ => ⟨o, ds, ep, hidT_get e (dictFree e d), d, r⟩
  have kIn : K.In (hidT s.heap H) := fun b o e => hidT_get (KX b o e) (by
    cases q : H b with
    | none => rfl
    | some u =>
      have eb := al.only b u q
      rw [eb, free (by rw [← eb, q]; simp)] at e; cases e)
  have st : Env0 P w K mg (hidT s.heap H) callerA [] s H :=
    { frames := rfl, mod := ⟨kIn, ns g, ⟨mb, ns nb, hmb⟩, nl.elim fun mc z => ⟨mc, ns z.1, z.2⟩⟩, bs := fun b o e => of_hidT e, bsz := Nat.le_of_eq (hidT_size _ _), funs := trivial, frf := (fun b z => absurd z List.not_mem_nil), hok := ok, bare := .of_eq hg }
  have run := (F _ kIn (ns g)).run callerA [] s H ⟨[.ref a], []⟩ [.ref a] [.ref a] _ _ room rfl st (bd s (.ref a)) (.cons rfl .nil) want
  refine codeAny_mono run fun r s' done => ?_
  match r, done with
  | .error _, done => exact done.elim
  | .ok .next, done => exact done.elim
  | .ok .brk, done => exact done.elim
  | .ok .cont, done => exact done.elim
  | .ok (.ret u), ⟨v, H', os, bare, un, ok', rv, (q : v = .bl true)⟩ =>
    subst q
    refine ⟨by rw [show u = Value.bool true from rv], OldK.of_keep fun b o e => ?_, os, bare⟩
    cases z : H b with
    | none => exact un.keep b o e z (fun t => absurd t List.not_mem_nil) (fun t => absurd t List.not_mem_nil)
    | some u =>
      obtain ⟨o2, xs, rfl⟩ := al.frz b u z
      have e1 := (ok b _ z).1
      rw [e] at e1
      cases e1
      exact (ok' b _ (un.frzs b o _ z)).1
/-- the goal of the row's walk, from the promise of the law's def -/
theorem walkG {l : PySem.W.OpenLaw} {n k : Nat} {q : Program} {loose : List Str} {XP : (Str → Option Value) → Heap → Prop} {YP : World → Heap → Prop} {d : DefRec} {K : Params → PySem.W.Frag} {sp : World → (Str → Option Value) → Sp} {x : Str} (hn : l.most = some n) (n2 : n ≤ sizeLine) (hdf : d.params.defaults = [])
    (room : Room k callerA) (hY : ∀ (w : World) (h : Heap), YP w h → (K w.params).In h)
    (F : ∀ (w : World) (mg : Str → Option Value) (fa : Addr) (h : Heap), (K w.params).In h → h.Ns mainGlobals mg → mg d.name = some (.ref fa) → ∃ fd : FuncData, (∀ (s : Shared) (u : Value), BindsTo s fd ⟨[u], []⟩ [(x, u)]) ∧
      ∀ base : Heap, (K w.params).In base → base.Ns mainGlobals mg → FnG l.prog w (K w.params) mg base CX0 k fa fd [x] (sp w mg))
    (want : ∀ (w : World) (mg : Str → Option Value) (H : Hp) (a : Addr) (ns : List Int), ns.length ≤ n → (∀ z ∈ ns, Builtin.Int.intBits z ≤ 1048576) → SqL (K w.params) H a (ns.map V.int) → sp w mg [.ref a] H (fun v _ => v = .bl true) fun _ _ _ => False) :
    PySem.W.WalkO q loose XP YP l.row.toRowW d [] (fun f vs => PySem.call f vs) := by
  refine Att.attach_callB hn hdf fun w s0 s1 mg mb fa o pm cd doc a vs ns G Y _ _ _ hmg ea hi hl bits hg => ?_
  have KX := hY w _ Y
  obtain ⟨fd, bd, FF⟩ := F w mg fa _ KX G.T.g hmg
  have rv := vals_ints hi
  have len : vs.length ≤ sizeLine := by rw [hi.length]; exact Nat.le_trans hl n2
  cases hk : (K w.params).lookup a with
  | some o2 =>
    -- the script is an object of the module's own
    have e := KX a o2 hk
    rw [ea] at e
    cases e
    exact called (H := fun _ => none) KX G.T.g G.T.b G.T.builtins G.T.nolimit hg ea rfl room FF bd ⟨(fun b u z => nomatch z), (fun b u z => nomatch z)⟩ (fun b u z => nomatch z) (fun z => absurd rfl z)
      (want w mg _ a ns hl bits (.inr ⟨_, vs.toArray, _, hk, rfl, rfl, rfl, by simpa using len, by simpa using rv⟩))
  | none =>
    have only : ∀ b u, (if b = a then some (HO.frz { cls := .type "list", data := .seq vs.toArray } (.lst (ns.map V.int))) else none) = some u → b = a ∧ u = .frz { cls := .type "list", data := .seq vs.toArray } (.lst (ns.map V.int)) := fun b u z => by
      by_cases c : b = a
      · rw [if_pos c] at z; exact ⟨c, (Option.some.inj z).symm⟩
      · rw [if_neg c] at z; cases z
    refine called (H := fun b => if b = a then some (.frz { cls := .type "list", data := .seq vs.toArray } (.lst (ns.map V.int))) else none) KX G.T.g G.T.b G.T.builtins G.T.nolimit hg ea rfl room FF bd
      ⟨fun b u z => (only b u z).1, fun b u z => ⟨_, _, (only b u z).2⟩⟩ (fun b u z => ?_) (fun _ => hk) (want w mg _ a ns hl bits (.inl (.inr ⟨_, if_pos rfl⟩)))
    obtain ⟨rfl, rfl⟩ := only b u z
    exact ⟨ea, by rw [List.length_map]; exact Nat.le_trans hl n2, vs, _, rv, ea⟩
/-- all but tables -/
def noTb (H : Hp) : Hp := fun b => match H b with
  | some (.tbl _) => none
  | x => x
theorem noTb_same {H : Hp} : Same (noTb H) H := fun b o e => by
  unfold noTb at e
  split at e
  · cases e
  · exact e
/-- the promise, by the function's value -/
theorem spN_true {K : PySem.W.Frag} {mg : Str → Option Value} {F : Env → Rz (Env × Rs)} {H : Hp} {a : Addr} {ns : List Int} (ht : ∀ P q, Tb.tab P q → H P = some (.tbl #[])) (S : SqL K H a (ns.map V.int)) {o : Env} (h : F [.im (.nd .scr (ns.map D.int))] = .ok (o, .im (.bl true))) :
    spN 1 ⟨K, mg⟩ F [.ref a] H (fun v _ => v = .bl true) fun _ _ _ => False := by
  have allI : ∀ ns : List Int, HasAll ⟨K, mg⟩ (noTb H) (ns.map D.int) (ns.map V.int) := fun ns => by
    induction ns with
    | nil => exact .nil
    | cons i ns ih => exact .cons (.int i) ih
  have S2 : SqL K (noTb H) a (ns.map V.int) := by
    rcases S with (h | ⟨o, h⟩) | h
    · exact .inl (.inl (by unfold noTb; rw [h]))
    · exact .inl (.inr ⟨o, by unfold noTb; rw [h]⟩)
    · exact .inr h
  refine ⟨rfl, noTb H, [.im (.nd .scr (ns.map D.int))], ⟨rfl, noTb_same, fun i x e => ?_, fun i j x y ne ex ey ox oy => ?_, fun P q h => ⟨#[], ht P q h, True.intro, fun pos cv hc => ?_⟩, fun P q h => by unfold noTb; rw [ht P q h]⟩, ?_⟩
  · match i, e with
    | 0, e => exact .inl ⟨_, _, (Option.some.inj e).symm, rfl, .scr S2 (allI ns)⟩
    | i + 1, e => simp at e
  · match i, ex with
    | 0, ex => rw [← Option.some.inj ex] at ox; exact ox.elim
    | i + 1, ex => simp at ex
  · have z : codeAmong pos [] = some cv := hc
    simp [codeAmong] at z
  · rw [h]
    intro Hf' H' v B hr
    cases (show Has _ _ _ _ from hr)
    rfl
end Fx

set_option Elab.async false
set_option linter.all false
set_option maxRecDepth 100000
set_option maxHeartbeats 4000000
namespace Fx
open PySem L2
/-! ### plain data that can be shown and compared -/
theorem sok_app {a b : Str} (ha : PyData.strOk a = true) (hb : PyData.strOk b = true) : PyData.strOk (a ++ b) = true := by
  unfold PyData.strOk at *
  rw [Str.cps_append, Array.all_append, ha, hb]
  rfl
theorem sok_of (s : String) : PyData.strOk (Str.ofString s) = true := by
  unfold PyData.strOk
  rw [Str.ofString_eq_toList, List.all_toArray, List.all_map, List.all_eq_true]
  intro c _
  simp only [Function.comp, decide_eq_true_eq]
  have := c.valid
  rcases this with h | h
  · exact Nat.lt_trans h (by decide)
  · exact h.2
theorem len_of (s : String) : (Str.ofString s).length = s.length := by
  rw [Str.ofString_eq_toList]
  show (List.map Char.toNat s.toList).toArray.size = _
  rw [List.size_toArray, List.length_map]
  exact String.length_toList
/-- what is told of each part -/
structure Tells (n : Nat) (x : Str) : Prop where
  len : x.length ≤ n
  ok : PyData.strOk x = true
def pile (ns : List Nat) : Nat := (ns.map (· + 2)).sum
mutual
/-- atoms are such as a row bears -/
def D.sound : D → Bool
  | .non => true
  | .bl _ => true
  | .int i => decide (i.natAbs < 10 ^ 20)
  | .str x => PyData.strOk x && (decide ((reprText x).length ≤ 64) && PyData.strOk (reprText x))
  | .ob _ => false
  | .nd .tup xs => D.sounds xs
  | .nd .lst xs => D.sounds xs
  | .nd .scr _ => false
  | .nd (.dct _) _ => false
  | .nd (.obj _ _) _ => false
  | .nd (.exn _ _) _ => false
  | .nd .tupN _ => false
  | .nd (.dcx _) _ => false
def D.sounds : List D → Bool
  | [] => true
  | x :: xs => D.sound x && D.sounds xs
end
mutual
def D.wt : D → Nat
  | .nd _ xs => 4 + D.wts xs
  | .non => 64
  | .bl _ => 64
  | .int _ => 64
  | .str _ => 64
  | .ob _ => 64
def D.wts : List D → Nat
  | [] => 0
  | x :: xs => (D.wt x + 2) + D.wts xs
end
mutual
def D.dp : D → Nat
  | .nd _ xs => D.dps xs + 1
  | .non => 0
  | .bl _ => 0
  | .int _ => 0
  | .str _ => 0
  | .ob _ => 0
def D.dps : List D → Nat
  | [] => 0
  | x :: xs => max (D.dp x) (D.dps xs)
end
theorem textFrom_tells : ∀ (ts : List Str) (k : Nat) (acc : Str), PyData.strOk acc = true → (∀ t ∈ ts, PyData.strOk t = true) → PyData.strOk (textFrom k acc ts) = true ∧ (textFrom k acc ts).length ≤ acc.length + (ts.map fun t => t.length + 2).sum
  | [], k, acc, h, _ => ⟨h, by simp [textFrom]⟩
  | t :: ts, k, acc, h, ht => by
    have sep : PyData.strOk ((if k > 0 then ", " else "" : String) : Str) = true ∧ ((if k > 0 then ", " else "" : String) : Str).length ≤ 2 := by split <;> decide +kernel
    have h2 : PyData.strOk (acc ++ ((if k > 0 then ", " else "" : String) : Str) ++ t) = true := sok_app (sok_app h sep.1) (ht t List.mem_cons_self)
    obtain ⟨q1, q2⟩ := textFrom_tells ts (k + 1) _ h2 fun u hu => ht u (List.mem_cons_of_mem _ hu)
    refine ⟨q1, ?_⟩
    unfold textFrom
    refine Nat.le_trans q2 ?_
    rw [Str.length_append, Str.length_append, List.map_cons, List.sum_cons]
    have := sep.2
    omega
theorem listText_tells {ts : List Str} (ht : ∀ t ∈ ts, PyData.strOk t = true) : PyData.strOk (listText ts) = true ∧ (listText ts).length ≤ 2 + (ts.map fun t => t.length + 2).sum := by
  obtain ⟨q1, q2⟩ := textFrom_tells ts 0 "[" (by decide +kernel) ht
  unfold listText
  refine ⟨sok_app q1 (by decide +kernel), ?_⟩
  rw [Str.length_append]
  have e1 : (("[" : String) : Str).length = 1 := rfl
  have e2 : (("]" : String) : Str).length = 1 := rfl
  omega
theorem join_tells : ∀ {ts : List Str}, (∀ t ∈ ts, PyData.strOk t = true) → PyData.strOk (Str.join ", " ts) = true ∧ (Str.join ", " ts).length ≤ (ts.map fun t => t.length + 2).sum
  | [], _ => ⟨by decide +kernel, by show 0 ≤ _; exact Nat.zero_le _⟩
  | [x], h => ⟨h x List.mem_cons_self, by show x.length ≤ _; simp⟩
  | x :: y :: r, h => by
    obtain ⟨q1, q2⟩ := join_tells (ts := y :: r) fun t ht => h t (List.mem_cons_of_mem _ ht)
    refine ⟨sok_app (sok_app (h x List.mem_cons_self) (by decide +kernel)) q1, ?_⟩
    show (x ++ ", " ++ Str.join ", " (y :: r)).length ≤ _
    have e2 : ((", " : String) : Str).length = 2 := rfl
    rw [Str.length_append, Str.length_append, e2, List.map_cons, List.sum_cons]
    omega
theorem tupleText_tells {ts : List Str} (ht : ∀ t ∈ ts, PyData.strOk t = true) : PyData.strOk (tupleText ts) = true ∧ (tupleText ts).length ≤ 3 + (ts.map fun t => t.length + 2).sum := by
  obtain ⟨q1, q2⟩ := join_tells ht
  have e3 : PyData.strOk ((if ts.length == 1 then ",)" else ")" : String) : Str) = true ∧ ((if ts.length == 1 then ",)" else ")" : String) : Str).length ≤ 2 := by split <;> decide +kernel
  unfold tupleText
  refine ⟨sok_app (sok_app (by decide +kernel) q1) e3.1, ?_⟩
  have e1 : (("(" : String) : Str).length = 1 := rfl
  have := e3.2
  rw [Str.length_append, Str.length_append]
  omega
mutual
theorem D.sound_tells : ∀ {d : D}, d.sound = true → Tells d.wt d.py.shown
  | .non, _ => ⟨by rw [D.py, D.wt]; decide +kernel, by rw [D.py]; decide +kernel⟩
  | .bl b, _ => by cases b <;> exact ⟨by rw [D.py, D.wt]; decide +kernel, by rw [D.py]; decide +kernel⟩
  | .int i, h => by
    rw [D.sound] at h
    have h := of_decide_eq_true h
    refine ⟨?_, ?_⟩
    · rw [D.py, D.wt, PyData.shown]
      have := int_text_length_le10 (k := 20) (by decide) h
      rw [len_of]
      omega
    · rw [D.py, PyData.shown]; exact sok_of _
  | .str x, h => by
    rw [D.sound, Bool.and_eq_true, Bool.and_eq_true] at h
    exact ⟨by rw [D.py, D.wt, PyData.shown]; exact of_decide_eq_true h.2.1, by rw [D.py, PyData.shown]; exact h.2.2⟩
  | .ob _, h => by rw [D.sound] at h; cases h
  | .nd .tup xs, h => by
    rw [D.sound] at h
    obtain ⟨q1, q2⟩ := D.sounds_tell h
    obtain ⟨t1, t2⟩ := tupleText_tells q1
    rw [D.py, D.wt, PyData.shown]
    exact ⟨by omega, t1⟩
  | .nd .lst xs, h => by
    rw [D.sound] at h
    obtain ⟨q1, q2⟩ := D.sounds_tell h
    obtain ⟨t1, t2⟩ := listText_tells q1
    rw [D.py, D.wt, PyData.shown]
    exact ⟨by omega, t1⟩
  | .nd .scr _, h => by rw [D.sound] at h; cases h
  | .nd (.dct _) _, h => by rw [D.sound] at h; cases h
  | .nd (.obj _ _) _, h => by rw [D.sound] at h; cases h
  | .nd (.exn _ _) _, h => by rw [D.sound] at h; cases h
  | .nd .tupN _, h => by rw [D.sound] at h; cases h
  | .nd (.dcx _) _, h => by rw [D.sound] at h; cases h
theorem D.sounds_tell : ∀ {xs : List D}, D.sounds xs = true → (∀ t ∈ PyData.shownAll (D.pys xs), PyData.strOk t = true) ∧ ((PyData.shownAll (D.pys xs)).map fun t => t.length + 2).sum ≤ D.wts xs
  | [], _ => by
    rw [D.pys, PyData.shownAll]
    exact ⟨(fun t ht => by cases ht), Nat.zero_le _⟩
  | x :: xs, h => by
    rw [D.sounds, Bool.and_eq_true] at h
    have a := D.sound_tells h.1
    obtain ⟨q1, q2⟩ := D.sounds_tell h.2
    rw [D.pys, PyData.shownAll, D.wts]
    refine ⟨fun t ht => ?_, ?_⟩
    · rcases List.mem_cons.mp ht with z | z
      · subst z; exact a.ok
      · exact q1 t z
    · rw [List.map_cons, List.sum_cons]
      have := a.len
      omega
end
mutual
theorem D.sound_plain : ∀ {d : D}, d.sound = true → d.plain = true ∧ d.py.canLay0 = true ∧ d.py.showable = true ∧ d.py.depth = d.dp
  | .non, _ => by rw [D.plain, D.py, D.dp]; exact ⟨rfl, rfl, rfl, rfl⟩
  | .bl b, _ => by rw [D.plain, D.py, D.dp]; exact ⟨rfl, rfl, rfl, rfl⟩
  | .int i, h => by
    rw [D.sound] at h
    have h := of_decide_eq_true h
    rw [D.plain, D.py, D.dp]
    refine ⟨rfl, rfl, ?_, rfl⟩
    rw [PyData.showable]
    refine decide_eq_true ?_
    have h2 : i.natAbs < 2 ^ 1920 := Nat.lt_trans h (by decide +kernel)
    by_cases z : i.natAbs = 0
    · rw [z]; decide
    · exact (Nat.log2_lt z).mpr h2
  | .str x, h => by
    rw [D.sound, Bool.and_eq_true] at h
    rw [D.plain, D.py, D.dp]
    exact ⟨rfl, h.1, rfl, rfl⟩
  | .ob _, h => by rw [D.sound] at h; cases h
  | .nd .tup xs, h => by
    rw [D.sound] at h
    obtain ⟨q1, q2, q3, q4⟩ := D.sounds_plain h
    rw [D.plain, D.py, D.dp, PyData.canLay0, PyData.showable, PyData.depth]
    exact ⟨q1, q2, q3, by rw [q4]⟩
  | .nd .lst xs, h => by
    rw [D.sound] at h
    obtain ⟨q1, q2, q3, q4⟩ := D.sounds_plain h
    rw [D.plain, D.py, D.dp, PyData.canLay0, PyData.showable, PyData.depth]
    exact ⟨q1, q2, q3, by rw [q4]⟩
  | .nd .scr _, h => by rw [D.sound] at h; cases h
  | .nd (.dct _) _, h => by rw [D.sound] at h; cases h
  | .nd (.obj _ _) _, h => by rw [D.sound] at h; cases h
  | .nd (.exn _ _) _, h => by rw [D.sound] at h; cases h
  | .nd .tupN _, h => by rw [D.sound] at h; cases h
  | .nd (.dcx _) _, h => by rw [D.sound] at h; cases h
theorem D.sounds_plain : ∀ {xs : List D}, D.sounds xs = true → D.plains xs = true ∧ PyData.canLayAll0 (D.pys xs) = true ∧ PyData.showableAll (D.pys xs) = true ∧ PyData.depthAll (D.pys xs) = D.dps xs
  | [], _ => by rw [D.plains, D.pys, D.dps]; exact ⟨rfl, rfl, rfl, rfl⟩
  | x :: xs, h => by
    rw [D.sounds, Bool.and_eq_true] at h
    obtain ⟨a1, a2, a3, a4⟩ := D.sound_plain h.1
    obtain ⟨q1, q2, q3, q4⟩ := D.sounds_plain h.2
    rw [D.plains, D.pys, D.dps, PyData.canLayAll0, PyData.showableAll, PyData.depthAll, a1, a2, a3, a4, q1, q2, q3, q4]
    exact ⟨rfl, rfl, rfl, rfl⟩
end
theorem D.fit_of {d : D} (h : d.sound = true) (hd : d.dp ≤ 64) : d.fit = true := by
  obtain ⟨h1, h2, h3, h4⟩ := D.sound_plain h
  unfold D.fit SeqAt.shaped
  rw [h1, h2, h4, decide_eq_true hd]
  rfl
theorem D.showable_of {d : D} (h : d.sound = true) (hd : d.dp ≤ 64) (hw : d.wt ≤ sizeLine) : d.showable = true := by
  obtain ⟨h1, h2, h3, h4⟩ := D.sound_plain h
  have t := (D.sound_tells h).len
  unfold D.showable sz
  rw [h1, h3, h4, decide_eq_true hd, decide_eq_true (Nat.le_trans t hw)]
  rfl
end Fx

set_option Elab.async false
set_option linter.all false
set_option maxRecDepth 100000
set_option maxHeartbeats 4000000
namespace Fx
open PySem L2
/-! ### data without truths: == is equality -/
mutual
def D.nob : D → Bool
  | .non => true
  | .bl _ => false
  | .int _ => true
  | .str _ => true
  | .ob _ => false
  | .nd .tup xs => D.nobs xs
  | .nd .lst xs => D.nobs xs
  | .nd .scr _ => false
  | .nd (.dct _) _ => false
  | .nd (.obj _ _) _ => false
  | .nd (.exn _ _) _ => false
  | .nd .tupN _ => false
  | .nd (.dcx _) _ => false
def D.nobs : List D → Bool
  | [] => true
  | x :: xs => D.nob x && D.nobs xs
end
mutual
theorem eqv_nob : ∀ {d e : D}, d.nob = true → e.nob = true → (D.eqv d e = true ↔ d = e)
  | .non, e, _, he => by
    cases e with
    | nd k xs => cases k <;> simp_all [D.eqv, D.py, PyData.eqv, D.nob]
    | _ => simp_all [D.eqv, D.py, PyData.eqv, D.nob]
  | .int i, e, _, he => by
    cases e with
    | nd k xs => cases k <;> simp_all [D.eqv, D.py, PyData.eqv, D.nob]
    | _ => simp_all [D.eqv, D.py, PyData.eqv, D.nob]
  | .str x, e, _, he => by
    cases e with
    | nd k xs => cases k <;> simp_all [D.eqv, D.py, PyData.eqv, D.nob]
    | _ => simp_all [D.eqv, D.py, PyData.eqv, D.nob]
  | .nd .tup xs, e, hd, he => by
    cases e with
    | nd k ys =>
      cases k with
      | tup =>
        rw [D.nob] at hd he
        have := eqvs_nob hd he
        simp [D.eqv, D.py, PyData.eqv, this]
      | lst => simp [D.eqv, D.py, PyData.eqv]
      | _ => rw [D.nob] at he; cases he
    | _ => simp_all [D.eqv, D.py, PyData.eqv, D.nob]
  | .nd .lst xs, e, hd, he => by
    cases e with
    | nd k ys =>
      cases k with
      | lst =>
        rw [D.nob] at hd he
        have := eqvs_nob hd he
        simp [D.eqv, D.py, PyData.eqv, this]
      | tup => simp [D.eqv, D.py, PyData.eqv]
      | _ => rw [D.nob] at he; cases he
    | _ => simp_all [D.eqv, D.py, PyData.eqv, D.nob]
  | .bl _, _, h, _ => by rw [D.nob] at h; cases h
  | .ob _, _, h, _ => by rw [D.nob] at h; cases h
  | .nd .scr _, _, h, _ => by rw [D.nob] at h; cases h
  | .nd (.dct _) _, _, h, _ => by rw [D.nob] at h; cases h
  | .nd (.obj _ _) _, _, h, _ => by rw [D.nob] at h; cases h
  | .nd (.exn _ _) _, _, h, _ => by rw [D.nob] at h; cases h
  | .nd .tupN _, _, h, _ => by rw [D.nob] at h; cases h
  | .nd (.dcx _) _, _, h, _ => by rw [D.nob] at h; cases h
theorem eqvs_nob : ∀ {xs ys : List D}, D.nobs xs = true → D.nobs ys = true → (PyData.eqvAll (D.pys xs) (D.pys ys) = true ↔ xs = ys)
  | [], [], _, _ => by simp [D.pys, PyData.eqvAll]
  | [], y :: ys, _, _ => by simp [D.pys, PyData.eqvAll]
  | x :: xs, [], _, _ => by simp [D.pys, PyData.eqvAll]
  | x :: xs, y :: ys, hx, hy => by
    rw [D.nobs, Bool.and_eq_true] at hx hy
    have h1 := eqv_nob hx.1 hy.1
    have h2 := eqvs_nob hx.2 hy.2
    rw [D.pys, D.pys, PyData.eqvAll, Bool.and_eq_true, h2, List.cons.injEq]
    rw [show (PyData.eqv x.py y.py = true) = (D.eqv x y = true) from rfl, h1]
end
theorem eqv_self {d : D} (h : d.nob = true) : D.eqv d d = true := (eqv_nob h h).mpr rfl
/-- good data: what may be compared and shown -/
structure Good (d : D) : Prop where
  snd : d.sound = true
  nob : d.nob = true
  dp : d.dp ≤ 64
theorem Good.fit {d : D} (h : Good d) : d.fit = true := D.fit_of h.snd h.dp
theorem dEq_good {d e : D} (hd : Good d) (he : Good e) : dEq d e = some (D.eqv d e) := by
  unfold dEq
  rw [hd.fit, he.fit]
  rfl
theorem dNe_same {d : D} (hd : Good d) : dNe d d = some false := by
  unfold dNe
  rw [hd.fit, eqv_self hd.nob]
  rfl
/-- one text with itself -/
theorem dNe_str {x : Str} (h : PyData.strOk x = true) : dNe (.str x) (.str x) = some false := by
  have f : (D.str x).fit = true := by
    unfold D.fit SeqAt.shaped
    rw [D.plain, D.py, PyData.canLay0, PyData.depth, h]
    decide
  unfold dNe
  rw [f, eqv_self (by rw [D.nob])]
  rfl
/-- the texts of one datum -/
theorem dRepr_good {d : D} (h : Good d) (hw : d.wt ≤ sizeLine) : dRepr [d] = some (.im (.str d.py.shown)) := by
  show (if d.showable = true then some (Rs.im (.str d.py.shown)) else none) = _
  rw [D.showable_of h.snd h.dp hw]
  rfl
theorem Good.ok {d : D} (h : Good d) : PyData.strOk d.py.shown = true := (D.sound_tells h.snd).ok
theorem sounds_all {xs : List D} : D.sounds xs = true ↔ ∀ x ∈ xs, x.sound = true := by
  induction xs with
  | nil => simp [D.sounds]
  | cons x xs ih => simp [D.sounds, ih]
theorem nobs_all {xs : List D} : D.nobs xs = true ↔ ∀ x ∈ xs, x.nob = true := by
  induction xs with
  | nil => simp [D.nobs]
  | cons x xs ih => simp [D.nobs, ih]
theorem dps_all {xs : List D} {n : Nat} : D.dps xs ≤ n ↔ ∀ x ∈ xs, x.dp ≤ n := by
  induction xs with
  | nil => simp [D.dps]
  | cons x xs ih => simp [D.dps, ih, Nat.max_le]
theorem good_tup {xs : List D} (h : ∀ x ∈ xs, Good x ∧ x.dp ≤ 63) : Good (.nd .tup xs) :=
  ⟨by rw [D.sound]; exact sounds_all.mpr fun x hx => (h x hx).1.snd, by rw [D.nob]; exact nobs_all.mpr fun x hx => (h x hx).1.nob, by rw [D.dp]; exact Nat.succ_le_succ (dps_all.mpr fun x hx => (h x hx).2)⟩
theorem good_lst {xs : List D} (h : ∀ x ∈ xs, Good x ∧ x.dp ≤ 63) : Good (.nd .lst xs) :=
  ⟨by rw [D.sound]; exact sounds_all.mpr fun x hx => (h x hx).1.snd, by rw [D.nob]; exact nobs_all.mpr fun x hx => (h x hx).1.nob, by rw [D.dp]; exact Nat.succ_le_succ (dps_all.mpr fun x hx => (h x hx).2)⟩
theorem good_int {i : Int} (h : i.natAbs < 10 ^ 20) : Good (.int i) := ⟨by rw [D.sound]; exact decide_eq_true h, by rw [D.nob], by rw [D.dp]; omega⟩
theorem good_non : Good .non := ⟨by rw [D.sound], by rw [D.nob], by rw [D.dp]; omega⟩
/-- a text of a few plain signs -/
def strGood (x : Str) : Bool := PyData.strOk x && (decide ((reprText x).length ≤ 64) && PyData.strOk (reprText x))
theorem good_str {x : Str} (h : strGood x = true) : Good (.str x) := ⟨by rw [D.sound]; exact h, by rw [D.nob], by rw [D.dp]; omega⟩
/-- membership among good data -/
theorem any_good [DecidableEq D] {x : D} {xs : List D} (hx : x.nob = true) (h : ∀ z ∈ xs, z.nob = true) : (xs.any fun z => z.eqv x) = decide (x ∈ xs) := by
  rw [Bool.eq_iff_iff, List.any_eq_true, decide_eq_true_iff]
  constructor
  · rintro ⟨z, hz, e⟩
    rw [← (eqv_nob (h z hz) hx).mp e]
    exact hz
  · exact fun hm => ⟨x, hm, eqv_self hx⟩
end Fx

set_option Elab.async false
set_option linter.all false
set_option maxRecDepth 100000
set_option maxHeartbeats 4000000
namespace Fx
open PySem L2
/-! ### how the mirrors go, step by step -/
section
variable {ρ ρ1 ρ2 : Env} {f g : Env → Rz (Env × Fl)} {t : Env → Rz (Env × Bool)} {e : Env → Rz (Env × Rs)} {v : Env → Rz (Env × D)} {fl : Fl} {r : Rs} {n i : Nat}
theorem seq_nx (h : f ρ = .ok (ρ1, .nx)) : gSeq f g ρ = g ρ1 := by unfold gSeq; rw [h]; rfl
theorem seq_rt (h : f ρ = .ok (ρ1, .rt r)) : gSeq f g ρ = .ok (ρ1, .rt r) := by unfold gSeq; rw [h]; rfl
theorem seq_ct (h : f ρ = .ok (ρ1, .ct)) : gSeq f g ρ = .ok (ρ1, .ct) := by unfold gSeq; rw [h]; rfl
theorem seq_bk (h : f ρ = .ok (ρ1, .bk)) : gSeq f g ρ = .ok (ρ1, .bk) := by unfold gSeq; rw [h]; rfl
theorem if_t (h : t ρ = .ok (ρ1, true)) : gIf t f g ρ = f ρ1 := by unfold gIf; rw [h]; rfl
theorem if_f (h : t ρ = .ok (ρ1, false)) : gIf t f g ρ = g ρ1 := by unfold gIf; rw [h]; rfl
theorem while_stop (h : t ρ = .ok (ρ1, false)) : gWhile t f (n + 1) ρ = .ok (ρ1, .nx) := by
  show ((t ρ).bind _) = _
  rw [h]; rfl
theorem while_go (h : t ρ = .ok (ρ1, true)) (h2 : f ρ1 = .ok (ρ2, .nx)) : gWhile t f (n + 1) ρ = gWhile t f n ρ2 := by
  show ((t ρ).bind _) = _
  rw [h]
  show ((f ρ1).bind _) = _
  rw [h2]; rfl
theorem ret_ok (h : e ρ = .ok (ρ1, r)) : gRet e ρ = .ok (ρ1, .rt r) := by unfold gRet; rw [h]; rfl
theorem expr_ok (h : e ρ = .ok (ρ1, r)) : gExpr e ρ = .ok (ρ1, .nx) := by unfold gExpr; rw [h]; rfl
theorem set_ok (h : e ρ = .ok (ρ1, r)) (h2 : put ρ1 i r = .ok ρ2) : gSet i e ρ = .ok (ρ2, .nx) := by
  unfold gSet; rw [h]
  show ((put ρ1 i r).bind _) = _
  rw [h2]; rfl
theorem vif_t {a b : Env → Rz (Env × D)} (h : t ρ = .ok (ρ1, true)) : vIf t a b ρ = a ρ1 := by unfold vIf; rw [h]; rfl
theorem vif_f {a b : Env → Rz (Env × D)} (h : t ρ = .ok (ρ1, false)) : vIf t a b ρ = b ρ1 := by unfold vIf; rw [h]; rfl
theorem eif_t {a b : Env → Rz (Env × Rs)} (h : t ρ = .ok (ρ1, true)) : eIf t a b ρ = a ρ1 := by unfold eIf; rw [h]; rfl
theorem eif_f {a b : Env → Rz (Env × Rs)} (h : t ρ = .ok (ρ1, false)) : eIf t a b ρ = b ρ1 := by unfold eIf; rw [h]; rfl
theorem cons_ok {a : Env → Rz (Env × Rs)} {as : Env → Rz (Env × List Rs)} {q : List Rs} (h : a ρ = .ok (ρ1, r)) (h2 : as ρ1 = .ok (ρ2, q)) : aCons a as ρ = .ok (ρ2, r :: q) := by
  unfold aCons; rw [h]
  show ((as ρ1).bind _) = _
  rw [h2]; rfl
theorem hV_ok {d : D} (h : v ρ = .ok (ρ1, d)) : hV v ρ = .ok (ρ1, .im d) := by unfold hV; rw [h]; rfl
theorem hH_ok (h : e ρ = .ok (ρ1, r)) : hH e ρ = .ok (ρ1, r.hold) := by unfold hH; rw [h]; rfl
theorem hH_im {d : D} (h : e ρ = .ok (ρ1, .im d)) : hH e ρ = .ok (ρ1, .im d) := hH_ok h
theorem hH_nw {d : D} (h : e ρ = .ok (ρ1, .nw d)) : hH e ρ = .ok (ρ1, .im d) := hH_ok h
theorem vU_im {d : D} (h : e ρ = .ok (ρ1, .im d)) : vU e ρ = .ok (ρ1, d) := by unfold vU; rw [h]; rfl
theorem vU_nw {d : D} (h : e ρ = .ok (ρ1, .nw d)) : vU e ρ = .ok (ρ1, d) := by unfold vU; rw [h]; rfl
theorem rN_ok' {x : Sl} (h : ρ[i]? = some x) (hx : x.peek ≠ none) : rN i ρ = .ok (ρ, .slot i) := by
  unfold rN
  rw [h]
  cases x <;> first | rfl | exact absurd rfl hx
theorem two_ok {a b : Env → Rz (Env × Rs)} {F : D → D → Option D} {x y : Rs} {d c z : D} (ha : a ρ = .ok (ρ1, x)) (hb : b ρ1 = .ok (ρ2, y)) (h1 : peek ρ2 x = some d) (h2 : peek ρ2 y = some c) (h : F d c = some z) : v2 F a b ρ = .ok (ρ2, z) := by
  unfold v2; rw [ha]
  show ((b ρ1).bind _) = _
  rw [hb]
  show ((Rz.ofO (peek ρ2 x)).bind _) = _
  rw [h1]
  show ((Rz.ofO (peek ρ2 y)).bind _) = _
  rw [h2]
  show ((Rz.ofO (F d c)).bind _) = _
  rw [h]; rfl
theorem tst_ok {a b : Env → Rz (Env × Rs)} {F : D → D → Option Bool} {x y : Rs} {d c : D} {z : Bool} (ha : a ρ = .ok (ρ1, x)) (hb : b ρ1 = .ok (ρ2, y)) (h1 : peek ρ2 x = some d) (h2 : peek ρ2 y = some c) (h : F d c = some z) : t2 F a b ρ = .ok (ρ2, z) := by
  unfold t2; rw [ha]
  show ((b ρ1).bind _) = _
  rw [hb]
  show ((Rz.ofO (peek ρ2 x)).bind _) = _
  rw [h1]
  show ((Rz.ofO (peek ρ2 y)).bind _) = _
  rw [h2]
  show ((Rz.ofO (F d c)).bind _) = _
  rw [h]; rfl
theorem add_ok {a b : Env → Rz (Env × Rs)} {F : D → D → Option Rs} {x y : Rs} {d c : D} {z : Rs} (ha : a ρ = .ok (ρ1, x)) (hb : b ρ1 = .ok (ρ2, y)) (h1 : peek ρ2 x = some d) (h2 : peek ρ2 y = some c) (h : F d c = some z) : e2 F a b ρ = .ok (ρ2, z) := by
  unfold e2; rw [ha]
  show ((b ρ1).bind _) = _
  rw [hb]
  show ((Rz.ofO (peek ρ2 x)).bind _) = _
  rw [h1]
  show ((Rz.ofO (peek ρ2 y)).bind _) = _
  rw [h2]
  show ((Rz.ofO (F d c)).bind _) = _
  rw [h]; rfl
theorem blt_ok {F : List D → Option Rs} {as : Env → Rz (Env × List Rs)} {q : List Rs} {ds : List D} {z : Rs} (ha : as ρ = .ok (ρ1, q)) (h1 : peekAll ρ1 q = some ds) (h : F ds = some z) : eB F as ρ = .ok (ρ1, z) := by
  unfold eB; rw [ha]
  show ((Rz.ofO (peekAll ρ1 q)).bind _) = _
  rw [h1]
  show ((Rz.ofO (F ds)).bind _) = _
  rw [h]; rfl
theorem tup_ok {as : Env → Rz (Env × List Rs)} {q : List Rs} {ds : List D} (ha : as ρ = .ok (ρ1, q)) (h1 : useAll ρ1 q = .ok (ρ2, ds)) (h : ds.length ≤ 1000) : vTup as ρ = .ok (ρ2, .nd .tup ds) := by
  unfold vTup; rw [ha]
  show ((useAll ρ1 q).bind _) = _
  rw [h1]
  show (if sz ds.length = true then _ else _) = _
  rw [if_pos (show sz ds.length = true from decide_eq_true (Nat.le_trans h (by decide)))]
theorem lst_ok {as : Env → Rz (Env × List Rs)} {q : List Rs} {ds : List D} (ha : as ρ = .ok (ρ1, q)) (h1 : useAll ρ1 q = .ok (ρ2, ds)) (h : ds.length ≤ 1000) : eLst as ρ = .ok (ρ2, .nw (.nd .lst ds)) := by
  unfold eLst; rw [ha]
  show ((useAll ρ1 q).bind _) = _
  rw [h1]
  show (if sz ds.length = true then _ else _) = _
  rw [if_pos (show sz ds.length = true from decide_eq_true (Nat.le_trans h (by decide)))]
end
theorem atI_last {α : Type} {xs : List α} {x : α} (h : xs.getLast? = some x) : atI xs (-1) = some x := by
  have hl : 0 < xs.length := by
    cases xs with
    | nil => cases h
    | cons _ _ => simp
  unfold atI ixN
  rw [if_neg (by omega), if_pos (by omega)]
  show xs[((-1 : Int) + (xs.length : Int)).toNat]? = some x
  rw [show ((-1 : Int) + (xs.length : Int)).toNat = xs.length - 1 by omega, ← List.getLast?_eq_getElem?]
  exact h
theorem atI_nat' {α : Type} {xs : List α} {i : Nat} {x : α} (h : xs[i]? = some x) : atI xs (i : Int) = some x := by
  have hl : i < xs.length := (List.getElem?_eq_some_iff.mp h).1
  unfold atI ixN
  rw [if_pos (by omega), if_pos (by omega)]
  show xs[((i : Int)).toNat]? = some x
  rw [Int.toNat_natCast]
  exact h
theorem cut_last {α : Type} (xs : List α) : cutA xs none (some (-1)) = xs.dropLast := by
  have e : HT.sIx xs.length xs.length (some (-1)) = xs.length - 1 := by
    show (if (-1 : Int) < 0 then ((-1 : Int) + (xs.length : Int)).toNat else min (-1 : Int).toNat xs.length) = _
    rw [if_pos (by omega)]
    omega
  unfold cutA
  rw [e, HT.sIx_none, List.drop_zero, List.dropLast_eq_take, Nat.sub_zero]
theorem cut_take {α : Type} (xs : List α) (k : Nat) : cutA xs none (some (k : Int)) = xs.take k := by
  unfold cutA
  rw [HT.sIx_nat, HT.sIx_none, List.drop_zero, Nat.sub_zero]
  by_cases h : k ≤ xs.length
  · rw [Nat.min_eq_left h]
  · rw [Nat.min_eq_right (by omega), List.take_of_length_le (by omega), List.take_of_length_le (by omega)]
theorem star_ok {a : Env → Rz (Env × Rs)} {as : Env → Rz (Env × List Rs)} {ρ ρ1 ρ2 : Env} {x : Rs} {ds : List D} {q : List Rs} (ha : a ρ = .ok (ρ1, x)) (hx : peek ρ1 x = some (.nd .lst ds)) (h2 : as ρ1 = .ok (ρ2, q)) : aStar a as ρ = .ok (ρ2, ds.map .im ++ q) := by
  unfold aStar; rw [ha]
  show ((Rz.ofO (peek ρ1 x)).bind _) = _
  rw [hx]
  show ((as ρ1).bind _) = _
  rw [h2]; rfl
theorem use_ims (ρ : Env) : ∀ ds : List D, useAll ρ (ds.map .im) = .ok (ρ, ds)
  | [] => rfl
  | d :: ds => by
    show ((use ρ (.im d)).bind _) = _
    show ((useAll ρ (ds.map .im)).bind _) = _
    rw [use_ims ρ ds]
    rfl
theorem sl_ok {a : Env → Rz (Env × Rs)} {l h : Env → Rz (Env × Option Int)} {ρ ρ1 ρ2 ρ3 : Env} {x : Rs} {d : D} {lo hi : Option Int} {r : Rs} (ha : a ρ = .ok (ρ1, x)) (hl : l ρ1 = .ok (ρ2, lo)) (hh : h ρ2 = .ok (ρ3, hi)) (hp : peek ρ3 x = some d) (hs : dSl d lo hi = some r) : eSl a l h ρ = .ok (ρ3, r) := by
  unfold eSl; rw [ha]
  show ((l ρ1).bind _) = _
  rw [hl]
  show ((h ρ2).bind _) = _
  rw [hh]
  show ((Rz.ofO (peek ρ3 x)).bind _) = _
  rw [hp]
  show ((Rz.ofO (dSl d lo hi)).bind _) = _
  rw [hs]; rfl
theorem neg_ok {a : Env → Rz (Env × Rs)} {ρ ρ1 : Env} {x : Rs} {i : Int} (ha : a ρ = .ok (ρ1, x)) (hp : peek ρ1 x = some (.int i)) : v1 dNeg a ρ = .ok (ρ1, .int (-i)) := by
  unfold v1; rw [ha]
  show ((Rz.ofO (peek ρ1 x)).bind _) = _
  rw [hp]; rfl
theorem som_ok {v : Env → Rz (Env × D)} {ρ ρ1 : Env} {i : Int} (h : v ρ = .ok (ρ1, .int i)) : oSome v ρ = .ok (ρ1, some i) := by
  unfold oSome; rw [h]; rfl
/-- a comprehension -/
theorem lc_ok {vs : List Nat} {tgf : D → Env → Rz Env} {tt : Env → Rz (Env × Bool)} {vf : Env → Rz (Env × D)} {ρ : Env} (p : D → Bool) (g : D → D) : ∀ (ds acc : List D), acc.length + ds.length ≤ 1000 →
    (∀ d ∈ ds, ∃ ρ1, tgf d ρ = .ok ρ1 ∧ tt ρ1 = .ok (ρ1, p d) ∧ wipeE ρ1 vs = ρ ∧ (p d = true → vf ρ1 = .ok (ρ1, g d))) → lcL vs tgf tt vf ds ρ acc = .ok (ρ, acc ++ (ds.filter p).map g)
  | [], acc, _, _ => by simp [lcL]
  | d :: ds, acc, hl, h => by
    obtain ⟨ρ1, h1, h2, h3, h4⟩ := h d List.mem_cons_self
    have rest := fun acc' hl' => lc_ok (vs := vs) (tgf := tgf) (tt := tt) (vf := vf) (ρ := ρ) p g ds acc' hl' fun e he => h e (List.mem_cons_of_mem _ he)
    rw [List.length_cons] at hl
    show ((tgf d ρ).bind _) = _
    rw [h1]
    show ((tt ρ1).bind _) = _
    rw [h2]
    cases c : p d with
    | false =>
      show lcL vs tgf tt vf ds (wipeE ρ1 vs) acc = _
      rw [h3, rest acc (by omega), List.filter_cons_of_neg (by simp [c])]
    | true =>
      show ((vf ρ1).bind _) = _
      rw [h4 c]
      show (if sz (acc.length + 1) = true then _ else _) = _
      rw [if_pos (show sz (acc.length + 1) = true from decide_eq_true (Nat.le_trans (show acc.length + 1 ≤ 1000 by omega) (by decide)))]
      show lcL vs tgf tt vf ds (wipeE ρ1 vs) (acc ++ [g d]) = _
      rw [h3, rest (acc ++ [g d]) (by simp; omega), List.filter_cons_of_pos (by simp [c])]
      simp
theorem elc_ok {vs : List Nat} {it : Env → Rz (Env × List D)} {tgf : D → Env → Rz Env} {tt : Env → Rz (Env × Bool)} {vf : Env → Rz (Env × D)} {ρ ρ0 : Env} {ds : List D} (p : D → Bool) (g : D → D) (hi : it ρ0 = .ok (ρ, ds)) (hw : wipeE ρ vs = ρ) (hl : ds.length ≤ 1000)
    (h : ∀ d ∈ ds, ∃ ρ1, tgf d ρ = .ok ρ1 ∧ tt ρ1 = .ok (ρ1, p d) ∧ wipeE ρ1 vs = ρ ∧ (p d = true → vf ρ1 = .ok (ρ1, g d))) : eLc vs it tgf tt vf ρ0 = .ok (ρ, .nw (.nd .lst ((ds.filter p).map g))) := by
  unfold eLc
  rw [hi]
  show ((noX (lcL vs tgf tt vf ds (wipeE ρ vs) [])).bind _) = _
  rw [hw, lc_ok p g ds [] (by simpa using hl) h]
  rfl
theorem rng_at {F : List D → Option (List D)} {as : Env → Rz (Env × List Rs)} {ρ ρ1 : Env} {q : List Rs} {ds es : List D} (ha : as ρ = .ok (ρ1, q)) (h1 : peekAll ρ1 q = some ds) (h : F ds = some es) : iRng F as ρ = .ok (ρ1, es) := by
  unfold iRng; rw [ha]
  show ((Rz.ofO (peekAll ρ1 q)).bind _) = _
  rw [h1]
  show ((Rz.ofO (F ds)).bind _) = _
  rw [h]; rfl
theorem for_ok {it : Env → Rz (Env × List D)} {tgf : D → Env → Rz Env} {g : Env → Rz (Env × Fl)} {ρ ρ1 : Env} {ds : List D} {z : Rz (Env × Fl)} (hi : it ρ = .ok (ρ1, ds)) (h : gForL tgf g ds ρ1 = z) : gFor it tgf g ρ = z := by
  unfold gFor; rw [hi]; exact h
theorem rng1 {n : Nat} (h : n ≤ 1000000) : dRng1 [.int (n : Int)] = some (intsD 0 n) := by
  show (if rngOk (n : Int) = true then some (intsD 0 (n : Int).toNat) else none) = _
  rw [if_pos (by unfold rngOk; rw [Bool.and_eq_true]; exact ⟨decide_eq_true (by omega), decide_eq_true (by omega)⟩), Int.toNat_natCast]
/-- an own list grows by a list -/
theorem ext_ok {i : Nat} {ρ ρ1 : Env} {acc ds : List D} {as : Env → Rz (Env × List Rs)} {q : List Rs} (h0 : ρ[i]? = some (.lo (.nd .lst acc))) (h : ρ1[i]? = some (.lo (.nd .lst acc))) (ha : as ρ = .ok (ρ1, q)) (hu : useAll ρ1 q = .ok (ρ1, [.nd .lst ds])) (hz : acc.length + ds.length ≤ 100000) :
    gExpr (eMth i mExtend as) ρ = .ok (ρ1.set i (.lo (.nd .lst (acc ++ ds))), .nx) := by
  have own0 : ownC ρ i = some (.lo (.nd .lst acc), .nd .lst acc) := by unfold ownC; rw [h0]; rfl
  have own : ownC ρ1 i = some (.lo (.nd .lst acc), .nd .lst acc) := by unfold ownC; rw [h]; rfl
  have s : sz (acc.length + ds.length) = true := decide_eq_true (Nat.le_trans hz (by decide))
  simp [gExpr, eMth, own0, own, isLst, ha, hu, mExtend, s, Sl.withD, Rz.bind]
theorem app_ok {i : Nat} {ρ : Env} {acc : List D} {d : D} {as : Env → Rz (Env × List Rs)} {q : List Rs} (h : ρ[i]? = some (.lo (.nd .lst acc))) (ha : as ρ = .ok (ρ, q)) (hu : useAll ρ q = .ok (ρ, [d])) (hz : acc.length ≤ 100000) :
    gExpr (eMth i mAppend as) ρ = .ok (ρ.set i (.lo (.nd .lst (acc ++ [d]))), .nx) := by
  have own : ownC ρ i = some (.lo (.nd .lst acc), .nd .lst acc) := by unfold ownC; rw [h]; rfl
  have s : sz (acc.length + 1) = true := decide_eq_true (Nat.le_trans (Nat.succ_le_succ hz) (by decide))
  simp [gExpr, eMth, own, isLst, ha, hu, mAppend, s, Sl.withD, Rz.bind]
/-- a def's run -/
theorem run_rt {n : Nat} {body : Env → Rz (Env × Fl)} {args ρ' : Env} {r r' : Rs} (h : body (args ++ List.replicate (n - args.length) .no) = .ok (ρ', .rt r)) (ho : okOuts args ρ' = true) (hr : retV ρ' r = .ok r') : noX (runF n body args) = .ok (ρ'.take args.length, r') := by
  unfold runF
  rw [h]
  simp only
  rw [if_pos ho, hr]
  rfl
/-- a call by one frozen value -/
theorem call_at {F : Env → Rz (Env × Rs)} {a : Env → Rz (Env × Rs)} {ρ ρ1 : Env} {x : Rs} {d : D} {o : Env} {r : Rs} (ha : a ρ = .ok (ρ1, x)) (hu : use ρ1 x = .ok (ρ1, d)) (h : F [.im d] = .ok (o, r)) (hl : 1 ≤ o.length) : eCallN 1 F [false] (aCons a aNil) ρ = .ok (ρ1, r) := by
  cases o with
  | nil => simp at hl
  | cons y o =>
    unfold eCallN
    rw [cons_ok ha (show aNil ρ1 = .ok (ρ1, []) from rfl)]
    have e : (useIm [false] ρ1 [x]) = .ok (ρ1, [.im d]) := by simp [useIm, hu]
    have m : mutIx [false] [x] = [] := by cases x <;> rfl
    simp only [Rz.ok_bind]
    show (if decide (1 = 1) = true then _ else _) = _
    rw [if_pos (decide_eq_true rfl)]
    unfold callBy
    rw [e, m]
    cases x <;> simp [fillPa, h, putBack]
end Fx

set_option Elab.async false
set_option linter.all false
set_option maxRecDepth 100000
set_option maxHeartbeats 4000000
namespace Fx
open PySem L2
/-! ### texts in order: the same from any order -/
theorem le_anti {a b : D} (ha : ∃ x, a = .str x) (hb : ∃ x, b = .str x) (h1 : PySem.W.dataLe false D.py a b = true) (h2 : PySem.W.dataLe false D.py b a = true) : a = b := by
  obtain ⟨x, rfl⟩ := ha
  obtain ⟨y, rfl⟩ := hb
  unfold PySem.W.dataLe PySem.W.sortLe at h1 h2
  simp only [cond_false, Bool.not_eq_true'] at h1 h2
  have e := PyProof.Rows.lex_total (O := PyProof.Rows.itemOrd) _ _ h2 h1
  rw [D.py, D.py, PySem.W.keyToks, PySem.W.keyToks] at e
  have e2 : x.cps.toList = y.cps.toList := by simpa using e
  have e3 : x.cps = y.cps := Array.toList_inj.mp e2
  cases x
  cases y
  simp at e3
  rw [e3]
theorem sort_perm {xs ys : List D} (hx : ∀ a ∈ xs, ∃ x, a = .str x) (hy : ∀ a ∈ ys, ∃ x, a = .str x) (h : xs.Perm ys) : sortD xs = sortD ys := by
  have T : PySem.W.TotalLe (PySem.W.dataLe false D.py) := PySem.W.sortLe_total _ false _
  refine List.Perm.eq_of_pairwise (le := fun a b => PySem.W.dataLe false D.py a b = true) (fun a b ha hb h1 h2 => ?_) (List.pairwise_mergeSort T.trans (fun a b => by rw [Bool.or_eq_true]; exact T.total a b) xs) (List.pairwise_mergeSort T.trans (fun a b => by rw [Bool.or_eq_true]; exact T.total a b) ys) (((List.mergeSort_perm xs _).trans h).trans (List.mergeSort_perm ys _).symm)
  exact le_anti (hx a ((List.mergeSort_perm xs _).mem_iff.mp ha)) (hy b ((List.mergeSort_perm ys _).mem_iff.mp hb)) h1 h2
theorem sortOk_strs : ∀ {xs : List D}, (∀ a ∈ xs, ∃ x, a = .str x) → sortOk xs = true := by
  intro xs h
  have p : D.plains xs = true := by
    induction xs with
    | nil => rw [D.plains]
    | cons a xs ih =>
      obtain ⟨x, rfl⟩ := h a List.mem_cons_self
      rw [D.plains, D.plain, ih fun b hb => h b (List.mem_cons_of_mem _ hb)]
      rfl
  have a : allAlike xs = true := by
    unfold allAlike
    rw [List.all_eq_true]
    intro d hd
    rw [List.all_eq_true]
    intro e he
    obtain ⟨x, rfl⟩ := h d hd
    obtain ⟨y, rfl⟩ := h e he
    unfold D.alike
    rw [D.py, D.py, PySem.W.alike]
  have s : sortableD xs = true := by
    unfold sortableD
    rw [Bool.or_eq_true]
    refine .inr ?_
    rw [List.all_eq_true]
    intro d hd
    obtain ⟨x, rfl⟩ := h d hd
    rfl
  unfold sortOk
  rw [p, a, s]
  show (xs.all fun d => decide (d.py.depth ≤ 64)) = true
  rw [List.all_eq_true]
  intro d hd
  obtain ⟨x, rfl⟩ := h d hd
  rw [D.py, PyData.depth]
  rfl
end Fx

set_option Elab.async false
set_option linter.all false
set_option maxRecDepth 100000
set_option maxHeartbeats 4000000
/-! an own exception class over classes over ValueError, whose __init__ says super().__init__(..) and keeps its arguments as fields -/
namespace Fx
namespace Exc
open PySem PySem.W PySem.Calls PyProof.Rows PySem.HandSPX

/-- the text of __init__, one field, two fields -/
def IsX1 (a : Str) (body : List Stmt) : Prop := ∃ p0 p1 p2 p3 p4 q r1 r2 r3 r4, body = [.Expr (.Call (.Attribute (.Call (.Name "super" p0) [] [] p1) "__init__" p2) [.Name a q] [] p3) p4, .Assign [.Attribute (.Name "self" r1) a r2] (.Name a r3) r4] ∧ (p2.endLine == p3.line) = true
def IsX2 (a b : Str) (body : List Stmt) : Prop := ∃ p0 p1 p2 p3 p4 q q' r1 r2 r3 r4 t1 t2 t3 t4, body = [.Expr (.Call (.Attribute (.Call (.Name "super" p0) [] [] p1) "__init__" p2) [.Name a q, .Name b q'] [] p3) p4, .Assign [.Attribute (.Name "self" r1) a r2] (.Name a r3) r4, .Assign [.Attribute (.Name "self" t1) b t2] (.Name b t3) t4] ∧ (p2.endLine == p3.line) = true

/-- what the written part says of the class x, at C; fs: its fields -/
structure XTxt (prog : Program) (K : Frag) (mg : Str → Option Value) (x : Str) (fs : List Str) (C : Addr) : Prop where
  gC : mg x = some (.ref C)
  cls : ∃ nm q N bs bm sn sub ab col dd k0 k1 k2 k3 k5, K.lookup C = some (excClassObj nm q C N bs bm true sn sub ab col dd k0 k1 k2 k3 k5 "ValueError.__new__") ∧ refsVE bm = true
  sa : findIn K (.ref C) "__setattr__" = some (some (.builtin "object.__setattr__"))
  ga : findIn K (.ref C) "__getattribute__" = some (some (.builtin "BaseException.__getattribute__"))
  gg : findIn K (.ref C) "__getattr__" = some none
  noN : ∀ f ∈ fs, findIn K (.ref C) f = some none
  kC : keepIn K (.ref C) = true
  exC : subIn K (.ref C) (.type "BaseException") = some true
  tyC : typeIn K (.ref C) = some (.type "type")
  hdC : hasDictIn K C = true
  tp : nsIn K cStatics "thirdparty.any" = some none
  sI : ks_superIn K C C "__init__" = some (some (.builtin "ValueError.__init__"))
  sV : subIn K (.ref C) (.type "ValueError") = some true
  mC : mroIn K C (.ref C) = some true
  su : mg "super" = none
  htop : (prog.main.scope.names.lookup ("super" : Str)).isSome = false
  init : ∃ (fI : Addr) (oc : Value) (od : Option Addr) (qual : Str) (params : Arguments) (body : List Stmt) (scope : Scope) (kV doc pm ct : Value) (an : Option Addr) (osl : Array (Option Value)) (cda cc : Addr) (ccl cl : Value) (cdd cld : Option Addr) (vs : Array Value) (ccs csl : Array (Option Value)) (file : Str) (tf : Tok),
    findIn K (.ref C) "__init__" = some (some (.ref fI)) ∧ typeIn K (.ref fI) = some (.type "function") ∧
    K.lookup fI = some ⟨oc, od, .func (ksFn "__init__" qual params body scope .none kV doc pm an (.ref cda) ct cc), osl⟩ ∧ codeIn K (.ref cda) qual = true ∧
    K.lookup cda = some ⟨ccl, cdd, .fields vs, ccs⟩ ∧ vs[2]? = some (.str file tf) ∧ ((prog.main.file : Str) == file) = true ∧
    K.lookup cc = some ⟨cl, cld, .cell (some (.ref C)), csl⟩ ∧
    (∃ ar, (params.posonlyargs ++ params.args).head? = some ar ∧ ar.arg = "self") ∧
    scope.names.lookup ("super" : Str) = some .globalImplicit ∧ scope.names.lookup ("__class__" : Str) = some .free ∧ scope.names.lookup ("self" : Str) = some .local ∧ (∀ f ∈ fs, scope.names.lookup f = some .local) ∧ (∀ x ∈ scope.names, x.2 ≠ .cell) ∧
    scope.kind = .function ∧ scope.isCoroutine = false ∧ scope.isGenerator = false ∧
    (∀ us : List Value, us.length = fs.length → ∀ self : Value, ∀ (kV' doc' pm' ct' : Value) (an' : Option Addr), ∀ s : Shared, BindsTo s (ksFn "__init__" qual params body scope .none kV' doc' pm' an' (.ref cda) ct' cc) ⟨self :: us, []⟩ (("self", self) :: fs.zip us)) ∧
    ((∃ a, fs = [a] ∧ a ≠ "self" ∧ IsX1 a body) ∨ (∃ a b, fs = [a, b] ∧ a ≠ "self" ∧ b ≠ "self" ∧ a ≠ b ∧ IsX2 a b body))

theorem evx (env : PySem.Env) (es : List Expr) (p0 p1 p2 p3 : Pos) (hp : (p2.endLine == p3.line) = true) (hf : methodCallForm (es.length + ([] : List Keyword).length) (backTo p3 (starEach es env)) (backToKw p3 (keywordEach [] env)) = true) : ∃ pl : Sem Bool, eval (.Call (.Attribute (.Call (.Name "super" p0) [] [] p1) "__init__" p2) es [] p3) env = (do
      let ov ← attributeBase (.Call (.Name "super" p0) [] [] p1) "__init__" env (eval (.Call (.Name "super" p0) [] [] p1) env)
      standAt p2.atName
      let (f, first) ← holding [ov] (getMethod ov "__init__" pl)
      callWith p3 f first (backTo p3 (starEach es env)) []) := ⟨(do return (← importBound (.Call (.Name "super" p0) [] [] p1) env).getD true), by
  have e : eval (.Call (.Attribute (.Call (.Name "super" p0) [] [] p1) "__init__" p2) es [] p3) env = (do
    let ov ← attributeBase (.Call (.Name "super" p0) [] [] p1) "__init__" env (eval (.Call (.Name "super" p0) [] [] p1) env)
    standAt p2.atName
    methodCall (.Call (.Name "super" p0) [] [] p1) "__init__" p2 p3 env ov (es.length + ([] : List Keyword).length) (backTo p3 (starEach es env)) (backToKw p3 (keywordEach [] env))) := rfl
  rw [e]
  unfold methodCall methodCallPos calleeOf
  rw [hf, hp]
  rfl⟩

section
variable {prog : Program} {w : World} {A : Around} {E : Value → Shared → Prop} {R : Result → Shared → Prop} {s : Shared} {K : Frag} {mg : Str → Option Value} {C : Addr}
/-- super().__init__(..) within the __init__, by the state -/
theorem sup_init {x : Str} {fs : List Str} (T : XTxt prog K mg x fs C) {body : List Stmt} {scope : Scope} {qual : Str} {L fI cda cc e t0 : Addr} {es : List Expr} {us : List Value} {params : Arguments} {kV doc pm ct oc : Value} {an od : Option Addr} {osl ccs csl : Array (Option Value)} {ccl cl : Value} {cdd cld : Option Addr} {vs : Array Value} {file : Str} {tf : Tok} {ar : Arg} {m : Str → Option Value} {p0 p1 p2 p3 p4 : Pos} {Q : Flow → Shared → Prop}
    (X : K.In s.heap) (gl : s.heap.Ns mainGlobals mg) (bl : ∃ mb, s.heap.Ns builtinsNs mb ∧ ∀ x : Str, x ≠ "__name__" → mb x = bootBuiltins x)
    (hf : K.lookup fI = some ⟨oc, od, .func (ksFn "__init__" qual params body scope .none kV doc pm an (.ref cda) ct cc), osl⟩)
    (hcode : K.lookup cda = some ⟨ccl, cdd, .fields vs, ccs⟩) (hvs : vs[2]? = some (.str file tf)) (hfile : ((prog.main.file : Str) == file) = true) (hcell : K.lookup cc = some ⟨cl, cld, .cell (some (.ref C)), csl⟩)
    (hp : (params.posonlyargs ++ params.args).head? = some ar) (har : ar.arg = "self") (hks : scope.names.lookup ("super" : Str) = some .globalImplicit) (hkc : scope.names.lookup ("__class__" : Str) = some .free) (hka : scope.names.lookup ("self" : Str) = some .local) (hk : scope.kind = .function)
    (hn : s.heap.Ns L m) (hself : m "self" = some (.ref e)) (he : s.heap.get? e = some (excO C t0)) (hu : us.length ≤ sizeLine)
    (hpl : (backTo p3 (starEach es (ksEnv qual scope L fI (.ref cda) cc))).any (·.1) = false)
    (hargs : ∀ (s' : Shared) (u : Addr) (P : PySem.Args → Shared → Prop) (E' : Value → Shared → Prop), s'.heap.Ns L m → P ⟨us, []⟩ s' → wpAny (model prog w) A (evalArgs (.ref u) true (backTo p3 (starEach es (ksEnv qual scope L fI (.ref cda) cc))) []) P E' s')
    (heq : ∃ pl : Sem Bool, eval (.Call (.Attribute (.Call (.Name "super" p0) [] [] p1) "__init__" p2) es [] p3) (ksEnv qual scope L fI (.ref cda) cc) = (do
      let ov ← attributeBase (.Call (.Name "super" p0) [] [] p1) "__init__" (ksEnv qual scope L fI (.ref cda) cc) (eval (.Call (.Name "super" p0) [] [] p1) (ksEnv qual scope L fI (.ref cda) cc))
      standAt p2.atName
      let (f, first) ← holding [ov] (getMethod ov "__init__" pl)
      callWith p3 f first (backTo p3 (starEach es (ksEnv qual scope L fI (.ref cda) cc))) []))
    (hq : ∀ h' tk t1, (∀ b o, b ≠ e → s.heap.get? b = some o → h'.get? b = some o) → h'.get? e = some (excO C t1) → s.heap.objs.size ≤ h'.objs.size → Q .next { s with heap := h', toks := tk }) :
    _root_.PySem.wpAt (model prog w) A (.func body (ksEnv qual scope L fI (.ref cda) cc)) (exec (.Expr (.Call (.Attribute (.Call (.Name "super" p0) [] [] p1) "__init__" p2) es [] p3) p4) (ksEnv qual scope L fI (.ref cda) cc)) Q E s := by
  obtain ⟨nm, q, N, bs, bm, sn, sub, ab, col, dd, k0, k1, k2, k3, k5, hC, hbm⟩ := T.cls
  have hcl : clsIn K C = some { name := nm, bases := bs, mro := .ref C :: bm, ns := N, qualname := q, hasDict := true, slotNames := sn, subclasses := sub, abstract := ab, collection := col, hasDel := false } := by unfold clsIn; rw [hC] <;> rfl
  obtain ⟨mb, hmb, hboot⟩ := bl
  have I : InstAt s.heap e (excO C t0) C none := ⟨he, rfl, rfl, trivial⟩
  obtain ⟨hh, g, d, t, os⟩ := s
  have hD1 := X _ _ hC
  refine ks_wpAt_Expr_any ?_ (hi := by unfold interactive; simp [hk])
  obtain ⟨pl, heq⟩ := heq
  refine ks_wpAt_MethodCall ?_ heq
  refine ks_wpAt_super_base (env := ksEnv qual scope L fI (.ref cda) cc) hks hkc (by decide) rfl (X _ _ hf) rfl hp rfl (X _ _ hcode) rfl hvs hfile T.htop ?_
  refine ks_loadName_global hk hks (loadGlobal_builtin (env := ksEnv qual scope L fI (.ref cda) cc) gl T.su hmb ((hboot _ (by decide)).trans (by first | boot_by_name | rfl | kernel_rfl)) ⟨rfl, ?_⟩)
  refine wpAny_loadName_free hk hkc rfl ⟨_, X _ _ hcell, rfl⟩ ?_
  rw [har]
  refine wpAny_loadName_local hk hka hn hself ?_
  refine ks_wpAny_isType_cls hD1 rfl ⟨rfl, ?_⟩
  refine ks_wpAny_call_super hD1 rfl I.at_ I.cls (fun c z => by cases z) (looks_mroIn X T.mC) (fun h1 hso k1' => ?_)
  have X1 : K.In h1 := X.keeps k1'
  have he1 := k1' _ _ he
  have I1 : InstAt h1 e (excO C t0) C none := ⟨he1, rfl, rfl, trivial⟩
  have hI : Looks (model prog w) h1 (isInstance (.ref e) (.type "ValueError")) true := I1.type.andThen (looks_subIn X1 T.sV)
  have hm := T.sI
  unfold ks_superIn at hm
  rw [hcl] at hm
  refine kxs_getMethod kxs_ValueError hso (looks_opaque X1 T.tp) (l₀ := .ref C :: bm) ?_ rfl X1 hm hI (ks_ne X1 I1 hcl) (by decide) ?_
  · exact fun A Q E s k q => wpAny_bind ((looks_clsIn X1 hcl) A _ E s k (wpAny_pure q))
  show wpAny _ _ (callWith p3 (.ref h1.objs.size) [] _ []) _ _ _
  have k2' : ∀ b o, h1.get? b = some o → (h1.push (kxs_mw "ValueError.__init__" e)).get? b = some o := fun b o z => Heap.get?_push_of_some _ z
  have hn2 : (h1.push (kxs_mw "ValueError.__init__" e)).Ns L m := hn.at fun o z => k2' _ _ (k1' _ _ z)
  have hu1 : (h1.push (kxs_mw "ValueError.__init__" e)).get? h1.objs.size = some (kxs_mw "ValueError.__init__" e) := Heap.get?_push_at rfl rfl
  have he2 := k2' _ _ he1
  refine kxs_callWith (i := "ValueError.__init__") (x := e) hpl (hargs _ _ _ _ hn2 ⟨hu1, ?_⟩)
  refine wpAny_call (codeAny_of_tree ?_)
  show wpAny _ A.in1 (callAny (.ref h1.objs.size) ⟨us, []⟩) _ _ _
  simp only [callAny]
  refine wpAny_bind (wpAny_load hu1 ?_)
  simp only [kxs_mw, show (Value.type "method-wrapper" == Value.type "method" || Value.type "method-wrapper" == Value.type "builtin_function_or_method" || Value.type "method-wrapper" == Value.type "method-wrapper") = true by decide, if_true]
  refine KFB.if_so (by decide) ?_
  refine wpAny_bind (check_bound_init PySem.F.excBase_ValueError.toExcCallFacts (k2' _ _ (k1' _ _ hD1)) he2 rfl ?_)
  refine wpAny_bind (wpAny_pure (wpAny_pure ?_))
  refine ⟨plainId_quiet PySem.F.excBase_ValueError.init.plain _, codeAny_builtin PySem.F.excBase_ValueError.initEntry ?_⟩
  refine exc_init_tree (cls := .ref C) (t0 := t0) (dv := none) (c2 := .none) (c3 := .none) (b4 := .bool false) he2 hu fun h3 k3 e3 t3 => ?_
  refine hq h3 _ _ (fun b o hb z => k3 b o hb (k2' _ _ (k1' _ _ z))) e3 ?_
  have l1 := Heap.lt_size t3
  have l2 := Heap.lt_size hso
  rw [Heap.size_push] at l1
  exact Nat.le_of_lt (Nat.lt_trans l2 (Nat.lt_trans (Nat.lt_succ_self _) l1))
/-- what __init__ leaves of a fresh exception at x -/
structure InitEnd (h h' : Heap) (x C dx t1 : Addr) (fm : Str → Option Value) : Prop where
  keep : ∀ b o, b ≠ x → h.get? b = some o → h'.get? b = some o
  obj : h'.get? x = some { cls := .ref C, dict := some dx, data := .fields #[.ref t1, .none, .none, .none, .bool false, .none] }
  dbig : h.objs.size ≤ dx
  dne : dx ≠ x
  ns : h'.Ns1 dx fm
theorem small {us : List Value} (h : us.length ≤ 2) : us.length ≤ sizeLine := by
  rw [sizeLine_eq]; omega
theorem look2 {a b : Str} {u v : Value} (h : a ≠ b) (y : Str) : (if y = b then some v else if y = a then some u else none) = [(a, u), (b, v)].lookup y := by
  by_cases h1 : y = b
  · subst h1
    have : (y == a) = false := by simpa using fun e => h e.symm
    simp [List.lookup, this]
  · by_cases h2 : y = a
    · subst h2; simp [List.lookup, h1]
    · have e1 : (y == a) = false := by simpa using h2
      have e2 : (y == b) = false := by simpa using h1
      simp [List.lookup, e1, e2, h1, h2]
theorem look1 {a : Str} {u : Value} (y : Str) : (if y = a then some u else none) = [(a, u)].lookup y := by
  by_cases h2 : y = a
  · subst h2; simp [List.lookup]
  · have e1 : (y == a) = false := by simpa using h2
    simp [List.lookup, e1, h2]
theorem ldK {M : Model} {s : Shared} {name : Str} {scope : Scope} {L a cc : Addr} {cd : Value} {m : Str → Option Value} {x : Str} {pos : Pos} {v : Value} {Q : Value → Shared → Prop} {A : Around} {E : Value → Shared → Prop} (hn : s.heap.Ns L m) (hv : m x = some v) (hk : scope.kind = .function) (hl : scope.names.lookup x = some .local) (hd : (x == ("__debug__" : Str)) = false) (h : Q v s) :
    wpAny M A (eval (.Name x pos) (ksEnv name scope L a cd cc)) Q E s := wpAny_Name (wpAny_loadName_local hk hl hn hv h) hd
theorem x_init {x : Str} {fs : List Str} (T : XTxt prog K mg x fs C) (hdb : ∀ f ∈ fs, (f == ("__debug__" : Str)) = false) : ∃ fI, findIn K (.ref C) "__init__" = some (some (.ref fI)) ∧ typeIn K (.ref fI) = some (.type "function") ∧
    ∀ (w : World) (A : Around) (R : Result → Shared → Prop) (s : Shared) (e t0 : Addr) (us : List Value), K.In s.heap → s.heap.Ns mainGlobals mg → (∃ mb, s.heap.Ns builtinsNs mb ∧ ∀ x : Str, x ≠ "__name__" → mb x = bootBuiltins x) → s.heap.NoLimit →
      s.heap.get? e = some (excO C t0) → K.lookup e = none → A.depth < recursionLimit → us.length = fs.length →
      (∀ h' tk dx t1, InitEnd s.heap h' e C dx t1 (fun y => (fs.zip us).lookup y) → R (.ok (.ret .none)) { s with heap := h', toks := tk }) →
      codeAny (model prog w) A (.call (.ref fI) ⟨.ref e :: us, []⟩) R s := by
  obtain ⟨nm, q, N, bs, bm, sn, sub, ab, col, dd, k0, k1, k2, k3, k5, hC, hbm⟩ := T.cls
  have hcl : clsIn K C = some { name := nm, bases := bs, mro := .ref C :: bm, ns := N, qualname := q, hasDict := true, slotNames := sn, subclasses := sub, abstract := ab, collection := col, hasDel := false } := by unfold clsIn; rw [hC] <;> rfl
  obtain ⟨fI, oc, od, qual, params, body, scope, kV, doc, pm, ct, an, osl, cda, cc, ccl, cl, cdd, cld, vs, ccs, csl, file, tf, hfind, htyp, hf, hcodeIn, hcode, hvs, hfile, hcell, ⟨ar, hp, har⟩, hks, hkc, hka, hkf, hnoc, hk, hco, hgen, hbind, hshape⟩ := T.init
  refine ⟨fI, hfind, htyp, fun w A R s e t0 us X gl bl hlim he hne hroom hus hq => ?_⟩
  refine ks_codeAny_call_defAt (fd := ksFn "__init__" qual params body scope .none kV doc pm an (.ref cda) ct cc) (body := body) (binds := ("self", .ref e) :: fs.zip us) hroom (X _ _ hf) rfl hlim (codeRec_of X hcodeIn) rfl (hbind us hus (.ref e) _ _ _ _ _ s) hnoc ?_ (fun h₁ hns hk₁ => ?_) hco hgen hk
  · intro y hy
    rcases List.mem_cons.mp hy with rfl | hy
    · exact hka
    · exact hkf _ (List.of_mem_zip hy).1
  show _root_.PySem.wpAt _ (A.deeper (ksEnv qual scope s.heap.objs.size fI (.ref cda) cc)) (.func body (ksEnv qual scope s.heap.objs.size fI (.ref cda) cc)) (execs body (ksEnv qual scope s.heap.objs.size fI (.ref cda) cc)) _ _ _
  have X₁ : K.In h₁ := X.keeps hk₁
  have gl1 := gl.keeps hk₁
  have bl1 : ∃ mb, h₁.Ns builtinsNs mb ∧ ∀ x : Str, x ≠ "__name__" → mb x = bootBuiltins x := by
    obtain ⟨mb, a, b⟩ := bl
    exact ⟨mb, a.keeps hk₁, b⟩
  have he1 := hk₁ _ _ he
  have hLe : s.heap.objs.size ≠ e := Nat.ne_of_gt (Heap.lt_size he)
  have keepX : ∀ {h'' : Heap}, (∀ b o, b ≠ e → h₁.get? b = some o → h''.get? b = some o) → K.In h'' := fun {h''} kk b o z => kk b o (fun y => by rw [y] at z; rw [hne] at z; cases z) (X₁ b o z)
  have szL : s.heap.objs.size < h₁.objs.size := by
    obtain ⟨oL, _, _, hL, _⟩ := hns
    exact Heap.lt_size hL
  rcases hshape with ⟨a, rfl, ha, p0, p1, p2, p3, p4, q1, r1, r2, r3, r4, rfl, hpos⟩ | ⟨a, b, rfl, ha, hb, hab, p0, p1, p2, p3, p4, q1, q2, r1, r2, r3, r4, t1', t2, t3, t4, rfl, hpos⟩
  · obtain ⟨u, rfl⟩ : ∃ u, us = [u] := by
      match us, hus with
      | [u], _ => exact ⟨u, rfl⟩
    have mS : ((("self" : Str), Value.ref e) :: [a].zip [u]).reverse.lookup ("self" : Str) = some (.ref e) := by
      have : (("self" : Str) == a) = false := by simpa using fun z => ha z.symm
      simp [List.lookup, this]
    have mA : ((("self" : Str), Value.ref e) :: [a].zip [u]).reverse.lookup a = some u := by simp [List.lookup]
    have da := hdb a (by simp)
    have la := hkf a (by simp)
    refine ks_wpAt_execs_cons (sup_init (m := fun x => ((("self" : Str), Value.ref e) :: [a].zip [u]).reverse.lookup x) (e := e) (t0 := t0) (us := [u]) (ar := ar) T X₁ gl1 bl1 hf hcode hvs hfile hcell hp har hks hkc hka hk hns mS he1 (small (by simp)) (by rfl) ?_ (evx _ _ _ _ _ _ hpos (by rfl)) ?_)
    · intro s' u' P E' hn' hP
      exact evalArgs_plain (Calls.spliced_cons (ldK hn' mA hk la da (Calls.spliced_nil hP)))
    · intro h2 tk2 t1 k2' e2 sz2
      refine wpAt_of_wpAny ?_
      have hn2 : h2.Ns s.heap.objs.size (fun x => ((("self" : Str), Value.ref e) :: [a].zip [u]).reverse.lookup x) := hns.at fun o z => k2' _ _ hLe z
      have X2 : K.In h2 := keepX k2'
      show wpAny _ _ (execs _ _) _ _ _
      refine wpAny_execs_cons (plainObj_wpAny_Assign_Attribute ?_)
      refine ldK hn2 mA hk la da (ldK hn2 mS hk hka (by decide) ?_)
      refine set_plain X2 (ox := excO C t1) (od := none) ⟨e2, rfl, rfl, trivial⟩ T.sa ?_
      refine exc_osa X2 e2 hcl (show refsVE (.ref C :: bm) = true from hbm) rfl (T.noN a (by simp)) (fun h₃ tk₃ dx k₃ dn dne hx₃ hn₃ => ?_)
      show wpAny _ _ (execs _ _) _ _ _
      refine wpAny_execs_nil (hq h₃ tk₃ dx t1 ⟨fun b o hb z => k₃ b o hb (k2' b o hb (hk₁ b o z)), hx₃, Nat.le_trans (Nat.le_of_lt szL) (Nat.le_trans (show h₁.objs.size ≤ h2.objs.size from sz2) (show h2.objs.size ≤ dx from dn)), dne, ?_⟩)
      have : (fun y => ([a].zip [u]).lookup y) = fun y => if y = a then some u else none := by funext y; exact (look1 y).symm
      rw [this]
      exact hn₃
  · obtain ⟨u, v, rfl⟩ : ∃ u v, us = [u, v] := by
      match us, hus with
      | [u, v], _ => exact ⟨u, v, rfl⟩
    have mS : ((("self" : Str), Value.ref e) :: [a, b].zip [u, v]).reverse.lookup ("self" : Str) = some (.ref e) := by
      have h1 : (("self" : Str) == a) = false := by simpa using fun z => ha z.symm
      have h2 : (("self" : Str) == b) = false := by simpa using fun z => hb z.symm
      simp [List.lookup, h1, h2]
    have mA : ((("self" : Str), Value.ref e) :: [a, b].zip [u, v]).reverse.lookup a = some u := by
      have h1 : (a == b) = false := by simpa using hab
      simp [List.lookup, h1]
    have mB : ((("self" : Str), Value.ref e) :: [a, b].zip [u, v]).reverse.lookup b = some v := by simp [List.lookup]
    have da := hdb a (by simp)
    have la := hkf a (by simp)
    have db := hdb b (by simp)
    have lb := hkf b (by simp)
    refine ks_wpAt_execs_cons (sup_init (m := fun x => ((("self" : Str), Value.ref e) :: [a, b].zip [u, v]).reverse.lookup x) (e := e) (t0 := t0) (us := [u, v]) (ar := ar) T X₁ gl1 bl1 hf hcode hvs hfile hcell hp har hks hkc hka hk hns mS he1 (small (by simp)) (by rfl) ?_ (evx _ _ _ _ _ _ hpos (by rfl)) ?_)
    · intro s' u' P E' hn' hP
      exact evalArgs_plain (Calls.spliced_cons (ldK hn' mA hk la da (Calls.spliced_cons (ldK hn' mB hk lb db (Calls.spliced_nil hP)))))
    · intro h2 tk2 t1 k2' e2 sz2
      refine wpAt_of_wpAny ?_
      have hn2 : h2.Ns s.heap.objs.size (fun x => ((("self" : Str), Value.ref e) :: [a, b].zip [u, v]).reverse.lookup x) := hns.at fun o z => k2' _ _ hLe z
      have X2 : K.In h2 := keepX k2'
      show wpAny _ _ (execs _ _) _ _ _
      refine wpAny_execs_cons (plainObj_wpAny_Assign_Attribute ?_)
      refine ldK hn2 mA hk la da (ldK hn2 mS hk hka (by decide) ?_)
      refine set_plain X2 (ox := excO C t1) (od := none) ⟨e2, rfl, rfl, trivial⟩ T.sa ?_
      refine exc_osa X2 e2 hcl (show refsVE (.ref C :: bm) = true from hbm) rfl (T.noN a (by simp)) (fun h₃ tk₃ dx k₃ dn dne hx₃ hn₃ => ?_)
      show wpAny _ _ (execs _ _) _ _ _
      have hn3' : h₃.Ns s.heap.objs.size (fun x => ((("self" : Str), Value.ref e) :: [a, b].zip [u, v]).reverse.lookup x) := hn2.at fun o z => k₃ _ _ hLe z
      have X3 : K.In h₃ := keepX fun b' o hb z => k₃ b' o hb (k2' b' o hb z)
      refine wpAny_execs_cons (plainObj_wpAny_Assign_Attribute ?_)
      refine ldK hn3' mB hk lb db (ldK hn3' mS hk hka (by decide) ?_)
      obtain ⟨oD, esD, epD, hoD, hdD, _⟩ := hn₃.count (ns := [a]) (fun y hy => by
        by_cases h : y = a
        · simp [h]
        · exact absurd (if_neg h) hy)
      refine set_plain X3 (ox := { cls := .ref C, dict := some dx, data := (excO C t1).data }) (od := some oD) ⟨hx₃, rfl, rfl, hoD⟩ T.sa ?_
      refine PySem.OEX.osa_old (nl := [a]) X3 hx₃ hn₃ (fun y hy => by
        by_cases h : y = a
        · simp [h]
        · exact absurd (if_neg h) hy) (by simp) hcl (show refsVE (.ref C :: bm) = true from hbm) rfl (T.noN b (by simp)) (fun h₄ tk₄ k₄ hn₄ => ?_)
      show wpAny _ _ (execs _ _) _ _ _
      have dxs : s.heap.objs.size ≤ dx := Nat.le_trans (Nat.le_of_lt szL) (Nat.le_trans (show h₁.objs.size ≤ h2.objs.size from sz2) (show h2.objs.size ≤ dx from dn))
      refine wpAny_execs_nil (hq h₄ tk₄ dx t1 ⟨fun b' o hb' z => k₄ b' o (fun y => by
          have := Heap.lt_size z
          rw [y] at this
          exact absurd this (Nat.not_lt.mpr dxs)) (k₃ b' o hb' (k2' b' o hb' (hk₁ b' o z))), k₄ _ _ (Ne.symm dne) hx₃, dxs, dne, ?_⟩)
      have : (fun y => ([a, b].zip [u, v]).lookup y) = fun y => if y = b then some v else if y = a then some u else none := by funext y; exact (look2 hab y).symm
      rw [this]
      exact hn₄
end
end Exc
end Fx

set_option Elab.async false
set_option linter.all false
set_option maxRecDepth 100000
set_option maxHeartbeats 4000000
/-! such an exception made by a call: the rule -/
namespace Fx
namespace Exc
open PySem PySem.W PySem.Calls PyProof.Rows PySem.HandSPX
/-- a made exception -/
structure XMade (h h' : Heap) (e C d : Addr) (fm : Str → Option Value) : Prop where
  keep : ∀ b o, h.get? b = some o → h'.get? b = some o
  new : h.objs.size ≤ e
  obj : ∃ oe vs, h'.get? e = some oe ∧ oe.cls = .ref C ∧ oe.dict = some d ∧ oe.data = .fields vs ∧ vs[1]? = some .none
  dbig : h.objs.size ≤ d
  dne : d ≠ e
  ns : h'.Ns1 d fm
section
variable {prog : Program} {w : World} {A : Around} {R : Result → Shared → Prop} {s : Shared} {K : Frag} {mg : Str → Option Value} {C : Addr}
theorem x_made {x : Str} {fs : List Str} (T : XTxt prog K mg x fs C) (hdb : ∀ f ∈ fs, (f == ("__debug__" : Str)) = false) {us : List Value} (hus : us.length = fs.length) (hf2 : fs.length ≤ 2) (X : K.In s.heap) (gl : s.heap.Ns mainGlobals mg) (bl : ∃ mb, s.heap.Ns builtinsNs mb ∧ ∀ x : Str, x ≠ "__name__" → mb x = bootBuiltins x) (hlim : s.heap.NoLimit) (hroom : A.depth + 1 < recursionLimit)
    (hq : ∀ h' tk e d, XMade s.heap h' e C d (fun y => (fs.zip us).lookup y) → R (.ok (.ret (.ref e))) { s with heap := h', toks := tk }) :
    codeAny (model prog w) A (.call (.ref C) ⟨us, []⟩) R s := by
  obtain ⟨nm, q, N, bs, bm, sn, sub, ab, col, dd, k0, k1, k2, k3, k5, hC, hbm⟩ := T.cls
  obtain ⟨fI, iC, tC, run⟩ := x_init T hdb
  obtain ⟨hp, g, dr, tk, os⟩ := s
  have k : ∀ b o, hp.get? b = some o → ((hp.push (kdv_tup us)).push (excO C hp.objs.size)).get? b = some o := fun b o e => Heap.get?_push_of_some _ (Heap.get?_push_of_some _ e)
  have hget : ((hp.push (kdv_tup us)).push (excO C hp.objs.size)).get? (hp.objs.size + 1) = some (excO C hp.objs.size) := by heap_get
  have hnx : K.lookup (hp.objs.size + 1) = none := by
    cases e : K.lookup (hp.objs.size + 1) with
    | none => rfl
    | some o =>
      have z : hp.get? (hp.objs.size + 1) = some o := X _ _ e
      exact absurd (Nat.lt_of_succ_lt (Heap.lt_size z)) (Nat.lt_irrefl _)
  refine call_own PySem.F.excBase_ValueError (fun X => refsVE_contains X bm hbm) (X _ _ hC) (looks_findIn X iC) (fun self => bind_fn X self tC) (small (by omega)) ?_
  refine run w _ _ ⟨(hp.push (kdv_tup us)).push (excO C hp.objs.size), g, dr, tk, os⟩ (hp.objs.size + 1) hp.objs.size us (X.keeps k) (gl.keeps k) ?_ (hlim.keeps k) hget hnx ?_ hus fun h' tk' dx t1 ⟨k', hx, dn, dne, hns⟩ => ?_
  · obtain ⟨mb, a, b⟩ := bl
    exact ⟨mb, a.keeps k, b⟩
  · show A.depth + 1 < recursionLimit
    exact hroom
  · have old : ∀ b o, hp.get? b = some o → h'.get? b = some o := fun b o e => k' b o (Nat.ne_of_lt (Nat.lt_succ_of_lt (Heap.lt_size e))) (k b o e)
    have z : hp.objs.size + 1 + 1 ≤ dx := by
      have q := dn
      rw [Heap.size_push, Heap.size_push] at q
      exact q
    exact ⟨rfl, hq h' tk' (hp.objs.size + 1) dx ⟨old, Nat.le_succ _, ⟨_, _, hx, rfl, rfl, rfl, rfl⟩, Nat.le_trans (Nat.le_trans (Nat.le_succ _) (Nat.le_succ _)) z, dne, hns⟩⟩
end
end Exc
end Fx
namespace L2
open PySem PySem.Spec PyProof.Rows
theorem relO_zip : ∀ {fs : List Str} {vs : List V} {us : List Value}, Vals vs us → ∀ f, RelO (List.lookup f (fs.zip vs)) (List.lookup f (fs.zip us))
  | [], _, _, _, f => by simp [List.lookup]; trivial
  | _ :: _, _, _, .nil, f => by simp [List.lookup]; trivial
  | a :: fs, _, _, .cons r t, f => by
    rw [List.zip_cons_cons, List.zip_cons_cons, List.lookup_cons, List.lookup_cons]
    cases f == a with
    | true => exact r
    | false => exact relO_zip t f
section
variable {X : Cx} {C : Addr}
/-- C(e, ..), what it gives -/
def tMkX (C : Addr) (fs : List Str) (ta : TA) : St → Hp → XK → Prop := fun σ H Q => ta σ H fun vs H1 => vs.length = fs.length ∧ ∀ d, H1 d = none → Q (.ref C) (some d) (upd H1 d (.xd (fs.zip vs)))
theorem pmk_x {x : Str} {fs : List Str} {a : Expr} {es : List Expr} {ta : TA} {p pos : Pos} {k : Nat} (T : Fx.Exc.XTxt X.prog X.K X.mg x fs C) (hdb : ∀ f ∈ fs, (f == ("__debug__" : Str)) = false) (hf2 : fs.length ≤ 2) (hr : Room k X.A) (ha : PA X (a :: es) ta) (hg : Gl X x) (hxd : (x == ("__debug__" : Str)) = false)
    (he : starEach (a :: es) X.env = (false, eval a X.env) :: starEach es X.env := by rfl) (hpl : (backTo pos (starEach es X.env)).any (·.1) = false := by rfl) :
    PMk X (.Call (.Name x p) (a :: es) [] pos) (tMkX C fs ta) := by
  intro pins s σ H Q I h
  refine wpAny_Call_Name_kw (ld_glob I hg T.gC ?_ hxd)
  refine PySem.W.callWith_K (h₀ := X.base) I.ok.mod.kin T.kC (thn (ha.run pos pins s σ H _ I h) fun us s1 hh => ?_) he hpl
  obtain ⟨vs, H1, I1, r1, hl, q1⟩ := hh
  refine ⟨I1.kIn, ?_⟩
  have hlim := I1.nolimit
  have gl := I1.mod.glob.keeps I1.bk
  obtain ⟨mb, h1, h2⟩ := I1.mod.blt
  have hlu : us.length = fs.length := by rw [← r1.length]; exact hl
  obtain ⟨hp, g, dr, tk, os⟩ := s1
  refine wpAny_call (Fx.Exc.x_made T hdb hlu hf2 I1.kIn gl ⟨mb, h1.keeps I1.bk, h2⟩ hlim (by have := hr.dp; omega) fun h' tk' e d M => ?_)
  show MkP X pins σ Q (.ref e) ⟨h', g, dr, tk', os⟩
  obtain ⟨oe, fv, hoe, hc, hd, hdat, h1'⟩ := M.obj
  have hns := M.ns
  obtain ⟨G', g1, g2⟩ := restrict h' fun b => decide (b ≠ e)
  have gk : ∀ b, b ≠ e → G'.get? b = h'.get? b := fun b hb => g1 b (decide_eq_true hb)
  have ge : G'.get? e = none := g2 e (by simp)
  have old : ∀ b o, hp.get? b = some o → G'.get? b = some o := fun b o q => (gk b (Nat.ne_of_lt (Nat.lt_of_lt_of_le (Heap.lt_size q) M.new))).trans (M.keep b o q)
  have ob : ObjOk X.prog X.w (upd H1 d (.xd (fs.zip vs))) G' d (.xd (fs.zip vs)) :=
    ⟨_, hns.at (fun o q => (gk d M.dne).trans q), fun f => relO_zip r1 f⟩
  have J : Inv X pins σ (upd H1 d (.xd (fs.zip vs))) ⟨G', g, dr, tk', os⟩ := I1.laid (t' := tk') old M.dbig ob
  refine ⟨e, oe, fv, ⟨G', g, dr, tk', os⟩, _, .ref C, some d, rfl, J, fun b o q => ?_, ge, hoe, ⟨hc, hd⟩, hdat, h1', ?_, rfl, I1.bare, raises_own T.exC T.tyC, q1 d (I1.hok.fresh M.dbig)⟩
  · by_cases hb : b = e
    · have q' : G'.get? b = some o := q
      rw [hb, ge] at q'; cases q'
    · exact (gk b hb).symm.trans q
  · rw [upd_ne (Ne.symm M.dne)]
    exact I1.hok.fresh M.new
end
end L2

set_option Elab.async false
set_option linter.all false
set_option maxRecDepth 100000
set_option maxHeartbeats 4000000
namespace Fx
open PySem L2
variable [Tb]
/-! ### raise C(e, ..) -/
def gRaise (c : Str) (fs : List Str) (args : Env → Rz (Env × List Rs)) : Env → Rz (Env × Fl) := fun ρ => (args ρ).bind fun p => (useAll p.1 p.2).bind fun q => if decide (q.2.length = fs.length) = true then .ex ⟨c, fs.zip q.2⟩ q.1 else .no
/-- an exception class of the module -/
structure XCls (P : Program) (K : PySem.W.Frag) (mg : Str → Option Value) (c : Str) (fs : List Str) : Prop where
  ex : ∃ C, Exc.XTxt P K mg c fs C
  db : ∀ f ∈ fs, (f == ("__debug__" : Str)) = false
  two : fs.length ≤ 2
section
variable {X : Cx} {W : WX} {st : Stmt} {rest : List Stmt} {e a : Expr} {es : List Expr} {pos p pos2 : Pos}
/-- a statement's reading from arguments -/
theorem sbHs {M : Md} {Γ : Gh} {Hf : Hp} {σ : L2.St} {H : Hp} {ρ : Env} {β : Type} {P : β → Prop} {f : Env → Rz (Env × List Rs)} {g : Env × List Rs → Rz β} {Q : List V → Hp → Prop} (R : Rep M Γ Hf σ H ρ) (hw : ((f ρ).bind g).wp P (EPs M W Γ Hf σ.length))
    (k : ∀ ρ1 r Hf1 H1 v, Same Hf Hf1 → Rep M Γ Hf1 σ H1 ρ1 → HsAll M Hf1 σ r v → (g (ρ1, r)).wp P (EPs M W Γ Hf1 σ.length) → Q v H1) : rdHs M W f σ H Q :=
  ⟨Γ, Hf, ρ, R, Rz.wp_mono (Rz.wp_bind hw) (fun p hp Hf1 H1 v S R1 hv => k p.1 p.2 Hf1 H1 v S R1 hv (Rz.wp_mono hp (fun _ z => z) (EPs.up S))) (EPs.ex rfl)⟩
theorem zip_fst_eq {α β : Type} : ∀ {l : List α} {m : List β}, m.length = l.length → (l.zip m).map (·.1) = l
  | [], m, _ => by simp
  | a :: l, [], h => by simp at h
  | a :: l, b :: m, h => by simp [zip_fst_eq (l := l) (m := m) (by simpa using h)]
theorem zip_snd_eq {α β : Type} : ∀ {l : List α} {m : List β}, m.length = l.length → (l.zip m).map (·.2) = m
  | [], [], _ => by simp
  | [], _ :: _, h => by simp at h
  | a :: l, [], h => by simp at h
  | a :: l, b :: m, h => by simp [zip_snd_eq (l := l) (m := m) (by simpa using h)]
theorem rs_raise {c : Str} {fs : List Str} {k : Nat} {args : Env → Rz (Env × List Rs)} (T : XCls X.prog X.K X.mg c fs) (hr : Room k X.A) (tk : Takes X W) (ha : RHs X W (a :: es) args) (hg : Gl X c := by rfl) (hc : X.calm = true := by rfl) (hxd : (c == ("__debug__" : Str)) = false := by decide)
    (he : starEach (a :: es) X.env = (false, eval a X.env) :: starEach es X.env := by rfl) (hpl : (backTo pos (starEach es X.env)).any (·.1) = false := by rfl) :
    RS X W (.Raise (some (.Call (.Name c p) (a :: es) [] pos)) none pos2) (gRaise c fs args) := by
  obtain ⟨⟨C, T⟩, hdb, h2⟩ := T
  refine ps_mono (ps_raise hc tk (pmk_x T hdb h2 hr ha hg hxd he hpl)) fun D σ H ⟨Γ, Hf, ρ, R, hw⟩ => sbHs R hw fun ρ1 rs Hf1 H1 vs S1 R1 hvs hq => ?_
  obtain ⟨q, u, hq⟩ := useAll_wp hq
  obtain ⟨Hf2, S2, R2, h2⟩ := R1.useAll hvs (ρ' := q.1) (ds := q.2) u
  obtain ⟨hl, hq⟩ := ite_wp hq
  have hl := of_decide_eq_true hl
  refine ⟨by rw [← h2.length]; exact hl, fun d hd => ?_⟩
  obtain ⟨R3, h0, hf, _⟩ := R2.layN hd (.xd (fs.zip vs))
  refine hq Hf2 σ _ (.ref C) (some d) rfl S2 R3 ⟨T.gC, d, fs.zip vs, rfl, h0, hf, upd_same, ?_, ?_⟩
  · show _ = (fs.zip q.2).map (·.1)
    rw [zip_fst_eq (by rw [← h2.length]; exact hl), zip_fst_eq hl]
  · show HasAll _ _ ((fs.zip q.2).map (·.2)) _
    rw [zip_snd_eq hl, zip_snd_eq (by rw [← h2.length]; exact hl)]
    exact h2
/-- a raise that is never reached -/
def gNo : Env → Rz (Env × Fl) := fun _ => .no
theorem rs_never {st : Stmt} : RS X W st gNo := ps_mono (ps_never) fun D σ H ⟨Γ, Hf, ρ, R, hw⟩ => hw.elim
end
/-! ### defs that may let an exception out -/
theorem fun_okGX {P : Program} {w : World} {K : PySem.W.Frag} {mg : Str → Option Value} {base : Heap} {x qual : Str} {st : Stmt} {f : Addr} {fd : FuncData} {N ps : List Str} {k : Nat} {body : Env → Rz (Env × Fl)} (F : Fun K x qual st f fd) (S : FnScope N ps (defScope st)) (hps : ps.length ≤ N.length)
    (hbody : ∀ (cdv : Value) (A : Around) (outer : List PySem.Env) (s : Shared) (H : Hp) (E : XK), Room k (A.deeper (frameOf qual (defScope st) s f cdv)) → A.guards = some [] →
      RSs (cxOf (L2.CX P w) P w K mg base N qual (defScope st) f cdv A outer s H E) (fun c d _ H' => E c d H') (defBody st) body) : FnG P w K mg base (L2.CX P w) (k + 1) f fd ps (spN ps.length ⟨K, mg⟩ (runF N.length body)) := by
  obtain ⟨oc, od, kV, doc, pm, an, cdv, ct, osl, rfl, lk, hcd⟩ := F.ex
  refine fnG_of lk hcd S (fun vs H Q E h => h.1) fun A outer s H vs Q E hr hg hsp => ?_
  refine ⟨_, hbody cdv A outer s H E hr hg, ?_⟩
  obtain ⟨hl, hsp⟩ := hsp
  exact runF_ends (by rw [hl]; exact hps) (fun _ _ _ _ z => z) hsp
/-- what a call asks of a def, however it is reached -/
structure Core (P : Program) (w : World) (K : PySem.W.Frag) (mg : Str → Option Value) (base : Heap) (k : Nat) (ps : List Str) (Fn : Env → Rz (Env × Rs)) (f : Addr) (fd : FuncData) : Prop where
  fn : FnG P w K mg base (L2.CX P w) k f fd ps (spN ps.length ⟨K, mg⟩ Fn)
  bd : Binds K fd ps []
  long : Long Fn
structure DefdX (P : Program) (w : World) (K : PySem.W.Frag) (mg : Str → Option Value) (base : Heap) (k : Nat) (x : Str) (ps : List Str) (Fn : Env → Rz (Env × Rs)) : Prop where
  ex : ∃ f fd, mg x = some (.ref f) ∧ PySem.W.keepIn K (.ref f) = true ∧ Core P w K mg base k ps Fn f fd
/-- a method m of the class named c -/
structure MethX (P : Program) (w : World) (K : PySem.W.Frag) (mg : Str → Option Value) (base : Heap) (k : Nat) (c m : Str) (ps : List Str) (Fn : Env → Rz (Env × Rs)) : Prop where
  ex : ∃ C f fd, mg c = some (.ref C) ∧ L2.Cls K C ∧ L2.Meth K C m f ∧ Core P w K mg base k ps Fn f fd
/-- the class named c, by its __init__ -/
structure MakeX (P : Program) (w : World) (K : PySem.W.Frag) (mg : Str → Option Value) (base : Heap) (k : Nat) (c : Str) (ps : List Str) (Fn : Env → Rz (Env × Rs)) : Prop where
  ex : ∃ C f fd, mg c = some (.ref C) ∧ L2.Mk K C f ∧ Core P w K mg base k ps Fn f fd
section
variable {P : Program} {w : World} {K : PySem.W.Frag} {mg : Str → Option Value} {base : Heap} {j k : Nat} {x : Str} {st : Stmt} {ps : List Str} {N : List Str} {body : Env → Rz (Env × Fl)} {Fn : Env → Rz (Env × Rs)}
theorem Core.mono {f fd} (D : Core P w K mg base j ps Fn f fd) (h : j ≤ k) : Core P w K mg base k ps Fn f fd := ⟨D.fn.mono h, D.bd, D.long⟩
/-- a def that lets nothing out, as one that may -/
theorem Defd.toX (D : Defd P w K mg base k x st ps Fn) : DefdX P w K mg base k x ps fun a => noX (Fn a) := by
  obtain ⟨⟨f, fd, F, hm, FF, b⟩, l⟩ := D
  refine ⟨f, fd, hm, FF.kp, ⟨⟨F.len, fun A outer s H args us vs Q E hr hg he hb hv hs => codeAny_mono (F.run A outer s H args us vs Q E hr hg he hb hv hs) fun r s' z => ?_⟩, b, l.noX⟩⟩
  cases r with
  | error e => exact z.elim
  | ok fl => cases fl <;> exact z
/-- one that may, where it does not -/
theorem FnG.calm {f fd} {sp : Sp} (F : FnG P w K mg base (L2.CX P w) k f fd ps sp) : FnG P w K mg base CX0 k f fd ps fun vs H Q E => sp vs H Q fun _ _ _ => False :=
  ⟨fun vs H Q E h => F.len vs H Q _ h, fun A outer s H args us vs Q E hr hg he hb hv hs => codeAny_mono (F.run A outer s H args us vs Q _ hr hg he hb hv hs) fun r s' z => by
    cases r with
    | error e =>
      obtain ⟨_, _, _, _, _, _, _, _, _, _, _, _, z⟩ := (show L2.CX P w outer H s (fun _ _ _ => False) e s' from z)
      exact z.elim
    | ok fl => cases fl <;> exact z⟩
theorem spN_calm {n : Nat} {M : Md} {vs : List V} {H : Hp} {Q : VK} {E : XK} (h : spN n M (fun a => noX (Fn a)) vs H Q E) : spN n M Fn vs H Q fun _ _ _ => False := by
  obtain ⟨hl, Hf, args, A, hw⟩ := h
  refine ⟨hl, Hf, args, A, ?_⟩
  replace hw : (noX (Fn args)).wp _ _ := hw
  cases u : Fn args with
  | ok r => rw [u] at hw; exact hw
  | no => rw [u] at hw; exact hw.elim
  | ex _ _ => rw [u] at hw; exact hw.elim
/-- by its body -/
theorem DefdX.of {n : Nat} (D : DefF K mg x st ps) (S : FnScope N ps (defScope st)) (hn : N.length = n) (hps : ps.length ≤ N.length)
    (hbody : ∀ (cdv : Value) (A : Around) (outer : List PySem.Env) (f : Addr) (s : Shared) (H : Hp) (E : XK), Room k (A.deeper (frameOf x (defScope st) s f cdv)) → A.guards = some [] →
      RSs (cxOf (L2.CX P w) P w K mg base N x (defScope st) f cdv A outer s H E) (fun c d _ H' => E c d H') (defBody st) body) : DefdX P w K mg base (k + 1) x ps (runF n body) := by
  subst hn
  obtain ⟨f, fd, hm, F, b⟩ := D.ex
  exact ⟨f, fd, hm, F.kp, fun_okGX F S hps fun cdv A outer s H E hr hg => hbody cdv A outer f s H E hr hg, b, long_run _ _⟩
theorem DefdX.mono (D : DefdX P w K mg base j x ps Fn) (h : j ≤ k) : DefdX P w K mg base k x ps Fn := by
  obtain ⟨f, fd, a, b, c⟩ := D
  exact ⟨f, fd, a, b, c.mono h⟩
theorem DefdX.zero (D : DefF K mg x st ps) : DefdX P w K mg base k x ps fun _ => .no := by
  obtain ⟨f, fd, hm, F, b⟩ := D.ex
  refine ⟨f, fd, hm, F.kp, ⟨fun vs H Q E h => h.1, fun A outer s H args us vs Q E _ _ _ _ _ h => ?_⟩, b, ⟨(fun as r e => by cases e), (fun as x o e => by cases e)⟩⟩
  obtain ⟨_, Hf, args, _, hw⟩ := h
  exact hw.elim
/-- a method as it stands: its class, its function -/
structure MethF (K : PySem.W.Frag) (mg : Str → Option Value) (c m qual : Str) (st : Stmt) (ps : List Str) : Prop where
  ex : ∃ C f fd, mg c = some (.ref C) ∧ L2.Cls K C ∧ L2.Meth K C m f ∧ Fun K m qual st f fd ∧ Binds K fd ps []
theorem MethX.of {n : Nat} {c m qual : Str} (D : MethF K mg c m qual st ps) (S : FnScope N ps (defScope st)) (hn : N.length = n) (hps : ps.length ≤ N.length)
    (hbody : ∀ (cdv : Value) (A : Around) (outer : List PySem.Env) (f : Addr) (s : Shared) (H : Hp) (E : XK), Room k (A.deeper (frameOf qual (defScope st) s f cdv)) → A.guards = some [] →
      RSs (cxOf (L2.CX P w) P w K mg base N qual (defScope st) f cdv A outer s H E) (fun c d _ H' => E c d H') (defBody st) body) : MethX P w K mg base (k + 1) c m ps (runF n body) := by
  subst hn
  obtain ⟨C, f, fd, hm, hc, hmm, F, b⟩ := D.ex
  exact ⟨C, f, fd, hm, hc, hmm, fun_okGX F S hps fun cdv A outer s H E hr hg => hbody cdv A outer f s H E hr hg, b, long_run _ _⟩
theorem MethX.mono {c m : Str} (D : MethX P w K mg base j c m ps Fn) (h : j ≤ k) : MethX P w K mg base k c m ps Fn := by
  obtain ⟨C, f, fd, a, b, c, e⟩ := D
  exact ⟨C, f, fd, a, b, c, e.mono h⟩
/-- a class that is made by its __init__ -/
structure MakeF (K : PySem.W.Frag) (mg : Str → Option Value) (c qual : Str) (st : Stmt) (ps : List Str) : Prop where
  ex : ∃ C f fd, mg c = some (.ref C) ∧ L2.Mk K C f ∧ Fun K "__init__" qual st f fd ∧ Binds K fd ps []
theorem MakeX.of {n : Nat} {c qual : Str} (D : MakeF K mg c qual st ps) (S : FnScope N ps (defScope st)) (hn : N.length = n) (hps : ps.length ≤ N.length)
    (hbody : ∀ (cdv : Value) (A : Around) (outer : List PySem.Env) (f : Addr) (s : Shared) (H : Hp) (E : XK), Room k (A.deeper (frameOf qual (defScope st) s f cdv)) → A.guards = some [] →
      RSs (cxOf (L2.CX P w) P w K mg base N qual (defScope st) f cdv A outer s H E) (fun c d _ H' => E c d H') (defBody st) body) : MakeX P w K mg base (k + 1) c ps (runF n body) := by
  subst hn
  obtain ⟨C, f, fd, hm, hc, F, b⟩ := D.ex
  exact ⟨C, f, fd, hm, hc, fun_okGX F S hps fun cdv A outer s H E hr hg => hbody cdv A outer f s H E hr hg, b, long_run _ _⟩
theorem MakeX.mono {c : Str} (D : MakeX P w K mg base j c ps Fn) (h : j ≤ k) : MakeX P w K mg base k c ps Fn := by
  obtain ⟨C, f, fd, a, b, e⟩ := D
  exact ⟨C, f, fd, a, b, e.mono h⟩
end
end Fx

set_option Elab.async false
set_option linter.all false
set_option maxRecDepth 100000
set_option maxHeartbeats 4000000
namespace Fx
open PySem L2
variable [Tb]
/-! ### calls of defs that may raise; methods; classes made -/
/-- by reference just if the slot holds a container of one's own -/
def byRef (ρ : Env) : Rs → Bool
  | .slot i => match ρ[i]? with
    | some (.lo _) => true
    | some (.pa _) => true
    | _ => false
  | _ => false
def msOf (ρ : Env) : List (Option Bool) → List Rs → List Bool
  | some b :: ms, _ :: rs => b :: msOf ρ ms rs
  | none :: ms, r :: rs => byRef ρ r :: msOf ρ ms rs
  | _, _ => []
def eCallX (n : Nat) (F : Env → Rz (Env × Rs)) (ms : List (Option Bool)) (args : Env → Rz (Env × List Rs)) : Env → Rz (Env × Rs) := fun ρ => (args ρ).bind fun p => if decide (p.2.length = n) = true then callBy F (msOf p.1 ms p.2) p.1 p.2 else .no
/-- the class and no attribute of that name -/
def isOf (c m : Str) : D → Bool
  | .nd (.obj c' fs) _ => decide (c' = c) && !fs.contains m
  | _ => false
def eMethX (n : Nat) (c m : Str) (F : Env → Rz (Env × Rs)) (ms : List (Option Bool)) (o : Env → Rz (Env × Rs)) (args : Env → Rz (Env × List Rs)) : Env → Rz (Env × Rs) := fun ρ => (o ρ).bind fun p => (Rz.ofO (peek p.1 p.2)).bind fun d => if isOf c m d = true then (args p.1).bind fun q => (if decide (q.2.length + 1 = n) = true then callBy F (msOf q.1 (none :: ms) (p.2 :: q.2)) q.1 (p.2 :: q.2) else .no) else .no
section
variable {X : Cx} {W : WX} {k : Nat} {f : Addr} {fd : FuncData} {ps : List Str} {sp : Sp} {x : Str} {p pos apos : Pos} {e o : Expr} {es : List Expr} {t ta : TA} {to : TE}
theorem goGX {pins : List (Addr × Obj)} {σ : L2.St} {H : Hp} {s : Shared} {Q : VK} {args : PySem.Args} {us : List Value} {vs : List V} (F : FnG X.prog X.w X.K X.mg X.base (L2.CX X.prog X.w) k f fd ps sp) (room : Room k X.A) (hgd : X.A.guards = some []) (bind : BindsTo s fd args (ps.zip us)) (tk : Takes X W)
    (I : Inv X pins σ H s) (rel : Vals vs us) (want : sp vs H Q (WE W σ)) : wpAny (model X.prog X.w) X.A (call (.ref f) args.pos args.kw) (EP X pins σ Q) X.xe s := by
  obtain ⟨ap, ak⟩ := args
  refine wpAny_call (codeAny_mono (F.run X.A X.stack s H ⟨ap, ak⟩ us vs Q _ room hgd I.env0 bind rel want) fun r s' done => ?_)
  match r, done with
  | .error e, done => exact passAt tk σ pins H s e s' I done
  | .ok (.ret u), done => exact I.after done
  | .ok .next, done => exact done.elim
  | .ok .brk, done => exact done.elim
  | .ok .cont, done => exact done.elim
theorem pe_callGX (F : FnG X.prog X.w X.K X.mg X.base (L2.CX X.prog X.w) k f fd ps sp) (room : Room k X.A) (hgd : X.A.guards = some []) (gl : Gl X x) (hm : X.mg x = some (.ref f)) (keep : PySem.W.keepIn X.K (.ref f) = true) (bind : Binds X.K fd ps []) (tk : Takes X W) (ha : PA X (e :: es) t)
    (hdb : (x == ("__debug__" : Str)) = false := by decide) (he : starEach (e :: es) X.env = (false, eval e X.env) :: starEach es X.env := by rfl) (hpl : (backTo pos (starEach es X.env)).any (·.1) = false := by rfl) :
    PE X (.Call (.Name x p) (e :: es) [] pos) (fun σ H Q => t σ H fun vs H1 => sp vs H1 Q (WE W σ)) := by
  refine ⟨fun pins s σ H Q I h => wpAny_Call_Name_kw (ld_glob I gl hm ?_ hdb)⟩
  refine PySem.W.callWith_K (h₀ := X.base) I.ok.mod.kin keep (thn (ha.run pos pins s σ H _ I h) ?_) he hpl
  rintro us s1 ⟨vs, H1, I1, rel, q⟩
  have hl : (us ++ []).length = ps.length := by
    have := F.len _ _ _ _ q
    rw [rel.length] at this
    simpa using this
  have b := bind s1 us I1.kIn hl
  rw [List.append_nil] at b
  exact ⟨I1.kIn, goGX (args := ⟨us, []⟩) F room hgd b tk I1 rel q⟩
theorem pe_methGX {C : Addr} {m : Str} {pl : Sem Bool} (he : PE X o to) (c : L2.Cls X.K C) (hm : L2.Meth X.K C m f) (F : FnG X.prog X.w X.K X.mg X.base (L2.CX X.prog X.w) k f fd ps sp) (room : Room k X.A) (hgd : X.A.guards = some []) (bind : Binds X.K fd ps []) (tk : Takes X W) (ha : PA X (e :: es) t)
    (hst : starEach (e :: es) X.env = (false, eval e X.env) :: starEach es X.env := by rfl) (hpl : (backTo pos (starEach es X.env)).any (·.1) = false := by rfl)
    (ht : eval (.Call (.Attribute o m apos) (e :: es) [] pos) X.env = (do
      let ov ← eval o X.env
      standAt apos.atName
      let (f, first) ← holding [ov] (getMethod ov m pl)
      callWith pos f first (backTo pos (starEach (e :: es) X.env)) (backToKw pos (keywordEach [] X.env))) := by rfl) :
    PE X (.Call (.Attribute o m apos) (e :: es) [] pos) (fun σ H Q => to σ H fun x H1 => ∃ a dx fs, x = .ref a ∧ H1 a = some (.ins C dx fs) ∧ fs.lookup m = none ∧ t σ H1 fun vs H2 => sp (x :: vs) H2 Q (WE W σ)) := by
  refine ⟨fun pins s σ H Q I h => ?_⟩
  refine PySem.W.methodCall_KW (pl := pl) (thn (he.run pins s σ H _ I h) fun u s1 ⟨x, H1, I1, rx, a, dx, fs, ex, ea, l, q⟩ => ?_) ht
  subst ex
  obtain rfl : u = Value.ref a := rx
  refine getmeth_ok I1 ea c hm l ?_
  refine PySem.W.callWith_K (first := [.ref a]) (h₀ := X.base) I.ok.mod.kin hm.kp (thn (ha.run pos pins s1 σ H1 _ I1 q) fun us s2 ⟨vs, H2, I2, r, q2⟩ => ⟨I2.kIn, ?_⟩) hst hpl
  have hl : ((Value.ref a :: us) ++ []).length = ps.length := by
    have := F.len _ _ _ _ q2
    have r2 : L2.Vals (V.ref a :: vs) (Value.ref a :: us) := .cons rfl r
    rw [r2.length] at this
    simpa using this
  have b := bind s2 (.ref a :: us) I2.kIn hl
  rw [List.append_nil] at b
  exact goGX (us := .ref a :: us) (vs := .ref a :: vs) (args := ⟨.ref a :: us, []⟩) F room hgd b tk I2 (.cons rfl r) q2
theorem pe_methGX0 {C : Addr} {m : Str} {pl : Sem Bool} (he : PE X o to) (c : L2.Cls X.K C) (hm : L2.Meth X.K C m f) (F : FnG X.prog X.w X.K X.mg X.base (L2.CX X.prog X.w) k f fd ps sp) (room : Room k X.A) (hgd : X.A.guards = some []) (bind : Binds X.K fd ps []) (tk : Takes X W)
    (ht : eval (.Call (.Attribute o m apos) [] [] pos) X.env = (do
      let ov ← eval o X.env
      standAt apos.atName
      let (f, first) ← holding [ov] (getMethod ov m pl)
      callWith pos f first (backTo pos (starEach [] X.env)) (backToKw pos (keywordEach [] X.env))) := by rfl) :
    PE X (.Call (.Attribute o m apos) [] [] pos) (fun σ H Q => to σ H fun x H1 => ∃ a dx fs, x = .ref a ∧ H1 a = some (.ins C dx fs) ∧ fs.lookup m = none ∧ sp [x] H1 Q (WE W σ)) := by
  refine ⟨fun pins s σ H Q I h => ?_⟩
  refine PySem.W.methodCall_KW (pl := pl) (thn (he.run pins s σ H _ I h) fun u s1 ⟨x, H1, I1, rx, a, dx, fs, ex, ea, l, q⟩ => ?_) ht
  subst ex
  obtain rfl : u = Value.ref a := rx
  refine getmeth_ok I1 ea c hm l ?_
  have hl : ([Value.ref a] ++ []).length = ps.length := by
    have := F.len _ _ _ _ q
    simpa using this
  have b := bind s1 [.ref a] I1.kIn hl
  rw [List.append_nil] at b
  exact PySem.W.callWith_K0 (first := [.ref a]) I1.kIn hm.kp (goGX (us := [.ref a]) (vs := [.ref a]) (args := ⟨[.ref a], []⟩) F room hgd b tk I1 (.cons rfl .nil) q)
theorem under_guards {A : Around} {C : Addr} {us : List Value} (h : A.guards = some []) : (A.under (.builtin "type.__call__" ⟨.ref C :: us, []⟩)).guards = some [] := by
  have z : (Code.builtin "type.__call__" ⟨.ref C :: us, []⟩).isGuard = false := by first | rfl | decide | (unfold Code.isGuard; decide)
  simp [Around.under, Code.guards, pushGuards, h, z]
theorem run_makeGX {C : Addr} {pins : List (Addr × Obj)} {σ : L2.St} {H : Hp} {s : Shared} {Q : VK} {us : List Value} {vs : List V} (M : L2.Mk X.K C f) (F : FnG X.prog X.w X.K X.mg X.base (L2.CX X.prog X.w) k f fd ps sp) (hr : Room (k + 1) X.A) (hgd : X.A.guards = some []) (hb : Binds X.K fd ps []) (tk : Takes X W)
    (I : Inv X pins σ H s) (r : Vals vs us)
    (h : ∀ x dx, H x = none → H dx = none → dx ≠ x → sp (.ref x :: vs) (upd (upd H dx (.own x)) x (.ins C dx [])) (fun v H2 => v = .non ∧ Q (.ref x) H2) (WE W σ)) :
    wpAny (model X.prog X.w) X.A (call (.ref C) us) (EP X pins σ Q) X.xe s := by
  have hq := h (s.heap.objs.size + 1) s.heap.objs.size (I.hok.fresh (Nat.le_succ _)) (I.hok.fresh (Nat.le_refl _)) (Nat.ne_of_lt (Nat.lt_succ_self _))
  have I2 := Inv.made (C := C) I
  have r2 : Vals (V.ref (s.heap.objs.size + 1) :: vs) (Value.ref (s.heap.objs.size + 1) :: us) := .cons rfl r
  have hl : ((Value.ref (s.heap.objs.size + 1) :: us) ++ []).length = ps.length := by
    have e := r2.length
    rw [F.len _ _ _ _ hq] at e
    rw [List.append_nil]
    exact e.symm
  have b := hb _ (Value.ref (s.heap.objs.size + 1) :: us) I2.kIn hl
  rw [List.append_nil] at b
  refine wpAny_call (make_map (f := f) I.kIn M.makes M.init (beq_iff_eq.mp M.fn) (codeAny_mono (F.run _ X.stack _ _ ⟨Value.ref (s.heap.objs.size + 1) :: us, []⟩ (Value.ref (s.heap.objs.size + 1) :: us) _ _ _ (hr.make C us []) (under_guards hgd)
    (I2.env0.make C us []) b r2 hq) fun r s' hq' => ?_))
  cases r with
  | error e => exact passAt tk σ pins _ _ e s' I2 hq'
  | ok fl =>
    cases fl with
    | ret u =>
      obtain ⟨v, H', I3, rv, ev, q3⟩ := I2.after hq'
      subst ev
      exact ⟨rv, ⟨V.ref (s.heap.objs.size + 1), H', I3, rfl, q3⟩⟩
    | next => exact False.elim hq'
    | brk => exact False.elim hq'
    | cont => exact False.elim hq'
theorem pe_makeGX {C : Addr} (M : L2.Mk X.K C f) (F : FnG X.prog X.w X.K X.mg X.base (L2.CX X.prog X.w) k f fd ps sp) (hr : Room (k + 1) X.A) (hgd : X.A.guards = some []) (hg : Gl X x) (hm : X.mg x = some (.ref C)) (hb : Binds X.K fd ps []) (tk : Takes X W)
    (ha : PA X (e :: es) t) (hdb : (x == ("__debug__" : Str)) = false := by decide) (he : starEach (e :: es) X.env = (false, eval e X.env) :: starEach es X.env := by rfl) (hpl : (backTo pos (starEach es X.env)).any (·.1) = false := by rfl) :
    PE X (.Call (.Name x p) (e :: es) [] pos) (fun σ H Q => t σ H fun vs H1 => ∀ x dx, H1 x = none → H1 dx = none → dx ≠ x → sp (.ref x :: vs) (upd (upd H1 dx (.own x)) x (.ins C dx [])) (fun v H2 => v = .non ∧ Q (.ref x) H2) (WE W σ)) := by
  refine ⟨fun pins s σ H Q I h => ?_⟩
  refine wpAny_Call_Name_kw (ld_glob I hg hm ?_ hdb)
  refine PySem.W.callWith_K (h₀ := X.base) I.ok.mod.kin M.kp (thn (ha.run pos pins s σ H _ I h) fun us s1 ⟨vs, H1, I1, r, q⟩ => ⟨I1.kIn, ?_⟩) he hpl
  exact run_makeGX M F hr hgd hb tk I1 r q
end
section
variable {X : Cx} {W : WX} {k : Nat} {ps : List Str} {x : Str} {p pos apos : Pos} {e o : Expr} {es : List Expr} {Fn : Env → Rz (Env × Rs)} {args : Env → Rz (Env × List Rs)} {of : Env → Rz (Env × Rs)}
theorem re_callX (ms : List (Option Bool)) {n : Nat} (D : DefdX X.prog X.w X.K X.mg X.base k x ps Fn) (room : Room k X.A) (hgd : X.A.guards = some []) (tk : Takes X W) (ha : RHs X W (e :: es) args) (hn : ps.length = n := by rfl) (gl : Gl X x := by rfl)
    (hdb : (x == ("__debug__" : Str)) = false := by decide) (he : starEach (e :: es) X.env = (false, eval e X.env) :: starEach es X.env := by rfl) (hpl : (backTo pos (starEach es X.env)).any (·.1) = false := by rfl) :
    RE X W (.Call (.Name x p) (e :: es) [] pos) (eCallX n Fn ms args) := by
  subst hn
  obtain ⟨f, fd, hm, kp, D⟩ := D
  refine pe_mono (pe_callGX D.fn room hgd gl hm kp D.bd tk ha hdb he hpl) fun σ H Q ⟨Γ, Hf, ρ, R, hw⟩ => bindHs R hw fun ρ1 rs Hf1 H1 vs S1 R1 hvs hq => ?_
  obtain ⟨hl, hq⟩ := ite_wp hq
  have hl := of_decide_eq_true hl
  exact call_end (W := W) R1 hvs (by rw [← hvs.length]; exact hl) (fun _ _ _ c d H' z => z) D.long.1 D.long.2 (Rz.wp_mono hq (fun p hp Hf' H' v S R h => hp Hf' H' v (S1.trans S) R h) (fun _ _ z => z))
end
end Fx

set_option Elab.async false
set_option linter.all false
set_option maxRecDepth 100000
set_option maxHeartbeats 4000000
namespace Fx
open PySem L2
variable [Tb]
theorem lookup_none_of {fs : List (Str × V)} {m : Str} (h : (fs.map (·.1)).contains m = false) : fs.lookup m = none := by
  induction fs with
  | nil => rfl
  | cons a fs ih =>
    obtain ⟨y, v⟩ := a
    rw [List.map_cons, List.contains_cons] at h
    have h' := Bool.or_eq_false_iff.mp h
    rw [List.lookup_cons, h'.1]
    exact ih h'.2
theorem isOf_obj {M : Md} {Hf H : Hp} {c m : Str} {d : D} {v : V} {C : Addr} (hm : M.mg c = some (.ref C)) (T : HasT M Hf H d v) (h : isOf c m d = true) : ∃ a dx fs, v = .ref a ∧ H a = some (.ins C dx fs) ∧ fs.lookup m = none := by
  cases T with
  | obj g ha t =>
    unfold isOf at h
    have h' := Bool.and_eq_true_iff.mp h
    have ec := of_decide_eq_true h'.1
    subst ec
    rw [hm] at g
    cases g
    exact ⟨_, _, _, rfl, ha, lookup_none_of (by simpa using h'.2)⟩
  | _ => cases h
section
variable {X : Cx} {W : WX} {k : Nat} {ps : List Str} {x : Str} {p pos apos : Pos} {e o : Expr} {es : List Expr} {Fn : Env → Rz (Env × Rs)} {args : Env → Rz (Env × List Rs)} {of : Env → Rz (Env × Rs)}
theorem re_methX (ms : List (Option Bool)) {n : Nat} {c m : Str} {pl : Sem Bool} (D : MethX X.prog X.w X.K X.mg X.base k c m ps Fn) (room : Room k X.A) (hgd : X.A.guards = some []) (tk : Takes X W) (ho : RH X W o of) (ha : RHs X W (e :: es) args) (hn : ps.length = n := by rfl)
    (hst : starEach (e :: es) X.env = (false, eval e X.env) :: starEach es X.env := by rfl) (hpl : (backTo pos (starEach es X.env)).any (·.1) = false := by rfl)
    (ht : eval (.Call (.Attribute o m apos) (e :: es) [] pos) X.env = (do
      let ov ← eval o X.env
      standAt apos.atName
      let (f, first) ← holding [ov] (getMethod ov m pl)
      callWith pos f first (backTo pos (starEach (e :: es) X.env)) (backToKw pos (keywordEach [] X.env))) := by rfl) :
    RE X W (.Call (.Attribute o m apos) (e :: es) [] pos) (eMethX n c m Fn ms of args) := by
  subst hn
  obtain ⟨C, f, fd, hm, hc, hmm, D⟩ := D
  refine pe_mono (pe_methGX (pl := pl) ho hc hmm D.fn room hgd D.bd tk ha hst hpl ht) fun σ H Q ⟨Γ, Hf, ρ, R, hw⟩ => bindH R hw fun ρ1 r Hf1 H1 v S1 R1 hv hq => ?_
  obtain ⟨d, e1, hq⟩ := ofO_bind hq
  obtain ⟨hi, hq⟩ := ite_wp hq
  have T := R1.peek hv.rs e1
  obtain ⟨a, dx, fs, rfl, h1, h2⟩ := isOf_obj (M := ⟨X.K, X.mg⟩) hm T hi
  refine ⟨a, dx, fs, rfl, h1, h2, bindHs R1 hq fun ρ2 rs Hf2 H2 vs S2 R2 hvs hq2 => ?_⟩
  obtain ⟨hl, hq2⟩ := ite_wp hq2
  have hl := of_decide_eq_true hl
  exact call_end (W := W) (rs := r :: rs) R2 (.cons (hv.up S2) hvs) (by rw [← hl, hvs.length]; rfl) (fun _ _ _ c d H' z => z) D.long.1 D.long.2 (Rz.wp_mono hq2 (fun p hp Hf' H' v S R h => hp Hf' H' v (S1.trans (S2.trans S)) R h) (fun _ _ z => z))
def eMethX0 (n : Nat) (c m : Str) (F : Env → Rz (Env × Rs)) (o : Env → Rz (Env × Rs)) : Env → Rz (Env × Rs) := fun ρ => (o ρ).bind fun p => (Rz.ofO (peek p.1 p.2)).bind fun d => if isOf c m d = true then (if decide (1 = n) = true then callBy F (msOf p.1 [none] [p.2]) p.1 [p.2] else .no) else .no
theorem re_methX0 {n : Nat} {c m : Str} {pl : Sem Bool} (D : MethX X.prog X.w X.K X.mg X.base k c m ps Fn) (room : Room k X.A) (hgd : X.A.guards = some []) (tk : Takes X W) (ho : RH X W o of) (hn : ps.length = n := by rfl)
    (ht : eval (.Call (.Attribute o m apos) [] [] pos) X.env = (do
      let ov ← eval o X.env
      standAt apos.atName
      let (f, first) ← holding [ov] (getMethod ov m pl)
      callWith pos f first (backTo pos (starEach [] X.env)) (backToKw pos (keywordEach [] X.env))) := by rfl) :
    RE X W (.Call (.Attribute o m apos) [] [] pos) (eMethX0 n c m Fn of) := by
  subst hn
  obtain ⟨C, f, fd, hm, hc, hmm, D⟩ := D
  refine pe_mono (pe_methGX0 (pl := pl) ho hc hmm D.fn room hgd D.bd tk ht) fun σ H Q ⟨Γ, Hf, ρ, R, hw⟩ => bindH R hw fun ρ1 r Hf1 H1 v S1 R1 hv hq => ?_
  obtain ⟨d, e1, hq⟩ := ofO_bind hq
  obtain ⟨hi, hq⟩ := ite_wp hq
  have T := R1.peek hv.rs e1
  obtain ⟨a, dx, fs, rfl, h1, h2⟩ := isOf_obj (M := ⟨X.K, X.mg⟩) hm T hi
  refine ⟨a, dx, fs, rfl, h1, h2, ?_⟩
  obtain ⟨hl, hq2⟩ := ite_wp hq
  have hl := of_decide_eq_true hl
  exact call_end (W := W) (rs := [r]) R1 (.cons hv .nil) (by rw [← hl]; rfl) (fun _ _ _ c d H' z => z) D.long.1 D.long.2 (Rz.wp_mono hq2 (fun p hp Hf' H' v S R h => hp Hf' H' v (S1.trans S) R h) (fun _ _ z => z))
end
/-! ### C(..) of a class with an own __init__ -/
def callMk (c : Str) (F : Env → Rz (Env × Rs)) (ms : List Bool) (ρ : Env) (rs : List Rs) : Rz (Env × Rs) := (useIm ms ρ rs).bind fun q => (Rz.ofO (fillPa ms q.1 rs q.2)).bind fun as =>
  if decide (mutIx ms rs).Nodup = true then match F (.pa (.nd (.obj c []) []) :: as) with
    | .ok (.pa d :: outs, .im .non) => .ok (putBack ms rs outs q.1, .nw d)
    | .ex x (_ :: outs) => .ex x (putBack ms rs outs q.1)
    | _ => .no
  else .no
theorem ArgsR.app {M : Md} {Hf : Hp} {σ τ : L2.St} {ρ γ : Env} : ∀ {ms : List Bool} {rs : List Rs} {vs : List V} {as : Env}, ArgsR M Hf σ ρ ms rs vs as → ArgsR M Hf (σ ++ τ) (ρ ++ γ) ms rs vs as
  | _, _, _, _, .nil => .nil
  | _, _, _, _, .im h t => .im h t.app
  | _, _, _, _, .mu a b c t => .mu (get_app a) b (get_app c) t.app
theorem putBack_app {γ : Env} {n : Nat} : ∀ {ms : List Bool} {rs : List Rs} {outs ρ : Env}, (∀ i ∈ mutIx ms rs, i < n) → ρ.length = n → putBack ms rs outs (ρ ++ γ) = putBack ms rs outs ρ ++ γ ∧ (putBack ms rs outs ρ).length = n
  | [], _, _, ρ, _, hl => by simp [putBack, hl]
  | true :: ms, [], _, ρ, _, hl => by simp [putBack, hl]
  | false :: ms, [], _, ρ, _, hl => by simp [putBack, hl]
  | false :: ms, r :: rs, [], ρ, h, hl => by simp [putBack, hl]
  | false :: ms, r :: rs, o :: outs, ρ, h, hl => by
    have := putBack_app (γ := γ) (ms := ms) (rs := rs) (outs := outs) (ρ := ρ) (fun i hi => h i (by cases r <;> exact hi)) hl
    cases r <;> exact this
  | true :: ms, .im _ :: rs, [], ρ, h, hl => by simp [putBack, hl]
  | true :: ms, .nw _ :: rs, [], ρ, h, hl => by simp [putBack, hl]
  | true :: ms, .slot _ :: rs, [], ρ, h, hl => by simp [putBack, hl]
  | true :: ms, .im _ :: rs, o :: outs, ρ, h, hl => putBack_app (γ := γ) (ms := ms) (rs := rs) (outs := outs) (ρ := ρ) (fun i hi => h i hi) hl
  | true :: ms, .nw _ :: rs, o :: outs, ρ, h, hl => putBack_app (γ := γ) (ms := ms) (rs := rs) (outs := outs) (ρ := ρ) (fun i hi => h i hi) hl
  | true :: ms, .slot i :: rs, o :: outs, ρ, h, hl => by
    have lt : i < ρ.length := by rw [hl]; exact h i List.mem_cons_self
    have rest : ∀ j ∈ mutIx ms rs, j < n := fun j hj => h j (List.mem_cons_of_mem _ hj)
    cases o with
    | pa d =>
      have := putBack_app (γ := γ) (ms := ms) (rs := rs) (outs := outs) (ρ := ρ.set i (((ρ[i]?).getD .no).withD d)) rest (by simpa using hl)
      show putBack ms rs outs ((ρ ++ γ).set i ((((ρ ++ γ)[i]?).getD .no).withD d)) = _ ∧ (putBack ms rs outs (ρ.set i (((ρ[i]?).getD .no).withD d))).length = n
      rw [get_left lt, set_left lt]
      exact this
    | no => exact putBack_app (γ := γ) (ms := ms) (rs := rs) (outs := outs) (ρ := ρ) rest hl
    | im _ => exact putBack_app (γ := γ) (ms := ms) (rs := rs) (outs := outs) (ρ := ρ) rest hl
    | lo _ => exact putBack_app (γ := γ) (ms := ms) (rs := rs) (outs := outs) (ρ := ρ) rest hl
theorem ArgsR.lt {M : Md} {Hf : Hp} {σ : L2.St} {ρ : Env} : ∀ {ms : List Bool} {rs : List Rs} {vs : List V} {as : Env}, ArgsR M Hf σ ρ ms rs vs as → ∀ i ∈ mutIx ms rs, i < ρ.length
  | _, _, _, _, .nil, i, h => by cases h
  | _, _, _, _, @ArgsR.im _ _ _ _ ms rs vs as r v d a t, i, h => t.lt i (by cases r <;> exact h)
  | _, _, _, _, .mu a b c t, i, h => by
    rcases List.mem_cons.mp h with rfl | h
    · exact (List.getElem?_eq_some_iff.mp a).1
    · exact t.lt i h
theorem call_endMk {M : Md} {W : WX} {c : Str} {C : Addr} {Fn : Env → Rz (Env × Rs)} {n : Nat} {Γ : Gh} {Hf : Hp} {σ : L2.St} {H : Hp} {ρ : Env} {rs : List Rs} {vs : List V} {ms : List Bool} {Q : VK} (hm : M.mg c = some (.ref C)) (R : Rep M Γ Hf σ H ρ) (ha : HsAll M Hf σ rs vs) (hn : vs.length + 1 = n) (long : Long Fn)
    (h : (callMk c Fn ms ρ rs).wp (fun p => ∀ Hf' H' v, Same Hf Hf' → Rep M Γ Hf' σ H' p.1 → RsIs M Γ Hf' σ H' p.1 p.2 v → Q v H') (EPf M W Γ Hf σ)) {x dx : Addr} (hx : H x = none) (hdx : H dx = none) (ne : dx ≠ x) :
    spN n M Fn (.ref x :: vs) (upd (upd H dx (.own x)) x (.ins C dx [])) (fun v H2 => v = .non ∧ Q (.ref x) H2) (WE W σ) := by
  refine ⟨by rw [← hn]; rfl, ?_⟩
  unfold callMk at h
  cases u : useIm ms ρ rs with
  | no => rw [u] at h; exact h.elim
  | ex _ _ => exact absurd u useIm_noex
  | ok q =>
    rw [u] at h
    obtain ⟨Hf1, S1, R1, P1⟩ := R.useIm ha (ρ' := q.1) (as := q.2) u
    obtain ⟨as, e1, h⟩ := ofO_bind h
    obtain ⟨nd, h⟩ := ite_wp h
    have nd := of_decide_eq_true nd
    have A := P1.fill e1
    -- the new instance lies beside the slots
    obtain ⟨R2, _⟩ := R1.layN hdx (.own x)
    have hx' : upd H dx (.own x) x = none := by rw [upd_ne (Ne.symm ne)]; exact hx
    obtain ⟨R3, h0, hf, hno⟩ := R2.layN hx' (.ins C dx [])
    have hl : LocAt M Hf1 (upd (upd H dx (.own x)) x (.ins C dx [])) (.nd (.obj c []) []) (.ref x) := .obj (fs := []) hf hm upd_same .nil
    have r0 := R3.r0.push h0 hl hno
    have L0 : (q.1 ++ Γ.γ).length = (σ ++ Γ.τ).length := R3.r0.len
    have R4 : Rep M ⟨Γ.g, [], []⟩ Hf1 ((σ ++ Γ.τ) ++ [some (.ref x)]) (upd (upd H dx (.own x)) x (.ins C dx [])) ((q.1 ++ Γ.γ) ++ [.lo (.nd (.obj c []) [])]) := by
      refine ⟨by rw [List.length_append, List.length_append (as := σ ++ Γ.τ), L0]; rfl, ?_⟩
      show Rep0 M Γ.g Hf1 (((σ ++ Γ.τ) ++ [some (.ref x)]) ++ []) _ (((q.1 ++ Γ.γ) ++ [.lo (.nd (.obj c []) [])]) ++ [])
      rw [List.append_nil, List.append_nil]
      exact r0
    have at0 : ((q.1 ++ Γ.γ) ++ [Sl.lo (.nd (.obj c []) [])])[(q.1 ++ Γ.γ).length]? = some (.lo (.nd (.obj c []) [])) := by simp
    have at1 : ((σ ++ Γ.τ) ++ [some (V.ref x)])[(q.1 ++ Γ.γ).length]? = some (some (.ref x)) := by rw [L0]; simp
    have A4 : ArgsR M Hf1 ((σ ++ Γ.τ) ++ [some (.ref x)]) ((q.1 ++ Γ.γ) ++ [.lo (.nd (.obj c []) [])]) (true :: ms) (.slot (q.1 ++ Γ.γ).length :: rs) (.ref x :: vs) (.pa (.nd (.obj c []) []) :: as) :=
      .mu at0 rfl at1 (A.app.app)
    have ltq := A.lt
    have nd4 : (mutIx (true :: ms) (.slot (q.1 ++ Γ.γ).length :: rs)).Nodup := by
      refine List.nodup_cons.mpr ⟨fun hm => ?_, nd⟩
      have := ltq _ hm
      simp at this
      omega
    refine ⟨Hf1, .pa (.nd (.obj c []) []) :: as, R4.args A4 nd4, ?_⟩
    have back : ∀ {d : D} {outs : Env}, putBack (true :: ms) (.slot (q.1 ++ Γ.γ).length :: rs) (.pa d :: outs) ((q.1 ++ Γ.γ) ++ [.lo (.nd (.obj c []) [])]) = (putBack ms rs outs q.1 ++ Γ.γ) ++ [.lo d] := fun {d outs} => by
      show putBack ms rs outs (((q.1 ++ Γ.γ) ++ [Sl.lo (.nd (.obj c []) [])]).set (q.1 ++ Γ.γ).length (((((q.1 ++ Γ.γ) ++ [Sl.lo (.nd (.obj c []) [])])[(q.1 ++ Γ.γ).length]?).getD .no).withD d)) = _
      rw [at0]
      have e2 : ((q.1 ++ Γ.γ) ++ [Sl.lo (.nd (.obj c []) [])]).set (q.1 ++ Γ.γ).length (((some (Sl.lo (.nd (.obj c []) []))).getD .no).withD d) = q.1 ++ (Γ.γ ++ [.lo d]) := by
        rw [List.set_append]
        simp [Sl.withD]
      rw [e2, (putBack_app (n := q.1.length) ltq rfl).1, List.append_assoc]
    have lenq : q.1.length = σ.length := R1.len
    have lenb : ∀ {outs}, (putBack ms rs outs q.1).length = σ.length := fun {outs} => by rw [(putBack_app (γ := []) (n := q.1.length) (outs := outs) (ρ := q.1) ltq rfl).2]; exact lenq
    cases uf : Fn (.pa (.nd (.obj c []) []) :: as) with
    | no => rw [uf] at h; exact h.elim
    | ok r =>
      rw [uf] at h
      obtain ⟨ro, rr⟩ := r
      intro Hf' H' v B hr
      have lo := long.1 _ _ uf
      cases ro with
      | nil => exact h.elim
      | cons o outs =>
        cases o with
        | no => exact h.elim
        | im _ => exact h.elim
        | lo _ => exact h.elim
        | pa d =>
          cases rr with
          | slot _ => exact h.elim
          | nw _ => exact h.elim
          | im dv =>
            cases dv with
            | non =>
              replace h : ∀ Hf' H' v, Same Hf Hf' → Rep M Γ Hf' σ H' (putBack ms rs outs q.1) → RsIs M Γ Hf' σ H' (putBack ms rs outs q.1) (.nw d) v → Q v H' := h
              obtain ⟨R5, _⟩ := R4.called (r := .im .non) (v := v) A4 nd4 lo B
              rw [back] at R5
              cases hr
              refine ⟨rfl, ?_⟩
              have r5 : Rep0 M Γ.g Hf' (((σ ++ Γ.τ) ++ [some (.ref x)]) ++ []) H' (((putBack ms rs outs q.1 ++ Γ.γ) ++ [.lo d]) ++ []) := R5.r0
              rw [List.append_nil, List.append_nil] at r5
              obtain ⟨r6, k0, kl, kn⟩ := r5.pop
              exact h Hf' H' _ (S1.trans B.up) ⟨lenb, r6⟩ ⟨x, rfl, k0, kl, kn⟩
            | _ => exact h.elim
    | ex xn outs0 =>
      rw [uf] at h
      have lo := long.2 _ _ _ uf
      intro Hf' H' cv dv B he
      cases outs0 with
      | nil => exact h.elim
      | cons o outs =>
        replace h : EPf M W Γ Hf σ xn (putBack ms rs outs q.1) := h
        obtain ⟨d', a', q1, q2, q3⟩ := B.out 0 _ rfl
        simp at q1 q2
        subst q1
        obtain ⟨R5, _⟩ := R4.called (r := .im .non) (v := .non) A4 nd4 lo B
        rw [back] at R5
        have r5 : Rep0 M Γ.g Hf' (((σ ++ Γ.τ) ++ [some (.ref x)]) ++ []) H' (((putBack ms rs outs q.1 ++ Γ.γ) ++ [.lo d']) ++ []) := R5.r0
        rw [List.append_nil, List.append_nil] at r5
        obtain ⟨r6, k0, kl, kn⟩ := r5.pop
        exact h Hf' H' cv dv (S1.trans B.up) ⟨lenb, r6⟩ (he.old R3)
def eMakeX (n : Nat) (c : Str) (F : Env → Rz (Env × Rs)) (ms : List (Option Bool)) (args : Env → Rz (Env × List Rs)) : Env → Rz (Env × Rs) := fun ρ => (args ρ).bind fun p => if decide (p.2.length + 1 = n) = true then callMk c F (msOf p.1 ms p.2) p.1 p.2 else .no
section
variable {X : Cx} {W : WX} {k : Nat} {ps : List Str} {c : Str} {p pos apos : Pos} {e o : Expr} {es : List Expr} {Fn : Env → Rz (Env × Rs)} {args : Env → Rz (Env × List Rs)} {of : Env → Rz (Env × Rs)}
theorem re_makeX (ms : List (Option Bool)) {n : Nat} (D : MakeX X.prog X.w X.K X.mg X.base k c ps Fn) (room : Room (k + 1) X.A) (hgd : X.A.guards = some []) (tk : Takes X W) (ha : RHs X W (e :: es) args) (hn : ps.length = n := by rfl) (gl : Gl X c := by rfl)
    (hdb : (c == ("__debug__" : Str)) = false := by decide) (he : starEach (e :: es) X.env = (false, eval e X.env) :: starEach es X.env := by rfl) (hpl : (backTo pos (starEach es X.env)).any (·.1) = false := by rfl) :
    RE X W (.Call (.Name c p) (e :: es) [] pos) (eMakeX n c Fn ms args) := by
  subst hn
  obtain ⟨C, f, fd, hm, hmk, D⟩ := D
  refine pe_mono (pe_makeGX hmk D.fn room hgd gl hm D.bd tk ha hdb he hpl) fun σ H Q ⟨Γ, Hf, ρ, R, hw⟩ => bindHs R hw fun ρ1 rs Hf1 H1 vs S1 R1 hvs hq => ?_
  obtain ⟨hl, hq⟩ := ite_wp hq
  have hl := of_decide_eq_true hl
  intro x dx hx hdx ne
  exact call_endMk (M := ⟨X.K, X.mg⟩) (W := W) hm R1 hvs (by rw [← hl, hvs.length]) D.long (Rz.wp_mono hq (fun p hp Hf' H' v S R h => hp Hf' H' v (S1.trans S) R h) (fun _ _ z => z)) hx hdx ne
end
end Fx

set_option Elab.async false
set_option linter.all false
set_option maxRecDepth 100000
set_option maxHeartbeats 4000000
namespace Fx
open PySem L2
variable [Tb]
/-! ### fields of instances -/
theorem ite_some {α : Type} {c : Bool} {o : Option α} {a : α} (h : (if c = true then o else none) = some a) : c = true ∧ o = some a := by
  cases c with
  | true => exact ⟨rfl, h⟩
  | false => cases h
def lookD (f : Str) : List Str → List D → Option D
  | g :: gs, x :: xs => if f == g then some x else lookD f gs xs
  | _, _ => none
/-- a tuple known to have no dict, as a tuple -/
def D.nrm : D → D
  | .nd .tupN ds => .nd .tup ds
  | d => d
theorem Has.nrm {M : Md} {G : Hp} {d : D} {v : V} (h : Has M G d v) : Has M G d.nrm v := by
  cases h with
  | tupN s n t => exact .tup (.inl (.inr ⟨_, s⟩)) t
  | non => exact .non
  | bl b => exact .bl b
  | int i => exact .int i
  | str x => exact .str x
  | ob a => exact .ob a
  | tup s t => exact .tup s t
  | lst s t => exact .lst s t
  | scr s t => exact .scr s t
  | dct s t => exact .dct s t
  | obj g s t => exact .obj g s t
  | exn g s s2 t => exact .exn g s s2 t
  | dcx s => exact .dcx s
def dFldR (c f : Str) : D → Option D
  | .nd (.obj c' fs) ds => if decide (c' = c) = true then lookD f fs ds else none
  | _ => none
def dFld (c f : Str) (d : D) : Option D := (dFldR c f d).map D.nrm
theorem lookD_has {M : Md} {G : Hp} {f : Str} : ∀ {fs : List (Str × V)} {ds : List D} {d : D}, HasAll M G ds (fs.map (·.2)) → lookD f (fs.map (·.1)) ds = some d → ∃ v, fs.lookup f = some v ∧ Has M G d v
  | [], _, _, _, e => by cases e
  | (g, v) :: fs, [], _, t, e => by cases e
  | (g, v) :: fs, x :: xs, d, .cons h t, e => by
    have e' : (if f == g then some x else lookD f (fs.map (·.1)) xs) = some d := e
    rw [List.lookup_cons]
    cases q : f == g with
    | true => rw [q] at e'; cases e'; exact ⟨v, rfl, h⟩
    | false => rw [q] at e'; exact lookD_has t e'
def putFld (f : Str) (v : D) : List Str → List D → List Str × List D
  | g :: gs, x :: xs => if g = f then (g :: gs, v :: xs) else (g :: (putFld f v gs xs).1, x :: (putFld f v gs xs).2)
  | _, _ => ([f], [v])
def dPutF (c f : Str) : D → D → Option D
  | .nd (.obj c' fs) ds, v => if decide (c' = c ∧ fs.length < 1000) = true then some (.nd (.obj c' (putFld f v fs ds).1) (putFld f v fs ds).2) else none
  | _, _ => none
theorem putFld_has {M : Md} {G : Hp} {f : Str} {v : D} {y : V} (hv : Has M G v y) : ∀ {fs : List (Str × V)} {ds : List D}, HasAll M G ds (fs.map (·.2)) → (putFld f v (fs.map (·.1)) ds).1 = (putF f y fs).map (·.1) ∧ HasAll M G (putFld f v (fs.map (·.1)) ds).2 ((putF f y fs).map (·.2))
  | [], [], _ => ⟨rfl, .cons hv .nil⟩
  | [], _ :: _, t => nomatch t
  | (g, x) :: fs, [], t => nomatch t
  | (g, x) :: fs, z :: zs, .cons h t => by
    show (if g = f then _ else _ : List Str × List D).1 = (if g = f then _ else _ : List (Str × V)).map _ ∧ HasAll M G (if g = f then _ else _ : List Str × List D).2 ((if g = f then _ else _ : List (Str × V)).map _)
    by_cases e : g = f
    · rw [if_pos e, if_pos e]
      exact ⟨rfl, .cons hv t⟩
    · rw [if_neg e, if_neg e]
      obtain ⟨h1, h2⟩ := putFld_has hv (fs := fs) (ds := zs) t
      exact ⟨by rw [h1]; rfl, .cons h h2⟩
/-- an own class of the module: its fields -/
structure ClsN (K : PySem.W.Frag) (mg : Str → Option Value) (c : Str) (fs : List Str) : Prop where
  ex : ∃ C, mg c = some (.ref C) ∧ L2.Cls K C ∧ ∀ f ∈ fs, L2.NoAttr K C f
theorem dFldR_spec {M : Md} {Hf H : Hp} {c f : Str} {C : Addr} {d y : D} {v : V} (hm : M.mg c = some (.ref C)) (T : HasT M Hf H d v) (e : dFldR c f d = some y) : ∃ a dx fs w, v = .ref a ∧ H a = some (.ins C dx fs) ∧ fs.lookup f = some w ∧ Has M Hf y w := by
  cases T with
  | obj g ha t =>
    obtain ⟨ec, e2⟩ := ite_some e
    have ec := of_decide_eq_true ec
    subst ec
    rw [hm] at g
    cases g
    obtain ⟨w, l, hw'⟩ := lookD_has t e2
    exact ⟨_, _, _, w, rfl, ha, l, hw'⟩
  | _ => cases e
theorem dFld_spec {M : Md} {Hf H : Hp} {c f : Str} {C : Addr} {d y : D} {v : V} (hm : M.mg c = some (.ref C)) (T : HasT M Hf H d v) (e : dFld c f d = some y) : ∃ a dx fs w, v = .ref a ∧ H a = some (.ins C dx fs) ∧ fs.lookup f = some w ∧ Has M Hf y w := by
  obtain ⟨y', e', rfl⟩ := Option.map_eq_some_iff.mp e
  obtain ⟨a, dx, fs, w, h1, h2, h3, h4⟩ := dFldR_spec hm T e'
  exact ⟨a, dx, fs, w, h1, h2, h3, h4.nrm⟩
theorem dPutF_spec {M : Md} {Hf H : Hp} {c f : Str} {C a : Addr} {d d' z : D} {v : V} (hm : M.mg c = some (.ref C)) (hl : LocAt M Hf H d (.ref a)) (hv : Has M Hf z v) (e : dPutF c f d z = some d') : ∃ dx fs, H a = some (.ins C dx fs) ∧ fs.length < 1000 ∧ LocAt M Hf (upd H a (.ins C dx (putF f v fs))) d' (.ref a) := by
  cases hl with
  | obj n g h t =>
    obtain ⟨q, e1⟩ := ite_some e
    obtain ⟨ec, el⟩ := of_decide_eq_true q
    cases e1
    subst ec
    rw [hm] at g
    cases g
    obtain ⟨k1, k2⟩ := putFld_has (f := f) hv t
    refine ⟨_, _, h, by simpa using el, ?_⟩
    rw [k1]
    exact .obj n hm upd_same k2
  | _ => cases e
def gFldS (c f : Str) (i : Nat) (g : Env → Rz (Env × D)) : Env → Rz (Env × Fl) := fun ρ => (g ρ).bind fun p => (Rz.ofO (ownC p.1 i)).bind fun s => (Rz.ofO (dPutF c f s.2 p.2)).bind fun d => .ok (p.1.set i (s.1.withD d), .nx)
section
variable {X : Cx} {W : WX} {e : Expr} {pos pos' npos : Pos} {h : Env → Rz (Env × Rs)} {vf : Env → Rz (Env × D)} {c f x : Str} {fs : List Str}
theorem rv_fld (T : ClsN X.K X.mg c fs) (ho : RH X W e h) (hf : f ∈ fs := by simp) (hb : attributeBase e f X.env (eval e X.env) = eval e X.env := by rfl) : RV X W (.Attribute e f pos) (v1 (dFld c f) h) := by
  obtain ⟨C, hm, hc, hn⟩ := T.ex
  refine pe_mono (pe_fld ho hb) fun σ H Q ⟨Γ, Hf, ρ, R, hw⟩ => bindH R hw fun ρ1 r Hf1 H1 v S1 R1 hv hq => ?_
  obtain ⟨d, e1, hq⟩ := ofO_bind hq
  obtain ⟨y, e2, hq⟩ := ofO_bind hq
  obtain ⟨a, dx, fs', w, rfl, ha, l, hw'⟩ := dFld_spec (M := ⟨X.K, X.mg⟩) hm (R1.peek hv.rs e1) e2
  exact ⟨a, C, dx, fs', w, rfl, ha, hc, hn f hf, l, hq Hf1 H1 w S1 R1 hw'⟩
/-- o.f as it lies -/
theorem rv_fldR (T : ClsN X.K X.mg c fs) (ho : RH X W e h) (hf : f ∈ fs := by simp) (hb : attributeBase e f X.env (eval e X.env) = eval e X.env := by rfl) : RV X W (.Attribute e f pos) (v1 (dFldR c f) h) := by
  obtain ⟨C, hm, hc, hn⟩ := T.ex
  refine pe_mono (pe_fld ho hb) fun σ H Q ⟨Γ, Hf, ρ, R, hw⟩ => bindH R hw fun ρ1 r Hf1 H1 v S1 R1 hv hq => ?_
  obtain ⟨d, e1, hq⟩ := ofO_bind hq
  obtain ⟨y, e2, hq⟩ := ofO_bind hq
  obtain ⟨a, dx, fs', w, rfl, ha, l, hw'⟩ := dFldR_spec (M := ⟨X.K, X.mg⟩) hm (R1.peek hv.rs e1) e2
  exact ⟨a, C, dx, fs', w, rfl, ha, hc, hn f hf, l, hq Hf1 H1 w S1 R1 hw'⟩
theorem rs_fld (i : Nat) (T : ClsN X.K X.mg c fs) (hv : RV X W e vf) (hf : f ∈ fs := by simp) (hN : X.N[i]? = some x := by rfl) (hvs : Vis X.env.scope x := by first | exact Or.inl rfl | exact Or.inr (Or.inl rfl) | exact Or.inr (Or.inr rfl)) (hd : (x == ("__debug__" : Str)) = false := by decide)
    (hcd : (x == ("__classdict__" : Str)) = false := by decide) (hs : swapsWith e (some (.Attribute (.Name x npos) f pos')) pos.line X.env = pure false := by rfl) : RS X W (.Assign [.Attribute (.Name x npos) f pos'] e pos) (gFldS c f i vf) := by
  obtain ⟨C, hm, hc, hn⟩ := T.ex
  refine ps_mono (ps_fld (rh_name (W := W) i hN hvs hd hcd) hv hs) fun D σ H ⟨Γ, Hf, ρ, R, hw⟩ => sbV R hw fun ρ1 d Hf1 H1 v S1 R1 hv hq => ?_
  obtain ⟨s, e0, hq⟩ := ofO_bind hq
  obtain ⟨d', e1, hq⟩ := ofO_bind hq
  refine ⟨Γ, Hf1, ρ1, R1, ?_⟩
  rw [rN_own e0]
  intro Hf2 H2 o S2 R2 ho
  obtain ⟨g1, g2⟩ := ownC_some e0
  obtain ⟨ox, a, es, hl, fin⟩ := R2.ownAt g1 g2
  have ho' : σ[i]? = some (some o) := ho
  rw [ho'] at es
  cases es
  obtain ⟨dx, fs', h1, h2, h3⟩ := dPutF_spec (M := ⟨X.K, X.mg⟩) hm hl (hv.same S2) e1
  exact ⟨a, C, dx, fs', rfl, h1, hc, hn f hf, h2, hq Hf2 σ _ rfl (S1.trans S2) (fin _ _ h3)⟩
end
end Fx

set_option Elab.async false
set_option linter.all false
set_option maxRecDepth 100000
set_option maxHeartbeats 4000000
namespace Fx
open PySem L2
variable [Tb]
/-! ### isinstance -/
inductive BT where
  | non | bool | int | str | list | tuple | dict
  deriving DecidableEq
def BT.name : BT → String
  | non => "NoneType" | bool => "bool" | int => "int" | str => "str" | list => "list" | tuple => "tuple" | dict => "dict"
def bSub (x c : BT) : Bool := decide (x = c) || (decide (x = .bool) && decide (c = .int))
theorem bSub_kit {K : PySem.W.Frag} (x c : BT) (h : c ≠ .non) : PySem.W.kitOne K (.type x.name) (.type c.name) = some (bSub x c) := by
  refine kit_ty ?_
  cases x <;> cases c <;> first | exact absurd rfl h | decide +kernel
/-- a class: a built-in one; an own one of objects, of exceptions -/
inductive CT where
  | b (t : BT) | o (c : Str) | e (c : Str)
  deriving DecidableEq
def tyD : D → Option CT
  | .non => some (.b .non) | .bl _ => some (.b .bool) | .int _ => some (.b .int) | .str _ => some (.b .str) | .ob _ => none
  | .nd k _ => match k with
    | .tup => some (.b .tuple) | .lst => some (.b .list) | .scr => some (.b .list) | .dct _ => some (.b .dict) | .dcx _ => none
    | .obj c _ => some (.o c) | .exn c _ => some (.e c) | .tupN => none
def lookT : List (CT × CT × Bool) → CT → CT → Option Bool
  | [], _, _ => none
  | (a, b, r) :: l, x, y => if decide (a = x) && decide (b = y) then some r else lookT l x y
def isaOne (tab : List (CT × CT × Bool)) : CT → CT → Option Bool
  | .b x, .b y => if decide (y = .non) then none else some (bSub x y)
  | x, y => lookT tab x y
def isaAny (tab : List (CT × CT × Bool)) (x : CT) : List CT → Option Bool
  | [] => some false
  | c :: cs => match isaOne tab x c with
    | some true => some true
    | some false => isaAny tab x cs
    | none => none
def dIsa (tab : List (CT × CT × Bool)) (cs : List CT) (d : D) : Option D := (tyD d).bind fun t => (isaAny tab t cs).map .bl
/-- what instances of the class at C must tell -/
structure InsOk (K : PySem.W.Frag) (C : Addr) : Prop where
  cl : L2.Cls K C
  ha : PySem.W.findIn K (.ref C) "__class__" = some (some (.builtin "object.__class__"))
  hn : PySem.W.specialIn K (.builtin "object.__class__") "__get__" = some (some (.builtin "getset_descriptor.__get__"))
  ht : PySem.W.takesIn K (.builtin "object.__class__") = some true
  hm : PySem.W.mroIn K C (.type "object") = some true
def CV (mg : Str → Option Value) : CT → Value → Prop
  | .b t, u => u = .type t.name
  | .o c, u => mg c = some u ∧ ∃ C, u = .ref C
  | .e c, u => mg c = some u ∧ ∃ C, u = .ref C
structure IsaT (K : PySem.W.Frag) (mg : Str → Option Value) (tab : List (CT × CT × Bool)) : Prop where
  kit : ∀ t c r tv cv, (t, c, r) ∈ tab → CV mg t tv → CV mg c cv → PySem.W.kitOne K tv cv = some r
  ob : ∀ t c r n C, (t, c, r) ∈ tab → t = .o n → mg n = some (.ref C) → InsOk K C
  ex : ∀ t c r n C, (t, c, r) ∈ tab → t = .e n → mg n = some (.ref C) → L2.ExcC K C
theorem lookT_mem {l : List (CT × CT × Bool)} {x y : CT} {r : Bool} (h : lookT l x y = some r) : (x, y, r) ∈ l := by
  induction l with
  | nil => cases h
  | cons a l ih =>
    obtain ⟨p, q, s⟩ := a
    have h' : (if decide (p = x) && decide (q = y) then some s else lookT l x y) = some r := h
    cases c : (decide (p = x) && decide (q = y)) with
    | true =>
      rw [c] at h'
      cases h'
      have := Bool.and_eq_true_iff.mp c
      rw [of_decide_eq_true this.1, of_decide_eq_true this.2]
      exact List.mem_cons_self
    | false => rw [c] at h'; exact List.mem_cons_of_mem _ (ih h')
/-- a value's type, wider still -/
inductive TyY (K : PySem.W.Frag) (H : Hp) : V → Value → Prop where
  | base {x : V} {t : Value} (h : TyX K H x t) : TyY K H x t
  | exn {a C dd : Addr} {fs : List (Str × V)} (e : H a = some (.ext (exnAt a C dd))) (ed : H dd = some (.xd fs)) (k : L2.ExcC K C) : TyY K H (.ref a) (.ref C)
theorem exn_inst {X : Cx} {pins : List (Addr × Obj)} {σ : L2.St} {H : Hp} {s : Shared} {a C dd : Addr} {fs : List (Str × V)} (I : Inv X pins σ H s) (e : H a = some (.ext (exnAt a C dd))) (ed : H dd = some (.xd fs)) : ∃ oe od mA, PySem.W.InstAt s.heap a oe C (some od) ∧ s.heap.Ns1 dd mA ∧ s.heap.get? dd = some od ∧ ∀ f, RelO (fs.lookup f) (mA f) := by
  have hx := I.hok a _ e
  obtain ⟨oe, vs, h1, h2, h3⟩ : exnAt a C dd s.heap := by
    obtain ⟨z, _⟩ := hx
    exact z
  have hd : ObjOk X.prog X.w H s.heap dd (.xd fs) := I.hok dd _ ed
  obtain ⟨mA, hns, hr⟩ := hd
  obtain ⟨od, ho, hl⟩ := lookIn_ns hns
  exact ⟨oe, od, mA, ⟨h1, h2.1, by unfold PySem.W.notCls; rw [h3] <;> rfl, by rw [h2.2]; exact ho⟩, hns, ho, hr⟩
theorem kit_ofY {X : Cx} {pins : List (Addr × Obj)} {σ : L2.St} {H : Hp} {s : Shared} {x : V} {u t : Value} (I : Inv X pins σ H s) (rx : RelV x u) (ty : TyY X.K H x t) : ∃ P : Heap → Prop, PySem.W.KitX X.K u t P ∧ P s.heap ∧ u ≠ .builtin "__main__.__loader__#opaque" := by
  cases ty with
  | base h => exact kit_of I rx h
  | exn e ed k =>
    cases rx
    obtain ⟨oe, od, mA, J, _⟩ := exn_inst I e ed
    exact ⟨_, PySem.W.kitx_exc (od := some od) (by obtain ⟨cd, hc, _⟩ := PySem.W.any_some k.hd; rw [hc]; rfl) k.hg k.hk k.hs k.ha k.hn k.ht k.hm, J, fun z => nomatch z⟩
def rIsiY (K : PySem.W.Frag) : List V → Hp → VK → Prop := fun xs H Q => ∃ (x c : V) (t u : Value) (b : Bool), xs = [x, c] ∧ ClsV c u ∧ TyY K H x t ∧ PySem.W.kitOne K t u = some b ∧ Q (.bl b) H
def rIsiTY (K : PySem.W.Frag) : List V → Hp → VK → Prop := fun xs H Q => ∃ (x : V) (tp : Addr) (cs : List V) (t : Value) (us : List Value) (b : Bool), xs = [x, .ref tp] ∧ H tp = some (.tup cs) ∧ Paired ClsV cs us ∧ TyY K H x t ∧ PySem.W.kitAny K t us = some b ∧ Q (.bl b) H
section
variable {X : Cx}
theorem call_isiY : CallR X (.builtin "isinstance") (rIsiY X.K) := by
  intro pins s σ H xs us Q I r h
  obtain ⟨x, c, t, u, b, rfl, k, ty, e, q⟩ := h
  obtain ⟨u1, u2, rfl, r1, r2⟩ := vals2 r
  have e2 := k.eq r2
  subst e2
  obtain ⟨P, Z, p, hx⟩ := kit_ofY I r1 ty
  exact PySem.W.kia_one Z I.kIn p e hx fun tk => ⟨.bl b, H, I.tok tk, rfl, q⟩
theorem call_isiTY : CallR X (.builtin "isinstance") (rIsiTY X.K) := by
  intro pins s σ H xs us Q I r h
  obtain ⟨x, tp, cs, t, ws, b, rfl, hT, k, ty, e, q⟩ := h
  obtain ⟨u1, u2, rfl, r1, r2⟩ := vals2 r
  cases (show u2 = Value.ref tp from r2)
  obtain ⟨P, Z, p, hx⟩ := kit_ofY I r1 ty
  obtain ⟨_, its, rv, o, h1, h2, n, h3⟩ := (show ObjOk X.prog X.w H s.heap tp (.tup cs) from I.hok tp _ hT)
  have e3 := ClsV.all k rv
  subst e3
  obtain ⟨oc, od, dt, sl⟩ := o
  simp only at h2 h3
  subst h2 h3
  exact PySem.W.kia_tup Z I.kIn p h1 e hx fun tk => ⟨.bl b, H, I.tok tk, rfl, q⟩
end
/-- a class as an expression -/
structure ClsE (X : Cx) (ce : Expr) (c : CT) : Prop where
  ex : ∃ v u, PE X ce (tC v) ∧ ClsV v u ∧ CV X.mg c u
inductive ClsEs (X : Cx) : List Expr → List CT → Prop
  | nil : ClsEs X [] []
  | cons {ce : Expr} {c : CT} {ces : List Expr} {cs : List CT} (h : ClsE X ce c) (hs : starEach (ce :: ces) X.env = (false, eval ce X.env) :: starEach ces X.env) (t : ClsEs X ces cs) : ClsEs X (ce :: ces) (c :: cs)
theorem ClsEs.pa {X : Cx} : ∀ {ces : List Expr} {cs : List CT}, ClsEs X ces cs → ∃ vs us, PA X ces (fun _ H Q => Q vs H) ∧ Paired ClsV vs us ∧ us.length = cs.length ∧ ∀ (i : Nat) (c : CT) (u : Value), cs[i]? = some c → us[i]? = some u → CV X.mg c u
  | _, _, .nil => ⟨[], [], pa_nil, .nil, rfl, fun i c u h => by simp at h⟩
  | _, _, .cons h hs t => by
    obtain ⟨v, u, h1, h2, h3⟩ := h.ex
    obtain ⟨vs, us, k1, k2, k3, k4⟩ := ClsEs.pa t
    refine ⟨v :: vs, u :: us, pa_cons h1 k1 hs, .cons h2 k2, by simp [k3], fun i c w e1 e2 => ?_⟩
    cases i with
    | zero => simp at e1 e2; subst e1 e2; exact h3
    | succ i => exact k4 i c w (by simpa using e1) (by simpa using e2)
theorem tyD_ty {K : PySem.W.Frag} {mg : Str → Option Value} {tab : List (CT × CT × Bool)} (T : IsaT K mg tab) {Hf H : Hp} {d : D} {v : V} {t c : CT} {r : Bool} (S : Same Hf H) (h : HasT ⟨K, mg⟩ Hf H d v) (e : tyD d = some t) (hu : isaOne tab t c = some r) : ∃ tv, CV mg t tv ∧ TyY K H v tv := by
  cases h with
  | non => cases e; exact ⟨_, rfl, .base (.base .non)⟩
  | bl b => cases e; exact ⟨_, rfl, .base (.base (.bl b))⟩
  | int i => cases e; exact ⟨_, rfl, .base (.base (.int i))⟩
  | str x => cases e; exact ⟨_, rfl, .base (.base (.str x))⟩
  | ob a => cases e
  | tup s t =>
    cases e
    rcases SqT.same S s with (z | ⟨o, z⟩) | z
    · exact ⟨_, rfl, .base (.base (.tup z))⟩
    · exact ⟨_, rfl, .base (.fTuple z)⟩
    · obtain ⟨o, its, n, k1, k2, _⟩ := z
      exact ⟨_, rfl, .base (.kTuple k1 k2)⟩
  | lst s t => cases e; exact ⟨_, rfl, .base (.base (.lst s))⟩
  | scr s t =>
    cases e
    rcases S.seq s with (z | ⟨o, z⟩) | ⟨o, its, n, k1, k2, _⟩
    · exact ⟨_, rfl, .base (.base (.lst z))⟩
    · exact ⟨_, rfl, .base (.base (.frz z))⟩
    · exact ⟨_, rfl, .base (.kList k1 k2)⟩
  | dct s t => cases e; exact ⟨_, rfl, .base (.base (.dK s))⟩
  | obj g s t =>
    cases e
    have k := T.ob _ _ _ _ _ (lookT_mem (x := .o _) (y := c) (r := r) (by cases c <;> exact hu)) rfl g
    exact ⟨_, ⟨g, _, rfl⟩, .base (.base (.ins s k.cl k.ha k.hn k.ht k.hm))⟩
  | exn g s s2 t =>
    cases e
    have k := T.ex _ _ _ _ _ (lookT_mem (x := .e _) (y := c) (r := r) (by cases c <;> exact hu)) rfl g
    exact ⟨_, ⟨g, _, rfl⟩, .exn s s2 k⟩
  | tupN s n t => cases e
  | dcx s => cases e
theorem isaOne_kit {K : PySem.W.Frag} {mg : Str → Option Value} {tab : List (CT × CT × Bool)} (T : IsaT K mg tab) {t c : CT} {r : Bool} {tv cv : Value} (h : isaOne tab t c = some r) (h1 : CV mg t tv) (h2 : CV mg c cv) : PySem.W.kitOne K tv cv = some r := by
  have own : lookT tab t c = some r → PySem.W.kitOne K tv cv = some r := fun e => T.kit t c r tv cv (lookT_mem e) h1 h2
  cases t with
  | b x =>
    cases c with
    | b y =>
      have h' : (if decide (y = .non) then none else some (bSub x y)) = some r := h
      cases q : decide (y = .non) with
      | true => rw [q] at h'; cases h'
      | false =>
        rw [q] at h'
        cases h'
        cases h1
        cases h2
        exact bSub_kit x y (of_decide_eq_false q)
    | o n => exact own h
    | e n => exact own h
  | o n => exact own (by cases c <;> exact h)
  | e n => exact own (by cases c <;> exact h)
theorem isaAny_kit {K : PySem.W.Frag} {mg : Str → Option Value} {tab : List (CT × CT × Bool)} (T : IsaT K mg tab) {t : CT} {tv : Value} (h1 : CV mg t tv) : ∀ {cs : List CT} {us : List Value} {r : Bool}, isaAny tab t cs = some r → us.length = cs.length → (∀ (i : Nat) (c : CT) (u : Value), cs[i]? = some c → us[i]? = some u → CV mg c u) → PySem.W.kitAny K tv us = some r
  | [], [], _, h, _, _ => by cases h; rfl
  | [], _ :: _, _, _, hl, _ => by simp at hl
  | _ :: _, [], _, _, hl, _ => by simp at hl
  | c :: cs, u :: us, r, h, hl, f => by
    have hc := f 0 c u rfl rfl
    unfold isaAny at h
    cases q : isaOne tab t c with
    | none => rw [q] at h; cases h
    | some b =>
      rw [q] at h
      refine kitAny_cons (isaOne_kit T q h1 hc) (fun hb => ?_) fun hb => ?_
      · subst hb
        exact isaAny_kit T h1 h (by simpa using hl) fun i c u e1 e2 => f (i + 1) c u (by simpa using e1) (by simpa using e2)
      · subst hb
        cases h; rfl
section
variable {X : Cx} {W : WX} {e ce : Expr} {ces : List Expr} {p pos tpos : Pos} {k : Nat} {f : Env → Rz (Env × Rs)} {c : CT} {cs : List CT} {tab : List (CT × CT × Bool)}
theorem rv_isa1 (T : IsaT X.K X.mg tab) (hm : X.mg "isinstance" = none) (he : RH X W e f) (hc : ClsE X ce c) (hg : Gl X "isinstance" := by rfl)
    (h1 : starEach [e, ce] X.env = (false, eval e X.env) :: starEach [ce] X.env := by rfl) (h2 : starEach [ce] X.env = (false, eval ce X.env) :: starEach [] X.env := by rfl) (hpl : (backTo pos (starEach [ce] X.env)).any (·.1) = false := by rfl) :
    RV X W (.Call (.Name "isinstance" p) [e, ce] [] pos) (v1 (dIsa tab [c]) f) := by
  obtain ⟨v, u, k1, k2, k3⟩ := hc.ex
  refine pe_mono (pe_callB call_isiY hg hm PyProof.Rows.boot_isinstance (pa_cons he (pa_cons k1 pa_nil h2) h1) (by decide) (by decide) h1 hpl) fun σ H Q ⟨Γ, Hf, ρ, R, hw⟩ => bindH R hw fun ρ1 r Hf1 H1 x S1 R1 hv hq => ?_
  obtain ⟨d, e1, hq⟩ := ofO_bind hq
  obtain ⟨y, e2, hq⟩ := ofO_bind hq
  unfold dIsa at e2
  cases q1 : tyD d with
  | none => rw [q1] at e2; cases e2
  | some t =>
    rw [q1, Option.bind_some] at e2
    cases q2 : isaAny tab t [c] with
    | none => rw [q2] at e2; cases e2
    | some b =>
      rw [q2] at e2
      cases e2
      have q3 : ∃ r, isaOne tab t c = some r ∧ r = b := by
        unfold isaAny at q2
        cases z : isaOne tab t c with
        | none => rw [z] at q2; cases q2
        | some r => rw [z] at q2; cases r <;> (cases q2; exact ⟨_, rfl, rfl⟩)
      obtain ⟨r', q3, rfl⟩ := q3
      obtain ⟨tv, h1, h2⟩ := tyD_ty T R1.sub (R1.peek hv.rs e1) q1 q3
      exact ⟨x, v, tv, u, r', rfl, k2, h2, isaOne_kit T q3 h1 k3, hq Hf1 H1 _ S1 R1 (.bl _)⟩
theorem isaAny_one {tab : List (CT × CT × Bool)} {t : CT} {cs : List CT} {b : Bool} (h : isaAny tab t cs = some b) (hne : cs ≠ []) : ∃ c r, isaOne tab t c = some r := by
  cases cs with
  | nil => exact absurd rfl hne
  | cons c cs =>
    unfold isaAny at h
    cases z : isaOne tab t c with
    | none => rw [z] at h; cases h
    | some r => exact ⟨c, r, z⟩
theorem rv_isaT (T : IsaT X.K X.mg tab) (hm : X.mg "isinstance" = none) (he : RH X W e f) (hc : ClsEs X ces cs) (hne : cs ≠ [] := by decide) (hz : decide (cs.length ≤ 100) = true := by decide) (hg : Gl X "isinstance" := by rfl)
    (h1 : starEach [e, .Tuple ces k tpos] X.env = (false, eval e X.env) :: starEach [.Tuple ces k tpos] X.env := by rfl) (h2 : starEach [.Tuple ces k tpos] X.env = (false, eval (.Tuple ces k tpos) X.env) :: starEach [] X.env := by rfl) (hpl : (backTo pos (starEach [.Tuple ces k tpos] X.env)).any (·.1) = false := by rfl) :
    RV X W (.Call (.Name "isinstance" p) [e, .Tuple ces k tpos] [] pos) (v1 (dIsa tab cs) f) := by
  obtain ⟨vs, us, k1, k2, k3, k4⟩ := hc.pa
  refine pe_mono (pe_callB call_isiTY hg hm PyProof.Rows.boot_isinstance (pa_cons he (pa_cons (pe_tup k1) pa_nil h2) h1) (by decide) (by decide) h1 hpl) fun σ H Q ⟨Γ, Hf, ρ, R, hw⟩ => bindH R hw fun ρ1 r Hf1 H1 x S1 R1 hv hq => ?_
  obtain ⟨d, e1, hq⟩ := ofO_bind hq
  obtain ⟨y, e2, hq⟩ := ofO_bind hq
  unfold dIsa at e2
  cases q1 : tyD d with
  | none => rw [q1] at e2; cases e2
  | some t =>
    rw [q1, Option.bind_some] at e2
    cases q2 : isaAny tab t cs with
    | none => rw [q2] at e2; cases e2
    | some b =>
      rw [q2] at e2
      cases e2
      obtain ⟨c0, r0, q3⟩ := isaAny_one q2 hne
      have vl : vs.length = us.length := by
        clear hq k1 k4 k3
        induction k2 with
        | nil => rfl
        | cons _ _ ih => simp [ih]
      have hz' := of_decide_eq_true hz
      refine ⟨by rw [vl, k3, sizeLine_eq]; omega, fun tp hp => ?_⟩
      obtain ⟨S2, R2⟩ := R1.lay hp (.tup vs)
      have T1 : HasT ⟨X.K, X.mg⟩ (upd Hf1 tp (.tup vs)) (upd H1 tp (.tup vs)) d x := R2.peek (hv.up S2).rs e1
      obtain ⟨tv, h1, h2⟩ := tyD_ty T R2.sub T1 q1 q3
      exact ⟨x, tp, vs, tv, us, b, rfl, upd_same, k2, h2, isaAny_kit T h1 q2 k3 k4, hq _ _ _ (S1.trans S2) R2 (.bl _)⟩
end
end Fx

set_option Elab.async false
set_option linter.all false
set_option maxRecDepth 100000
set_option maxHeartbeats 4000000
/-! ### enumerate of a tuple -/
namespace PySem
theorem meets_enumerate_newTp (l : Addr) (items : Array Value) (n : Nat) (dd : Option Addr) (sl : Array (Option Value)) :
    Meets (Builtin.«enumerate.__new__» ⟨[.type "enumerate", .ref l], []⟩) (fun _ R s => s.heap.get? l = some { cls := .type "tuple", dict := dd, data := .seq items n, slots := sl } ∧
      R (.ok (.ret (.ref (s.heap.push { cls := .type "tuple_iterator", data := .fields #[.ref l, .int 0 0] }).objs.size)))
        { s with heap := (s.heap.push { cls := .type "tuple_iterator", data := .fields #[.ref l, .int 0 0] }).push { cls := .type "enumerate", data := .fields #[.none, .bool false, .ref s.heap.objs.size, rawInt 0, .none, .none] } }) :=
  .of_wp fun prog w A R s h => by
    obtain ⟨hp, g, d, tk, os⟩ := s; obtain ⟨hl, h⟩ := h
    have hsub := sub_enumerate
    have hL : Heap.IsTuple (Shared.heap ⟨hp, g, d, tk, os⟩) l items := ⟨_, hl, rfl, n, rfl⟩
    wp_walk using wpAny_loadPart' hl
    refine wpAny_stack_any fun st => wpAny_pure ?_
    split
    · rename_i c _ _ _ _ _
      cases (c == Value.type "enumerate")
      · wp_walk using wpAny_loadPart' hl, wpAny_pyIter_tuple hL
        exact ⟨_, rfl, h⟩
      · wp_walk using wpAny_loadPart' hl, wpAny_pyIter_tuple hL
        exact ⟨_, rfl, h⟩
    · wp_walk using wpAny_loadPart' hl, wpAny_pyIter_tuple hL
      exact ⟨_, rfl, h⟩
theorem call_enumerate_tuple {prog : Program} {w : World} {A : Around} {E : Value → Shared → Prop} {s : Shared} {l : Addr} {items : Array Value} {Q : Value → Shared → Prop} (hL : s.heap.IsTuple l items)
    (h : ∀ h', IsEnum h' (s.heap.objs.size + 1) s.heap.objs.size 0 .none → h'.IsTupleIter s.heap.objs.size l 0 → h'.objs.size = s.heap.objs.size + 2 →
      (∀ b o, s.heap.get? b = some o → h'.get? b = some o) → Q (.ref (s.heap.objs.size + 1)) { s with heap := h' }) :
    wpAny (model prog w) A (call (.type "enumerate") [.ref l]) Q E s := by
  obtain ⟨⟨c, dct, dt, sl⟩, hl, hc, n, hd⟩ := hL
  replace hc : c = .type "tuple" := hc
  replace hd : dt = .seq items n := hd
  subst hc hd
  refine callType_new F.called_enumerate (by decide) (F.typeCall_enumerate_1 _) (F.newCall_enumerate_1 _) (fun obj => F.args_object_init_2 obj _) F.entry_enumerate_new
    (meets_enumerate_newTp l items n dct sl) ⟨hl, ?_⟩
  have hz : (s.heap.push { cls := .type "tuple_iterator", data := .fields #[.ref l, .int 0 0] }).objs.size = s.heap.objs.size + 1 := Heap.size_push ..
  show _ ∧ _
  rw [hz]
  have he : IsEnum ((s.heap.push { cls := .type "tuple_iterator", data := .fields #[.ref l, .int 0 0] }).push
      { cls := .type "enumerate", data := .fields #[.none, .bool false, .ref s.heap.objs.size, rawInt 0, .none, .none] }) (s.heap.objs.size + 1) s.heap.objs.size 0 .none := by
    have := Heap.get?_push_size (s.heap.push { cls := .type "tuple_iterator", data := .fields #[.ref l, .int 0 0] })
      (o := { cls := .type "enumerate", data := .fields #[.none, .bool false, .ref s.heap.objs.size, rawInt 0, .none, .none] }) rfl
    rw [hz] at this; exact this
  refine ⟨⟨_, he, rfl⟩, h _ he ⟨_, Heap.get?_push_of_some _ (Heap.get?_push_size _ rfl), rfl, rfl⟩ (by rw [Heap.size_push, hz]) fun b o x => Heap.get?_push_of_some _ (Heap.get?_push_of_some _ x)⟩
end PySem
namespace L2
open PySem PySem.Spec PyProof.Rows
/-- the tuple at a, each item in a new pair -/
def IteT (K : PySem.W.Frag) (a : Addr) : It :=
  ⟨fun i H => ∃ (xs : List V) (x : V), SqT K H a xs ∧ xs[i]? = some x, fun i H v H' => ∃ T x, v = .ref T ∧ H T = none ∧ H' = upd H T (.tup [.int (i : Nat), x]) ∧ ∀ xs, SqT K H a xs → xs[i]? = some x, fun i H => ∃ xs : List V, SqT K H a xs ∧ xs.length ≤ i⟩
theorem turn_enumT {P : Program} {w : World} {K : PySem.W.Frag} {elts : List Expr} {kk : Nat} {tpos : Pos} (a e it : Addr) :
    Turn P w K (.Tuple elts kk tpos) (IteT K a) [e, it] e (fun i h => (∃ old, IsEnum h e it ((i : Nat) : Int) old) ∧ h.IsTupleIter it a i ∧ e ≠ it ∧ a ≠ it ∧ e ≠ a) where
  mem := by simp
  obj := fun i h st b hb => by
    obtain ⟨⟨old, he⟩, ⟨o, ho, hc, hd⟩, _⟩ := st
    have e' : b = e ∨ b = it := by simpa using hb
    rcases e' with z | z
    · rw [z]; exact ⟨_, he, fun v q => nomatch q⟩
    · rw [z]; exact ⟨o, ho, fun v q => by rw [hd] at q; cases q⟩
  keep := fun i h h' st k => let ⟨⟨old, he⟩, hi, hne⟩ := st; ⟨⟨old, k e (by simp) _ he⟩, hi.at fun o q => k it (by simp) o q, hne⟩
  item := by
    intro X hP hw hK hc i pins s σ H E I hf st hg
    subst hP hw hK
    obtain ⟨⟨old, he⟩, hit, hne, hai, hea⟩ := st
    obtain ⟨xs, x, hq, hx⟩ := hg
    obtain ⟨its, rv, p, hz⟩ := I.tuple hq
    obtain ⟨u, hu, ru⟩ := rv.get hx
    have hel : e < s.heap.objs.size := Heap.lt_size he
    have hil : it < s.heap.objs.size := by obtain ⟨_, q, _⟩ := hit; exact Heap.lt_size q
    have hlen : i < its.toArray.size := by
      have := (List.getElem?_eq_some_iff.mp hx).1
      have l := rv.length
      simp
      omega
    refine wpAny_pyNext_enum_itemD (PySem.Draws.tuple (prog := X.prog) (w := X.w) (A := X.A.in1) (show X.A.in1.handled = none from I.ok.hd hc) it a hai its.toArray) he ⟨hit, p⟩ hlen hne (by simp [hne, hea]) fun y h' tk hy ho hit' hT hsz hk => ?_
    have hy' : y = u := by
      have : its.toArray[i]? = some u := by simpa using hu
      rw [hy] at this
      exact Option.some.inj this
    subst hy'
    refine ⟨_, rfl, wpAny_letOwnedTupleGo_enum (s := { s with heap := h', toks := tk + 1 }) ho fun h'' he' sb => ?_⟩
    have hT2 : h''.get? s.heap.objs.size = some { cls := .type "tuple", data := .seq #[.int i tk, y] } := (sb.2 _ (Nat.ne_of_gt hel)).trans hT
    have new : ObjOk X.prog X.w (upd H s.heap.objs.size (.tup [.int (i : Nat), x])) h'' s.heap.objs.size (.tup [.int (i : Nat), x]) :=
      ⟨by show 2 ≤ sizeLine; decide, [.int i tk, y], .cons ⟨_, rfl⟩ (.cons ru .nil), ⟨_, hT2, rfl, _, rfl⟩⟩
    have I1 : Inv X pins σ (upd H s.heap.objs.size (.tup [.int (i : Nat), x])) { s with heap := h'', toks := tk + 1 } :=
      I.turnedNew (ch := [e, it]) (fun b ob hb q => (sb.2 b (fun z => hb (by simp [z]))).trans (hk b ob (fun z => hb (by simp [z])) (fun z => hb (by simp [z])) q)) hf (Nat.le_refl _) new
    refine ⟨.ref s.heap.objs.size, _, I1, rfl, ⟨_, x, rfl, I.hok.fresh (Nat.le_refl _), rfl, fun ys hy => by rw [I.tuple_inj hy hq]; exact hx⟩, ⟨⟨y, ?_⟩, hit'.1.at fun o q => (sb.2 it (Ne.symm hne)).trans q, hne, hai, hea⟩, fun b hb => ?_⟩
    · have e1 : ((i + 1 : Nat) : Int) = (i : Int) + 1 := by omega
      rw [e1]; exact he'
    · have hb' : b < s.heap.objs.size := by
        have e' : b = e ∨ b = it := by simpa using hb
        rcases e' with z | z
        · rw [z]; exact hel
        · rw [z]; exact hil
      rw [upd_ne (Nat.ne_of_lt hb')]
      exact (hf b hb).1
  done := by
    intro X hP hw hK hc i pins s σ H E I hf st hg
    subst hP hw hK
    obtain ⟨⟨old, he⟩, hit, hne, hai, hea⟩ := st
    obtain ⟨xs, hq, hx⟩ := hg
    obtain ⟨its, rv, p, hz⟩ := I.tuple hq
    obtain ⟨f0, f1, f2, f3, f4, f5⟩ := hf it (by simp)
    have hl := rv.length
    have D := PySem.Draws.tuple (prog := X.prog) (w := X.w) (I.ok.hd hc) it a hai its.toArray
    have hT : s.TypeIs (.ref e) "enumerate" := ⟨_, he, rfl⟩
    unfold pyNext
    refine wpAny_bind (wpAny_attempt (wpAny_callSpecial?_slot (name := Str.ofString "__next__") hT F.slot_enumerate_next
      (wpAny_call_entry F.slot_enumerate_next hT F.entry_enumerate_next ?_ (F.args_enumerate_next_1 _))))
    show wpAny _ _ (field (.ref e) 2 >>= _) _ _ _
    refine wpAny_bind (wpAny_field he rfl (x := .ref it) rfl ?_)
    refine wpAny_bind (PySem.wpAny_nextOf_tuple_end (I.ok.hd hc) hit p (by simp; omega) fun h' x he' hx' => ?_)
    obtain ⟨o, ho, hc'⟩ := hx'
    refine wpAny_bind (wpAny_isInstance (T := "StopIteration") (b := true) ⟨o, ho, hc'⟩ isSubtype_stop ?_)
    exact wpAny_pure ⟨rfl, I.turned (t' := s.toks) (fun b o hb q => he' b o hb q) f0 f1 f3 f4 f5⟩
  self := fun A i s Q E st h => let ⟨⟨_, he⟩, _⟩ := st; wpAny_pyIter_enum he h
def iEnumA (K : PySem.W.Frag) (ta : TA) : TI := fun σ H R => ta σ H fun vs H1 => ∃ a xs, vs = [.ref a] ∧ ((SqL K H1 a xs ∧ R (Ite K a) H1) ∨ (SqT K H1 a xs ∧ R (IteT K a) H1))
theorem pi_enumA {X : Cx} {e : Expr} {ta : TA} {p pos tpos : Pos} {elts : List Expr} {kk : Nat} (hg : Gl X "enumerate") (hm : X.mg "enumerate" = none) (ha : PA X [e] ta) (hs : starEach [e] X.env = [(false, eval e X.env)] := by rfl) :
    PI X (.Tuple elts kk tpos) (.Call (.Name "enumerate" p) [e] [] pos) (iEnumA X.K ta) := by
  refine ⟨fun pins s σ H R I h => ?_⟩
  refine Call_ (ld_blt I hg hm boot_enumerate (PyProof.Rows.callWith_type1 (thn (ha.run pos pins s σ H _ I h) fun us s1 ⟨vs, H1, I1, r1, q1⟩ => ?_) hs rfl))
  obtain ⟨a, xs, ex, q1⟩ := q1
  subst ex
  cases r1 with
  | cons r rr =>
    cases rr
    cases r
    have fr : ∀ b ∈ [s1.heap.objs.size + 1, s1.heap.objs.size], s1.heap.objs.size ≤ b := fun b hb => by
      have e' : b = s1.heap.objs.size + 1 ∨ b = s1.heap.objs.size := by simpa using hb
      rcases e' with z | z
      · rw [z]; exact Nat.le_add_right _ _
      · rw [z]; exact Nat.le_refl _
    rcases q1 with ⟨hq, q⟩ | ⟨hq, q⟩
    · obtain ⟨its, rv, p', hz⟩ := I1.list hq
      refine call_enumerate_list p'.isList fun h' he hit hsz hk => wpAny_pyIter_enum he ?_
      have I2 : Inv X pins σ H1 { s1 with heap := h' } := I1.kept (t' := s1.toks) hk
      exact ⟨s1.heap.objs.size + 1, [s1.heap.objs.size + 1, s1.heap.objs.size], _, _, H1, rfl, I2, turn_enum a (s1.heap.objs.size + 1) s1.heap.objs.size, ⟨⟨.none, he⟩, hit, Nat.succ_ne_self _⟩, fun b hb => I1.fpOk (fr b hb) (I1.hok.fresh (fr b hb)), q⟩
    · obtain ⟨its, rv, p', hz⟩ := I1.tuple hq
      have hal : a < s1.heap.objs.size := by obtain ⟨o, ho, _⟩ := p'; exact Heap.lt_size ho
      refine call_enumerate_tuple p' fun h' he hit hsz hk => wpAny_pyIter_enum he ?_
      have I2 : Inv X pins σ H1 { s1 with heap := h' } := I1.kept (t' := s1.toks) hk
      exact ⟨s1.heap.objs.size + 1, [s1.heap.objs.size + 1, s1.heap.objs.size], _, _, H1, rfl, I2, turn_enumT a (s1.heap.objs.size + 1) s1.heap.objs.size, ⟨⟨.none, he⟩, hit, Nat.succ_ne_self _, Nat.ne_of_lt hal, Ne.symm (Nat.ne_of_lt (Nat.lt_succ_of_lt hal))⟩, fun b hb => I1.fpOk (fr b hb) (I1.hok.fresh (fr b hb)), q⟩
end L2

set_option Elab.async false
set_option linter.all false
set_option maxRecDepth 100000
set_option maxHeartbeats 4000000
namespace Fx
open PySem L2
variable [Tb]
/-! ### what is walked: enumerate, zip, a text -/
def enumD : Nat → List D → List D
  | _, [] => []
  | i, d :: ds => .nd .tup [.int i, d] :: enumD (i + 1) ds
theorem enumD_len : ∀ (ds : List D) (k : Nat), (enumD k ds).length = ds.length
  | [], _ => rfl
  | _ :: ds, k => by simp [enumD, enumD_len ds]
theorem enumD_get : ∀ (ds : List D) (k i : Nat), (enumD k ds)[i]? = (ds[i]?).map fun d => .nd .tup [.int ((k + i : Nat) : Int), d]
  | [], k, i => by simp [enumD]
  | d :: ds, k, 0 => by simp [enumD]
  | d :: ds, k, i + 1 => by
    show (enumD (k + 1) ds)[i]? = (ds[i]?).map _
    rw [enumD_get ds (k + 1) i]
    have : k + 1 + i = k + (i + 1) := by omega
    rw [this]
section
variable {M : Md} {Hf : Hp} {a b : Addr} {vs ws : List V} {ds es : List D}
/-- a new pair -/
theorem pair_new {Γ : Gh} {Hf1 : Hp} {σ : L2.St} {H : Hp} {ρ : Env} {x y : V} {d e : D} {T : Addr} (S : Same Hf Hf1) (R : Rep M Γ Hf1 σ H ρ) (hT : H T = none) (h1 : Has M Hf1 d x) (h2 : Has M Hf1 e y) :
    ∃ Hf2, Same Hf1 Hf2 ∧ Rep M Γ Hf2 σ (upd H T (.tup [x, y])) ρ ∧ Has M Hf2 (.nd .tup [d, e]) (.ref T) := by
  obtain ⟨S3, R3⟩ := R.lay hT (.tup [x, y])
  exact ⟨_, S3, R3, .tup (SqT.of upd_same) (.cons (h1.same S3) (.cons (h2.same S3) .nil))⟩
theorem walks_enumL (hl : SqL M.K Hf a vs) (h : HasAll M Hf ds vs) : Walks M (Ite M.K a) Hf (enumD 0 ds) where
  go := fun i H S hi => by
    have hi' : i < vs.length := by rw [← h.length]; rw [enumD_len] at hi; exact hi
    exact ⟨vs, vs[i], S.seq hl, List.getElem?_eq_getElem hi'⟩
  stop := fun i H S hi => ⟨vs, S.seq hl, by rw [← h.length]; rw [enumD_len] at hi; exact hi⟩
  yld := fun i H v H' d y e Γ Hf1 σ ρ S R => by
    obtain ⟨T, x, rfl, hT, rfl, y⟩ := y
    rw [enumD_get] at e
    obtain ⟨d0, e0, rfl⟩ := Option.map_eq_some_iff.mp e
    have y2 := y vs (R.sub.seq (S.seq hl))
    obtain ⟨u, h1, h2⟩ := h.get e0
    rw [y2] at h1
    cases h1
    rw [Nat.zero_add]
    exact pair_new S R hT (.int _) (h2.same S)
theorem walks_enumT (hl : SqT M.K Hf a vs) (h : HasAll M Hf ds vs) : Walks M (IteT M.K a) Hf (enumD 0 ds) where
  go := fun i H S hi => by
    have hi' : i < vs.length := by rw [← h.length]; rw [enumD_len] at hi; exact hi
    exact ⟨vs, vs[i], SqT.same S hl, List.getElem?_eq_getElem hi'⟩
  stop := fun i H S hi => ⟨vs, SqT.same S hl, by rw [← h.length]; rw [enumD_len] at hi; exact hi⟩
  yld := fun i H v H' d y e Γ Hf1 σ ρ S R => by
    obtain ⟨T, x, rfl, hT, rfl, y⟩ := y
    rw [enumD_get] at e
    obtain ⟨d0, e0, rfl⟩ := Option.map_eq_some_iff.mp e
    have y2 := y vs (SqT.same R.sub (SqT.same S hl))
    obtain ⟨u, h1, h2⟩ := h.get e0
    rw [y2] at h1
    cases h1
    rw [Nat.zero_add]
    exact pair_new S R hT (.int _) (h2.same S)
def zipD : List D → List D → List D
  | d :: ds, e :: es => .nd .tup [d, e] :: zipD ds es
  | _, _ => []
theorem zipD_len : ∀ (ds es : List D), (zipD ds es).length = min ds.length es.length
  | [], es => by simp [zipD]
  | _ :: _, [] => by simp [zipD]
  | d :: ds, e :: es => by simp [zipD, zipD_len ds es]
theorem zipD_get : ∀ (ds es : List D) (i : Nat) (z : D), (zipD ds es)[i]? = some z → ∃ d e, ds[i]? = some d ∧ es[i]? = some e ∧ z = .nd .tup [d, e]
  | [], es, i, z, h => by simp [zipD] at h
  | _ :: _, [], i, z, h => by simp [zipD] at h
  | d :: ds, e :: es, 0, z, h => by simp [zipD] at h; exact ⟨d, e, rfl, rfl, h.symm⟩
  | d :: ds, e :: es, i + 1, z, h => zipD_get ds es i z (by simpa [zipD] using h)
theorem walks_zipL (hl : SqL M.K Hf a vs) (h : HasAll M Hf ds vs) (hl2 : SqL M.K Hf b ws) (h2 : HasAll M Hf es ws) : Walks M (Itz M.K a b) Hf (zipD ds es) where
  go := fun i H S hi => by
    rw [zipD_len, h.length, h2.length] at hi
    exact ⟨vs, ws, vs[i]'(by omega), ws[i]'(by omega), S.seq hl, S.seq hl2, List.getElem?_eq_getElem _, List.getElem?_eq_getElem _⟩
  stop := fun i H S hi => ⟨vs, ws, S.seq hl, S.seq hl2, by rw [zipD_len, h.length, h2.length] at hi; omega⟩
  yld := fun i H v H' d y e Γ Hf1 σ ρ S R => by
    obtain ⟨T, x, x2, rfl, hT, rfl, y, y'⟩ := y
    obtain ⟨d0, e0, g1, g2, rfl⟩ := zipD_get _ _ _ _ e
    have k1 := y vs (R.sub.seq (S.seq hl))
    have k2 := y' ws (R.sub.seq (S.seq hl2))
    obtain ⟨u, j1, j2⟩ := h.get g1
    obtain ⟨u', j3, j4⟩ := h2.get g2
    rw [k1] at j1; rw [k2] at j3
    cases j1; cases j3
    exact pair_new S R hT (j2.same S) (j4.same S)
theorem walks_zipT (hl : SqT M.K Hf a vs) (h : HasAll M Hf ds vs) (hl2 : SqT M.K Hf b ws) (h2 : HasAll M Hf es ws) : Walks M (RZ.ItzT M.K a b) Hf (zipD ds es) where
  go := fun i H S hi => by
    rw [zipD_len, h.length, h2.length] at hi
    exact ⟨vs, ws, vs[i]'(by omega), ws[i]'(by omega), SqT.same S hl, SqT.same S hl2, List.getElem?_eq_getElem _, List.getElem?_eq_getElem _⟩
  stop := fun i H S hi => ⟨vs, ws, SqT.same S hl, SqT.same S hl2, by rw [zipD_len, h.length, h2.length] at hi; omega⟩
  yld := fun i H v H' d y e Γ Hf1 σ ρ S R => by
    obtain ⟨T, x, x2, rfl, hT, rfl, y, y'⟩ := y
    obtain ⟨d0, e0, g1, g2, rfl⟩ := zipD_get _ _ _ _ e
    have k1 := y vs (SqT.same R.sub (SqT.same S hl))
    have k2 := y' ws (SqT.same R.sub (SqT.same S hl2))
    obtain ⟨u, j1, j2⟩ := h.get g1
    obtain ⟨u', j3, j4⟩ := h2.get g2
    rw [k1] at j1; rw [k2] at j3
    cases j1; cases j3
    exact pair_new S R hT (j2.same S) (j4.same S)
def signsD (x : Str) : List D := x.cps.toList.map fun c => .str ⟨#[c]⟩
theorem walks_str {x : Str} : Walks M (Its x) Hf (signsD x) where
  go := fun i H S hi => by
    have : i < x.cps.size := by simpa [signsD] using hi
    exact this
  stop := fun i H S hi => by
    have : x.cps.size ≤ i := by simpa [signsD] using hi
    exact this
  yld := fun i H v H' d y e Γ Hf1 σ ρ S R => by
    obtain ⟨rfl, c, hc, rfl⟩ := y
    unfold signsD at e
    rw [List.getElem?_map] at e
    have : x.cps.toList[i]? = some c := by simpa using hc
    rw [this] at e
    cases e
    exact ⟨Hf1, Same.refl _, R, .str _⟩
end
def iEnu (f : Env → Rz (Env × D)) : Env → Rz (Env × List D) := fun ρ => (f ρ).bind fun p => match p.2 with
  | .nd .tup ds => .ok (p.1, enumD 0 ds)
  | .nd .lst ds => .ok (p.1, enumD 0 ds)
  | _ => .no
def iZip (f g : Env → Rz (Env × D)) : Env → Rz (Env × List D) := fun ρ => (f ρ).bind fun p => (g p.1).bind fun q => match p.2, q.2 with
  | .nd .tup ds, .nd .tup es => .ok (q.1, zipD ds es)
  | .nd .lst ds, .nd .lst es => .ok (q.1, zipD ds es)
  | _, _ => .no
/-- a sequence or a text -/
def iSeqS (f : Env → Rz (Env × D)) : Env → Rz (Env × List D) := fun ρ => (f ρ).bind fun p => match p.2 with
  | .str x => .ok (p.1, signsD x)
  | _ => .no
section
variable {X : Cx} {W : WX} {tg e e2 : Expr} {p pos tpos : Pos} {elts : List Expr} {kk : Nat} {vf wf : Env → Rz (Env × D)}
theorem ri_enum (h : RV X W e vf) (hm : X.mg "enumerate" = none) (hg : Gl X "enumerate" := by rfl) (hs : starEach [e] X.env = [(false, eval e X.env)] := by rfl) : RI X W (.Tuple elts kk tpos) (.Call (.Name "enumerate" p) [e] [] pos) (iEnu vf) :=
  pi_mono (pi_enumA hg hm (pa_cons h pa_nil hs) hs) fun σ H Q ⟨Γ, Hf, ρ, R, hw⟩ => bindV R hw fun ρ1 d Hf1 H1 v S R1 hv hq => by
    cases hv with
    | tup s t => exact ⟨_, _, rfl, .inr ⟨SqT.same R1.sub s, hq Hf1 H1 _ S R1 (walks_enumT s t)⟩⟩
    | lst s t => exact ⟨_, _, rfl, .inl ⟨SqL.of (R1.sub _ _ s), hq Hf1 H1 _ S R1 (walks_enumL (SqL.of s) t)⟩⟩
    | _ => exact hq.elim
theorem ri_zip (h : RV X W e vf) (h2 : RV X W e2 wf) (hm : X.mg "zip" = none) (hg : Gl X "zip" := by rfl) (hs : starEach [e, e2] X.env = (false, eval e X.env) :: starEach [e2] X.env := by rfl) (hs2 : starEach [e2] X.env = (false, eval e2 X.env) :: starEach [] X.env := by rfl) (hpl : (backTo pos (starEach [e2] X.env)).any (·.1) = false := by rfl) :
    RI X W (.Tuple elts kk tpos) (.Call (.Name "zip" p) [e, e2] [] pos) (iZip vf wf) :=
  pi_mono (RZ.pi_zipA hg hm (pa_cons h (pa_cons h2 pa_nil hs2) hs) hs hpl) fun σ H Q ⟨Γ, Hf, ρ, R, hw⟩ => bindV R hw fun ρ1 d Hf1 H1 v S R1 hv hq => bindV R1 hq fun ρ2 d2 Hf2 H2 v2 S2 R2 hv2 hq2 => by
    have hv' := hv.same S2
    cases hv' with
    | tup s t =>
      cases hv2 with
      | tup s2 t2 => exact ⟨_, _, _, _, rfl, .inr ⟨SqT.same R2.sub s, SqT.same R2.sub s2, hq2 Hf2 H2 _ (S.trans S2) R2 (walks_zipT s t s2 t2)⟩⟩
      | _ => exact hq2.elim
    | lst s t =>
      cases hv2 with
      | lst s2 t2 => exact ⟨_, _, _, _, rfl, .inl ⟨SqL.of (R2.sub _ _ s), SqL.of (R2.sub _ _ s2), hq2 Hf2 H2 _ (S.trans S2) R2 (walks_zipL (SqL.of s) t (SqL.of s2) t2)⟩⟩
      | _ => exact hq2.elim
    | _ => cases hv2 <;> exact hq2.elim
theorem ri_str (h : RV X W e vf) : RI X W tg e (iSeqS vf) := pi_mono (pi_str h) fun σ H Q ⟨Γ, Hf, ρ, R, hw⟩ => bindV R hw fun ρ1 d Hf1 H1 v S R1 hv hq => by
  cases hv with
  | str x => exact ⟨x, rfl, hq Hf1 H1 _ S R1 walks_str⟩
  | _ => exact hq.elim
end
/-! ### dicts by keys of texts and ints -/
def keyD : D → Option Key
  | .str x => some (.inr x)
  | .int i => some (.inl i)
  | _ => none
def lookK (k : Key) : List Key → List D → Option D
  | j :: ks, d :: ds => if j = k then some d else lookK k ks ds
  | _, _ => none
theorem lookK_has {M : Md} {G : Hp} {k : Key} : ∀ {kvs : List (Key × V)} {ds : List D}, HasAll M G ds (kvs.map (·.2)) → (∀ d, lookK k (kvs.map (·.1)) ds = some d → ∃ v, valV kvs k = some v ∧ Has M G d v) ∧ ((lookK k (kvs.map (·.1)) ds).isSome = (valV kvs k).isSome)
  | [], [], _ => ⟨(fun d e => by cases e), rfl⟩
  | [], _ :: _, t => nomatch t
  | _ :: _, [], t => nomatch t
  | (j, v) :: kvs, x :: xs, .cons h t => by
    show (∀ d, (if j = k then some x else lookK k (kvs.map (·.1)) xs) = some d → _) ∧ ((if j = k then some x else lookK k (kvs.map (·.1)) xs).isSome = _)
    unfold valV
    rw [List.find?_cons]
    by_cases e : j = k
    · rw [if_pos e]
      have : decide (j = k) = true := decide_eq_true e
      simp only [this]
      exact ⟨fun d z => by cases z; exact ⟨v, rfl, h⟩, rfl⟩
    · rw [if_neg e]
      have : decide (j = k) = false := decide_eq_false e
      simp only [this]
      exact lookK_has (k := k) t
theorem keyD_v {M : Md} {Hf H : Hp} {d : D} {v : V} {k : Key} (h : HasT M Hf H d v) (e : keyD d = some k) : v = kV k := by
  cases h <;> first | (cases e; rfl) | cases e
def dIxA : D → D → Option D := fun d e => match d with
  | .nd (.dct ks) ds => (keyD e).bind fun k => lookK k ks ds
  | _ => dIx d e
def rIxD : R2 := fun x y H Q => ∃ a v, x = .ref a ∧ DGet H a y (some v) ∧ Q v H
section
variable {X : Cx}
theorem ix_dict (hu : X.A.units + 1 < cLine) : IxR X rIxD := by
  intro value slice pins s σ H x y v u Q I rx ry h hs
  obtain ⟨a, z, rfl, g, q⟩ := h
  cases rx
  have hT := dict_typeIs I g
  unfold PyProof.Rows.subscriptTail
  refine wpAny_bind ?_
  rw [getitemInPython_of_ne hT.not_modules]
  refine wpAny_bind (wpAny_specialOf hT PySem.F.slot_dict_getitem.lookup ?_)
  have fin : wpAny (model X.prog X.w) X.A (subscripted slice false (.ref a) u) (fun r s₃ => wpAny (model X.prog X.w) X.A (letTemporaryGo value (.ref a) r >>= fun _ => pure r) (EP X pins σ Q) X.xe s₃) X.xe s := by
    rw [hs]
    exact wpAny_operating (wpAny_mono (d_getItem hu I g ry fun w' s' I' rw' => (⟨z, H, I', rw', q⟩ : EP X pins σ Q w' s')) (fun r s₃ h₃ => wpAny_bind (wpAny_letTemporaryGo (wpAny_pure h₃))) fun _ _ x => x)
  first
    | exact wpAny_pure (wpAny_bind fin)
    | exact wpAny_bind (wpAny_pure (wpAny_bind fin))
    | exact wpAny_bind fin
end
def rIxA (K : PySem.W.Frag) : R2 := fun x y H Q => rIxD x y H Q ∨ rIx K x y H Q
theorem serves_ixA {M : Md} : ServesD M (rIxA M.K) dIxA := fun Hf H x y d e g hx hy S h Q q => by
  cases hx with
  | dct s t =>
    have h' : ((keyD e).bind fun k => lookK k _ _) = some g := h
    cases ek : keyD e with
    | none => rw [ek] at h'; cases h'
    | some k =>
      rw [ek, Option.bind_some] at h'
      have ey := keyD_v hy ek
      subst ey
      obtain ⟨v, h1, h2⟩ := (lookK_has t).1 _ h'
      refine .inl ⟨_, v, rfl, ?_, q v h2⟩
      rw [← h1]
      exact DGet.k s
  | non => exact .inr (serves_ix Hf H _ _ _ e g .non hy S h Q q)
  | bl b => exact .inr (serves_ix Hf H _ _ _ e g (.bl b) hy S h Q q)
  | int i => exact .inr (serves_ix Hf H _ _ _ e g (.int i) hy S h Q q)
  | str x => exact .inr (serves_ix Hf H _ _ _ e g (.str x) hy S h Q q)
  | ob a => exact .inr (serves_ix Hf H _ _ _ e g (.ob a) hy S h Q q)
  | tup s t => exact .inr (serves_ix Hf H _ _ _ e g (.tup s t) hy S h Q q)
  | lst s t => exact .inr (serves_ix Hf H _ _ _ e g (.lst s t) hy S h Q q)
  | scr s t => exact .inr (serves_ix Hf H _ _ _ e g (.scr s t) hy S h Q q)
  | obj g' s t => exact .inr (serves_ix Hf H _ _ _ e g (.obj g' s t) hy S h Q q)
  | exn g' s s2 t => exact .inr (serves_ix Hf H _ _ _ e g (.exn g' s s2 t) hy S h Q q)
  | tupN s n t => cases hy <;> cases h
  | dcx s => cases hy <;> cases h
theorem rv_ixA {X : Cx} {W : WX} {a b : Expr} {pos : Pos} {f g : Env → Rz (Env × Rs)} (hu : X.A.units + 64 < cLine) (ha : RH X W a f) (hb : RH X W b g) (hs : PlainIx b := by exact fun _ _ => rfl) : RV X W (.Subscript a b pos) (v2 dIxA f g) :=
  pe_mono (pe_ix (IxR.or (ix_dict (by omega)) ix_seq) ha hb hs) (v2_imp serves_ixA)
/-- in: a dict, a text in a text -/
def strIn (x y : Str) : Bool := !(Builtin.Str.occurrences y x 0 y.length 1).isEmpty
def dInA (neg : Bool) : D → D → Option Bool := fun d e => match e with
  | .nd (.dct ks) ds => (keyD d).bind fun k => some (if neg then !(lookK k ks ds).isSome else (lookK k ks ds).isSome)
  | .str y => match d with
    | .str x => some (if neg then !strIn x y else strIn x y)
    | _ => none
  | _ => (match e with | .nd .tup _ | .nd .lst _ => (memD d e).map fun b => if neg then !b else b | _ => none)
def rInDS (neg : Bool) : R2 := fun x y H Q => (∃ a o, y = .ref a ∧ DGet H a x o ∧ Q (.bl (if neg then !o.isSome else o.isSome)) H) ∨ ∃ i j, x = .str i ∧ y = .str j ∧ Q (.bl (if neg then !strIn i j else strIn i j)) H
section
variable {X : Cx}
theorem op_inDS (hu : X.A.units + 65 < cLine) : OpR X (compareOp .In) (rInDS false) := by
  intro pins s σ H x y v u Q I rx ry h
  rcases h with ⟨a, o, rfl, g, q⟩ | ⟨i, j, rfl, rfl, q⟩
  · cases ry
    exact d_in (by omega) I g rx fun s' I' => ⟨.bl _, H, I', rfl, q⟩
  · exact op_in_str pins s σ H _ _ v u Q I rx ry ⟨i, j, rfl, rfl, q⟩
theorem op_notInDS (hu : X.A.units + 65 < cLine) : OpR X (compareOp .NotIn) (rInDS true) := by
  intro pins s σ H x y v u Q I rx ry h
  rcases h with ⟨a, o, rfl, g, q⟩ | ⟨i, j, rfl, rfl, q⟩
  · cases ry
    exact d_notIn (by omega) I g rx fun s' I' => ⟨.bl _, H, I', rfl, q⟩
  · exact op_notIn_str pins s σ H _ _ v u Q I rx ry ⟨i, j, rfl, rfl, q⟩
def rInAA (K : PySem.W.Frag) (neg : Bool) : R2 := fun x y H Q => rInAll K neg x y H Q ∨ rInDS neg x y H Q
end
theorem serves_inA {M : Md} (neg : Bool) : ServesB M (rInAA M.K neg) (dInA neg) := fun Hf H x y d e g hx hy S h Q q => by
  cases hy with
  | dct s t =>
    have h' : ((keyD d).bind fun k => some (if neg then !(lookK k _ _).isSome else (lookK k _ _).isSome)) = some g := h
    cases ek : keyD d with
    | none => rw [ek] at h'; cases h'
    | some k =>
      rw [ek, Option.bind_some] at h'
      cases h'
      have ex := keyD_v hx ek
      subst ex
      refine .inr (.inl ⟨_, _, rfl, DGet.k s, ?_⟩)
      rw [← (lookK_has (k := k) t).2]
      exact q
  | str z =>
    cases hx with
    | str w => cases h; exact .inr (.inr ⟨w, z, rfl, rfl, q⟩)
    | _ => cases h
  | non => cases hx <;> cases h
  | bl b => cases hx <;> cases h
  | int i => cases hx <;> cases h
  | ob a => cases hx <;> cases h
  | tup s t => exact .inl (serves_in neg Hf H _ _ _ _ g hx (.tup s t) S h Q q)
  | lst s t => exact .inl (serves_in neg Hf H _ _ _ _ g hx (.lst s t) S h Q q)
  | scr s t => cases hx <;> cases h
  | obj g' s t => cases hx <;> cases h
  | exn g' s s2 t => cases hx <;> cases h
  | tupN s n t => cases hx <;> cases h
  | dcx s => cases hx <;> cases h
section
variable {X : Cx} {W : WX} {a b : Expr} {pos : Pos} {f g : Env → Rz (Env × Rs)}
theorem op_inAA (hu : X.A.units + 65 < cLine) : OpR X (compareOp .In) (rInAA X.K false) := OpR.or (op_inAll hu) (op_inDS hu)
theorem op_notInAA (hu : X.A.units + 65 < cLine) : OpR X (compareOp .NotIn) (rInAA X.K true) := OpR.or (op_notInAll hu) (op_notInDS hu)
theorem rv_inA (hu : X.A.units + 65 < cLine) (ha : RH X W a f) (hb : RH X W b g) (hm : behindInMarks .In b = false := by first | rfl | with_unfolding_all rfl) : RV X W (.Compare a [.In] [b] pos) (v2 (dB (dInA false)) f g) := rv_cmp (op_inAA hu) (serves_inA false) ha hb hm
theorem rt_inA (hu : X.A.units + 65 < cLine) (ha : RH X W a f) (hb : RH X W b g) (hm : behindInMarks .In b = false := by first | rfl | with_unfolding_all rfl) : RT X W (.Compare a [.In] [b] pos) (t2 (dInA false) f g) := rt_cmp (op_inAA hu) (serves_inA false) ha hb hm
theorem rv_notinA (hu : X.A.units + 65 < cLine) (ha : RH X W a f) (hb : RH X W b g) (hm : behindInMarks .NotIn b = false := by first | rfl | with_unfolding_all rfl) : RV X W (.Compare a [.NotIn] [b] pos) (v2 (dB (dInA true)) f g) := rv_cmp (op_notInAA hu) (serves_inA true) ha hb hm
theorem rt_notinA (hu : X.A.units + 65 < cLine) (ha : RH X W a f) (hb : RH X W b g) (hm : behindInMarks .NotIn b = false := by first | rfl | with_unfolding_all rfl) : RT X W (.Compare a [.NotIn] [b] pos) (t2 (dInA true) f g) := rt_cmp (op_notInAA hu) (serves_inA true) ha hb hm
end
/-! ### d[k] = v, xs[i] = v -/
def repK (k : Key) (v : D) : List Key → List D → List D
  | j :: ks, d :: ds => (if j = k then v else d) :: repK k v ks ds
  | _, ds => ds
def putKD (k : Key) (v : D) (ks : List Key) (ds : List D) : List Key × List D :=
  if (ks.any fun j => decide (j = k)) = true then (ks, repK k v ks ds) else (ks ++ [k], ds ++ [v])
theorem repK_has {M : Md} {G : Hp} {k : Key} {v : D} {y : V} (hv : Has M G v y) : ∀ {kvs : List (Key × V)} {ds : List D}, HasAll M G ds (kvs.map (·.2)) → HasAll M G (repK k v (kvs.map (·.1)) ds) ((kvs.map (fun kv => if kv.1 = k then (kv.1, y) else kv)).map (·.2))
  | [], [], _ => .nil
  | [], _ :: _, t => nomatch t
  | _ :: _, [], t => nomatch t
  | (j, w) :: kvs, x :: xs, .cons h t => by
    have ih := repK_has (k := k) hv t
    show HasAll M G ((if j = k then v else x) :: repK k v (kvs.map (·.1)) xs) ((if j = k then (j, y) else (j, w)).2 :: _)
    by_cases e : j = k
    · rw [if_pos e, if_pos e]; exact .cons hv ih
    · rw [if_neg e, if_neg e]; exact .cons h ih
theorem putKD_has {M : Md} {G : Hp} {k : Key} {v : D} {y : V} (hv : Has M G v y) {kvs : List (Key × V)} {ds : List D} (t : HasAll M G ds (kvs.map (·.2))) : (putKD k v (kvs.map (·.1)) ds).1 = (putK kvs k y).map (·.1) ∧ HasAll M G (putKD k v (kvs.map (·.1)) ds).2 ((putK kvs k y).map (·.2)) := by
  have ea : ((kvs.map (·.1)).any fun j => decide (j = k)) = kvs.any fun kv => decide (kv.1 = k) := by rw [List.any_map]; rfl
  unfold putKD putK
  rw [ea]
  cases c : kvs.any fun kv => decide (kv.1 = k) with
  | true =>
    rw [if_pos rfl, if_pos rfl]
    refine ⟨?_, repK_has hv t⟩
    rw [List.map_map]
    refine List.map_congr_left fun p _ => ?_
    show p.1 = (if p.1 = k then (p.1, y) else p).1
    by_cases e : p.1 = k
    · rw [if_pos e]
    · rw [if_neg e]
  | false =>
    rw [if_neg (by simp), if_neg (by simp)]
    exact ⟨by simp, by rw [List.map_append]; exact t.append (.single hv)⟩
def setItemD : D → D → D → Option D
  | .nd .lst ds, .int k, v => (ixN ds.length k).map fun j => .nd .lst (ds.set j v)
  | .nd (.dct ks) ds, k, v => (keyD k).bind fun k => if sz (ds.length + 1) then some (.nd (.dct (putKD k v ks ds).1) (putKD k v ks ds).2) else none
  | _, _, _ => none
def gSubA (i : Nat) (ix : Env → Rz (Env × Rs)) (f : Env → Rz (Env × D)) : Env → Rz (Env × Fl) := fun ρ => (f ρ).bind fun p => (Rz.ofO (ownC p.1 i)).bind fun _ => (ix p.1).bind fun q => (Rz.ofO (peek q.1 q.2)).bind fun k => (Rz.ofO (ownC q.1 i)).bind fun c => (Rz.ofO (setItemD c.2 k p.2)).bind fun d => .ok (q.1.set i (c.1.withD d), .nx)
def rSetA : V → V → V → Hp → (Hp → Prop) → Prop := fun o i v H Q => rSetL o i v H Q ∨ ∃ a H', o = .ref a ∧ DPut H a i v H' ∧ Q H'
section
variable {X : Cx}
theorem set_any (hu : X.A.units + 1 < cLine) : PSet X rSetA := by
  intro pins s σ H o i v ov iv u Q I ro ri rv h
  rcases h with h | ⟨a, H', rfl, g, q⟩
  · exact set_list pins s σ H o i v ov iv u Q I ro ri rv h
  · cases ro
    exact d_setItem hu I g ri rv fun s' I' => ⟨H', I', q⟩
end
theorem setItemD_spec {M : Md} {Hf H : Hp} {a : Addr} {d d' e k : D} {v kv : V} (S : Same Hf H) (hl : LocAt M Hf H d (.ref a)) (hk : HasT M Hf H k kv) (hv : Has M Hf e v) (h : setItemD d k e = some d') {Q : Hp → Prop} (hq : ∀ o, LocAt M Hf (upd H a o) d' (.ref a) → Q (upd H a o)) : rSetA (.ref a) kv v H Q := by
  cases hl with
  | lst n h1 t =>
    cases hk with
    | int k =>
      obtain ⟨j, e1, rfl⟩ := Option.map_eq_some_iff.mp h
      exact .inl ⟨a, _, k, j, rfl, rfl, h1, by rw [← t.length]; exact e1, hq _ (.lst n upd_same (HasAll.set hv j t))⟩
    | _ => cases h
  | dct n h1 t =>
    have h' : ((keyD k).bind fun k => if sz (_ + 1) = true then some (D.nd (.dct (putKD k e _ _).1) (putKD k e _ _).2) else none) = some d' := h
    cases ek : keyD k with
    | none => rw [ek] at h'; cases h'
    | some key =>
      rw [ek, Option.bind_some] at h'
      obtain ⟨z, h'⟩ := ite_some h'
      have z := sz_ok z
      rw [t.length] at z
      cases h'
      have ey := keyD_v hk ek
      subst ey
      obtain ⟨k1, k2⟩ := putKD_has (k := key) hv t
      refine .inr ⟨a, _, rfl, DPut.k h1 (Nat.lt_of_succ_le (by simpa using z)), hq _ ?_⟩
      rw [k1]
      exact .dct n upd_same k2
  | obj n g h1 t => cases hk <;> cases h
  | dcx n h1 => cases hk <;> cases h
section
variable {X : Cx} {W : WX} {e ie : Expr} {npos tpos pos : Pos} {x : Str} {i : Nat} {ix : Env → Rz (Env × Rs)} {vf : Env → Rz (Env × D)}
theorem rs_subA (i : Nat) (hu : X.A.units + 64 < cLine) (he : RV X W e vf) (hix : RH X W ie ix) (hN : X.N[i]? = some x := by rfl)
    (hv : Vis X.env.scope x := by first | exact Or.inl rfl | exact Or.inr (Or.inl rfl) | exact Or.inr (Or.inr rfl)) (hd : (x == ("__debug__" : Str)) = false := by decide) (hcd : (x == ("__classdict__" : Str)) = false := by decide)
    (ha : ∀ v, assign (.Subscript (.Name x npos) ie tpos) X.env v = (do
      let ov ← holding [v] (eval (.Name x npos) X.env)
      let iv ← holding [v, ov] (eval ie X.env)
      standAt tpos
      holding [v, ov, iv] (setItem ov iv v)
      release [v, ov, iv] []) := by intro _; rfl)
    (hs : swapsWithSole [.Subscript (.Name x npos) ie tpos] e pos.line X.env = pure false := by rfl) (hw : swappedStores [.Subscript (.Name x npos) ie tpos] e X.env = pure none := by rfl)
    (h1 : (assignEach [.Subscript (.Name x npos) ie tpos] X.env).map (·.2) = [assign (.Subscript (.Name x npos) ie tpos) X.env] := by rfl) :
    RS X W (.Assign [.Subscript (.Name x npos) ie tpos] e pos) (gSubA i ix vf) :=
  ps_mono (ps_asg he (pg_sub (rh_name (W := W) i hN hv hd hcd) hix (set_any (by omega)) ha) hs hw h1) fun D σ H ⟨Γ, Hf, ρ, R, hw⟩ => sbV R hw fun ρ1 d Hf1 H1 v S1 R1 hv hq => by
    obtain ⟨c0, e0, hq⟩ := ofO_bind hq
    refine ⟨Γ, Hf1, ρ1, R1, ?_⟩
    rw [rN_own e0]
    intro Hf2 H2 o S2 R2 ho
    refine sbH R2 (Rz.wp_mono hq (fun _ z => z) (EPs.up S2)) fun ρ3 r3 Hf3 H3 iv S3 R3 hiv hq3 => ?_
    obtain ⟨k, e1, hq3⟩ := ofO_bind hq3
    obtain ⟨c, e2, hq3⟩ := ofO_bind hq3
    obtain ⟨d', e3, hq3⟩ := ofO_bind hq3
    have T := R3.peek hiv.rs e1
    obtain ⟨g1, g2⟩ := ownC_some e2
    obtain ⟨sl, dd⟩ := c
    obtain ⟨ox, a, es, hl, fin⟩ := R3.ownAt g1 g2
    have ho' : σ[i]? = some (some o) := ho
    rw [ho'] at es
    cases es
    exact setItemD_spec R3.sub hl T (hv.same (S2.trans S3)) e3 fun o' hl' => hq3 Hf3 σ _ rfl (S1.trans (S2.trans S3)) (fin _ _ hl')
end
/-- {} with keys of texts and ints -/
def eDk : Env → Rz (Env × Rs) := fun ρ => .ok (ρ, .nw (.nd (.dct []) []))
theorem re_dk {X : Cx} {W : WX} {pos : Pos} : RE X W (.Dict [] [] pos) eDk := pe_mono pe_dnewK fun σ H Q ⟨Γ, Hf, ρ, R, hw⟩ => fun p hp => by
  obtain ⟨R2, h0, hf, hn⟩ := R.layN hp (.dK [])
  exact hw Hf _ _ (Same.refl _) R2 ⟨p, rfl, h0, .dct (kvs := []) hf upd_same .nil, hn⟩
end Fx

set_option Elab.async false
set_option linter.all false
set_option maxRecDepth 100000
set_option maxHeartbeats 4000000
namespace Fx
open PySem L2
variable [Tb]
/-! ### {k: v for target in iter if ..} -/
def dcL (vs : List Nat) (tgf : D → Env → Rz Env) (tt : Env → Rz (Env × Bool)) (kf vf : Env → Rz (Env × D)) : List D → Env → List Key × List D → Rz (Env × (List Key × List D))
  | [], ρ, acc => .ok (ρ, acc)
  | d :: ds, ρ, acc => (tgf d ρ).bind fun ρ1 => (tt ρ1).bind fun p =>
      if p.2 = true then (kf p.1).bind fun k => (vf k.1).bind fun q => (Rz.ofO (keyD k.2)).bind fun key => if sz (acc.2.length + 1) = true then dcL vs tgf tt kf vf ds (wipeE q.1 vs) (putKD key q.2 acc.1 acc.2) else .no
      else dcL vs tgf tt kf vf ds (wipeE p.1 vs) acc
def eDc (vs : List Nat) (it : Env → Rz (Env × List D)) (tgf : D → Env → Rz Env) (tt : Env → Rz (Env × Bool)) (kf vf : Env → Rz (Env × D)) : Env → Rz (Env × Rs) := fun ρ => (it ρ).bind fun p => (noX (dcL vs tgf tt kf vf p.2 (wipeE p.1 vs) ([], []))).bind fun q => .ok (q.1, .nw (.nd (.dct q.2.1) q.2.2))
section
variable {M : Md} {Γ : Gh} {Hf : Hp} {σ : L2.St} {H : Hp} {ρ : Env} {a : Addr} {d : D}
theorem Rep.growDict {ks : List Key} {ds : List D} (R : Rep M (Γ.add a (.nd (.dct ks) ds)) Hf σ H ρ) : ∃ kvs, H a = some (.dK kvs) ∧ kvs.map (·.1) = ks ∧ HasAll M Hf ds (kvs.map (·.2)) ∧ ∀ (kvs' : List (Key × V)) (ds' : List D), HasAll M Hf ds' (kvs'.map (·.2)) → Rep M (Γ.add a (.nd (.dct (kvs'.map (·.1))) ds')) Hf σ (upd H a (.dK kvs')) ρ := by
  have hl := R.pop.2
  obtain ⟨b, e, h0, hl, hn⟩ := hl
  cases e
  cases hl with
  | dct n h t =>
    rename_i kvs
    refine ⟨kvs, h, rfl, t, fun kvs' ds' he => ⟨R.len, ?_⟩⟩
    have eρ : (ρ ++ (Γ.add a (.nd (.dct (kvs.map (·.1))) ds)).γ)[(ρ ++ Γ.γ).length]? = some (.lo (.nd (.dct (kvs.map (·.1))) ds)) := by
      show (ρ ++ (Γ.γ ++ [_]))[(ρ ++ Γ.γ).length]? = _
      rw [← List.append_assoc]; simp
    have eσ : (σ ++ (Γ.add a (.nd (.dct (kvs.map (·.1))) ds)).τ)[(ρ ++ Γ.γ).length]? = some (some (.ref a)) := by
      have L := R.pop.1.r0.len
      show (σ ++ (Γ.τ ++ [_]))[(ρ ++ Γ.γ).length]? = _
      rw [← List.append_assoc, L]; simp
    have hw := R.r0.write (o := .dK kvs') (d := .nd (.dct (kvs'.map (·.1))) ds') eρ trivial eσ (.dct n upd_same he)
    have es : (ρ ++ (Γ.add a (.nd (.dct (kvs.map (·.1))) ds)).γ).set (ρ ++ Γ.γ).length (Sl.withD (.lo (.nd (.dct (kvs.map (·.1))) ds)) (.nd (.dct (kvs'.map (·.1))) ds')) = ρ ++ (Γ.add a (.nd (.dct (kvs'.map (·.1))) ds')).γ := by
      show (ρ ++ (Γ.γ ++ [_])).set _ (Sl.lo _) = ρ ++ (Γ.γ ++ [_])
      rw [← List.append_assoc, ← List.append_assoc, List.set_append]
      simp
    rw [es] at hw
    exact hw
theorem nwD_of {p : Addr} {kvs : List (Key × V)} {ds : List D} (x : Rep M Γ Hf σ (upd H p (.dK kvs)) ρ ∧ Γ.g.H0 p = none ∧ Hf p = none ∧ ∀ (i : Nat) x, (ρ ++ Γ.γ)[i]? = some x → x.own → (σ ++ Γ.τ)[i]? ≠ some (some (.ref p))) (t : HasAll M Hf ds (kvs.map (·.2))) :
    RsIs M Γ Hf σ (upd H p (.dK kvs)) ρ (.nw (.nd (.dct (kvs.map (·.1))) ds)) (.ref p) := ⟨p, rfl, x.2.1, .dct x.2.2.1 upd_same t, x.2.2.2⟩
theorem keyD_hv {M : Md} {G : Hp} {d : D} {v : V} {k : Key} (h : Has M G d v) (e : keyD d = some k) : v = kV k := by
  cases h <;> first | (cases e; rfl) | cases e
end
section
variable {M : Md} {W : WX} {vs is : List Nat} {itf : Env → Rz (Env × List D)} {tgf : D → Env → Rz Env} {tt : Env → Rz (Env × Bool)} {kf vf : Env → Rz (Env × D)}
theorem dc_imp (hv : ∀ i ∈ is, i ∈ vs) : ∀ σ H Q, rdE M W (eDc vs itf tgf tt kf vf) σ H Q → tDc (rdI M W itf) (rdG M W0 is tgf) (rdT M W0 tt) (rdV M W0 kf) (rdV M W0 vf) vs σ H Q := by
  rintro σ H Q ⟨Γ, Hf, ρ, R, hw⟩
  refine ⟨Γ, Hf, ρ, R, Rz.wp_mono (Rz.wp_bind hw) (fun p hp Hf1 H1 J S1 R1 Wk L hL => ?_) fun _ _ z => z⟩
  obtain ⟨ρ1, ds⟩ := p
  have N0 := R1.layN hL (.dK [])
  have R1n := N0.1.push (nwD_of (kvs := []) N0 (.nil : HasAll M Hf1 [] []))
  have R1w := R1n.wipe vs
  have hp' := noX_wp (Rz.wp_bind hp)
  -- the state ahead of turn i
  refine ⟨fun i m H2 => m = ds.length - i ∧ i ≤ ds.length ∧ ∃ Hf2 ρ2 acc, Same Hf1 Hf2 ∧ Rep M (Γ.add L (.nd (.dct acc.1) acc.2)) Hf2 σ H2 ρ2 ∧ NoAt ρ2 vs ∧
    (dcL vs tgf tt kf vf (ds.drop i) ρ2 acc).wp (fun q => ∀ Hf' H' v, Same Hf2 Hf' → Rep M Γ Hf' σ H' q.1 → RsIs M Γ Hf' σ H' q.1 (.nw (.nd (.dct q.2.1) q.2.2)) v → Q v H') (fun _ _ => False),
    ⟨ds.length, by simp, Nat.zero_le _, Hf1, wipeE ρ1 vs, ([], []), Same.refl _, R1w, noAt_wipe, ?_⟩, ?_⟩
  · exact Rz.wp_mono hp' (fun q h Hf' H' v S R' h' => h Hf' H' v (S1.trans S) R' h') fun _ _ z => z
  rintro i m H2 ⟨rfl, hi, Hf2, ρ2, acc, S2, R2, n2, hq⟩
  by_cases hlt : i < ds.length
  · refine .inr ⟨Wk.go i H2 (S2.trans R2.sub) hlt, fun H' => ∃ Hf2 ρ2 acc, Same Hf1 Hf2 ∧ Rep M (Γ.add L (.nd (.dct acc.1) acc.2)) Hf2 σ H' ρ2 ∧ NoAt ρ2 vs ∧
      (dcL vs tgf tt kf vf (ds.drop (i + 1)) ρ2 acc).wp (fun q => ∀ Hf' H' v, Same Hf2 Hf' → Rep M Γ Hf' σ H' q.1 → RsIs M Γ Hf' σ H' q.1 (.nw (.nd (.dct q.2.1) q.2.2)) v → Q v H') (fun _ _ => False),
      fun H' h => ⟨ds.length - (i + 1), by omega, rfl, hlt, h⟩, fun v H3 y => ?_⟩
    have ed : ds.drop i = ds[i] :: ds.drop (i + 1) := List.drop_eq_getElem_cons hlt
    rw [ed] at hq
    obtain ⟨Hf3, S3, R3, hd⟩ := Wk.yld i H2 v H3 ds[i] y (List.getElem?_eq_getElem hlt) _ Hf2 σ ρ2 S2 R2
    have hq1 := Rz.wp_bind (show ((tgf ds[i] ρ2).bind _).wp _ _ from hq)
    refine ⟨_, Hf3, ρ2, ds[i], R3.wipeS n2, hd, Rz.wp_mono hq1 (fun ρ3 hq3 Hf4 σ4 H4 l4 o4 S4 R4 => ?_) fun _ _ z => z.elim⟩
    have l4' : σ4.length = σ.length := by rw [l4, wipe_length]
    have o4' : ∀ j, j ∉ vs → σ4[j]? = σ[j]? := fun j hj => (o4 j fun z => hj (hv j z)).trans (wipe_get hj)
    have ew : wipe σ4 vs = wipe σ vs := wipe_eq l4' fun j hj => o4 j fun z => hj (hv j z)
    refine ⟨ew, _, Hf4, ρ3, R4, Rz.wp_mono (Rz.wp_bind hq3) (fun pb hq5 Hf5 H5 S5 R5 => ?_) fun _ _ z => z.elim⟩
    obtain ⟨ρ5, b⟩ := pb
    have S35 : Same Hf2 Hf5 := S3.trans (S4.trans S5)
    cases b with
    | false =>
      refine iteF ⟨Hf5, wipeE ρ5 vs, acc, S2.trans S35, R5.unwipe l4' o4', noAt_wipe, ?_⟩
      exact Rz.wp_mono hq5 (fun q h Hf' H' v S R' h' => h Hf' H' v (S35.trans S) R' h') fun _ _ z => z
    | true =>
      refine iteT ⟨_, Hf5, ρ5, R5, Rz.wp_mono (Rz.wp_bind (show ((kf ρ5).bind _).wp _ _ from hq5)) (fun pk hq6 Hf6 H6 y6 S6 R6 hy => ?_) fun _ _ z => z.elim⟩
      obtain ⟨ρ6, kd⟩ := pk
      refine ⟨_, Hf6, ρ6, R6, Rz.wp_mono (Rz.wp_bind (show ((vf ρ6).bind _).wp _ _ from hq6)) (fun pv hq7 Hf7 H7 z7 S7 R7 hz => ?_) fun _ _ z => z.elim⟩
      obtain ⟨ρ7, e⟩ := pv
      obtain ⟨key, ek, hq7⟩ := ofO_bind hq7
      obtain ⟨zsz, hq7⟩ := ite_wp hq7
      have zsz := sz_ok zsz
      obtain ⟨kvs, hav, ek1, tav, grow⟩ := R7.growDict
      have ey := keyD_hv hy ek
      obtain ⟨k1, k2⟩ := putKD_has (k := key) hz tav
      rw [ek1] at k1 k2
      refine ⟨kvs, key, ey, hav, ?_, Hf7, wipeE ρ7 vs, putKD key e acc.1 acc.2, S2.trans (S35.trans (S6.trans S7)), ?_, noAt_wipe, ?_⟩
      · have := tav.length
        rw [List.length_map] at this
        omega
      · have := (grow _ _ k2).unwipe (vs := vs) l4' o4'
        rw [← k1] at this
        exact this
      · exact Rz.wp_mono hq7 (fun q h Hf' H' v S R' h' => h Hf' H' v (S35.trans (S6.trans (S7.trans S))) R' h') fun _ _ z => z
  · have e : i = ds.length := by omega
    subst e
    rw [List.drop_length] at hq
    obtain ⟨R2', h2⟩ := R2.pop
    exact .inl ⟨Wk.stop _ H2 (S2.trans R2.sub) (Nat.le_refl _), hq Hf2 H2 _ (Same.refl _) R2' h2⟩
end
section
variable {X : Cx} {W : WX} {is : List Nat} {itf : Env → Rz (Env × List D)} {tgf : D → Env → Rz Env} {tt : Env → Rz (Env × Bool)} {kf vf : Env → Rz (Env × D)} {kx vx tg iter : Expr} {ifs : List Expr} {scope : Scope} {pos : Pos}
theorem re_dc (own : List (Str × Nat)) (hc : X.calm = true) (hN : X.N.Nodup) (hi : RI X W tg iter itf) (ok : BlkOk X.N X.env.scope scope own) (hv : ∀ i ∈ is, i ∈ own.map (·.2))
    (hg : ∀ (s : Shared) (H : Hp) (C : Addr) (cl : List (Str × Addr)) (fp : List Addr), RG (X.blk s H scope (compEnvC scope cl C X.env) fp) W0 tg is tgf) (ht : ∀ (s : Shared) (H : Hp) (C : Addr) (cl : List (Str × Addr)) (fp : List Addr), RTs (X.blk s H scope (compEnvC scope cl C X.env) fp) W0 ifs tt)
    (hk : ∀ (s : Shared) (H : Hp) (C : Addr) (cl : List (Str × Addr)) (fp : List Addr), RV (X.blk s H scope (compEnvC scope cl C X.env) fp) W0 kx kf)
    (he : ∀ (s : Shared) (H : Hp) (C : Addr) (cl : List (Str × Addr)) (fp : List Addr), RV (X.blk s H scope (compEnvC scope cl C X.env) fp) W0 vx vf) (hs : ∀ x, foldedSetIterable iter X.env x = pure x := by intro _; rfl) :
    RE X W (.DictComp kx vx [⟨tg, iter, ifs, 0⟩] scope pos) (eDc (own.map (·.2)) itf tgf tt kf vf) := pe_mono (pe_dc (own := own) hc hN hi ok hg ht hk he hs) (dc_imp hv)
end
end Fx

set_option Elab.async false
set_option linter.all false
set_option maxRecDepth 100000
set_option maxHeartbeats 4000000
namespace Fx
open PySem L2
variable [Tb]
/-! ### {k: v, ..} -/
def dispL : List (Key × (Env → Rz (Env × D))) → Env → List Key × List D → Rz (Env × (List Key × List D))
  | [], ρ, acc => .ok (ρ, acc)
  | (k, f) :: ps, ρ, acc => (f ρ).bind fun p => dispL ps p.1 (putKD k p.2 acc.1 acc.2)
def eDisp (ps : List (Key × (Env → Rz (Env × D)))) : Env → Rz (Env × Rs) := fun ρ => (dispL ps ρ ([], [])).bind fun q => .ok (q.1, .nw (.nd (.dct q.2.1) q.2.2))
/-- the entries, written -/
inductive RPs (X : Cx) (W : WX) (pos : Pos) : List (Option Expr) → List Expr → List (Key × (Env → Rz (Env × D))) → Prop
  | nil : RPs X W pos [] [] []
  | cons {k v : Expr} {ks : List (Option Expr)} {vs : List Expr} {key : Key} {f : Env → Rz (Env × D)} {ps : List (Key × (Env → Rz (Env × D)))} (hk : PE X k (tC (kV key))) (hv : RV X W v f) (t : RPs X W pos ks vs ps) : RPs X W pos (some k :: ks) (v :: vs) ((key, f) :: ps)
def trsOf (M : Md) (W : WX) : List (Key × (Env → Rz (Env × D))) → List (TE × TE)
  | [] => []
  | (k, f) :: ps => (tC (kV k), rdV M W f) :: trsOf M W ps
theorem RPs.pps {X : Cx} {W : WX} {pos : Pos} : ∀ {ks vs ps}, RPs X W pos ks vs ps → PPs X pos ks vs (trsOf ⟨X.K, X.mg⟩ W ps) ∧ ks.all (·.isSome) = true ∧ ks.length = vs.length ∧ ks.length = ps.length
  | _, _, _, .nil => ⟨pps_nil, rfl, rfl, rfl⟩
  | _, _, _, .cons hk hv t => by
    obtain ⟨a, b, c, d⟩ := t.pps
    exact ⟨pps_cons hk hv a, by simpa using b, by simp [c], by simp [d]⟩
theorem disp_imp {M : Md} {W : WX} {Γ : Gh} {Hf0 : Hp} {σ : L2.St} {p : Addr} {Q : VK} : ∀ (ps : List (Key × (Env → Rz (Env × D)))) {Hf : Hp} {H : Hp} {ρ : Env} {kvs0 : List (Key × V)} {ds : List D} (C : List (V × V) → Hp → Prop), Same Hf0 Hf → Rep M (Γ.add p (.nd (.dct []) [])) Hf σ H ρ → HasAll M Hf ds (kvs0.map (·.2)) →
    (dispL ps ρ (kvs0.map (·.1), ds)).wp (fun q => ∀ Hf' H' v, Same Hf Hf' → Rep M Γ Hf' σ H' q.1 → RsIs M Γ Hf' σ H' q.1 (.nw (.nd (.dct q.2.1) q.2.2)) v → Q v H') (EPf M W Γ Hf σ) →
    (∀ (kvs : List (Key × V)) (H3 : Hp), H3 p = some (.dK []) → kvs.length = ps.length → Q (.ref p) (upd H3 p (.dK (mergeK kvs0 kvs))) → C (kvs.map (fun kv => (kV kv.1, kv.2))) H3) → tPairs (trsOf M W ps) σ H C
  | [], Hf, H, ρ, kvs0, ds, C, S, R, t, hw, hC => by
    obtain ⟨kvs, h1, h2, h3, grow⟩ := R.growDict
    have hk : kvs = [] := by simpa using h2
    subst hk
    have R2 := grow kvs0 ds t
    obtain ⟨R3, h4⟩ := R2.pop
    exact hC [] H h1 rfl (hw Hf _ _ (Same.refl _) R3 h4)
  | (k, f) :: ps, Hf, H, ρ, kvs0, ds, C, S, R, t, hw, hC => by
    show rdV M W f σ H fun y H2 => tPairs (trsOf M W ps) σ H2 fun psV H3 => C ((kV k, y) :: psV) H3
    have hw' := Rz.wp_bind (show ((f ρ).bind _).wp _ _ from hw)
    refine ⟨_, Hf, ρ, R, Rz.wp_mono hw' (fun pr hp Hf1 H1 y S1 R1 hy => ?_) fun x ρ' h Hf' H' c d S' R' he => h Hf' H' c d S' (R'.pop).1 he⟩
    obtain ⟨ρ1, d⟩ := pr
    obtain ⟨k1, k2⟩ := putKD_has (k := k) hy (t.same S1)
    have hp' : (dispL ps ρ1 ((putK kvs0 k y).map (·.1), (putKD k d (kvs0.map (·.1)) ds).2)).wp (fun q => ∀ Hf' H' v, Same Hf1 Hf' → Rep M Γ Hf' σ H' q.1 → RsIs M Γ Hf' σ H' q.1 (.nw (.nd (.dct q.2.1) q.2.2)) v → Q v H') (EPf M W Γ Hf1 σ) := by
      rw [← k1]
      exact Rz.wp_mono hp (fun q h Hf' H' v S R h' => h Hf' H' v (S1.trans S) R h') (EPf.up S1)
    exact disp_imp ps _ (S.trans S1) R1 k2 hp' fun kvs H3 h1 h3 h4 => hC ((k, y) :: kvs) H3 h1 (by simp [h3]) h4
theorem re_disp {X : Cx} {W : WX} {pos : Pos} {keys : List (Option Expr)} {values : List Expr} {ps : List (Key × (Env → Rz (Env × D)))} (h : RPs X W pos keys values ps) (h0 : keys ≠ [] := by simp) (h15 : keys.length ≤ 15 := by simp) : RE X W (.Dict keys values pos) (eDisp ps) := by
  obtain ⟨a, b, c, d⟩ := h.pps
  refine pe_mono (pe_disp a b c h0 h15) fun σ H Q ⟨Γ, Hf, ρ, R, hw⟩ => fun p hp => ?_
  have N0 := R.layN hp (.dK [])
  have R1 := N0.1.push (nwD_of (kvs := []) N0 (.nil : HasAll _ Hf [] []))
  exact disp_imp (kvs0 := []) (ds := []) (Q := Q) ps _ (Same.refl Hf) R1 .nil (Rz.wp_bind hw) fun kvs H3 h1 h3 h4 => ⟨h1, kvs, rfl, by rw [h3, ← d]; exact h15, h4⟩
/-! ### a < b < c -/
def vChain (F G : D → D → Option Bool) (f g h : Env → Rz (Env × Rs)) : Env → Rz (Env × D) := fun ρ => (f ρ).bind fun p => (g p.1).bind fun q => (Rz.ofO (peek q.1 p.2)).bind fun d => (Rz.ofO (peek q.1 q.2)).bind fun e => (Rz.ofO (F d e)).bind fun b =>
  if b = true then (h q.1).bind fun r => (Rz.ofO (peek r.1 q.2)).bind fun e' => (Rz.ofO (peek r.1 r.2)).bind fun c => (Rz.ofO (G e' c)).bind fun b2 => .ok (r.1, .bl b2) else .ok (q.1, .bl false)
section
variable {X : Cx} {W : WX} {a b c : Expr} {pos : Pos} {f g h : Env → Rz (Env × Rs)}
theorem rv_chain {op op' : CmpOp} {r r' : R2} {F G : D → D → Option Bool} (ho : OpR X (compareOp op) r) (ho' : OpR X (compareOp op') r') (hs : ServesB ⟨X.K, X.mg⟩ r F) (hs' : ServesB ⟨X.K, X.mg⟩ r' G) (ha : RH X W a f) (hb : RH X W b g) (hc : RH X W c h)
    (hm : lastMarks [op, op'] [b, c] = false := by with_unfolding_all rfl) : RV X W (.Compare a [op, op'] [b, c] pos) (vChain F G f g h) := pe_mono (pe_chain ho ho' ha hb hc hm) fun σ H Q ⟨Γ, Hf, ρ, R, hw⟩ =>
  bindH R hw fun ρ1 r1 Hf1 H1 x S1 R1 hx hq => bindH R1 hq fun ρ2 r2 Hf2 H2 y S2 R2 hy hq2 => by
    obtain ⟨d, e1, hq2⟩ := ofO_bind hq2
    obtain ⟨e, e2, hq2⟩ := ofO_bind hq2
    obtain ⟨k, e3, hq2⟩ := ofO_bind hq2
    refine hs Hf2 H2 x y d e k (R2.peek (hx.up S2).rs e1) (R2.peek hy.rs e2) R2.sub e3 _ ⟨k, rfl, ?_⟩
    cases k with
    | false => exact iteF (hq2 Hf2 H2 _ (S1.trans S2) R2 (.bl _))
    | true =>
      refine iteT (bindH R2 (show ((h ρ2).bind _).wp _ _ from hq2) fun ρ3 r3 Hf3 H3 z S3 R3 hz hq3 => ?_)
      obtain ⟨e', e4, hq3⟩ := ofO_bind hq3
      obtain ⟨cc, e5, hq3⟩ := ofO_bind hq3
      obtain ⟨b2, e6, hq3⟩ := ofO_bind hq3
      exact hs' Hf3 H3 y z e' cc b2 (R3.peek (hy.up S3).rs e4) (R3.peek hz.rs e5) R3.sub e6 _ (hq3 Hf3 H3 _ (S1.trans (S2.trans S3)) R3 (.bl _))
theorem rv_leLe (ha : RH X W a f) (hb : RH X W b g) (hc : RH X W c h) (hm : lastMarks [.LtE, .LtE] [b, c] = false := by with_unfolding_all rfl) : RV X W (.Compare a [.LtE, .LtE] [b, c] pos) (vChain dLe dLe f g h) := rv_chain op_le op_le serves_BI serves_BI ha hb hc hm
end
/-! ### all, max of lists -/
def boolsOf : List D → Option (List Bool)
  | [] => some []
  | .bl b :: ds => (boolsOf ds).map (b :: ·)
  | _ => none
def intsOf : List D → Option (List Int)
  | [] => some []
  | .int i :: ds => (intsOf ds).map (i :: ·)
  | _ => none
def dAll : List D → Option Rs
  | [.nd .lst ds] => (boolsOf ds).map fun bs => .im (.bl (bs.all id))
  | _ => none
def maxL : List Int → Int
  | [] => 0
  | [i] => i
  | i :: is => max i (maxL is)
def dMax : List D → Option Rs
  | [.nd .lst ds] => (intsOf ds).bind fun is => if is.isEmpty then none else some (.im (.int (maxL is)))
  | _ => none
def dSum : List D → Option Rs
  | [.nd .lst ds] => (intsOf ds).map fun is => .im (.int is.sum)
  | _ => none
theorem bools_has {M : Md} {G : Hp} : ∀ {ds : List D} {vs : List V} {bs : List Bool}, HasAll M G ds vs → boolsOf ds = some bs → vs = bs.map V.bl
  | [], _, _, .nil, e => by cases e; rfl
  | d :: ds, _, bs, .cons h t, e => by
    cases d with
    | bl b =>
      obtain ⟨bs', e', rfl⟩ := Option.map_eq_some_iff.mp (show (boolsOf ds).map (b :: ·) = some bs from e)
      cases h
      rw [bools_has t e']; rfl
    | _ => cases e
theorem ints_has {M : Md} {G : Hp} : ∀ {ds : List D} {vs : List V} {bs : List Int}, HasAll M G ds vs → intsOf ds = some bs → vs = bs.map V.int
  | [], _, _, .nil, e => by cases e; rfl
  | d :: ds, _, bs, .cons h t, e => by
    cases d with
    | int b =>
      obtain ⟨bs', e', rfl⟩ := Option.map_eq_some_iff.mp (show (intsOf ds).map (b :: ·) = some bs from e)
      cases h
      rw [ints_has t e']; rfl
    | _ => cases e
theorem maxL_eq : ∀ {is : List Int} {m : Int}, m ∈ is → (∀ y ∈ is, y ≤ m) → maxL is = m
  | [], m, h, _ => by cases h
  | [i], m, h, _ => by simp at h; exact h.symm
  | i :: j :: is, m, h, hm => by
    show max i (maxL (j :: is)) = m
    rcases List.mem_cons.mp h with rfl | h
    · have : maxL (j :: is) ≤ m := by
        have mem : ∀ (l : List Int), l ≠ [] → maxL l ∈ l := by
          intro l
          induction l with
          | nil => intro h; exact absurd rfl h
          | cons a l ih =>
            intro _
            cases l with
            | nil => simp [maxL]
            | cons b l =>
              show max a (maxL (b :: l)) ∈ a :: b :: l
              rcases Int.le_total a (maxL (b :: l)) with h | h
              · rw [Int.max_eq_right h]; exact List.mem_cons_of_mem _ (ih (by simp))
              · rw [Int.max_eq_left h]; exact List.mem_cons_self
        exact hm _ (List.mem_cons_of_mem _ (mem _ (by simp)))
      exact Int.max_eq_left this
    · have ih := maxL_eq h fun y hy => hm y (List.mem_cons_of_mem _ hy)
      rw [ih]
      exact Int.max_eq_right (hm i List.mem_cons_self)
section
variable {M : Md}
/-- one list as the argument -/
theorem one_list {Hf H : Hp} {vs : List V} {ds : List D} (hvs : HasTAll M Hf H [.nd .lst ds] vs) : ∃ a ws, vs = [.ref a] ∧ SqL M.K H a ws ∧ HasAll M Hf ds ws := by
  cases hvs with
  | cons h t =>
    cases t
    cases h with
    | lst s t => exact ⟨_, _, rfl, SqL.of s, t⟩
theorem serves_all : ServesC M (rAll M.K) dAll := fun Γ Hf σ H ρ vs ds g R hvs h Q q => by
  have key : ∃ l, ds = [.nd .lst l] := by
    match ds, h with
    | [.nd .lst l], _ => exact ⟨l, rfl⟩
  obtain ⟨l, rfl⟩ := key
  obtain ⟨bs, e, rfl⟩ := Option.map_eq_some_iff.mp h
  obtain ⟨a, ws, rfl, s, t⟩ := one_list hvs
  exact ⟨a, bs, rfl, by rw [← bools_has t e]; exact s, q Hf H _ (Same.refl _) R (.bl _)⟩
theorem serves_sum : ServesC M (rSum M.K) dSum := fun Γ Hf σ H ρ vs ds g R hvs h Q q => by
  have key : ∃ l, ds = [.nd .lst l] := by
    match ds, h with
    | [.nd .lst l], _ => exact ⟨l, rfl⟩
  obtain ⟨l, rfl⟩ := key
  obtain ⟨bs, e, rfl⟩ := Option.map_eq_some_iff.mp h
  obtain ⟨a, ws, rfl, s, t⟩ := one_list hvs
  exact ⟨a, bs, rfl, by rw [← ints_has t e]; exact s, q Hf H _ (Same.refl _) R (.int _)⟩
theorem serves_max : ServesC M (rMax M.K) dMax := fun Γ Hf σ H ρ vs ds g R hvs h Q q => by
  have key : ∃ l, ds = [.nd .lst l] := by
    match ds, h with
    | [.nd .lst l], _ => exact ⟨l, rfl⟩
  obtain ⟨l, rfl⟩ := key
  have h' : ((intsOf l).bind fun is => if is.isEmpty then none else some (.im (.int (maxL is)))) = some g := h
  cases e : intsOf l with
  | none => rw [e] at h'; cases h'
  | some is =>
    rw [e, Option.bind_some] at h'
    cases is with
    | nil => cases h'
    | cons i is =>
      cases h'
      obtain ⟨a, ws, rfl, s, t⟩ := one_list hvs
      refine ⟨a, i :: is, rfl, by rw [← ints_has t e]; exact s, by simp, fun m hm hmax => ?_⟩
      rw [← maxL_eq hm hmax]
      exact q Hf H _ (Same.refl _) R (.int _)
end
/-! ### xs * n, s * n -/
def repL {α : Type} : Nat → List α → List α
  | 0, _ => []
  | n + 1, xs => xs ++ repL n xs
theorem repL_eq {α : Type} (xs : List α) : ∀ n, repL n xs = (List.replicate n xs).flatten
  | 0 => rfl
  | n + 1 => by rw [List.replicate_succ, List.flatten_cons, ← repL_eq xs n]; rfl
theorem HasAll.rep {M : Md} {G : Hp} {ds : List D} {vs : List V} (h : HasAll M G ds vs) : ∀ n, HasAll M G (repL n ds) (repL n vs)
  | 0 => .nil
  | n + 1 => h.append (HasAll.rep h n)
def repS (x : Str) (n : Int) : Str := ⟨(repL n.toNat x.cps.toList).toArray⟩
theorem foldl_repS (a : Array Nat) : ∀ (n : Nat) (acc : Array Nat), (List.replicate n a).foldl (· ++ ·) acc = (acc.toList ++ repL n a.toList).toArray
  | 0, acc => by simp [repL]
  | n + 1, acc => by
    rw [List.replicate_succ, List.foldl_cons, foldl_repS a n]
    simp [repL]
theorem repL_len {α : Type} (xs : List α) : ∀ n, (repL n xs).length = n * xs.length
  | 0 => by simp [repL]
  | n + 1 => by simp [repL, repL_len xs n, Nat.succ_mul]; omega
theorem repL_nil {α : Type} : ∀ n, repL n ([] : List α) = []
  | 0 => rfl
  | n + 1 => by simp [repL, repL_nil n]
theorem repS_is (x : Str) (k : Int) : (k < 1 → repS x k = Str.empty) ∧ ((k == 1 || x.length == 0) = true → ¬ k < 1 → repS x k = x) ∧ repS x k = ⟨(List.replicate k.toNat x.cps).foldl (· ++ ·) #[]⟩ := by
  refine ⟨fun h => ?_, fun h h1 => ?_, ?_⟩
  · have : k.toNat = 0 := by omega
    unfold repS
    rw [this]
    rfl
  · rcases Bool.or_eq_true_iff.mp h with e | e
    · have : k = 1 := by simpa using e
      subst this
      obtain ⟨c⟩ := x
      show (⟨(repL 1 c.toList).toArray⟩ : Str) = ⟨c⟩
      simp [repL]
    · obtain ⟨c⟩ := x
      have hc : c = #[] := by
        have : c.size = 0 := eq_of_beq e
        exact Array.eq_empty_of_size_eq_zero this
      subst hc
      show (⟨(repL k.toNat []).toArray⟩ : Str) = ⟨#[]⟩
      rw [repL_nil]
  · unfold repS
    rw [foldl_repS]
    simp
def dMulS : D → D → Option Rs
  | .nd .lst xs, .int k => if decide (-(2 ^ 63) ≤ k ∧ k < 2 ^ 63 ∧ xs.length * k.toNat ≤ sizeLine) then some (.nw (.nd .lst (repL k.toNat xs))) else none
  | .str x, .int k => if decide (-(2 ^ 60) ≤ k ∧ k < 2 ^ 20 ∧ x.length < 1000 ∧ x.length * k.toNat ≤ 1000000) then some (.im (.str (repS x k))) else none
  | _, _ => none
def rRepS : R2 := fun x y H Q => ∃ i k, x = .str i ∧ y = .int k ∧ -(2 ^ 60) ≤ k ∧ k < 2 ^ 20 ∧ i.length < 1000 ∧ i.length * k.toNat ≤ 1000000 ∧ Q (.str (repS i k)) H
section
variable {X : Cx}
theorem op_repS : OpR X (binaryOp .Mult) rRepS := by
  intro pins s σ H x y v u Q I rx ry h
  obtain ⟨i, k, rfl, rfl, h1, h2, h3, h4, q⟩ := h
  obtain ⟨t, rfl⟩ := rx
  obtain ⟨t2, rfl⟩ := ry
  refine PySem.P.mul_str ?_ (fun g1 g2 => ?_) (fun g1 g2 => ?_) ?_
  · have a1 : ¬ k < -(2 ^ 63 : Int) := by omega
    have a2 : ¬ k ≥ (2 ^ 63 : Int) := by omega
    rw [decide_eq_false a1, decide_eq_false a2]; rfl
  · have hk : 1 ≤ k := by omega
    have : (1000 : Int) ≤ (2 ^ 63 - 1) / k := Int.le_ediv_of_mul_le (by omega) (by omega)
    omega
  · show decide (i.length * k.toNat > sizeLine) = false
    rw [sizeLine_eq]
    exact decide_eq_false (by omega)
  · obtain ⟨e1, e2, e3⟩ := repS_is i k
    by_cases g : k < 1
    · rw [if_pos g]
      rw [e1 g] at q
      exact ⟨by decide, .str _, H, I.tok _, ⟨_, rfl⟩, q⟩
    · rw [if_neg g]
      cases g2 : (k == 1 || i.length == 0) with
      | true =>
        rw [e2 g2 g] at q
        rw [if_pos rfl]
        exact ⟨.str i, H, I, ⟨t, rfl⟩, q⟩
      | false =>
        rw [if_neg (by simp)]
        rw [e3] at q
        refine ⟨?_, .str _, H, I.tok _, ⟨_, rfl⟩, q⟩
        rw [← e3]
        show (repL k.toNat i.cps.toList).toArray.size ≤ sizeLine
        rw [List.size_toArray, repL_len, sizeLine_eq]
        have : i.cps.toList.length = i.length := by show i.cps.toList.length = i.cps.size; simp
        rw [this, Nat.mul_comm]
        omega
def rMulS : R2 := fun x y H Q => rRep x y H Q ∨ rRepS x y H Q
theorem op_mulS : OpR X (binaryOp .Mult) rMulS := OpR.or op_rep op_repS
end
theorem serves_mulS {M : Md} : ServesR M rMulS dMulS := fun Γ Hf σ H ρ x y d e g R hx hy h Q q => by
  cases hx with
  | lst s t =>
    cases hy with
    | int k =>
      obtain ⟨c, e⟩ := opt_ite h
      subst e
      obtain ⟨c1, c2, c3⟩ := of_decide_eq_true c
      rw [t.length] at c3
      refine .inl ⟨_, k, _, rfl, rfl, s, c1, c2, c3, fun p hp => ?_⟩
      rw [← repL_eq]
      obtain ⟨R4, h0, hf, hn⟩ := R.layN hp (.lst _)
      exact q _ _ _ (Same.refl _) R4 ⟨p, rfl, h0, .lst hf upd_same (t.rep _), hn⟩
    | _ => cases h
  | str i =>
    cases hy with
    | int k =>
      obtain ⟨c, e⟩ := opt_ite h
      subst e
      obtain ⟨c1, c2, c3, c4⟩ := of_decide_eq_true c
      exact .inr ⟨i, k, rfl, rfl, c1, c2, c3, c4, q Hf H _ (Same.refl _) R (.str _)⟩
    | _ => cases h
  | _ => cases hy <;> cases h
theorem re_mulS {X : Cx} {W : WX} {a b : Expr} {pos : Pos} {f g : Env → Rz (Env × Rs)} (ha : RH X W a f) (hb : RH X W b g) : RE X W (.BinOp a .Mult b pos) (e2 dMulS f g) := re_op op_mulS serves_mulS ha hb
end Fx

set_option Elab.async false
set_option linter.all false
set_option maxRecDepth 100000
set_option maxHeartbeats 4000000
namespace Fx
open PySem L2
variable [Tb]
/-! ### pure methods of built-in types, the receiver any expression -/
def tyW (K : PySem.W.Frag) (T : String) (x : V) (H : Hp) : Prop := tyV K T x H ∨ (T = "tuple" ∧ ∃ a o vs, x = .ref a ∧ H a = some (.frz o (.tup vs)) ∧ o.dict = none)
theorem tyW_is {X : Cx} {pins : List (Addr × Obj)} {σ : L2.St} {H : Hp} {s : Shared} {T : String} {x : V} {v : Value} (I : Inv X pins σ H s) (r : RelV x v) (ty : tyW X.K T x H) :
    s.TypeIs v T ∧ ∀ a, v = .ref a → ∃ ob, s.heap.get? a = some ob ∧ ob.dict = none := by
  rcases ty with ty | ⟨rfl, a, o, vs, rfl, h, hd⟩
  · exact tyV_is I r ty
  · cases r
    obtain ⟨h1, _, its, _, o', h2, h3, _⟩ := (show ObjOk X.prog X.w H s.heap a (.frz o (.tup vs)) from I.hok a _ h)
    have e : o = o' := by rw [h1] at h2; exact Option.some.inj h2
    subst e
    exact ⟨⟨o, h1, h3⟩, fun b e => by cases e; exact ⟨o, h1, hd⟩⟩
section
variable {X : Cx} {o e : Expr} {es : List Expr} {to : TE} {t : TA} {name : Str} {apos cpos : Pos} {T id : String} {r : V → List V → Hp → VK → Prop}
theorem pe_bmW (pa : PlainAttrs T) (slot : Slot T name id) (hty : typeOf (.builtin id) = pure (.type "method_descriptor")) (hm : MtR X id r) (ho : PE X o to) (ha : PA X (e :: es) t)
    (hbase : attributeBase o name X.env (eval o X.env) = eval o X.env := by rfl)
    (hfew : ((backTo cpos (starEach (e :: es) X.env)).all (fun x => !x.1) && (backToKw cpos (keywordEach [] X.env)).all (fun x => x.1.isSome)
      && decide ((e :: es).length + ([] : List Keyword).length + (if ([] : List Keyword).isEmpty then 0 else 1) < 30)) = true := by rfl)
    (hline : (apos.endLine == cpos.line) = true := by rfl) (hs : starEach (e :: es) X.env = (false, eval e X.env) :: starEach es X.env := by rfl) (hplain : (backTo cpos (starEach es X.env)).any (·.1) = false := by rfl) :
    PE X (.Call (.Attribute o name apos) (e :: es) [] cpos) (fun σ H Q => to σ H fun x H1 => tyW X.K T x H1 ∧ t σ H1 fun xs H2 => r x xs H2 Q) := by
  refine ⟨fun pins s σ H Q I h => ?_⟩
  refine wpAny_Call_method_late hbase hfew hline rfl (thn (ho.run pins s σ H _ I h) fun v s1 ⟨x, H1, I1, r1, ty, q1⟩ => ?_)
  obtain ⟨h1, h2⟩ := tyW_is I1 r1 ty
  refine ⟨T, id, pa, slot, hty, h1, h2, ?_⟩
  have hA := ha.run cpos pins s1 σ H1 _ I1 q1
  rw [hs] at hA ⊢
  refine Calls.callWith_builtin (by show (false || (backTo cpos (starEach es X.env)).any (·.1)) = false; rw [hplain] <;> rfl) (Calls.evalArgs_plain ?_)
  exact thn hA fun us s2 ⟨vs, H2, I2, r2, q2⟩ => hm pins s2 σ H2 x vs v us Q I2 r1 r2 q2
end
/-- the receiver's type; the answer -/
structure ServesW (M : Md) (T : String) (r : V → List V → Hp → VK → Prop) (G : D → Bool) (F : D → List D → Option D) : Prop where
  ty : ∀ Hf H d x, HasT M Hf H d x → Same Hf H → G d = true → tyW M.K T x H
  ans : ∀ Hf H d x ds xs g, HasT M Hf H d x → HasTAll M Hf H ds xs → Same Hf H → F d ds = some g → ∀ Q : VK, (∀ v, Has M Hf g v → Q v H) → r x xs H Q
def vMth (G : D → Bool) (F : D → List D → Option D) (o : Env → Rz (Env × Rs)) (args : Env → Rz (Env × List Rs)) : Env → Rz (Env × D) := fun ρ => (o ρ).bind fun p => (Rz.ofO (peek p.1 p.2)).bind fun d => if G d = true then (args p.1).bind fun q => (Rz.ofO (peek q.1 p.2)).bind fun d' => (Rz.ofO (peekAll q.1 q.2)).bind fun ds => (Rz.ofO (F d' ds)).bind fun g => .ok (q.1, g) else .no
section
variable {X : Cx} {W : WX} {o e : Expr} {es : List Expr} {name : Str} {apos cpos : Pos} {T id : String} {r : V → List V → Hp → VK → Prop} {G : D → Bool} {F : D → List D → Option D} {of : Env → Rz (Env × Rs)} {args : Env → Rz (Env × List Rs)}
theorem rv_mth (pa : PlainAttrs T) (slot : Slot T name id) (hty : typeOf (.builtin id) = pure (.type "method_descriptor")) (hm : MtR X id r) (hs : ServesW ⟨X.K, X.mg⟩ T r G F) (ho : RH X W o of) (ha : RHs X W (e :: es) args)
    (hbase : attributeBase o name X.env (eval o X.env) = eval o X.env := by rfl)
    (hfew : ((backTo cpos (starEach (e :: es) X.env)).all (fun x => !x.1) && (backToKw cpos (keywordEach [] X.env)).all (fun x => x.1.isSome)
      && decide ((e :: es).length + ([] : List Keyword).length + (if ([] : List Keyword).isEmpty then 0 else 1) < 30)) = true := by rfl)
    (hline : (apos.endLine == cpos.line) = true := by rfl) (hst : starEach (e :: es) X.env = (false, eval e X.env) :: starEach es X.env := by rfl) (hplain : (backTo cpos (starEach es X.env)).any (·.1) = false := by rfl) :
    RV X W (.Call (.Attribute o name apos) (e :: es) [] cpos) (vMth G F of args) :=
  pe_mono (pe_bmW pa slot hty hm ho ha hbase hfew hline hst hplain) fun σ H Q ⟨Γ, Hf, ρ, R, hw⟩ => bindH R hw fun ρ1 rr Hf1 H1 x S1 R1 hv hq => by
    obtain ⟨d, e1, hq⟩ := ofO_bind hq
    obtain ⟨g, hq⟩ := ite_wp hq
    refine ⟨hs.ty Hf1 H1 d x (R1.peek hv.rs e1) R1.sub g, bindHs R1 hq fun ρ2 rs Hf2 H2 xs S2 R2 hvs hq2 => ?_⟩
    obtain ⟨d', e2, hq2⟩ := ofO_bind hq2
    obtain ⟨ds, e3, hq2⟩ := ofO_bind hq2
    obtain ⟨y, e4, hq2⟩ := ofO_bind hq2
    exact hs.ans Hf2 H2 d' x ds xs y (R2.peek (hv.up S2).rs e2) (R2.peekAll hvs e3) R2.sub e4 Q fun v h => hq2 Hf2 H2 v (S1.trans S2) R2 h
end
/-! ### tuple.index of a text, list.index and list.count of any data -/
def isTupN : D → Bool
  | .nd .tupN _ => true
  | _ => false
def isLstD : D → Bool
  | .nd .lst _ => true
  | _ => false
def strsOf : List D → Option (List Str)
  | [] => some []
  | .str b :: ds => (strsOf ds).map (b :: ·)
  | _ => none
theorem strs_has {M : Md} {G : Hp} : ∀ {ds : List D} {vs : List V} {bs : List Str}, HasAll M G ds vs → strsOf ds = some bs → vs = bs.map V.str
  | [], _, _, .nil, e => by cases e; rfl
  | d :: ds, _, bs, .cons h t, e => by
    cases d with
    | str b =>
      obtain ⟨bs', e', rfl⟩ := Option.map_eq_some_iff.mp (show (strsOf ds).map (b :: ·) = some bs from e)
      cases h
      rw [strs_has t e']; rfl
    | _ => cases e
/-- the first place -/
def ixOf (z : Str) : List Str → Option Nat
  | [] => none
  | x :: xs => if x = z then some 0 else (ixOf z xs).map (· + 1)
theorem ixOf_spec {z : Str} : ∀ {xs : List Str} {j : Nat}, ixOf z xs = some j → xs[j]? = some z ∧ ∀ m, m < j → xs[m]? ≠ some z
  | [], j, h => by cases h
  | x :: xs, j, h => by
    have h' : (if x = z then some 0 else (ixOf z xs).map (· + 1)) = some j := h
    by_cases e : x = z
    · rw [if_pos e] at h'
      cases h'
      exact ⟨by simp [e], fun m hm => absurd hm (Nat.not_lt_zero m)⟩
    · rw [if_neg e] at h'
      obtain ⟨i, hi, rfl⟩ := Option.map_eq_some_iff.mp h'
      obtain ⟨a, b⟩ := ixOf_spec hi
      refine ⟨by simpa using a, fun m hm => ?_⟩
      cases m with
      | zero => simpa using e
      | succ m => simpa using b m (by omega)
def dTupIndex : D → List D → Option D
  | .nd .tupN ds, [.str z] => (strsOf ds).bind fun xs => (ixOf z xs).map fun j => .int (j : Nat)
  | _, _ => none
theorem serves_tupIndex {M : Md} : ServesW M "tuple" (fun x xs H Q => ∃ p, ∃ ys : List Str, ∃ z j, x = .ref p ∧ xs = [.str z] ∧ SqT M.K H p (ys.map V.str) ∧ ys[j]? = some z ∧ (∀ m, m < j → ys[m]? ≠ some z) ∧ Q (.int (j : Nat)) H) isTupN dTupIndex where
  ty := fun Hf H d x h S g => by
    cases h with
    | tupN s n t => exact .inr ⟨rfl, _, _, _, rfl, s, n⟩
    | _ => cases g
  ans := fun Hf H d x ds xs g h hs S e Q q => by
    cases h with
    | tupN s n t =>
      have key : ∃ z, ds = [.str z] := by
        match ds, e with
        | [.str z], _ => exact ⟨z, rfl⟩
      obtain ⟨z, rfl⟩ := key
      cases hs with
      | cons h1 h2 =>
        cases h2
        cases h1
        have e' : ((strsOf _).bind fun xs => (ixOf z xs).map fun j => D.int (j : Nat)) = some g := e
        cases e1 : strsOf _ with
        | none => rw [e1] at e'; cases e'
        | some ys =>
          rw [e1, Option.bind_some] at e'
          obtain ⟨j, ej, rfl⟩ := Option.map_eq_some_iff.mp e'
          obtain ⟨a, b⟩ := ixOf_spec ej
          have hv := strs_has t e1
          exact ⟨_, ys, z, j, rfl, rfl, .inl (.inr ⟨_, by rw [← hv]; exact s⟩), a, b, q _ (.int _)⟩
    | _ => cases e
theorem rv_tupIndex {X : Cx} {W : WX} {o e : Expr} {apos cpos : Pos} {of : Env → Rz (Env × Rs)} {args : Env → Rz (Env × List Rs)} (ho : RH X W o of) (ha : RHs X W [e] args)
    (hbase : attributeBase o "index" X.env (eval o X.env) = eval o X.env := by rfl)
    (hfew : ((backTo cpos (starEach [e] X.env)).all (fun x => !x.1) && (backToKw cpos (keywordEach [] X.env)).all (fun x => x.1.isSome)
      && decide ([e].length + ([] : List Keyword).length + (if ([] : List Keyword).isEmpty then 0 else 1) < 30)) = true := by rfl)
    (hline : (apos.endLine == cpos.line) = true := by rfl) (hst : starEach [e] X.env = (false, eval e X.env) :: starEach [] X.env := by rfl) (hplain : (backTo cpos (starEach [] X.env)).any (·.1) = false := by rfl) :
    RV X W (.Call (.Attribute o "index" apos) [e] [] cpos) (vMth isTupN dTupIndex of args) :=
  rv_mth PySem.F.plainAttrs_tuple PySem.F.slot_tuple_index PySem.F.type_tuple_index mt_tup_index serves_tupIndex ho ha hbase hfew hline hst hplain
/-- list.index, by equality of data -/
def ixD (z : D) : List D → Option Nat
  | [] => none
  | x :: xs => if x.eqv z then some 0 else (ixD z xs).map (· + 1)
theorem ixD_spec {z : D} : ∀ {xs : List D} {j : Nat}, ixD z xs = some j → ∃ x, xs[j]? = some x ∧ x.eqv z = true ∧ ∀ m y, m < j → xs[m]? = some y → y.eqv z = false
  | [], j, h => by cases h
  | x :: xs, j, h => by
    have h' : (if x.eqv z = true then some 0 else (ixD z xs).map (· + 1)) = some j := h
    cases e : x.eqv z with
    | true =>
      rw [e, if_pos rfl] at h'
      cases h'
      exact ⟨x, rfl, e, fun m y hm => absurd hm (Nat.not_lt_zero m)⟩
    | false =>
      rw [e, if_neg (by simp)] at h'
      obtain ⟨i, hi, rfl⟩ := Option.map_eq_some_iff.mp h'
      obtain ⟨y, a, b, c⟩ := ixD_spec hi
      refine ⟨y, by simpa using a, b, fun m w hm hw => ?_⟩
      cases m with
      | zero => simp at hw; subst hw; exact e
      | succ m => exact c m w (by omega) (by simpa using hw)
def dLstIndex : D → List D → Option D
  | .nd .lst ds, [z] => if z.fit && (D.nd .lst ds).fit then (ixD z ds).map fun j => .int (j : Nat) else none
  | _, _ => none
theorem lstTy {M : Md} {Hf H : Hp} {d : D} {x : V} (h : HasT M Hf H d x) (g : isLstD d = true) : tyW M.K "list" x H := by
  cases h with
  | lst s t => exact .inl (tyV_list s)
  | _ => cases g
theorem serves_lstIndex {M : Md} : ServesW M "list" (rIndexD M.K) isLstD dLstIndex where
  ty := fun Hf H d x h S g => lstTy h g
  ans := fun Hf H d x ds xs g h hs S e Q q => by
    cases h with
    | lst s t =>
      rename_i a vs l
      have key : ∃ z, ds = [z] := by
        match ds, e with
        | [z], _ => exact ⟨z, rfl⟩
      obtain ⟨z, rfl⟩ := key
      obtain ⟨c, e'⟩ := ite_some (show (if (z.fit && (D.nd .lst l).fit) = true then (ixD z l).map fun j => D.int (j : Nat) else none) = some g from e)
      rw [Bool.and_eq_true] at c
      obtain ⟨p1, s1⟩ := D.fit_ok c.1
      obtain ⟨p2, s2⟩ := D.fit_ok c.2
      obtain ⟨j, ej, rfl⟩ := Option.map_eq_some_iff.mp e'
      obtain ⟨y, g1, g2, g3⟩ := ixD_spec ej
      cases hs with
      | cons h1 h2 =>
        cases h2
        have hl : Dp M.K H (.ref a) (.list (D.pys l)) := by
          have := HasT.dp S (HasT.lst s t) p2
          rw [D.py] at this; exact this
        rw [D.py] at s2
        refine ⟨a, _, z.py, D.pys l, j, y.py, rfl, rfl, hl, h1.dp S p1, s2, s1, ?_, g2, fun m z' hm hz => ?_, q _ (.int _)⟩
        · rw [pys_map, List.getElem?_map, g1]; rfl
        · rw [pys_map, List.getElem?_map] at hz
          obtain ⟨w, hw, rfl⟩ := Option.map_eq_some_iff.mp hz
          exact g3 m w hm hw
    | _ => cases e
end Fx

set_option Elab.async false
set_option linter.all false
set_option maxRecDepth 100000
set_option maxHeartbeats 4000000
namespace L2
open PySem PySem.Spec PyProof.Rows
section
variable {X : Cx}
/-- l.count(x): how many equal ones -/
def rCntD (K : PySem.W.Frag) : V → List V → Hp → VK → Prop := fun x xs H Q => ∃ (a : Addr) (y : V) (d : PyData) (ds : List PyData), x = V.ref a ∧ xs = [y] ∧ Dp K H (V.ref a) (.list ds) ∧ Dp K H y d ∧
  SeqAt.shaped (.list ds) = true ∧ SeqAt.shaped d = true ∧ Q (.int ((ds.countP fun z => PyData.eqv z d : Nat) : Int)) H
theorem mt_countD (hu : X.A.units + 65 < cLine) : MtR X "list.count" (rCntD X.K) := by
  intro pins s σ H x xs v us Q I rx rxs h
  obtain ⟨a, y, d, ds, rfl, rfl, hl, hy, sl, sd, q⟩ := h
  cases rx
  cases rxs with
  | cons ry rt =>
    rename_i uy ut
    cases rt
    obtain ⟨bs, r1⟩ := Dp.reads I d y uy hy ry
    have hxs : PyData.canLayAll0 ds = true := SeqAt.canLay_of_shaped sl
    have hroom : X.A.units + 1 + min (PyData.depthAll ds) d.depth < cLine := room_in_shaped sd hu
    cases hl with
    | lst hs ha =>
      obtain ⟨its, rv, ⟨⟨cls, dd, data, sls⟩, n, ho, hc, hdn, hdt⟩, hlen⟩ := I.list hs
      simp only at hc hdt
      subst hc hdt
      obtain ⟨as, h4⟩ := Dp.readsAll I ds _ its ha rv
      have hmap : its.map (SeqAt.readOf s.heap) = ds := SeqAt.readsAll_map ds its as hxs h4
      refine call_meets PySem.F.slot_list_count ⟨_, ho, rfl⟩ PySem.F.entry_list_count (PySem.F.args_list_count_2 _ _)
        (SeqAt.list_countAt a its.toArray n dd sls uy (fun u => PyData.eqv (SeqAt.readOf s.heap u) d)) ⟨ho, SeqAt.items_eqAt (vs := its.toArray) (show ReadsAll s.heap its.toArray.toList ds as from h4) r1 hxs (SeqAt.canLay_of_shaped sd) hroom, ?_⟩
      have ec : its.toArray.toList.countP (fun u => PyData.eqv (SeqAt.readOf s.heap u) d) = ds.countP fun z => PyData.eqv z d := by
        rw [← hmap, List.countP_map]
        rfl
      rw [ec]
      exact ⟨.int _, H, I.tok _, ⟨_, rfl⟩, q⟩
/-- tuple(list): the new tuple, known to have no dict -/
theorem call_tupleN : CallR X (.type "tuple") (fun xs H Q => ∃ p ys, xs = [.ref p] ∧ SqL X.K H p ys ∧ ∀ l o, H l = none → o.dict = none → Q (.ref l) (upd H l (.frz o (.tup ys)))) := by
  intro pins s σ H xs us Q I r h
  obtain ⟨p, ys, rfl, hq, q⟩ := h
  obtain ⟨u, rfl, rx⟩ := vals1 r
  cases rx
  obtain ⟨its, r', pl, hz⟩ := I.list hq
  have hlen := r'.length
  refine call_tuple_list pl.isList (fun h' kp => ?_) (by simp only [List.size_toArray] <;> omega)
  have I1 : Inv X pins σ H { s with heap := h' } := I.kept (t' := s.toks) kp
  have I2 : Inv X pins σ (upd H h'.objs.size (.frz { cls := .type "tuple", data := .seq its.toArray } (.tup ys))) { s with heap := h'.push { cls := .type "tuple", data := .seq its.toArray } } :=
    I1.laid (t' := s.toks) (fun b o e => Heap.get?_push_of_some _ e) (Nat.le_refl _) (show ObjOk X.prog X.w _ _ _ (.frz _ (.tup ys)) from ⟨Heap.get?_push_size _ rfl, hz, its, r', IsTup.new _ _⟩)
  exact ⟨.ref h'.objs.size, _, I2, rfl, q _ _ (I1.hok.fresh (Nat.le_refl _)) rfl⟩
/-- max(o.values()), a dict with int values, one at least -/
def tMaxVals (td : TE) : TE := fun σ H Q => td σ H fun x H1 => ∃ a kvs is, x = V.ref a ∧ H1 a = some (.dK kvs) ∧ kvs.map (·.2) = is.map V.int ∧ is ≠ [] ∧ ∀ m, m ∈ is → (∀ j ∈ is, j ≤ m) → Q (.int m) H1
theorem pe_maxVals {o : Expr} {p pos apos mpos : Pos} {td : TE} (hc : X.calm = true) (hg : Gl X "max") (hm : X.mg "max" = none) (hd : PE X o td) (hbase : attributeBase o "values" X.env (eval o X.env) = eval o X.env := by rfl) (hline : (apos.endLine == mpos.line) = true := by rfl)
    (hse : starEach [Expr.Call (.Attribute o "values" apos) [] [] mpos] X.env = [(false, eval (Expr.Call (.Attribute o "values" apos) [] [] mpos) X.env)] := by rfl) :
    PE X (.Call (.Name "max" p) [.Call (.Attribute o "values" apos) [] [] mpos] [] pos) (tMaxVals td) := by
  refine ⟨fun pins s σ H Q I h => ?_⟩
  refine wpAny_Call_Name_kw (ld_blt I hg hm (u := .builtin "max") (by first | rfl | decide +kernel) ?_ (by first | decide +kernel | decide) (by first | decide +kernel | decide))
  rw [hse]
  refine PySem.callWith_builtin1 (wpAny_Call_method0_late hbase hline (thn (hd.run pins s σ H _ I h) fun v s1 ⟨x, H1, I1, r1, a, kvs, is, ex, ha, hv, hne, q⟩ => ?_))
  subst ex
  obtain rfl : v = Value.ref a := r1
  obtain ⟨_, hsys, vs, rel, dof⟩ := dk_of I1.hok ha
  obtain ⟨ep, dat⟩ := dof.dictAt
  have dat' := dat
  obtain ⟨ob, es, ho, ex, hdat, hko, hpr, hnd⟩ := dat'
  refine ⟨"dict", "dict.values", F.plainAttrs_dict, F.slot_dict_values, F.type_dict_values, ⟨ob, ho, ex.1⟩, fun b e => ?_, Calls.callWith_builtin rfl (PySem.evalArgs_none ?_)⟩
  · cases e
    exact ⟨ob, ho, ex.2.1⟩
  refine call_meetsIn F.slot_dict_values ⟨ob, ho, ex.1⟩ F.entry_dict_values (F.args_dict_values_1 _) (meets_dict_values (mixKind X.prog X.w) a hsys) ⟨⟨vs, dof⟩, ?_⟩
  have k1 : ∀ b u, s1.heap.get? b = some u → (s1.heap.push { cls := .type "dict_values", data := .fields #[.ref a] }).get? b = some u := fun b u e => Heap.get?_push_of_some _ e
  have dat1 : (s1.heap.push { cls := .type "dict_values", data := .fields #[.ref a] }).DictAt (mixKind X.prog X.w) a vs ep := dat.keep k1
  have hlv : vs.length = is.length := by
    have e1 := congrArg List.length hv
    rw [List.length_map, List.length_map] at e1
    rw [← e1]
    exact (KV.length rel).symm
  have hlen : 0 < vs.length := by
    rw [hlv]
    exact List.length_pos_iff.mpr hne
  have hval : ∀ (i : Nat) (v : Value), (∃ k, vs[i]? = some (k, v)) → ∃ t, v = Value.int (is.getD i 0) t := fun i v ⟨k, hk⟩ => by
    obtain ⟨x, h1, h2⟩ := KV.at' rel hk
    have e1 : (kvs.map (·.2))[i]? = some x := by rw [List.getElem?_map, h1] <;> rfl
    rw [hv, List.getElem?_map] at e1
    obtain ⟨j, hj, e2⟩ := Option.map_eq_some_iff.mp e1
    subst e2
    obtain ⟨t, e3⟩ := h2
    refine ⟨t, ?_⟩
    rw [e3, List.getD_eq_getElem?_getD, hj] <;> rfl
  refine call_max_walk (wpAny_pyIter_values (v := s1.heap.objs.size) (d := a) ⟨_, Heap.get?_push_size _ rfl, rfl, rfl⟩ dat1 ?_)
  have hlt : a < s1.heap.objs.size := Heap.lt_size ho
  have hsz : (s1.heap.push { cls := .type "dict_values", data := .fields #[.ref a] }).objs.size = s1.heap.objs.size + 1 := Heap.size_push _ _
  refine ⟨_, _, _, _, _, _, _, rfl, Walks.dictValues (knd := mixKind X.prog X.w) (A := X.A.in1) (I.ok.hd hc) (s1.heap.push { cls := .type "dict_values", data := .fields #[.ref a] }).objs.size a (by rw [hsz]; exact Nat.ne_of_lt (Nat.lt_succ_of_lt hlt)) vs ep,
    ⟨⟨_, Heap.get?_push_size _ rfl, rfl, rfl⟩, dat1.keep fun b u e => Heap.get?_push_of_some _ e⟩, fun b hb => ?_, hlen, CmpOf.ints_gt (fun i => is.getD i 0) hval, fun v h' tk hP hk => ?_⟩
  · show b < ((s1.heap.push _).push _).objs.size
    rw [Heap.size_push, Heap.size_push]
    rw [hsz] at hb
    rcases List.mem_cons.mp hb with e | hb
    · rw [e]
      exact Nat.lt_succ_self _
    · have e : b = a := List.mem_singleton.mp hb
      rw [e]
      exact Nat.lt_succ_of_lt (Nat.lt_succ_of_lt hlt)
  · obtain ⟨t, rfl⟩ := hval _ v hP
    obtain ⟨b1, b2⟩ := argBest_gt (fun i => is.getD i 0) (vs.length - 1)
    refine ⟨.int _, H1, I1.kept (t' := tk) fun b u e => hk b u (fun hmem => ?_) (Heap.get?_push_of_some _ (k1 b u e)), ⟨t, rfl⟩, q _ ?_ fun j hj => ?_⟩
    · have e1 : b = (s1.heap.push { cls := .type "dict_values", data := .fields #[.ref a] }).objs.size := List.mem_singleton.mp hmem
      have e2 := Heap.lt_size e
      rw [hsz] at e1
      rw [e1] at e2
      exact absurd e2 (Nat.not_lt.mpr (Nat.le_succ _))
    · have hb : argBest (fun i j => decide (is.getD i 0 > is.getD j 0)) (vs.length - 1) < is.length := by omega
      rw [List.getD_eq_getElem?_getD, List.getElem?_eq_getElem hb]
      exact List.getElem_mem hb
    · obtain ⟨i, hi, e⟩ := List.mem_iff_getElem.mp hj
      have e2 : is.getD i 0 = j := by rw [List.getD_eq_getElem?_getD, List.getElem?_eq_getElem hi, ← e] <;> rfl
      rw [← e2]
      exact b2 i (by omega)
end
end L2
namespace Fx
open PySem L2
variable [Tb]
def dLstCount : D → List D → Option D
  | .nd .lst ds, [z] => if z.fit && (D.nd .lst ds).fit then some (.int ((ds.countP fun x => x.eqv z : Nat) : Int)) else none
  | _, _ => none
theorem serves_lstCount {M : Md} : ServesW M "list" (rCntD M.K) isLstD dLstCount where
  ty := fun Hf H d x h S g => lstTy h g
  ans := fun Hf H d x ds xs g h hs S e Q q => by
    cases h with
    | lst s t =>
      rename_i a vs l
      have key : ∃ z, ds = [z] := by
        match ds, e with
        | [z], _ => exact ⟨z, rfl⟩
      obtain ⟨z, rfl⟩ := key
      obtain ⟨c, e'⟩ := ite_some (show (if (z.fit && (D.nd .lst l).fit) = true then some (D.int ((l.countP fun x => x.eqv z : Nat) : Int)) else none) = some g from e)
      cases e'
      rw [Bool.and_eq_true] at c
      obtain ⟨p1, s1⟩ := D.fit_ok c.1
      obtain ⟨p2, s2⟩ := D.fit_ok c.2
      cases hs with
      | cons h1 h2 =>
        cases h2
        have hl : Dp M.K H (.ref a) (.list (D.pys l)) := by
          have := HasT.dp S (HasT.lst s t) p2
          rw [D.py] at this; exact this
        rw [D.py] at s2
        refine ⟨a, _, z.py, D.pys l, rfl, rfl, hl, h1.dp S p1, s2, s1, ?_⟩
        have ec : (D.pys l).countP (fun w => PyData.eqv w z.py) = l.countP fun x => x.eqv z := by rw [pys_map, List.countP_map]; rfl
        rw [ec]
        exact q _ (.int _)
    | _ => cases e
section
variable {X : Cx} {W : WX} {o e : Expr} {apos cpos p pos mpos : Pos} {of : Env → Rz (Env × Rs)} {args : Env → Rz (Env × List Rs)}
theorem rv_lstIndex (hu : X.A.units + 65 < cLine) (ho : RH X W o of) (ha : RHs X W [e] args)
    (hbase : attributeBase o "index" X.env (eval o X.env) = eval o X.env := by rfl)
    (hfew : ((backTo cpos (starEach [e] X.env)).all (fun x => !x.1) && (backToKw cpos (keywordEach [] X.env)).all (fun x => x.1.isSome)
      && decide ([e].length + ([] : List Keyword).length + (if ([] : List Keyword).isEmpty then 0 else 1) < 30)) = true := by rfl)
    (hline : (apos.endLine == cpos.line) = true := by rfl) (hst : starEach [e] X.env = (false, eval e X.env) :: starEach [] X.env := by rfl) (hplain : (backTo cpos (starEach [] X.env)).any (·.1) = false := by rfl) :
    RV X W (.Call (.Attribute o "index" apos) [e] [] cpos) (vMth isLstD dLstIndex of args) :=
  rv_mth PySem.F.plainAttrs_list PySem.F.slot_list_index PySem.F.type_list_index (mt_indexD hu) serves_lstIndex ho ha hbase hfew hline hst hplain
theorem rv_lstCount (hu : X.A.units + 65 < cLine) (ho : RH X W o of) (ha : RHs X W [e] args)
    (hbase : attributeBase o "count" X.env (eval o X.env) = eval o X.env := by rfl)
    (hfew : ((backTo cpos (starEach [e] X.env)).all (fun x => !x.1) && (backToKw cpos (keywordEach [] X.env)).all (fun x => x.1.isSome)
      && decide ([e].length + ([] : List Keyword).length + (if ([] : List Keyword).isEmpty then 0 else 1) < 30)) = true := by rfl)
    (hline : (apos.endLine == cpos.line) = true := by rfl) (hst : starEach [e] X.env = (false, eval e X.env) :: starEach [] X.env := by rfl) (hplain : (backTo cpos (starEach [] X.env)).any (·.1) = false := by rfl) :
    RV X W (.Call (.Attribute o "count" apos) [e] [] cpos) (vMth isLstD dLstCount of args) :=
  rv_mth PySem.F.plainAttrs_list PySem.F.slot_list_count PySem.F.type_list_count (mt_countD hu) serves_lstCount ho ha hbase hfew hline hst hplain
/-- tuple(xs), xs a list -/
def dTupleN : List D → Option Rs
  | [.nd .lst ds] => some (.im (.nd .tupN ds))
  | _ => none
theorem serves_tupleN {M : Md} : ServesC M (fun xs H Q => ∃ p ys, xs = [.ref p] ∧ SqL M.K H p ys ∧ ∀ l o, H l = none → o.dict = none → Q (.ref l) (upd H l (.frz o (.tup ys)))) dTupleN := fun Γ Hf σ H ρ vs ds g R hvs h Q q => by
  have key : ∃ l, ds = [.nd .lst l] := by
    match ds, h with
    | [.nd .lst l], _ => exact ⟨l, rfl⟩
  obtain ⟨l, rfl⟩ := key
  cases h
  obtain ⟨a, ws, rfl, s, t⟩ := one_list hvs
  refine ⟨a, ws, rfl, s, fun p o hp hd => ?_⟩
  obtain ⟨S, R'⟩ := R.lay hp (.frz o (.tup ws))
  exact q _ _ _ S R' (.tupN upd_same hd (t.same S))
/-- max(d.values()) -/
def dMaxVals : D → Option D
  | .nd (.dct _) ds => (intsOf ds).bind fun is => if is.isEmpty then none else some (.int (maxL is))
  | _ => none
theorem rv_maxVals (hm : X.mg "max" = none) (ho : RH X W o of) (hg : Gl X "max" := by rfl) (hc : X.calm = true := by rfl) (hbase : attributeBase o "values" X.env (eval o X.env) = eval o X.env := by rfl) (hline : (apos.endLine == mpos.line) = true := by rfl)
    (hse : starEach [Expr.Call (.Attribute o "values" apos) [] [] mpos] X.env = [(false, eval (Expr.Call (.Attribute o "values" apos) [] [] mpos) X.env)] := by rfl) :
    RV X W (.Call (.Name "max" p) [.Call (.Attribute o "values" apos) [] [] mpos] [] pos) (v1 dMaxVals of) :=
  pe_mono (pe_maxVals hc hg hm ho hbase hline hse) fun σ H Q ⟨Γ, Hf, ρ, R, hw⟩ => bindH R hw fun ρ1 rr Hf1 H1 x S1 R1 hv hq => by
    obtain ⟨d, e1, hq⟩ := ofO_bind hq
    obtain ⟨y, e2, hq⟩ := ofO_bind hq
    have T := R1.peek hv.rs e1
    cases T with
    | dct s t =>
      rename_i a kvs ds
      have h' : ((intsOf ds).bind fun is => if is.isEmpty then none else some (D.int (maxL is))) = some y := e2
      cases e : intsOf ds with
      | none => rw [e] at h'; cases h'
      | some is =>
        rw [e, Option.bind_some] at h'
        cases is with
        | nil => cases h'
        | cons i is =>
          cases h'
          refine ⟨a, kvs, i :: is, rfl, s, ints_has t e, by simp, fun m hm hmax => ?_⟩
          rw [← maxL_eq hm hmax]
          exact hq Hf1 H1 _ S1 R1 (.int _)
    | _ => cases e2
end
end Fx

set_option Elab.async false
set_option linter.all false
set_option maxRecDepth 100000
set_option maxHeartbeats 4000000
namespace L2
open PySem PySem.Spec PyProof.Rows
section
variable {X : Cx} {pins : List (Addr × Obj)} {σ : St} {H : Hp} {s : Shared}
/-- an object that was not there at the entry, and is not tracked, is tracked from now on -/
theorem Inv.trackNow {a : Addr} {oe : Obj} {vs : Array Value} {φ : Heap → Prop} (I : Inv X pins σ H s) (ha : s.heap.get? a = some oe) (hd : oe.data = .fields vs) (h0 : X.s_0.heap.get? a = none) (na : H a = none) (nL : a ≠ X.env.locals) (nP : ∀ p ∈ X.pn ++ pins, p.1 ≠ a)
    (new : ObjOk X.prog X.w (upd H a (.ext φ)) s.heap a (.ext φ)) : Inv X pins σ (upd H a (.ext φ)) s := by
  refine ⟨I.ok, I.os, I.bare, ⟨I.base.keep, I.base.slot, fun b o e n hx => ?_, I.base.there, fun b xs e => ?_, fun b o u e => ?_, fun b ps e => ?_⟩, I.loc, I.cell, ?_, fun x c e => ?_, fun p hp => ?_, fun b u e => ?_, I.len⟩
  · rw [upd_ne (fun z => by rw [z, h0] at e; cases e)]
    exact I.base.free b o e n hx
  · have q := I.base.tups b xs e
    rw [upd_ne (ne_of_none q na)]; exact q
  · have q := I.base.frzs b o u e
    rw [upd_ne (ne_of_none q na)]; exact q
  · obtain ⟨more, q⟩ := I.base.tbls b ps e
    exact ⟨more, by rw [upd_ne (ne_of_none q na)]; exact q⟩
  · rw [upd_ne (Ne.symm nL)]; exact I.free
  · have q : c ≠ a := fun z => by
      subst z
      obtain ⟨v, o, h1, h2⟩ := I.cell x c e
      rw [ha] at h1
      cases h1
      rw [hd] at h2
      cases h2
    rw [upd_ne q]; exact I.freeC x c e
  · obtain ⟨h1, h2, h3, h4, h5⟩ := I.pin p hp
    refine ⟨h1, ?_, h3, h4, h5⟩
    rw [upd_ne (nP p hp)]; exact h2
  · by_cases hb : b = a
    · subst hb
      rw [upd_same] at e
      cases e
      exact new
    · rw [upd_ne hb] at e
      exact (I.hok b u e).stay (fun c v _ q => q) (fun c q => by rw [upd_ne (ne_of_none q na)]; exact q) fun c xs q => by rw [upd_ne (ne_of_none q na)]; exact q
end
/-- what 'except x as n: y = n' wishes -/
def wKeep (K : PySem.W.Frag) (c : Value) (i j : Nat) (Wout : WX) (D : Ends) : WX := fun cls d σ H =>
  ∃ b, PySem.W.exmOne K cls c = some b ∧ (b = true → ∃ C dd, cls = .ref C ∧ d = some dd ∧ ∀ a, H a = none → D.nx (((σ.set i (some (.ref a))).set j (some (.ref a))).set i none) (upd H a (.ext (Fx.exnAt a C dd)))) ∧
    (b = false → Wout cls d σ H)
theorem exnAt_ok {P : Program} {w : World} {H : Hp} {h : Heap} {a C dd : Addr} {oe : Obj} {vs : Array Value} (e : h.get? a = some oe) (z : Zc (.ref C) (some dd) oe) (d : oe.data = .fields vs) : ObjOk P w H h a (.ext (Fx.exnAt a C dd)) :=
  ⟨⟨oe, vs, e, z, d⟩, ⟨oe, e⟩, fun h1 h2 ⟨o, v, e1, e2, e3⟩ k => ⟨o, v, k _ e1, e2, e3⟩⟩
section
variable {X : Cx} {x n y : Str} {c : Value} {i j : Nat} {body : List Stmt} {np np2 yp ap pos pos' : Pos} {tb : WX → TS} {Wout : WX}
theorem ps_try_keep (hex : X.ex = []) (hs : X.stack = X.env :: X.outer) (hf : X.env.frame = some X.env.locals) (hN : X.N.Nodup) (hi : X.N[i]? = some n) (hln : X.env.kindOf n = some .local) (hj : X.N[j]? = some y) (hly : X.env.scope.names.lookup y = some .local) (hnd : (n == ("__debug__" : Str)) = false) (hncd : (n == ("__classdict__" : Str)) = false) (hc : Names X x c) (tk : Takes X Wout)
    (hsw : ∀ a pn, swapsWith (.Name n np2) (some (.Name y yp)) ap.line (X.suite a pn).env = pure false)
    (hb : ∀ (W : WX) (pn : List (Addr × Obj)) (xe : Value → Shared → Prop), Takes (X.tr pn xe) W → PassesOwn (model X.prog X.w) X.A X.env xe → PSs (X.tr pn xe) body (tb W)) :
    PS X (.Try body [.ExceptHandler (some (.Name x np)) (some n) [.Assign [.Name y yp] (.Name n np2) ap] pos'] [] [] pos) (fun D σ H => tb (wKeep X.K c i j Wout D) D σ H) := by
  refine ⟨fun pins s σ H D I h => ?_⟩
  have ok := I.ok
  have hfr : X.A.frames = some (X.env :: X.outer) := by rw [ok.frames, hs]
  have hloc : Loc X.env.scope n := .inl hln
  refine wpAny_Try_except ?_
  refine wpAny_mono ((hb (wKeep X.K c i j Wout D) (X.pn ++ pins) (fun e s₁ => wpAny (model X.prog X.w) X.A (noteFrame e X.env) (fun _ s₂ => wpAny (model X.prog X.w) X.A (setFlight e none) (fun _ s₃ =>
    wpAny (model X.prog X.w) X.A (handleBy e X.env [.ExceptHandler (some (.Name x np)) (some n) [.Assign [.Name y yp] (.Name n np2) ap] pos']) (SP X pins D) X.xe s₃) X.xe s₂) X.xe s₁) (fun u s' xx => ?_) PassesOwn.looking).run [] s σ H D (I.toTry _) h) (fun f s1 hsp => ?_) (fun e s1 he => he)
  · -- the catch
    obtain ⟨a, B, sI, pins', σ', H', cls, d, rfl, J', nb, up, sky, na, os, ag, b, hb1, hyes, hno⟩ := xx
    have J : Inv X pins σ' H' sI := J'.ofTry ok
    have sky' : Sky B (X.env :: X.outer) a (Zc cls d) X.env.locals s'.heap := by rw [← hs]; exact sky
    show wpAny (model X.prog X.w) X.A (noteFrame (.ref a) X.env) _ _ _
    refine Sky.land Zc.steady hfr hf sky' fun h3 fl3 up3 => ?_
    have J3 : Inv X pins σ' H' { s' with heap := h3 } := J.landed nb fl3.1 (up.trans up3) os ag
    obtain ⟨oe3, vs3, he3, hz3, hd3⟩ := fl3.there
    have notFr : ∀ {h : Heap} {o : Obj} {vs : Array Value}, h.FunFrames B (X.env :: X.outer) → h.get? a = some o → o.data = .fields vs → a ∉ frs (X.env :: X.outer) := fun {h o vs} ff e dd hm => by
      obtain ⟨_, o', e', hnf⟩ := ff.mem hm
      rw [e] at e'; cases e'
      exact hnf _ dd
    have nfr := notFr fl3.2.2.1 he3 hd3
    have nL : a ≠ X.env.locals := fun z => nfr (List.mem_filterMap.mpr ⟨X.env, List.mem_cons_self, by rw [hf, z]⟩)
    have nF : a ∉ X.fs := fun hm => by
      obtain ⟨e, he, q⟩ := List.mem_filterMap.mp hm
      exact nfr (List.mem_filterMap.mpr ⟨e, List.mem_cons_of_mem _ he, q⟩)
    -- the exception was not there ahead of the body
    have Ba : B.get? a = none := fl3.2.1
    have sIa : sI.heap.get? a = none := by
      cases q : sI.heap.get? a with
      | none => rfl
      | some o =>
        have := nb a o q (by rw [hs]; exact nfr)
        rw [Ba] at this; cases this
    have s0a : X.s_0.heap.get? a = none := by
      cases q : X.s_0.heap.get? a with
      | none => rfl
      | some o =>
        obtain ⟨o', z⟩ := J.base.there a o q (by rw [hex]; simp)
        rw [sIa] at z; cases z
    have pna : ∀ p ∈ X.pn ++ pins, p.1 ≠ a := fun p hp z => by
      obtain ⟨h1, _⟩ := J.pin p hp
      rw [z, sIa] at h1; cases h1
    have S3 := J3.suite he3 hd3 na nL nF
    refine wpAny_handleBy_cons (codeAny_handlers_test ?_) (by intro q; cases q)
    have LT : PySem.W.Looks (model X.prog X.w) h3 (typeOf (.ref a)) cls := fun A Q E s k q => wpAny_typeOf_ref (k _ _ he3) (by rw [hz3.1]; exact q)
    have LM := PySem.W.exm_one (M := model X.prog X.w) (J3.kIn) LT hb1
    have test : ∀ {Q : Value → Shared → Prop} {E : Value → Shared → Prop}, Q c { s' with heap := h3 } → wpAny (model X.prog X.w) (X.A.mark (some (.ref a))) (eval (.Name x np) X.env) Q E { s' with heap := h3 } := fun {Q E} q => by
      obtain ⟨hg, hdbg, hm | ⟨hm, hv, hnn⟩⟩ := hc
      · exact ld_glob (X := X.suite a ((a, oe3) :: (X.pn ++ pins))) S3 hg hm q hdbg
      · exact ld_blt (X := X.suite a ((a, oe3) :: (X.pn ++ pins))) S3 hg hm hv q hnn hdbg
    refine test (LM.here ?_)
    cases b with
    | true =>
      refine codeAny_handlers_suite_as ?_
      refine HandSPX.lands_againZ fl3 fun h4 fl4 up4 => ?_
      have J4 : Inv X pins σ' H' { s' with heap := h4 } := J.landed nb fl4.1 ((up.trans up3).trans up4) os ag
      obtain ⟨oe4, vs4, he4, hz4, hd4⟩ := fl4.there
      have S4 := J4.suite he4 hd4 na nL nF
      obtain ⟨C, dd, rfl, rfl, hy2⟩ := hyes rfl
      refine store_ok (X := X.suite a ((a, oe4) :: (X.pn ++ pins))) (v := .ref a) S4 hN hi hloc rfl (fun s5 S5 => ?_) (.inr hln)
      have lenσ : i < σ'.length := by rw [J4.len]; exact (List.getElem?_eq_some_iff.mp hi).1
      have asg : PSs (X.suite a ((a, oe4) :: (X.pn ++ pins))) [.Assign [.Name y yp] (.Name n np2) ap] _ := pss_one (ps_set (X := X.suite a ((a, oe4) :: (X.pn ++ pins))) (i := j) hN hj (.inl hly) (pe_var (X := X.suite a ((a, oe4) :: (X.pn ++ pins))) (i := i) hi (.inl hln) hnd hncd) (hsw a _) (.inr hly))
      refine wpAny_mono (asg.run [] s5 _ H' { nx := fun σ7 H7 => σ7 = (σ'.set i (some (.ref a))).set j (some (.ref a)) ∧ H7 = H', rt := fun _ _ => False, bk := fun _ _ => False, ct := fun _ _ => False } S5 ⟨.ref a, List.getElem?_set_self lenσ, rfl, rfl⟩) (fun f s6 hsp => ?_) (fun _ _ z => False.elim z)
      cases f with
      | next =>
        obtain ⟨σ6, H6, S6, rfl, rfl⟩ := hsp
        have U6 : Inv X pins _ H6 s6 := S6.unsuite ok
        obtain ⟨q1, _⟩ := S6.pin (a, oe4) (List.mem_append_left _ List.mem_cons_self)
        have T6 := U6.trackNow (φ := Fx.exnAt a C dd) q1 hd4 s0a na nL pna (exnAt_ok q1 hz4 hd4)
        exact gone_ok T6 hN hi hln fun s7 J7 => ⟨_, _, J7, hy2 a na⟩
      | brk => obtain ⟨_, _, _, q⟩ := hsp; exact q.elim
      | cont => obtain ⟨_, _, _, q⟩ := hsp; exact q.elim
      | ret u => obtain ⟨_, _, _, _, _, q⟩ := hsp; exact q.elim
    | false =>
      show wpAny _ X.A (handleBy (.ref a) X.env []) _ _ _
      refine wpAny_handleBy_nil ?_
      obtain ⟨k1, k2, k3, oe, vs, T, oT, ts', he, hz, hd, h1, hr⟩ := id fl3
      unfold PySem.passOn
      refine wpAny_bind (wpAny_field he hd h1 ?_)
      rw [if_neg (show ¬ ((Value.ref T == Value.none) = true) from by simp)]
      have fin : wpAny (model X.prog X.w) X.A (setFlight (.ref a) X.env.frame) (fun _ s4 => wpAny (model X.prog X.w) X.A (throw (.ref a) : Sem Flow) (SP X pins D) X.xe s4) X.xe { s' with heap := h3 } := by
        rw [hf]
        refine HandSPX.setFlight_upZ fl3 fun h4 hh4 up4 => wpAny_throw (tk _ _ ?_)
        exact ⟨a, B, sI, pins, σ', H', cls, d, rfl, J, nb, (up.trans up3).trans up4, .inr (.inr (by rw [hs]; exact hh4)), na, os, ag, hno rfl⟩
      first
        | exact wpAny_bind (wpAny_pure (wpAny_bind fin))
        | exact wpAny_bind fin
  · cases f with
    | next =>
      obtain ⟨σ', H', J', q⟩ := hsp
      exact wpAny_execs_nil ⟨σ', H', J'.ofTry ok, q⟩
    | brk =>
      obtain ⟨σ', H', J', q⟩ := hsp
      exact ⟨σ', H', J'.ofTry ok, q⟩
    | cont =>
      obtain ⟨σ', H', J', q⟩ := hsp
      exact ⟨σ', H', J'.ofTry ok, q⟩
    | ret u =>
      obtain ⟨v, σ', H', J', r, q⟩ := hsp
      exact ⟨v, σ', H', J'.ofTry ok, r, q⟩
end
end L2

set_option Elab.async false
set_option linter.all false
set_option maxRecDepth 100000
set_option maxHeartbeats 4000000
namespace Fx
open PySem L2
variable [Tb]
/-! ### try: .. except X as n: y = n -/
def exnD (x : Exn) : D := .nd (.exn x.c (x.fs.map (·.1))) (x.fs.map (·.2))
def noPa (ρ : Env) (i : Nat) : Bool := match ρ[i]? with
  | none => false
  | some (.pa _) => false
  | _ => true
def gTryKeep (es : List Str) (i j : Nat) (body : Env → Rz (Env × Fl)) : Env → Rz (Env × Fl) := fun ρ => match body ρ with
  | .ok r => .ok r
  | .ex x ρ' => if es.contains x.c && (noPa ρ' i && (noPa ρ' j && decide (i ≠ j))) then .ok ((ρ'.set j (.im (exnD x))).set i .no, .nx) else .no
  | .no => .no
section
variable {M : Md} {Γ : Gh} {Hf : Hp} {σ : L2.St} {H : Hp} {ρ : Env}
theorem LocAt.noxd {Hf H : Hp} {d : D} {a : Addr} (h : LocAt M Hf H d (.ref a)) {fs : List (Str × V)} : H a ≠ some (.xd fs) := by
  cases h with
  | lst n h t => rw [h]; intro z; cases z
  | dct n h t => rw [h]; intro z; cases z
  | obj n g h t => rw [h]; intro z; cases z
  | dcx n h => rw [h]; intro z; cases z
/-- the dict of an exception, frozen -/
theorem Rep.frzXd (R : Rep M Γ Hf σ H ρ) {b : Addr} {fs : List (Str × V)} (hb : H b = some (.xd fs)) (hf : Hf b = none) (h0 : Γ.g.H0 b = none) : Same Hf (upd Hf b (.xd fs)) ∧ Rep M Γ (upd Hf b (.xd fs)) σ H ρ := by
  have S : Same Hf (upd Hf b (.xd fs)) := fun c u q => by rw [upd_ne (ne_of_none q hf)]; exact q
  have r := R.r0
  refine ⟨S, R.len, r.grow S (fun c u q => ?_) (fun c q => ?_) rfl (fun i x e => .inr (.inr ⟨e, fun o a es => ?_⟩)) fun a z => ?_⟩
  · by_cases e : c = b
    · subst e; rw [upd_same] at q; cases q; exact hb
    · rw [upd_ne e] at q; exact R.sub c u q
  · by_cases e : c = b
    · subst e; exact .inr h0
    · rw [upd_ne e] at q; exact r.fz c q
  · cases x with
    | no => exact o.elim
    | im _ => exact o.elim
    | lo d =>
      obtain ⟨a', k1, _, k3⟩ := r.lo i d e
      rw [es] at k1; cases k1
      have ne : a ≠ b := fun e => by subst e; exact k3.noxd hb
      obtain ⟨_, ea, hn, _⟩ := k3.ref
      cases ea
      rw [upd_ne ne]; exact hn
    | pa d =>
      obtain ⟨a', k1, _, k3⟩ := r.pa i d e
      rw [es] at k1; cases k1
      have ne : a ≠ b := fun e => by subst e; exact k3.noxd hb
      obtain ⟨_, ea, hn, _⟩ := k3.ref
      cases ea
      rw [upd_ne ne]; exact hn
  · have ne : a ≠ b := fun e => by subst e; exact (R.r0.paO a z) h0
    rw [upd_ne ne]
    exact (R.r0.paH a z).2
theorem noPa_spec {i : Nat} (h : noPa ρ i = true) : ∃ x, ρ[i]? = some x ∧ ∀ d, x ≠ .pa d := by
  unfold noPa at h
  cases q : ρ[i]? with
  | none => rw [q] at h; cases h
  | some x => exact ⟨x, rfl, fun d z => by subst z; rw [q] at h; cases h⟩
/-- a slot that holds no caller's container is emptied -/
theorem Rep.empty (R : Rep M Γ Hf σ H ρ) {i : Nat} {w : Option V} : Rep M Γ Hf (σ.set i w) H (ρ.set i .no) := R.forget (by simp) (by simp) fun k x e => by
  rcases set_get e with ⟨rfl, z⟩ | ⟨ne, q⟩
  · exact .inl z
  · exact .inr ⟨q, List.getElem?_set_ne (Ne.symm ne)⟩
/-- a slot holds data -/
theorem Rep.putIm (R : Rep M Γ Hf σ H ρ) {i : Nat} {d : D} {v : V} (hi : i < ρ.length) (h : Has M Hf d v) : Rep M Γ Hf (σ.set i (some v)) H (ρ.set i (.im d)) := by
  have lt : i < σ.length := by rw [← R.len]; exact hi
  have := R.r0.put (i := i) (x := .im d) (v := v) (by simp; omega) (.inr (.inl ⟨d, rfl, h⟩))
  rw [set_left lt, set_left hi] at this
  exact ⟨by simpa using R.len, this⟩
end
/-- the classes that an except clause catches -/
structure Catch (K : PySem.W.Frag) (mg : Str → Option Value) (x : Str) (es : List Str) : Prop where
  ex : ∃ CS, mg x = some (.ref CS) ∧ ∀ c ∈ es, ∃ C, mg c = some (.ref C) ∧ PySem.W.exmOne K (.ref C) (.ref CS) = some true
section
variable {X : Cx} {W : WX} {x n y : Str} {i j : Nat} {body : List Stmt} {np np2 yp ap pos pos' : Pos} {es : List Str} {g : Env → Rz (Env × Fl)}
theorem rs_tryKeep (C : Catch X.K X.mg x es) (tk : Takes X W) (hN : X.N.Nodup) (hb : ∀ (W : WX) (pn : List (Addr × Obj)) (xe : Value → Shared → Prop), Takes (X.tr pn xe) W → PassesOwn (model X.prog X.w) X.A X.env xe → RSs (X.tr pn xe) W body g)
    (hi : X.N[i]? = some n := by rfl) (hj : X.N[j]? = some y := by rfl) (hex : X.ex = [] := by rfl) (hs : X.stack = X.env :: X.outer := by rfl) (hf : X.env.frame = some X.env.locals := by rfl) (hln : X.env.kindOf n = some .local := by rfl) (hly : X.env.scope.names.lookup y = some .local := by rfl)
    (hnd : (n == ("__debug__" : Str)) = false := by decide) (hncd : (n == ("__classdict__" : Str)) = false := by decide) (hg : Gl X x := by rfl) (hxd : (x == ("__debug__" : Str)) = false := by decide) (hsw : ∀ a pn, swapsWith (.Name n np2) (some (.Name y yp)) ap.line (X.suite a pn).env = pure false := by intro _ _; rfl) :
    RS X W (.Try body [.ExceptHandler (some (.Name x np)) (some n) [.Assign [.Name y yp] (.Name n np2) ap] pos'] [] [] pos) (gTryKeep es i j g) := by
  obtain ⟨CS, hm, hC⟩ := C
  refine ps_mono (ps_try_keep (tb := fun W => rdS ⟨X.K, X.mg⟩ W g) (c := .ref CS) hex hs hf hN hi hln hj hly hnd hncd (⟨hg, hxd, .inl hm⟩ : Names X x (.ref CS)) tk hsw hb) fun D σ H ⟨Γ, Hf, ρ, R, hw⟩ => ⟨Γ, Hf, ρ, R, ?_⟩
  unfold gTryKeep at hw
  cases u : g ρ with
  | no => rw [u] at hw; exact hw.elim
  | ok r => rw [u] at hw; exact hw
  | ex e ρ' =>
    rw [u] at hw
    obtain ⟨c, hw⟩ := ite_wp hw
    rw [Bool.and_eq_true, Bool.and_eq_true, Bool.and_eq_true] at c
    obtain ⟨c1, c2, c3, c4⟩ := c
    have ne := of_decide_eq_true c4
    obtain ⟨C, hmc, hexm⟩ := hC e.c (by simpa using c1)
    intro Hf' σ' H' cl d hl S R1 he
    obtain ⟨m1, dd, vs, ed, h0, hfd, hdd, hk, hall⟩ := he
    have m1 : X.mg e.c = some cl := m1
    rw [hmc] at m1
    cases m1
    subst ed
    refine ⟨true, hexm, fun _ => ⟨C, dd, rfl, rfl, fun a ha => ?_⟩, fun z => by cases z⟩
    obtain ⟨x1, e1, n1⟩ := noPa_spec c2
    obtain ⟨x2, e2, n2⟩ := noPa_spec c3
    have l1 : i < ρ'.length := (List.getElem?_eq_some_iff.mp e1).1
    have l2 : j < ρ'.length := (List.getElem?_eq_some_iff.mp e2).1
    have nad : dd ≠ a := ne_of_none hdd ha
    obtain ⟨S2, R2⟩ := R1.lay ha (.ext (exnAt a C dd))
    have hfd2 : upd Hf' a (.ext (exnAt a C dd)) dd = none := by rw [upd_ne nad]; exact hfd
    have hdd2 : upd H' a (.ext (exnAt a C dd)) dd = some (.xd vs) := by rw [upd_ne nad]; exact hdd
    obtain ⟨S3, R3⟩ := R2.frzXd hdd2 hfd2 h0
    have hv : Has ⟨X.K, X.mg⟩ (upd (upd Hf' a (.ext (exnAt a C dd))) dd (.xd vs)) (exnD e) (.ref a) := by
      unfold exnD
      rw [← hk]
      refine .exn hmc ?_ upd_same (hall.same (S2.trans S3))
      rw [upd_ne (Ne.symm nad), upd_same]
    have R4 := (R3.putIm (i := j) l2 hv).empty (i := i) (w := none)
    have eσ : (((σ'.set i (some (V.ref a))).set j (some (.ref a))).set i none) = ((σ'.set j (some (V.ref a))).set i none) := by
      rw [List.set_comm _ _ ne, List.set_set]
    rw [eσ]
    exact hw _ _ _ (by simp [hl]) (S.trans (S2.trans S3)) R4
end
end Fx

set_option Elab.async false
set_option linter.all false
set_option maxRecDepth 100000
set_option maxHeartbeats 2000000
/-! Lambdas with defaults; a lambda handed to a def. -/
namespace Fx.Lam
open PySem PySem.Spec PyProof.Rows L2
abbrev fd (name qual : Str) (params : Arguments) (body : Expr) (scope : Scope) (cl : List (Str × Addr)) (pm cdv ct dV : Value) : FuncData :=
  { name, qualname := qual, params, body := .expr body, scope, globals := mainGlobals, closure := cl, defaults := dV, kwdefaults := .none, doc := .none, pyModule := pm, annotations := none, code := cdv, closureTuple := ct, builtins := builtinsNs }
abbrev ob (name qual : Str) (params : Arguments) (body : Expr) (scope : Scope) (cl : List (Str × Addr)) (pm cdv ct dV : Value) : Obj :=
  { cls := .type "function", data := .func (fd name qual params body scope cl pm cdv ct dV) }
section
variable {M : Model} {A : Around} {E : Value → Shared → Prop} {s : Shared} {name qual : Str} {params : Arguments} {body : Expr} {scope : Scope} {env : PySem.Env} {c P : Addr} {ps : Array Value} {pos : Pos} {firstLine : Nat} {mg : Str → Option Value}
  {clos : List (Str × Addr)} {Q : Value → Shared → Prop} {dV : Value}
theorem tail_new (hcl : closureFor scope env = pure clos) (hge0 : env.globals = mainGlobals) (hg : s.heap.Ns mainGlobals mg) (hcode : env.code = .ref c) (C : PySem.W.CodeHd s.heap c P) (hP : s.heap.get? P = some (PySem.W.tabObj ps)) (ht : TriplesOk ps.toList)
    (hnf : codeAmong pos ps.toList = none) (hgP : mainGlobals ≠ P) (hb : s.heap.BuiltinsAt mg P)
    (h : ∀ c' ctv h' tk, Heap.ExtBut P s.heap h' → s.heap.objs.size ≤ c' → c' < h'.objs.size → h'.CodeRec (.ref c') qual → h'.get? P = some (PySem.W.tabObj (ps ++ #[rawInt pos.line, rawInt pos.col, .ref c'])) →
      Q (.ref h'.objs.size) { s with heap := h'.push (ob name qual params body scope clos ((mg "__name__").getD .none) (.ref c') ctv dV), toks := tk }) :
    wpAny M A (makeTail name qual params (.expr body) scope env dV .none none pos firstLine) Q E s := by
  obtain ⟨bm, o, hbm, hne0, _, hneP, hbo, hcls, hdict, hdata⟩ := hb
  unfold makeTail
  rw [hcl, hge0]
  refine wpAny_bind (wpAny_pure ?_)
  cases clos with
  | nil =>
    simp only [List.isEmpty_nil, if_true]
    refine wpAny_bind (wpAny_pure ?_)
    refine wpAny_bind (wpAny_functionCodeX hcode (C.code hP ht) (C.tab hP) hnf fun c' h' tk hx hge hlt _ hrec htb _ => ?_)
    have hg' := hg.extBut hx hgP
    refine wpAny_bind (wpAny_builtinsFor hg' hbm hne0 (hx _ _ hneP hbo) hcls hdict hdata ?_)
    refine wpAny_bind (wpAny_nsGet hg' ?_)
    exact wpAny_bind (wpAny_pure (wpAny_newObj_type (h c' .none h' tk hx hge hlt hrec htb.2) (by size_fits)))
  | cons q r =>
    simp only [List.isEmpty_cons, Bool.false_eq_true, if_false]
    refine wpAny_bind (wpAny_newTextTuple ?_)
    refine wpAny_bind (wpAny_functionCodeX hcode ((C.keeps fun b o e => Heap.get?_push_of_some _ e).code (Heap.get?_push_of_some _ hP) ht) ((C.keeps fun b o e => Heap.get?_push_of_some _ e).tab (Heap.get?_push_of_some _ hP)) hnf fun c' h' tk hx hge hlt _ hrec htb _ => ?_)
    have hg' := (hg.push _).extBut hx hgP
    have hx' : Heap.ExtBut P s.heap h' := fun b o hb' e => hx b o hb' (Heap.get?_push_of_some _ e)
    have hge' : s.heap.objs.size ≤ c' := Nat.le_trans (by rw [Heap.size_push]; omega) hge
    refine wpAny_bind (wpAny_builtinsFor hg' hbm hne0 (hx' _ _ hneP hbo) hcls hdict hdata ?_)
    refine wpAny_bind (wpAny_nsGet hg' ?_)
    exact wpAny_bind (wpAny_pure (wpAny_newObj_type (h c' _ h' tk hx' hge' hlt hrec htb.2) (by size_fits)))
theorem tail_hit {cv : Value} (hcl : closureFor scope env = pure clos) (hge0 : env.globals = mainGlobals) (hg : s.heap.Ns mainGlobals mg) (hcode : env.code = .ref c) (C : PySem.W.CodeHd s.heap c P) (hP : s.heap.get? P = some (PySem.W.tabObj ps)) (ht : TriplesOk ps.toList)
    (hf : codeAmong pos ps.toList = some cv) (hb : s.heap.BuiltinsAt mg P)
    (h : ∀ (ctv : Value) (h' : Heap) (tk : Tok), (∀ b o, s.heap.get? b = some o → h'.get? b = some o) → s.heap.objs.size ≤ h'.objs.size →
      Q (.ref h'.objs.size) { s with heap := h'.push (ob name qual params body scope clos ((mg "__name__").getD .none) cv ctv dV), toks := tk }) :
    wpAny M A (makeTail name qual params (.expr body) scope env dV .none none pos firstLine) Q E s := by
  obtain ⟨bm, o, hbm, hne0, _, hneP, hbo, hcls, hdict, hdata⟩ := hb
  unfold makeTail
  rw [hcl, hge0]
  refine wpAny_bind (wpAny_pure ?_)
  cases clos with
  | nil =>
    simp only [List.isEmpty_nil, if_true]
    refine wpAny_bind (wpAny_pure ?_)
    refine wpAny_bind (wpAny_functionCode_hit hcode (C.code hP ht) hf ?_)
    refine wpAny_bind (wpAny_builtinsFor hg hbm hne0 hbo hcls hdict hdata ?_)
    refine wpAny_bind (wpAny_nsGet hg ?_)
    exact wpAny_bind (wpAny_pure (wpAny_newObj_type (h .none s.heap s.toks (fun _ _ e => e) (Nat.le_refl _)) (by size_fits)))
  | cons q r =>
    simp only [List.isEmpty_cons, Bool.false_eq_true, if_false]
    refine wpAny_bind (wpAny_newTextTuple ?_)
    refine wpAny_bind (wpAny_functionCode_hit hcode ((C.keeps fun b o e => Heap.get?_push_of_some _ e).code (Heap.get?_push_of_some _ hP) ht) hf ?_)
    refine wpAny_bind (wpAny_builtinsFor (hg.push _) hbm hne0 (Heap.get?_push_of_some _ hbo) hcls hdict hdata ?_)
    refine wpAny_bind (wpAny_nsGet (hg.push _) ?_)
    have hsz : ∀ oT : Obj, s.heap.objs.size ≤ (s.heap.push oT).objs.size := fun oT => by rw [Heap.size_push]; omega
    exact wpAny_bind (wpAny_pure (wpAny_newObj_type (h _ _ s.toks (fun b o e => Heap.get?_push_of_some _ e) (hsz _)) (by size_fits)))
end
/-- the defaults its of a lambda lie at dV -/
def DV (fs : List Addr) (h : Heap) (H : Hp) (dV : Value) (its : List Value) : Prop :=
  (its = [] ∧ dV = .none) ∨ ∃ (T : Addr) (o : Obj) (n : Nat), its ≠ [] ∧ dV = .ref T ∧ h.get? T = some o ∧ o.data = .seq its.toArray n ∧ H T = none ∧ T ∉ fs
/-- how a lambda's defaults come to be, and how it binds when it is called without arguments: ns its parameters -/
structure Params (X : Cx) (params : Arguments) (body : Expr) (scope : Scope) (pos : Pos) (ns : List Str) : Prop where
  make : ∀ {pins : List (Addr × Obj)} {σ : L2.St} {H : Hp} {s : Shared} {Q : Value → Shared → Prop}, Inv X pins σ H s →
    (∀ dV its s2, its.length = ns.length → Inv X pins σ H s2 → DV (frs X.stack) s2.heap H dV its → wpAny (model X.prog X.w) X.A (makeTail "<lambda>" (X.env.qual ++ "<lambda>") params (.expr body) scope X.env dV .none none pos pos.line) Q X.xe s2) →
    wpAny (model X.prog X.w) X.A (eval (.Lambda params body scope pos) X.env) Q X.xe s
  bind : ∀ (M : Model) (h : Heap) (q : Str) (cl : List (Str × Addr)) (pm cv ctv dV : Value) (its : List Value) (fs : List Addr) (H : Hp), its.length = ns.length → DV fs h H dV its →
    PySem.W.Looks M h (bindArgs (fd "<lambda>" q params body scope cl pm cv ctv dV) ⟨[], []⟩) (ns.zip its)
section
variable {X : Cx} {params : Arguments} {body : Expr} {scope : Scope} {pos : Pos}
/-- without parameters -/
theorem Params.of0 (hdef : defaultsOf params X.env = ([], [])) (hb : ∀ (q : Str) (cl : List (Str × Addr)) (pm cv ctv : Value), bindArgs (fd "<lambda>" q params body scope cl pm cv ctv .none) ⟨[], []⟩ = pure []) : Params X params body scope pos [] := by
  refine ⟨fun {pins σ H s Q} I h => ?_, fun M h q cl pm cv ctv dV its fs H hl hd => ?_⟩
  · rw [PySem.arm_eval_Lambda, hdef]
    show wpAny _ X.A (do let dv ← evalAll []; let kdv ← holding dv (evalAllOpt []); makeFunction "<lambda>" (X.env.qual ++ "<lambda>") params (.expr body) scope X.env dv kdv [] pos pos.line) Q X.xe s
    refine wpAny_bind (wpAny_pure (wpAny_bind (wpAny_holding (wpAny_pure ?_))))
    rw [makeFunction_eq]
    simp only [List.zip_nil_right, List.filterMap_nil, List.isEmpty_nil, if_true, pure_bind]
    exact h .none [] s rfl I (.inl ⟨rfl, rfl⟩)
  · rcases hd with ⟨rfl, rfl⟩ | ⟨T, o, n, ne, rfl, _⟩
    · exact PySem.W.Looks.of_pure (hb q cl pm cv ctv)
    · exact absurd (List.eq_nil_of_length_eq_zero hl) ne
/-- one parameter with a default -/
theorem Params.of1 {a : Str} {e : Expr} {v : V} (hdef : defaultsOf params X.env = ([eval e X.env], [])) (he : PE X e fun σ H Q => Q v H)
    (hb : ∀ (q : Str) (cl : List (Str × Addr)) (pm cv ctv : Value) (T : Addr), ∃ k, bindArgs (fd "<lambda>" q params body scope cl pm cv ctv (.ref T)) ⟨[], []⟩ = seqItems? (.ref T) >>= k ∧ ∀ u, k (some #[u]) = pure [(a, u)]) : Params X params body scope pos [a] := by
  refine ⟨fun {pins σ H s Q} I h => ?_, fun M h q cl pm cv ctv dV its fs H hl hd => ?_⟩
  · rw [PySem.arm_eval_Lambda, hdef]
    show wpAny _ X.A (do let dv ← evalAll [eval e X.env]; let kdv ← holding dv (evalAllOpt []); makeFunction "<lambda>" (X.env.qual ++ "<lambda>") params (.expr body) scope X.env dv kdv [] pos pos.line) Q X.xe s
    have hv := he.run pins s σ H (fun w H1 => w = v ∧ H1 = H) I ⟨rfl, rfl⟩
    refine wpAny_bind (wpAny_bind (thn hv fun u s1 ⟨w, H1, I1, rw', e1, e2⟩ => ?_))
    subst e2
    refine wpAny_bind (wpAny_holding (wpAny_pure (wpAny_pure (wpAny_bind (wpAny_holding (wpAny_pure ?_))))))
    rw [makeFunction_eq]
    simp only [List.zip_nil_right, List.filterMap_nil, List.isEmpty_nil, List.isEmpty_cons, if_true, Bool.false_eq_true, if_false, pure_bind]
    refine wpAny_bind (wpAny_newTextTuple ?_)
    have I2 : Inv X pins σ H1 { s1 with heap := s1.heap.push { cls := .type "tuple", data := .seq [u].toArray } } := I1.kept (t' := s1.toks) fun b o e => Heap.get?_push_of_some _ e
    refine h _ [u] _ rfl I2 (.inr ⟨_, _, _, by simp, rfl, Heap.get?_push_size _ rfl, rfl, I1.hok.fresh (Nat.le_refl _), fun z => ?_⟩)
    rcases List.mem_cons.mp (I1.stkSub _ z) with e | e
    · have h1 := I1.lt
      rw [← e] at h1
      exact Nat.lt_irrefl _ h1
    · exact I1.nofs (Nat.le_refl _) e
  · rcases hd with ⟨rfl, rfl⟩ | ⟨T, o, n, ne, rfl, ho, hdt, _⟩
    · cases hl
    · obtain ⟨u, rfl⟩ : ∃ u, its = [u] := by
        cases its with
        | nil => cases hl
        | cons u r => cases r with
          | nil => exact ⟨u, rfl⟩
          | cons _ _ => simp at hl
      obtain ⟨k, e1, e2⟩ := hb q cl pm cv ctv T
      rw [e1]
      exact fun A Q E s kp q => wpAny_bind (wpAny_seqItems (kp _ _ ho) hdt (by rw [e2]; exact wpAny_pure q))
end
/-- the table and the code object behind the making of a lambda -/
def Made (G H H1 : Hp) (P c' : Addr) (q : Str) : Prop :=
  (H1 = H ∧ G c' = some (LamX.CodeO c' q)) ∨ ∃ ps more : Array Value, H P = some (.tbl ps) ∧ H c' = none ∧ H1 = upd (upd H P (.tbl (ps ++ more))) c' (LamX.CodeO c' q) ∧ TriplesOk (ps ++ more).toList ∧ ∀ pos cv, codeAmong pos (ps ++ more).toList = some cv → codeAmong pos ps.toList = some cv ∨ cv = .ref c'
section
variable {X : Cx} {pins : List (Addr × Obj)} {σ : L2.St} {H : Hp} {s : Shared}
/-- the lambda is made -/
theorem make {G : Hp} {c P : Addr} {ps : Array Value} {params : Arguments} {body : Expr} {scope : Scope} {pos : Pos} {ns : List Str} {Q : Value → Shared → Prop} (I : Inv X pins σ H s) (TB : LamX.TabB X.base X.mg c P) (hcode : X.env.code = .ref c)
    (hP : H P = some (.tbl ps)) (ht : TriplesOk ps.toList) (ha : ∀ (pos : Pos) (cv : Value), codeAmong pos ps.toList = some cv → ∃ c, cv = .ref c ∧ G c = some (LamX.CodeO c (X.env.qual ++ "<lambda>"))) (SG : ∀ b o, G b = some o → H b = some o)
    (pr : Params X params body scope pos ns) (hfree : ∀ y ∈ scope.names, y.2 = .free → ∃ c, X.env.cells.lookup y.1 = some c)
    (h : ∀ (f c' : Addr) (pm ctv dV : Value) (its : List Value) (H1 : Hp) (s' : Shared), Inv X pins σ H1 s' → Made G H H1 P c' (X.env.qual ++ "<lambda>") → its.length = ns.length → DV (frs X.stack) s'.heap H1 dV its →
      s'.heap.get? f = some (ob "<lambda>" (X.env.qual ++ "<lambda>") params body scope (cloFrom X.env.cells scope.names []) pm (.ref c') ctv dV) → H1 f = none → f ∉ frs X.stack → H1 c' = some (LamX.CodeO c' (X.env.qual ++ "<lambda>")) → Q (.ref f) s') :
    wpAny (model X.prog X.w) X.A (eval (.Lambda params body scope pos) X.env) Q X.xe s := by
  refine pr.make I fun dV its s hl I hdv => ?_
  have bP : s.heap.BuiltinsAt X.mg P := TB.bm.keeps I.bk
  have hP' : s.heap.get? P = some { cls := .none, data := .fields ps } := I.hok P _ hP
  have nofr : ∀ f, s.heap.objs.size ≤ f → f ∉ frs X.stack := fun f hf z => by
    rcases List.mem_cons.mp (I.stkSub _ z) with e | e
    · have h1 := I.lt
      rw [← e] at h1
      exact Nat.lt_irrefl _ (Nat.lt_of_lt_of_le h1 hf)
    · exact I.nofs hf e
  cases hc : codeAmong pos ps.toList with
  | none =>
    refine tail_new (mg := X.mg) (c := c) (P := P) (ps := ps) (closure_ok hfree) I.ok.glob (I.mod.glob.keeps I.bk) hcode (TB.code.keeps I.bk) hP' ht hc TB.gP bP fun c' ctv h' tk hx hge hlt hrec htb => ?_
    obtain ⟨c2, oc, vs, t, e2, hoc, hd, hv⟩ := hrec
    cases e2
    have hsz : s.heap.objs.size ≤ h'.objs.size := Nat.le_trans hge (Nat.le_of_lt hlt)
    have nC : H c' = none := I.hok.fresh hge
    have I1 := LamX.inv_table (t' := tk) (more := #[rawInt pos.line, rawInt pos.col, .ref c']) (h' := h'.push (ob "<lambda>" (X.env.qual ++ "<lambda>") params body scope (cloFrom X.env.cells scope.names []) ((X.mg "__name__").getD .none) (.ref c') ctv dV)) I hP
      (fun b o hb e => Heap.get?_push_of_some _ (hx b o hb e)) (Heap.get?_push_of_some _ htb) hge ⟨oc, vs, t, Heap.get?_push_of_some _ hoc, hd, hv⟩
    have eL : (ps ++ #[rawInt pos.line, rawInt pos.col, .ref c']).toList = ps.toList ++ [rawInt pos.line, rawInt pos.col, .ref c'] := by simp
    have low : ∀ b, H b = none → b < s.heap.objs.size → upd (upd H P (.tbl (ps ++ #[rawInt pos.line, rawInt pos.col, .ref c']))) c' (LamX.CodeO c' (X.env.qual ++ "<lambda>")) b = none := fun b e lt => by
      have n1 : b ≠ c' := fun z => by subst z; exact Nat.lt_irrefl _ (Nat.lt_of_lt_of_le lt hge)
      have n2 : b ≠ P := fun z => by rw [z, hP] at e; cases e
      rw [upd_ne n1, upd_ne n2]
      exact e
    refine h h'.objs.size c' ((X.mg "__name__").getD .none) ctv dV its _ _ I1 (.inr ⟨ps, _, hP, nC, rfl, by rw [eL]; exact PySem.TriplesOk_snoc _ _ _ _ ht, fun p' cv hcv => ?_⟩) hl ?_ (Heap.get?_push_size _ rfl) ?_ (nofr _ hsz) upd_same
    · rw [eL] at hcv
      exact LamX.among_app _ ht hcv
    · rcases hdv with z | ⟨T, o, n, ne, eT, ho, hd2, hT, hTf⟩
      · exact .inl z
      · have nP : T ≠ P := fun z => by rw [z, hP] at hT; cases hT
        exact .inr ⟨T, o, n, ne, eT, Heap.get?_push_of_some _ (hx T o nP ho), hd2, low T hT (Heap.lt_size ho), hTf⟩
    · have n1 : h'.objs.size ≠ c' := Nat.ne_of_gt hlt
      have n2 : h'.objs.size ≠ P := Nat.ne_of_gt (Nat.lt_of_lt_of_le (Heap.lt_size hP') hsz)
      rw [upd_ne n1, upd_ne n2]
      exact I.hok.fresh hsz
  | some cv =>
    obtain ⟨c', e, hco⟩ := ha pos cv hc
    subst e
    refine tail_hit (mg := X.mg) (c := c) (P := P) (ps := ps) (closure_ok hfree) I.ok.glob (I.mod.glob.keeps I.bk) hcode (TB.code.keeps I.bk) hP' ht hc bP fun ctv h' tk hx hsz => ?_
    have I1 : Inv X pins σ H { s with heap := h'.push (ob "<lambda>" (X.env.qual ++ "<lambda>") params body scope (cloFrom X.env.cells scope.names []) ((X.mg "__name__").getD .none) (.ref c') ctv dV), toks := tk } := I.kept fun b o e => Heap.get?_push_of_some _ (hx b o e)
    refine h h'.objs.size c' ((X.mg "__name__").getD .none) ctv dV its H _ I1 (.inl ⟨rfl, hco⟩) hl ?_ (Heap.get?_push_size _ rfl) (I.hok.fresh hsz) (nofr _ hsz) (SG _ _ hco)
    rcases hdv with z | ⟨T, o, n, ne, eT, ho, hd2, hT, hTf⟩
    · exact .inl z
    · exact .inr ⟨T, o, n, ne, eT, Heap.get?_push_of_some _ (hx T o ho), hd2, hT, hTf⟩
end
/-! ### the lambda's names -/
/-- parameters ns that no name of the def's bears, captured names, globals -/
structure Names (N : List Str) (sc scope : Scope) (ns : List Str) : Prop where
  kind : scope.kind = .function
  co : scope.isCoroutine = false
  gen : scope.isGenerator = false
  own : ∀ y ∈ scope.names, y.2 ≠ .cell
  loc : ∀ y ∈ scope.names, y.2 = .local → y.1 ∉ N
  par : ∀ y ∈ ns, scope.names.lookup y = some .local
  free : ∀ y ∈ scope.names, y.2 = .free → sc.names.lookup y.1 = some .cell ∨ sc.names.lookup y.1 = some .free
def namesB (N : List Str) (sc scope : Scope) (ns : List Str) : Bool :=
  decide (scope.kind = .function) && !scope.isCoroutine && !scope.isGenerator && (scope.names.all fun y => !decide (y.2 = .cell) && (!decide (y.2 = .local) || !N.contains y.1) && (!decide (y.2 = .free) || decide (sc.names.lookup y.1 = some .cell) || decide (sc.names.lookup y.1 = some .free))) && ns.all fun y => decide (scope.names.lookup y = some .local)
theorem names_by {N : List Str} {sc scope : Scope} {ns : List Str} (h : namesB N sc scope ns = true) : Names N sc scope ns := by
  unfold namesB at h
  simp only [Bool.and_eq_true, Bool.or_eq_true, Bool.not_eq_true', decide_eq_true_eq, decide_eq_false_iff_not, List.all_eq_true] at h
  obtain ⟨⟨⟨⟨h1, h2⟩, h3⟩, h4⟩, h5⟩ := h
  refine ⟨h1, h2, h3, fun y hy => (h4 y hy).1.1, fun y hy e hm => ?_, fun y hy => h5 y hy, fun y hy e => ?_⟩
  · rcases (h4 y hy).1.2 with z | z
    · exact z e
    · have : N.contains y.1 = true := by simpa using hm
      rw [z] at this; cases this
  · rcases (h4 y hy).2 with (z | z) | z
    · exact absurd e z
    · exact .inl z
    · exact .inr z
theorem Names.has {X : Cx} {scope : Scope} {ns : List Str} (L : Names X.N X.env.scope scope ns) (ok : X.Ok) : ∀ y ∈ scope.names, y.2 = .free → ∃ c, X.env.cells.lookup y.1 = some c := fun y hy e => by
  rcases L.free y hy e with k | k
  · exact ok.has _ (.inl k)
  · exact ok.has _ (.inr k)
section
variable {X : Cx} {pins : List (Addr × Obj)} {σ : L2.St} {H HZ : Hp} {s s1 : Shared}
theorem start {A : Around} {outer : List PySem.Env} {E : XK} {scope : Scope} {ns : List Str} {binds : List (Str × Value)} {f c' : Addr} {h₁ : Heap} {tk : Nat} (I : Inv X pins σ H s) (L : Names X.N X.env.scope scope ns) (e0 : Env0 X.prog X.w X.K X.mg X.base A outer s1 HZ) (hd : A.handled = none)
    (un : Un (frs X.stack) [] H HZ s.heap s1.heap) (hns : h₁.Ns s1.heap.objs.size fun y => binds.reverse.lookup y) (kp : ∀ b o, s1.heap.get? b = some o → h₁.get? b = some o) :
    Inv (LamX.lamCx X A outer s1 HZ E scope f c') [] σ HZ { s1 with heap := h₁, toks := tk } := by
  have hfree := L.has I.ok
  have cm : ∀ {y c}, (cloFrom X.env.cells scope.names []).lookup y = some c → X.env.cells.lookup y = some c := fun {y c} e => by
    rcases cloFrom_mem (PySem.mem_of_lookup e) with hm | ⟨h1, h2⟩
    · cases hm
    · obtain ⟨c1, hc⟩ := hfree _ h1 rfl
      have hc : X.env.cells.lookup y = some c1 := hc
      have e2 : c = c1 := by
        rw [h2, hc] <;> rfl
      rw [e2]
      exact hc
  have look : ∀ {y}, scope.names.lookup y = some .free → ∃ c, (cloFrom X.env.cells scope.names []).lookup y = some c := fun {y} hl => by
    have hy : (y, NameKind.free) ∈ scope.names := PySem.mem_of_lookup hl
    exact mem_lookup (cloFrom_has (cells := X.env.cells) (acc := []) hy)
  have cellK : ∀ {c : Addr} {v : Option Value}, H c = none → s.heap.IsCell c v → h₁.IsCell c v := fun {c v} n ⟨o, ho, hd⟩ => by
    obtain ⟨sl, q⟩ := un.any ho n (by simp)
    exact ⟨_, kp _ _ q, hd⟩
  have noA : ∀ b : Addr, b ∉ (LamX.lamCx X A outer s1 HZ E scope f c').ex := fun b z => absurd (show b ∈ ([] : List Addr) from z) (by simp)
  refine ⟨⟨e0.mod, L.kind, rfl, rfl, Nat.le_refl _, fun y z c e1 e2 => I.ok.inj y z c (cm e1) (cm e2), fun y hy => ?_, fun y c z _ => ?_, fun _ => hd, Around.frames_deeper e0.frames, .inr ⟨rfl, rfl⟩, fun b z => absurd z (noA b), e0.bs, e0.bsz, fun b _ _ => noA b,
      fun b z => absurd z (noA b), e0.funs, e0.frf⟩,
    rfl, e0.bare, Un.kept kp, ⟨_, hns, fun i y v e1 e2 e3 => ?_⟩, fun y c e => ?_, e0.hok.fresh (Nat.le_refl _), fun y c e => ?_, fun q hq => absurd (show q ∈ ([] : List (Addr × Obj)) ++ [] from hq) (by simp), e0.hok.kept kp, I.len⟩
  · have hy : scope.names.lookup y = some .cell ∨ scope.names.lookup y = some .free := hy
    rcases hy with hy | hy
    · exact absurd rfl (L.own _ (PySem.mem_of_lookup hy))
    · exact look hy
  · have z : false = true := z
    cases z
  · have e3 : Vis scope y := e3
    rcases e3 with k | k | k
    · have e1 : X.N[i]? = some y := e1
      exact absurd (List.mem_of_getElem? e1) (L.loc _ (PySem.mem_of_lookup k) rfl)
    · exact absurd rfl (L.own _ (PySem.mem_of_lookup k))
    · obtain ⟨m, hn, hl⟩ := I.loc
      have hvis : Vis X.env.scope y := (L.free _ (PySem.mem_of_lookup k) rfl).elim (fun k => .inr (.inl k)) (fun k => .inr (.inr k))
      obtain ⟨w', r, q⟩ := hl i y v e1 e2 hvis
      obtain ⟨c2, h2⟩ := look k
      refine ⟨w', r, .inr ⟨.inr k, c2, h2, ?_⟩⟩
      have c1 := cm h2
      rcases q with ⟨k', _⟩ | ⟨_, c3, e', z⟩
      · have k' : X.env.scope.names.lookup y = some .local := k'
        rcases L.free _ (PySem.mem_of_lookup k) rfl with k2 | k2 <;> rw [show X.env.scope.names.lookup y = _ from k2] at k' <;> cases k'
      · rw [c1] at e'
        cases e'
        exact cellK (I.freeC y _ c1) z
  · obtain ⟨w', z⟩ := I.cell y c (cm e)
    exact ⟨w', cellK (I.freeC y c (cm e)) z⟩
  · obtain ⟨v, o, ho, hd⟩ := I.cell y c (cm e)
    exact un.free c o ho (I.freeC y c (cm e)) (by simp)
/-- a(), in the def that got the lambda -/
theorem act {CXg : CXT} {Eg : XK} {Ng : List Str} {qg : Str} {sg : Scope} {g f c' : Addr} {cdg pm ctv dV : Value} {its : List Value} {ns : List Str} {params : Arguments} {body : Expr} {scope : Scope} {lpos : Pos} {k i : Nat} {a : Str} {pn : List (Addr × Obj)} {xe : Value → Shared → Prop} {W : WX} {tb : XK → TE} {p1 p2 : Pos}
    (I : Inv X pins σ H s) (L : Names X.N X.env.scope scope ns) (pr : Params X params body scope lpos ns) (hl : its.length = ns.length) (hdv : DV (frs X.stack) s.heap H dV its)
    (hf : s.heap.get? f = some (ob "<lambda>" (X.env.qual ++ "<lambda>") params body scope (cloFrom X.env.cells scope.names []) pm (.ref c') ctv dV)) (hfn : H f = none) (hfr : f ∉ frs X.stack)
    (tk : Takes ((cxOf CXg X.prog X.w X.K X.mg X.base Ng qg sg g cdg X.A X.stack s H Eg).tr pn xe) W) (hr : Room (k + 1) (X.A.deeper (envOfC qg sg s.heap.objs.size g cdg)))
    (hbody : ∀ (A : Around) (outer : List PySem.Env) (s : Shared) (H : Hp) (E : XK), Room k (A.deeper (LamX.lamEnv X scope s.heap.objs.size f c')) → A.guards = X.A.guards → PE (LamX.lamCx X A outer s H E scope f c') body (tb E))
    (hN : Ng[i]? = some a) (hv : Vis sg a) (hd : (a == ("__debug__" : Str)) = false := by decide) (hcd : (a == ("__classdict__" : Str)) = false := by decide) :
    PE ((cxOf CXg X.prog X.w X.K X.mg X.base Ng qg sg g cdg X.A X.stack s H Eg).tr pn xe) (.Call (.Name a p1) [] [] p2)
      (fun σZ HZ Q => σZ[i]? = some (some (.ref f)) ∧ HZ c' = some (LamX.CodeO c' (X.env.qual ++ "<lambda>")) ∧ tb (WE W σZ) σ HZ Q) := by
  refine ⟨fun pinsZ sZ σZ HZ Q IZ h => ?_⟩
  obtain ⟨hs, hc, ht⟩ := h
  refine wpAny_Call_Name_kw (thn ((pe_var (pos := p1) (i := i) hN hv hd hcd).run pinsZ sZ σZ HZ (fun v H1 => v = .ref f ∧ H1 = HZ) IZ ⟨.ref f, hs, rfl, rfl⟩) fun u s1 ⟨v, H1, I1, r1, q1⟩ => ?_)
  obtain ⟨ev, eH⟩ := q1
  subst ev
  rw [eH] at I1
  obtain rfl : u = Value.ref f := r1
  have keep1 : ∀ b o, s.heap.get? b = some o → H b = none → b ∉ frs X.stack → s1.heap.get? b = some o := fun b o e n nf => I1.base.keep b o e n nf (fun z => nomatch (show b ∈ ([] : List Addr) from z))
  have of1 := keep1 f _ hf hfn hfr
  refine PySem.W.callWith_F0 ⟨_, _, _, _, of1⟩ ?_
  have un : Un (frs X.stack) [] H HZ s.heap s1.heap := I1.base
  obtain ⟨⟨oc, vs, t, hoc, hdc, hvc⟩, _, _⟩ := I1.hok c' _ hc
  have dv1 : DV [] s1.heap (fun _ => none) dV its := by
    rcases hdv with z | ⟨T, o, n, ne, eT, ho, hd2, hT, hTf⟩
    · exact .inl z
    · exact .inr ⟨T, o, n, ne, eT, keep1 T o ho hT hTf, hd2, rfl, by simp⟩
  have rc : codeAny (model X.prog X.w) (X.A.deeper (envOfC qg sg s.heap.objs.size g cdg)) (.call (.ref f) ⟨[], []⟩) (CR (L2.CX X.prog X.w) (envOfC qg sg s.heap.objs.size g cdg :: X.stack) X.prog X.w HZ s1 Q (WE W σZ)) s1 := by
    refine PySem.W.kla_callFunE hr.depth of1 rfl L.co L.gen rfl ⟨c', oc, vs, t, rfl, hoc, hdc, hvc⟩ ?_
    refine (pr.bind _ s1.heap _ _ _ _ _ dV its [] (fun _ => none) hl dv1).here ?_
    refine wpAny_newFunctionEnv (fun y hy => L.own y hy) (fun y hy => ?_) (fun h₁ hns hsb => ⟨I1.nolimit.fresh _ hsb, ?_⟩) L.kind
    · obtain ⟨n, v⟩ := y
      exact L.par n (List.of_mem_zip hy).1
    show codeAny _ _ (.expr body (LamX.lamEnv X scope s1.heap.objs.size f c')) _ _
    have kp : ∀ b o, s1.heap.get? b = some o → h₁.get? b = some o := fun b o e => hsb.extBut b o (Nat.ne_of_lt (Heap.lt_size e)) (Heap.get?_push_of_some _ e)
    have J : Inv (LamX.lamCx X (X.A.deeper (envOfC qg sg s.heap.objs.size g cdg)) (envOfC qg sg s.heap.objs.size g cdg :: X.stack) s1 HZ (WE W σZ) scope f c') [] σ HZ { s1 with heap := h₁, toks := s1.toks + (ns.zip its).length } :=
      start I L I1.env0 hr.hd un hns kp
    refine PySem.W.kla_codeExpr (wpAny_mono ((hbody _ _ s1 HZ (WE W σZ) (hr.deeper _) (by simp [Around.deeper])).run [] _ _ HZ Q J ht) (fun v s' hq => ?_) fun e s' hq => hq)
    obtain ⟨w', H', J', rv, q⟩ := hq
    exact ⟨w', H', J'.os, J'.bare, J'.base, J'.hok, rv, q⟩
  refine wpAny_call (codeAny_mono rc fun r s' hq => ?_)
  cases r with
  | error e => exact passAt tk σZ pinsZ HZ s1 e s' I1 hq
  | ok fl =>
    cases fl with
    | ret u => exact I1.after hq
    | next => exact False.elim hq
    | brk => exact False.elim hq
    | cont => exact False.elim hq
end
end Fx.Lam

set_option Elab.async false
set_option linter.all false
set_option maxRecDepth 100000
set_option maxHeartbeats 4000000
/-! A def's slots seen from a lambda: all its own containers as a caller's. -/
namespace Fx
open PySem L2
variable [Tb]
def toPa : Sl → Sl
  | .lo d => .pa d
  | x => x
/-- what the slots hold behind the lambda -/
def rePa : Env → Env → Env
  | .lo _ :: ρ, .pa d :: ρ' => .lo d :: rePa ρ ρ'
  | _ :: ρ, x :: ρ' => x :: rePa ρ ρ'
  | _, _ => []
def okRe : Env → Env → Bool
  | [], [] => true
  | .lo _ :: ρ, .pa _ :: ρ' => okRe ρ ρ'
  | .pa _ :: ρ, .pa _ :: ρ' => okRe ρ ρ'
  | .im _ :: ρ, .im _ :: ρ' => okRe ρ ρ'
  | _ :: ρ, .no :: ρ' => okRe ρ ρ'
  | _, _ => false
theorem toPa_own {x : Sl} (h : (toPa x).own) : x.own := by cases x <;> first | trivial | exact h
theorem okRe_spec : ∀ {ρ ρ' : Env}, okRe ρ ρ' = true → (rePa ρ ρ').length = ρ.length ∧ ∀ (i : Nat) z, (rePa ρ ρ')[i]? = some z → z = .no ∨ (∃ d, z = .im d ∧ ρ'[i]? = some (.im d)) ∨ (∃ d e, z = .lo d ∧ ρ'[i]? = some (.pa d) ∧ ρ[i]? = some (.lo e)) ∨ ∃ d e, z = .pa d ∧ ρ'[i]? = some (.pa d) ∧ ρ[i]? = some (.pa e)
  | [], [], _ => ⟨rfl, fun i z e => by simp [rePa] at e⟩
  | x :: ρ, y :: ρ', h => by
    have step : okRe ρ ρ' = true ∧ (rePa (x :: ρ) (y :: ρ')).length = (rePa ρ ρ').length + 1 ∧ (∀ i, (rePa (x :: ρ) (y :: ρ'))[i + 1]? = (rePa ρ ρ')[i]?) ∧ ∀ z, (rePa (x :: ρ) (y :: ρ'))[0]? = some z →
        z = .no ∨ (∃ d, z = .im d ∧ y = .im d) ∨ (∃ d e, z = .lo d ∧ y = .pa d ∧ x = .lo e) ∨ ∃ d e, z = .pa d ∧ y = .pa d ∧ x = .pa e := by
      cases x <;> cases y <;> first
        | (exfalso; simp [okRe] at h; done)
        | (refine ⟨by simpa [okRe] using h, by simp [rePa], fun i => by simp [rePa], fun z e => ?_⟩
           simp [rePa] at e
           subst e
           simp)
    obtain ⟨h1, h2, h3, h4⟩ := step
    obtain ⟨k1, k2⟩ := okRe_spec h1
    refine ⟨by rw [h2, k1]; rfl, fun i z e => ?_⟩
    cases i with
    | zero =>
      rcases h4 z e with q | ⟨d, q1, q2⟩ | ⟨d, e', q1, q2, q3⟩ | ⟨d, e', q1, q2, q3⟩
      · exact .inl q
      · exact .inr (.inl ⟨d, q1, by rw [q2]; rfl⟩)
      · exact .inr (.inr (.inl ⟨d, e', q1, by rw [q2]; rfl, by rw [q3]; rfl⟩))
      · exact .inr (.inr (.inr ⟨d, e', q1, by rw [q2]; rfl, by rw [q3]; rfl⟩))
    | succ i =>
      rw [h3] at e
      simpa using k2 i z e
  | [], _ :: _, h => by simp [okRe] at h
  | x :: _, [], h => by cases x <;> simp [okRe] at h
/-- the cells of one's own containers -/
def adrW (σ : L2.St) (ρ : Env) (i : Nat) : Option Addr := match ρ[i]?, σ[i]? with
  | some (.lo _), some (some (.ref a)) => some a
  | some (.pa _), some (some (.ref a)) => some a
  | _, _ => none
theorem adrW_some {σ : L2.St} {ρ : Env} {i : Nat} {a : Addr} (h : adrW σ ρ i = some a) : ∃ x, ρ[i]? = some x ∧ x.own ∧ σ[i]? = some (some (.ref a)) := by
  unfold adrW at h
  split at h
  · rename_i d a' e1 e2
    cases h
    exact ⟨_, e1, trivial, e2⟩
  · rename_i d a' e1 e2
    cases h
    exact ⟨_, e1, trivial, e2⟩
  · cases h
theorem adrW_mk {σ : L2.St} {ρ : Env} {i : Nat} {a : Addr} {x : Sl} (e : ρ[i]? = some x) (o : x.own) (es : σ[i]? = some (some (.ref a))) : adrW σ ρ i = some a := by
  unfold adrW
  rw [e, es]
  cases x <;> first | rfl | exact o.elim
section
variable {M : Md} {g : Gm} {Hf H : Hp} {σ : L2.St} {ρ : Env}
theorem Rep0.ownLoc (R : Rep0 M g Hf σ H ρ) {i : Nat} {x : Sl} (e : ρ[i]? = some x) (o : x.own) : ∃ d a, (x = .lo d ∨ x = .pa d) ∧ σ[i]? = some (some (.ref a)) ∧ LocAt M Hf H d (.ref a) := by
  cases x with
  | no => exact o.elim
  | im _ => exact o.elim
  | lo d =>
    obtain ⟨a, h1, _, h3⟩ := R.lo i d e
    exact ⟨d, a, .inl rfl, h1, h3⟩
  | pa d =>
    obtain ⟨a, h1, _, h3⟩ := R.pa i d e
    exact ⟨d, a, .inr rfl, h1, h3⟩
theorem Rep0.adrLoc (R : Rep0 M g Hf σ H ρ) {i : Nat} {a : Addr} (h : adrW σ ρ i = some a) : H a ≠ none ∧ Hf a = none := by
  obtain ⟨x, e, o, es⟩ := adrW_some h
  obtain ⟨d, a', _, es', l⟩ := R.ownLoc e o
  rw [es] at es'
  cases es'
  obtain ⟨_, ea, n, hh⟩ := l.ref
  cases ea
  exact ⟨hh, n⟩
theorem map_get {i : Nat} {z : Sl} (h : (ρ.map toPa)[i]? = some z) : ∃ x, ρ[i]? = some x ∧ z = toPa x := by
  rw [List.getElem?_map] at h
  cases q : ρ[i]? with
  | none => rw [q] at h; cases h
  | some x => rw [q] at h; cases h; exact ⟨x, rfl, rfl⟩
/-- from now on all that is there counts as a caller's -/
theorem Rep0.rebase (R : Rep0 M g Hf σ H ρ) : Rep0 M ⟨H, Hf, adrW σ ρ⟩ Hf σ H (ρ.map toPa) := by
  refine ⟨by rw [List.length_map]; exact R.len, R.sub, Same.refl _, fun b o e _ => .inl e, fun b e => .inl e, fun i d e => ?_, fun i d e => ?_, fun i d e => ?_, fun i j x y ne ex ey ox oy => ?_, fun a ⟨i, z⟩ => R.adrLoc z, fun a ⟨i, z⟩ => (R.adrLoc z).1, R.tb, fun P q h => ⟨R.tn h, fun z => by
    have z : H P = none := z
    obtain ⟨ps, e, _⟩ := R.tb P q h
    rw [z] at e; cases e⟩⟩
  · obtain ⟨x, e1, e2⟩ := map_get e
    cases x <;> cases e2
    exact R.im i d e1
  · obtain ⟨x, e1, e2⟩ := map_get e
    cases x <;> cases e2
  · obtain ⟨x, e1, e2⟩ := map_get e
    cases x with
    | no => cases e2
    | im _ => cases e2
    | lo d' =>
      cases e2
      obtain ⟨a, h1, _, h3⟩ := R.lo i d e1
      exact ⟨a, h1, adrW_mk e1 trivial h1, h3⟩
    | pa d' =>
      cases e2
      obtain ⟨a, h1, _, h3⟩ := R.pa i d e1
      exact ⟨a, h1, adrW_mk e1 trivial h1, h3⟩
  · obtain ⟨x', e1, rfl⟩ := map_get ex
    obtain ⟨y', e2, rfl⟩ := map_get ey
    exact R.inj i j x' y' ne e1 e2 (toPa_own ox) (toPa_own oy)
/-- back to what was one's own -/
theorem Rep0.unbase (R : Rep0 M g Hf σ H ρ) {Hf' H' : Hp} {ρ' : Env} (R' : Rep0 M ⟨H, Hf, adrW σ ρ⟩ Hf' σ H' ρ') (ok : okRe ρ ρ' = true) : Rep0 M g Hf' σ H' (rePa ρ ρ') := by
  obtain ⟨len, sp⟩ := okRe_spec ok
  have notPa : ∀ {b : Addr}, g.H0 b ≠ none → ¬ g.pa b → ¬ Gm.pa ⟨H, Hf, adrW σ ρ⟩ b := fun {b} h0 np ⟨i, z⟩ => by
    obtain ⟨x, e, o, es⟩ := adrW_some z
    cases x with
    | no => exact o
    | im _ => exact o
    | lo d =>
      obtain ⟨a, h1, h2, _⟩ := R.lo i d e
      rw [es] at h1; cases h1
      exact h0 h2
    | pa d =>
      obtain ⟨a, h1, h2, _⟩ := R.pa i d e
      rw [es] at h1; cases h1
      exact np ⟨i, h2⟩
  have old : ∀ {b : Addr}, H b = none → g.H0 b = none := fun {b} z => by
    cases q : g.H0 b with
    | none => rfl
    | some o =>
      by_cases w : g.pa b
      · exact absurd z (R.paH b w).1
      · exact absurd z (R.fr b o q w).ne
  have own : ∀ {i : Nat} {z : Sl}, (rePa ρ ρ')[i]? = some z → z.own → ∃ x, ρ[i]? = some x ∧ x.own := fun {i z} e o => by
    rcases sp i z e with q | ⟨d, q, _⟩ | ⟨d, e', _, _, q⟩ | ⟨d, e', _, _, q⟩
    · subst q; exact o.elim
    · subst q; exact o.elim
    · exact ⟨_, q, trivial⟩
    · exact ⟨_, q, trivial⟩
  refine ⟨len.trans R.len, R'.sub, R.gr.trans R'.gr, fun b o e np => (R.fr b o e np).trans fun o' e' => R'.fr b o' e' (notPa (by rw [e]; simp) np), fun b e => ?_, fun i d e => ?_, fun i d e => ?_, fun i d e => ?_, fun i j x y ne ex ey ox oy => ?_, fun a z => ?_, R.paO, R'.tb, R.tg⟩
  · rcases R'.fz b e with z | z
    · exact R.fz b z
    · exact .inr (old z)
  · rcases sp i _ e with q | ⟨d', q, k⟩ | ⟨d', e', q, _, _⟩ | ⟨d', e', q, _, _⟩
    · cases q
    · cases q; exact R'.im i d k
    · cases q
    · cases q
  · rcases sp i _ e with q | ⟨d', q, k⟩ | ⟨d', e', q, k1, k2⟩ | ⟨d', e', q, _, _⟩
    · cases q
    · cases q
    · cases q
      obtain ⟨a, h1, _, h3⟩ := R'.pa i d k1
      obtain ⟨a', j1, j2, _⟩ := R.lo i e' k2
      rw [h1] at j1; cases j1
      exact ⟨a, h1, j2, h3⟩
    · cases q
  · rcases sp i _ e with q | ⟨d', q, k⟩ | ⟨d', e', q, k1, k2⟩ | ⟨d', e', q, k1, k2⟩
    · cases q
    · cases q
    · cases q
    · cases q
      obtain ⟨a, h1, _, h3⟩ := R'.pa i d k1
      obtain ⟨a', j1, j2, _⟩ := R.pa i e' k2
      rw [h1] at j1; cases j1
      exact ⟨a, h1, j2, h3⟩
  · obtain ⟨x', e1, o1⟩ := own ex ox
    obtain ⟨y', e2, o2⟩ := own ey oy
    exact R.inj i j x' y' ne e1 e2 o1 o2
  · obtain ⟨h1, h2⟩ := R.paH a z
    refine ⟨?_, ?_⟩
    · cases q : H a with
      | none => exact absurd q h1
      | some o =>
        by_cases w : Gm.pa ⟨H, Hf, adrW σ ρ⟩ a
        · exact (R'.paH a w).1
        · exact (R'.fr a o q w).ne
    · cases q : Hf' a with
      | none => rfl
      | some u =>
        rcases R'.fz a (by rw [q]; simp) with z | z
        · exact absurd h2 z
        · exact absurd z h1
end
/-! ### slots ahead of others -/
def shA (n : Nat) (adr : Nat → Option Addr) (i : Nat) : Option Addr := if i < n then none else adr (i - n)
theorem shA_add {n i : Nat} {adr : Nat → Option Addr} : shA n adr (n + i) = adr i := by
  unfold shA
  rw [if_neg (by omega)]
  congr 1
  omega
theorem shA_some {n i : Nat} {adr : Nat → Option Addr} {a : Addr} (h : shA n adr i = some a) : ∃ j, i = n + j ∧ adr j = some a := by
  unfold shA at h
  split at h
  · cases h
  · exact ⟨i - n, by omega, h⟩
theorem shA_pa {n : Nat} {H F : Hp} {adr : Nat → Option Addr} {a : Addr} : Gm.pa ⟨H, F, shA n adr⟩ a ↔ Gm.pa ⟨H, F, adr⟩ a :=
  ⟨fun ⟨i, h⟩ => let ⟨j, _, e⟩ := shA_some h; ⟨j, e⟩, fun ⟨j, e⟩ => ⟨n + j, by show shA n adr (n + j) = _; rw [shA_add]; exact e⟩⟩
section
variable {M : Md} {H0 F0 : Hp} {adr : Nat → Option Addr} {Hf H : Hp} {σ σn : L2.St} {ρ ρn : Env}
theorem app_get {α : Type} {l k : List α} {i : Nat} {x : α} (h : (l ++ k)[i]? = some x) : (i < l.length ∧ l[i]? = some x) ∨ ∃ j, i = l.length + j ∧ k[j]? = some x := by
  by_cases lt : i < l.length
  · rw [List.getElem?_append_left lt] at h; exact .inl ⟨lt, h⟩
  · rw [List.getElem?_append_right (by omega)] at h
    exact .inr ⟨i - l.length, by omega, h⟩
theorem app_add {α : Type} {l k : List α} {j : Nat} : (l ++ k)[l.length + j]? = k[j]? := by
  rw [List.getElem?_append_right (by omega)]
  congr 1
  omega
/-- slots without containers are put ahead -/
theorem Rep0.front (R : Rep0 M ⟨H0, F0, adr⟩ Hf σ H ρ) (hl : ρn.length = σn.length) (hn : ∀ (i : Nat) x, ρn[i]? = some x → x = .no ∨ ∃ d v, x = .im d ∧ σn[i]? = some (some v) ∧ Has M Hf d v) : Rep0 M ⟨H0, F0, shA ρn.length adr⟩ Hf (σn ++ σ) H (ρn ++ ρ) := by
  have at_ : ∀ {j : Nat}, (σn ++ σ)[ρn.length + j]? = σ[j]? := fun {j} => by rw [hl]; exact app_add
  have own : ∀ {i : Nat} {x : Sl}, (ρn ++ ρ)[i]? = some x → x.own → ∃ j, i = ρn.length + j ∧ ρ[j]? = some x := fun {i x} e o => by
    rcases app_get e with ⟨_, q⟩ | q
    · rcases hn i x q with z | ⟨d, v, z, _⟩ <;> (subst z; exact o.elim)
    · exact q
  refine ⟨by simp [hl, R.len], R.sub, R.gr, fun b o e np => R.fr b o e fun z => np (shA_pa.mpr z), R.fz, fun i d e => ?_, fun i d e => ?_, fun i d e => ?_, fun i j x y ne ex ey ox oy => ?_, fun a z => R.paH a (shA_pa.mp z), fun a z => R.paO a (shA_pa.mp z), R.tb, R.tg⟩
  · rcases app_get e with ⟨lt, q⟩ | ⟨j, rfl, q⟩
    · rcases hn i _ q with z | ⟨d', v, z, h1, h2⟩
      · cases z
      · cases z; exact ⟨v, get_app h1, h2⟩
    · rw [at_]; exact R.im j d q
  · obtain ⟨j, rfl, q⟩ := own e trivial
    rw [at_]; exact R.lo j d q
  · obtain ⟨j, rfl, q⟩ := own e trivial
    obtain ⟨a, h1, h2, h3⟩ := R.pa j d q
    exact ⟨a, at_.trans h1, shA_add.trans h2, h3⟩
  · obtain ⟨i', rfl, q1⟩ := own ex ox
    obtain ⟨j', rfl, q2⟩ := own ey oy
    rw [at_, at_]
    exact R.inj i' j' x y (fun z => ne (by rw [z])) q1 q2 ox oy
/-- .. and left out again -/
theorem Rep0.behind (R : Rep0 M ⟨H0, F0, shA ρn.length adr⟩ Hf (σn ++ σ) H (ρn ++ ρ)) (hl : ρn.length = σn.length) : Rep0 M ⟨H0, F0, adr⟩ Hf σ H ρ := by
  have at_ : ∀ {j : Nat}, (σn ++ σ)[ρn.length + j]? = σ[j]? := fun {j} => by rw [hl]; exact app_add
  have up : ∀ {j : Nat} {x : Sl}, ρ[j]? = some x → (ρn ++ ρ)[ρn.length + j]? = some x := fun {j x} e => app_add.trans e
  refine ⟨by have := R.len; simp [hl] at this; exact this, R.sub, R.gr, fun b o e np => R.fr b o e fun z => np (shA_pa.mp z), R.fz, fun i d e => ?_, fun i d e => ?_, fun i d e => ?_, fun i j x y ne ex ey ox oy => ?_, fun a z => R.paH a (shA_pa.mpr z), fun a z => R.paO a (shA_pa.mpr z), R.tb, R.tg⟩
  · have := R.im _ d (up e)
    rw [at_] at this; exact this
  · have := R.lo _ d (up e)
    rw [at_] at this; exact this
  · obtain ⟨a, h1, h2, h3⟩ := R.pa _ d (up e)
    exact ⟨a, at_.symm.trans h1, shA_add.symm.trans h2, h3⟩
  · have := R.inj _ _ x y (fun z => ne (by omega)) (up ex) (up ey) ox oy
    rw [at_, at_] at this; exact this
end
end Fx

set_option Elab.async false
set_option linter.all false
set_option maxRecDepth 100000
set_option maxHeartbeats 4000000
/-! A def that calls what it got in a try, and keeps the exception; a lambda handed to it. -/
namespace Fx
open PySem L2
variable [Tb]
section
variable {M : Md} {g : Gm} {Hf H H1 : Hp} {σ : L2.St} {ρ : Env}
theorem Rep0.table (R : Rep0 M g Hf σ H ρ) {P : Addr} {q : Str} {ps' : Array Value} (w : Tb.tab P q) (new : ∀ q', Tb.tab P q' → TabF Hf (upd H P (.tbl ps')) P q') : Rep0 M g Hf σ (upd H P (.tbl ps')) ρ := by
  obtain ⟨ps, hP, _⟩ := R.tb P q w
  have hn := R.tn w
  have loc : ∀ {d : D} {a : Addr}, LocAt M Hf H d (.ref a) → LocAt M Hf (upd H P (.tbl ps')) d (.ref a) := fun {d a} l => by
    have ne : a ≠ P := fun z => l.ntb (z ▸ hP)
    obtain ⟨_, ea, n, _⟩ := l.ref
    cases ea
    exact l.stay (Same.refl _) n (upd_ne ne)
  refine ⟨R.len, fun b u e => ?_, R.gr, fun b o e np => ?_, R.fz, R.im, fun i d e => ?_, fun i d e => ?_, R.inj, fun a z => ?_, R.paO, fun P' q' w' => ?_, R.tg⟩
  · rw [upd_ne (fun z => by rw [z, hn] at e; cases e)]
    exact R.sub b u e
  · by_cases c : b = P
    · subst c
      rw [upd_same]
      rcases R.fr b o e np with z | ⟨t, _⟩
      · rw [hP] at z; cases z; exact .inr ⟨rfl, _, rfl, rfl⟩
      · exact .inr ⟨t, _, rfl, rfl⟩
    · rw [upd_ne c]; exact R.fr b o e np
  · obtain ⟨a, h1, h2, h3⟩ := R.lo i d e
    exact ⟨a, h1, h2, loc h3⟩
  · obtain ⟨a, h1, h2, h3⟩ := R.pa i d e
    exact ⟨a, h1, h2, loc h3⟩
  · by_cases c : a = P
    · subst c; rw [upd_same]; exact ⟨by simp, (R.paH a z).2⟩
    · rw [upd_ne c]; exact R.paH a z
  · by_cases c : P' = P
    · subst c; exact new q' w'
    · exact (R.tb P' q' w').keep (Same.refl _) fun ps e => by rw [upd_ne c]; exact e
theorem Rep0.made {P c' : Addr} {q : Str} (R : Rep0 M g Hf σ H ρ) (w : Tb.tab P q) (uq : ∀ q', Tb.tab P q' → q' = q) (m : Lam.Made Hf H H1 P c' q) : ∃ Hf1, Same Hf Hf1 ∧ Rep0 M g Hf1 σ H1 ρ ∧ Hf1 c' = some (LamX.CodeO c' q) := by
  rcases m with ⟨rfl, hG⟩ | ⟨ps, more, hP, nC, rfl, ht, am⟩
  · exact ⟨Hf, Same.refl _, R, hG⟩
  · obtain ⟨S, R1⟩ := R.lay nC (LamX.CodeO c' q)
    have ne : P ≠ c' := ne_of_none hP nC
    have ec : upd (upd H P (.tbl (ps ++ more))) c' (LamX.CodeO c' q) = upd (upd H c' (LamX.CodeO c' q)) P (.tbl (ps ++ more)) := by
      funext b
      by_cases h1 : b = c'
      · subst h1; rw [upd_same, upd_ne (Ne.symm ne), upd_same]
      · by_cases h2 : b = P
        · subst h2; rw [upd_ne h1, upd_same, upd_same]
        · rw [upd_ne h1, upd_ne h2, upd_ne h2, upd_ne h1]
    rw [ec]
    refine ⟨_, S, R1.table w fun q' w' => ?_, upd_same⟩
    rw [uq q' w']
    refine ⟨_, upd_same, ht, fun pos cv hc => ?_⟩
    rcases am pos cv hc with z | z
    · obtain ⟨ps0, e0, _, h0⟩ := R.tb P q w
      rw [hP] at e0
      cases e0
      obtain ⟨c, e1, e2⟩ := h0 pos cv z
      exact ⟨c, e1, S _ _ e2⟩
    · exact ⟨c', z, upd_same⟩
end
/-- the code object and the table behind a def's lambdas -/
structure TabL (base : Heap) (mg : Str → Option Value) (code : Value) (q : Str) : Prop where
  ex : ∃ c P, code = .ref c ∧ LamX.TabB base mg c P ∧ Tb.tab P q ∧ ∀ q', Tb.tab P q' → q' = q
/-- what comes back, as data -/
def outH (r : Rz (Env × Fl)) (ρ' : Env) : Rz (Env × D) := match r with
  | .ok (ρZ, .rt r) => (match use ρZ r with
    | .ok p => .ok (ρ', p.2)
    | _ => .no)
  | _ => .no
theorem outH_noex {r : Rz (Env × Fl)} {ρ' : Env} {x : Exn} {ρ : Env} : outH r ρ' ≠ .ex x ρ := by
  unfold outH
  intro h
  split at h
  · split at h <;> cases h
  · cases h
def envOk (n : Nat) (d : D) : Env := .no :: .im d :: .im .non :: List.replicate (n - 3) .no
def envEx (n : Nat) (e : Exn) : Env := .no :: .im .non :: .im (exnD e) :: List.replicate (n - 3) .no
def vHeard (n : Nat) (es : List Str) (gR : Env → Rz (Env × Fl)) (m : Env → Rz (Env × D)) : Env → Rz (Env × D) := fun ρ => match m (ρ.map toPa) with
  | .ok (ρ1, d) => if okRe ρ ρ1 then outH (gR (envOk n d)) (rePa ρ ρ1) else .no
  | .ex e ρ1 => if es.contains e.c && okRe ρ ρ1 then outH (gR (envEx n e)) (rePa ρ ρ1) else .no
  | .no => .no
theorem vHeard_noex {n : Nat} {es : List Str} {gR : Env → Rz (Env × Fl)} {m : Env → Rz (Env × D)} {ρ : Env} {x : Exn} {ρ' : Env} : vHeard n es gR m ρ ≠ .ex x ρ' := by
  unfold vHeard
  intro h
  split at h
  · split at h
    · exact outH_noex h
    · cases h
  · split at h
    · exact outH_noex h
    · cases h
  · cases h
/-- the reading of the lambda's body -/
def tBody (M : Md) (m : Env → Rz (Env × D)) (E : XK) : TE := rdV M (fun c d _ H' => E c d H') m
theorem get3 {α : Type} {l : List α} {n : Nat} (h : l.length = n) (hn : 4 ≤ n) : ∃ a b c d r, l = a :: b :: c :: d :: r ∧ r.length = n - 4 := by
  match l, h with
  | a :: b :: c :: d :: r, h => exact ⟨a, b, c, d, r, rfl, by simp at h; omega⟩
  | [], h => simp at h; omega
  | [_], h => simp at h; omega
  | [_, _], h => simp at h; omega
  | [_, _, _], h => simp at h; omega
/-- the slots of the def that heard, ahead of those of the def that asks -/
theorem heard_rep {M : Md} {H1 Hf1 Hf3 H3 : Hp} {σL σZ : L2.St} {ρL1 ρn : Env} {adr : Nat → Option Addr} {n : Nat} (hn : ρn.length = n) (R3 : Rep0 M ⟨H1, Hf1, adr⟩ Hf3 σL H3 ρL1) (hl : ρn.length = σZ.length)
    (ok : ∀ (i : Nat) x, ρn[i]? = some x → x = .no ∨ ∃ d v, x = .im d ∧ σZ[i]? = some (some v) ∧ Has M Hf3 d v) : Rep M ⟨⟨H1, Hf1, shA n adr⟩, σL, ρL1⟩ Hf3 σZ H3 ρn := by
  subst hn
  exact ⟨hl, R3.front hl ok⟩
theorem repl_no {k i : Nat} {x : Sl} (h : (List.replicate k Sl.no)[i]? = some x) : x = .no := by
  rw [List.getElem?_replicate] at h
  split at h
  · cases h; rfl
  · cases h
theorem envOk_get {n : Nat} {d : D} {i : Nat} {x : Sl} (h : (envOk n d)[i]? = some x) : x = .no ∨ (i = 1 ∧ x = .im d) ∨ (i = 2 ∧ x = .im .non) := by
  unfold envOk at h
  match i, h with
  | 0, h => cases h; exact .inl rfl
  | 1, h => cases h; exact .inr (.inl ⟨rfl, rfl⟩)
  | 2, h => cases h; exact .inr (.inr ⟨rfl, rfl⟩)
  | i + 3, h => exact .inl (repl_no (by simpa using h))
theorem envEx_get {n : Nat} {e : Exn} {i : Nat} {x : Sl} (h : (envEx n e)[i]? = some x) : x = .no ∨ (i = 1 ∧ x = .im .non) ∨ (i = 2 ∧ x = .im (exnD e)) := by
  unfold envEx at h
  match i, h with
  | 0, h => cases h; exact .inl rfl
  | 1, h => cases h; exact .inr (.inl ⟨rfl, rfl⟩)
  | 2, h => cases h; exact .inr (.inr ⟨rfl, rfl⟩)
  | i + 3, h => exact .inl (repl_no (by simpa using h))
/-- what the try asks for: ask() in slot 0, its value into slot 1 -/
def tAsk (f c' : Addr) (q : Str) (tl : XK → Hp → VK → Prop) (W : WX) : TS := tAsg (fun σZ HZ Q => σZ[0]? = some (some (.ref f)) ∧ HZ c' = some (LamX.CodeO c' q) ∧ tl (WE W σZ) HZ Q) (gName 1)
section
variable {K : PySem.W.Frag} {mg : Str → Option Value} {n : Nat} {es : List Str} {gR : Env → Rz (Env × Fl)} {m : Env → Rz (Env × D)} {g1 : Env → Rz (Env × Fl)} {xc : Str}
/-- the wish of the def's body, from the wish at the call -/
theorem heard_wish {CS f c' : Addr} {q : Str} {Γ : Gh} {Hf1 H1 : Hp} {σL : L2.St} {ρL : Env} {Q : VK} {N : List Str} (hn : N.length = n) (h4 : 4 ≤ n) (R : Rep ⟨K, mg⟩ Γ Hf1 σL H1 ρL) (hc' : Hf1 c' = some (LamX.CodeO c' q)) (C : mg xc = some (.ref CS) ∧ ∀ c ∈ es, ∃ C, mg c = some (.ref C) ∧ PySem.W.exmOne K (.ref C) (.ref CS) = some true)
    (hg1 : ∀ o, g1 (.im o :: List.replicate (n - 1) .no) = .ok (.im o :: .im .non :: .im .non :: List.replicate (n - 3) .no, .nx))
    (hw : (vHeard n es gR m ρL).wp (fun p => ∀ Hf' H' v, Same Hf1 Hf' → Rep ⟨K, mg⟩ Γ Hf' σL H' p.1 → Has ⟨K, mg⟩ Hf' p.2 v → Q v H') fun _ _ => False) :
    tSeq (rdS ⟨K, mg⟩ W0 g1) (tSeq (fun D σ H => tAsk f c' q (fun E H' Q' => tBody ⟨K, mg⟩ m E σL H' Q') (wKeep K (.ref CS) 3 2 W0 D) D σ H) (rdS ⟨K, mg⟩ W0 gR)) { nx := fun _ H' => Q .non H', rt := Q } (L2.start N [.ref f]) H1 := by
  -- the end of the rest
  have fin : ∀ {Hf3 H3 : Hp} {σZ : L2.St} {ρ1 ρn : Env}, ρn.length = n → Same Hf1 Hf3 → Rep0 ⟨K, mg⟩ ⟨H1, Hf1, adrW (σL ++ Γ.τ) (ρL ++ Γ.γ)⟩ Hf3 (σL ++ Γ.τ) H3 (ρ1 ++ Γ.γ.map toPa) → okRe ρL ρ1 = true → ρn.length = σZ.length →
      (∀ (i : Nat) x, ρn[i]? = some x → x = .no ∨ ∃ d v, x = .im d ∧ σZ[i]? = some (some v) ∧ Has ⟨K, mg⟩ Hf3 d v) →
      (outH (gR ρn) (rePa ρL ρ1)).wp (fun p => ∀ Hf' H' v, Same Hf1 Hf' → Rep ⟨K, mg⟩ Γ Hf' σL H' p.1 → Has ⟨K, mg⟩ Hf' p.2 v → Q v H') (fun _ _ => False) →
      rdS ⟨K, mg⟩ W0 gR { nx := fun _ H' => Q .non H', rt := Q } σZ H3 := by
    intro Hf3 H3 σZ ρ1 ρn ln S3 R3 okr hl hok hw
    refine ⟨_, Hf3, ρn, heard_rep ln R3 hl hok, ?_⟩
    unfold outH at hw
    cases u : gR ρn with
    | no => rw [u] at hw; exact hw.elim
    | ex _ _ => rw [u] at hw; exact hw.elim
    | ok p =>
      obtain ⟨ρZ, fl⟩ := p
      rw [u] at hw
      cases fl with
      | nx => exact hw.elim
      | bk => exact hw.elim
      | ct => exact hw.elim
      | rt r =>
        intro Hf4 σ4 H4 hl4 S4 R4 v hv
        replace hw : (match use ρZ r with | .ok p => Rz.ok (rePa ρL ρ1, p.2) | _ => Rz.no).wp _ _ := hw
        cases u2 : use ρZ r with
        | no => rw [u2] at hw; exact hw.elim
        | ex _ _ => rw [u2] at hw; exact hw.elim
        | ok p2 =>
          rw [u2] at hw
          obtain ⟨Hf5, S5, R5, hd⟩ := R4.use hv (ρ' := p2.1) (d := p2.2) u2
          have L5 : p2.1.length = n := by rw [R5.len, hl4, ← hl, ln]
          have R6 : Rep0 ⟨K, mg⟩ ⟨H1, Hf1, adrW (σL ++ Γ.τ) (ρL ++ Γ.γ)⟩ Hf5 (σL ++ Γ.τ) H4 (ρ1 ++ Γ.γ.map toPa) := by
            have := R5.r0
            rw [← L5] at this
            exact Rep0.behind (ρn := p2.1) (σn := σ4) this R5.len
          have okA : okRe (ρL ++ Γ.γ) (ρ1 ++ Γ.γ.map toPa) = true ∧ rePa (ρL ++ Γ.γ) (ρ1 ++ Γ.γ.map toPa) = rePa ρL ρ1 ++ Γ.γ := by
            have self : ∀ γ : Env, okRe γ (γ.map toPa) = true ∧ rePa γ (γ.map toPa) = γ := by
              intro γ
              induction γ with
              | nil => exact ⟨rfl, rfl⟩
              | cons x γ ih =>
                obtain ⟨i1, i2⟩ := ih
                cases x <;> simp [okRe, rePa, toPa, i1, i2]
            have app : ∀ (ρ ρ' γ γ' : Env), okRe ρ ρ' = true → okRe γ γ' = true → okRe (ρ ++ γ) (ρ' ++ γ') = true ∧ rePa (ρ ++ γ) (ρ' ++ γ') = rePa ρ ρ' ++ rePa γ γ' := by
              intro ρ
              induction ρ with
              | nil =>
                intro ρ' γ γ' h1 h2
                cases ρ' with
                | nil => exact ⟨h2, rfl⟩
                | cons _ _ => simp [okRe] at h1
              | cons x ρ ih =>
                intro ρ' γ γ' h1 h2
                cases ρ' with
                | nil => cases x <;> simp [okRe] at h1
                | cons y ρ' =>
                  have h1' : okRe ρ ρ' = true := by cases x <;> cases y <;> first | (simpa [okRe] using h1) | (exfalso; simp [okRe] at h1; done)
                  obtain ⟨i1, i2⟩ := ih ρ' γ γ' h1' h2
                  cases x <;> cases y <;> first | (exfalso; simp [okRe] at h1; done) | (simp [okRe, rePa, i1, i2])
            obtain ⟨s1, s2⟩ := self Γ.γ
            obtain ⟨a1, a2⟩ := app ρL ρ1 Γ.γ (Γ.γ.map toPa) okr s1
            exact ⟨a1, by rw [a2, s2]⟩
          have R7 := R.r0.unbase R6 okA.1
          rw [okA.2] at R7
          refine hw Hf5 H4 v (S3.trans (S4.trans S5)) ⟨?_, R7⟩ hd
          have := (okRe_spec okr).1
          rw [this]; exact R.len
  -- the def's start
  have R1 : Rep0 ⟨K, mg⟩ ⟨H1, Hf1, adrW (σL ++ Γ.τ) (ρL ++ Γ.γ)⟩ Hf1 (σL ++ Γ.τ) H1 (ρL.map toPa ++ Γ.γ.map toPa) := by
    have := R.r0.rebase
    rwa [List.map_append] at this
  have ln0 : (Sl.im (.ob f) :: List.replicate (n - 1) Sl.no).length = n := by simp; omega
  have lst : (L2.start N [V.ref f]).length = n := by unfold L2.start; simp; omega
  have R2 : Rep ⟨K, mg⟩ ⟨⟨H1, Hf1, shA n (adrW (σL ++ Γ.τ) (ρL ++ Γ.γ))⟩, σL ++ Γ.τ, ρL.map toPa ++ Γ.γ.map toPa⟩ Hf1 (L2.start N [V.ref f]) H1 (.im (.ob f) :: List.replicate (n - 1) .no) := by
    refine heard_rep ln0 R1 (ln0.trans lst.symm) fun i x e => ?_
    match i, e with
    | 0, e =>
      cases e
      exact .inr ⟨_, .ref f, rfl, rfl, .ob f⟩
    | i + 1, e => exact .inl (repl_no (by simpa using e))
  refine ⟨_, Hf1, _, R2, ?_⟩
  rw [hg1]
  intro Hf2 σ2 H2 hl2 S2 R2
  obtain ⟨u0, e0, h0⟩ := R2.r0.im 0 _ (get_app (by rfl))
  cases h0
  have ls2 : σ2.length = n := hl2.trans lst
  have e0 : σ2[0]? = some (some (.ref f)) := by rw [get_left (by omega)] at e0; exact e0
  obtain ⟨u1, e1, h1⟩ := R2.r0.im 1 .non (get_app (by rfl))
  cases h1
  have e1 : σ2[1]? = some (some .non) := by rw [get_left (by omega)] at e1; exact e1
  obtain ⟨u2, e2, h2⟩ := R2.r0.im 2 .non (get_app (by rfl))
  cases h2
  have e2 : σ2[2]? = some (some .non) := by rw [get_left (by omega)] at e2; exact e2
  have ln2 : (Sl.im (.ob f) :: .im .non :: .im .non :: List.replicate (n - 3) Sl.no).length = n := by simp; omega
  -- the def that asks
  have R3 : Rep ⟨K, mg⟩ ⟨⟨H1, Hf1, adrW (σL ++ Γ.τ) (ρL ++ Γ.γ)⟩, Γ.τ, Γ.γ.map toPa⟩ Hf2 σL H2 (ρL.map toPa) := by
    refine ⟨by simp [R.len], ?_⟩
    have := R2.r0
    rw [show (⟨⟨H1, Hf1, shA n (adrW (σL ++ Γ.τ) (ρL ++ Γ.γ))⟩, σL ++ Γ.τ, ρL.map toPa ++ Γ.γ.map toPa⟩ : Gh).g = ⟨H1, Hf1, shA (Sl.im (.ob f) :: .im .non :: .im .non :: List.replicate (n - 3) Sl.no).length (adrW (σL ++ Γ.τ) (ρL ++ Γ.γ))⟩ from by rw [ln2]] at this
    exact Rep0.behind this (ln2.trans ls2.symm)
  show _ ∧ _ ∧ _
  refine ⟨e0, R2.sub _ _ (S2 _ _ hc'), _, Hf2, _, R3, ?_⟩
  unfold vHeard at hw
  cases u : m (ρL.map toPa) with
  | no => rw [u] at hw; exact hw.elim
  | ok p =>
    obtain ⟨ρ1, d⟩ := p
    rw [u] at hw
    obtain ⟨okr, hw⟩ := ite_wp hw
    intro Hf3 H3 v S3 R4 hd
    refine fin (σZ := σ2.set 1 (some v)) (ρn := envOk n d) (by unfold envOk; simp; omega) (S2.trans S3) R4.r0 okr (by unfold envOk; simp; omega) (fun i x e => ?_) hw
    rcases envOk_get e with z | ⟨rfl, z⟩ | ⟨rfl, z⟩
    · exact .inl z
    · exact .inr ⟨d, v, z, by rw [List.getElem?_set_self (by omega)], hd⟩
    · exact .inr ⟨.non, .non, z, by rw [List.getElem?_set_ne (by omega)]; exact e2, .non⟩
  | ex e ρ1 =>
    rw [u] at hw
    obtain ⟨c, hw⟩ := ite_wp hw
    rw [Bool.and_eq_true] at c
    obtain ⟨c1, okr⟩ := c
    intro Hf3 H3 cl d S3 R4 he
    obtain ⟨hmx, hall⟩ := C
    obtain ⟨Cc, hmc, hexm⟩ := hall e.c (by simpa using c1)
    obtain ⟨m1, dd, vs, ed, h0, hfd, hdd, hk, hal⟩ := he
    have m1 : mg e.c = some cl := m1
    rw [hmc] at m1
    cases m1
    subst ed
    refine ⟨true, hexm, fun _ => ⟨Cc, dd, rfl, rfl, fun a ha => ?_⟩, fun z => by cases z⟩
    have nad : dd ≠ a := ne_of_none hdd ha
    obtain ⟨Sa, Ra⟩ := R4.lay ha (.ext (exnAt a Cc dd))
    have hfd2 : upd Hf3 a (.ext (exnAt a Cc dd)) dd = none := by rw [upd_ne nad]; exact hfd
    have hdd2 : upd H3 a (.ext (exnAt a Cc dd)) dd = some (.xd vs) := by rw [upd_ne nad]; exact hdd
    obtain ⟨Sb, Rb⟩ := Ra.frzXd hdd2 hfd2 h0
    have hv : Has ⟨K, mg⟩ (upd (upd Hf3 a (.ext (exnAt a Cc dd))) dd (.xd vs)) (exnD e) (.ref a) := by
      unfold exnD
      rw [← hk]
      refine .exn hmc ?_ upd_same (hal.same (Sa.trans Sb))
      rw [upd_ne (Ne.symm nad), upd_same]
    refine fin (ρn := envEx n e) (by unfold envEx; simp; omega) (S2.trans (S3.trans (Sa.trans Sb))) Rb.r0 okr (by unfold envEx; simp; omega) (fun i x ex => ?_) hw
    rcases envEx_get ex with z | ⟨rfl, z⟩ | ⟨rfl, z⟩
    · exact .inl z
    · exact .inr ⟨.non, .non, z, by rw [List.getElem?_set_ne (by omega), List.getElem?_set_ne (by omega), List.getElem?_set_ne (by omega)]; exact e1, .non⟩
    · exact .inr ⟨_, .ref a, z, by rw [List.getElem?_set_ne (by omega), List.getElem?_set_self (by simp; omega)], hv⟩
/-- x(lambda ..): body -/
theorem rv_heard {X : Cx} {W : WX} {N : List Str} {x a yF yC yE : Str} {st s1 : Stmt} {rest : List Stmt} {k : Nat} {ns : List Str} {params : Arguments} {body : Expr} {scope : Scope} {p lpos pos p1 p2 p5 p6 np np2 yp ap pos' pos2 : Pos}
    (D : DefF X.K X.mg x st [a]) (S : FnScope N [a] (defScope st)) (C : Catch X.K X.mg xc es) (LT : TabL X.base X.mg X.env.code (X.env.qual ++ "<lambda>")) (hgd : X.A.guards = some []) (room : Room (k + 2) X.A)
    (L : Lam.Names X.N X.env.scope scope ns) (pr : Lam.Params X params body scope lpos ns)
    (hm : ∀ (A : Around) (outer : List PySem.Env) (s : Shared) (H : Hp) (E : XK) (f c' : Addr), Room k (A.deeper (LamX.lamEnv X scope s.heap.objs.size f c')) → A.guards = some [] → RV (LamX.lamCx X A outer s H E scope f c') (fun c d _ H' => E c d H') body m)
    (hs1 : ∀ (cdv : Value) (A : Around) (outer : List PySem.Env) (f : Addr) (s : Shared) (H : Hp) (E : XK), RS (cxOf C8.CX0 X.prog X.w X.K X.mg X.base N x (defScope st) f cdv A outer s H E).nox W0 s1 g1)
    (hR : ∀ (cdv : Value) (A : Around) (outer : List PySem.Env) (f : Addr) (s : Shared) (H : Hp) (E : XK), Room (k + 1) (A.deeper (frameOf x (defScope st) s f cdv)) → A.guards = some [] → RSs (cxOf C8.CX0 X.prog X.w X.K X.mg X.base N x (defScope st) f cdv A outer s H E).nox W0 rest gR)
    (hg1 : ∀ o, g1 (.im o :: List.replicate (n - 1) .no) = .ok (.im o :: .im .non :: .im .non :: List.replicate (n - 3) .no, .nx))
    (hn : N.length = n) (h4 : 4 ≤ n)
    (hst : defBody st = s1 :: .Try [.Assign [.Name yF p5] (.Call (.Name a p1) [] [] p2) p6] [.ExceptHandler (some (.Name xc np)) (some yE) [.Assign [.Name yC yp] (.Name yE np2) ap] pos'] [] [] pos2 :: rest)
    (h0 : N[0]? = some a) (h1 : N[1]? = some yF) (h2 : N[2]? = some yC) (h3 : N[3]? = some yE)
    (lF : (defScope st).names.lookup yF = some .local) (lC : (defScope st).names.lookup yC = some .local) (lE : (defScope st).names.lookup yE = some .local) (va : Vis (defScope st) a) (lX : (defScope st).names.lookup xc = some .globalImplicit)
    (hdF : (yE == ("__debug__" : Str)) = false) (hcF : (yE == ("__classdict__" : Str)) = false) (hxd : (xc == ("__debug__" : Str)) = false) (had : (a == ("__debug__" : Str)) = false) (hac : (a == ("__classdict__" : Str)) = false)
    (hsw1 : ∀ env : PySem.Env, swapsWith (.Call (.Name a p1) [] [] p2) (some (.Name yF p5)) p6.line env = pure false) (hsw2 : ∀ env : PySem.Env, swapsWith (.Name yE np2) (some (.Name yC yp)) ap.line env = pure false)
    (hg : Gl X x := by rfl) (hdb : (x == ("__debug__" : Str)) = false := by decide) :
    RV X W (.Call (.Name x p) [.Lambda params body scope lpos] [] pos) (vHeard n es gR m) := by
  refine ⟨fun pins s σ H Q I ⟨Γ, Hf, ρ, R, hw⟩ => ?_⟩
  obtain ⟨f, fdd, hmx, F, bind⟩ := D.ex
  obtain ⟨oc, od, kV, doc, pm, an, cdv, ct, osl, rfl, lk, hcd⟩ := F.ex
  obtain ⟨c, P, hcode, TB, wt, uq⟩ := LT.ex
  obtain ⟨CS, hCS, hall⟩ := C.ex
  have hw : (vHeard n es gR m ρ).wp (fun p => ∀ Hf' H' v, Same Hf Hf' → Rep ⟨X.K, X.mg⟩ Γ Hf' σ H' p.1 → Has ⟨X.K, X.mg⟩ Hf' p.2 v → Q v H') fun _ _ => False := by
    cases u : vHeard n es gR m ρ with
    | ok p => rw [u] at hw; exact hw
    | ex e ρ' => exact absurd u vHeard_noex
    | no => rw [u] at hw; exact hw
  refine wpAny_Call_Name_kw (ld_glob I hg hmx ?_ hdb)
  refine PySem.W.callWith_K (h₀ := X.base) I.ok.mod.kin F.kp ?_ (by rfl) (by rfl)
  obtain ⟨ps, hP, ht, hco⟩ := R.r0.tb P _ wt
  refine Calls.spliced_cons (Lam.make I TB hcode hP ht hco R.sub pr (L.has I.ok) fun fl c' pm' ctv dV its H1 s' I1 md hl hdv hf hfn hfr hcO => ?_)
  refine Calls.spliced_nil ⟨I1.kIn, ?_⟩
  obtain ⟨Hf1, S1, R1, hc1⟩ := R.r0.made wt uq md
  have R1 : Rep ⟨X.K, X.mg⟩ Γ Hf1 σ H1 ρ := ⟨R.len, R1⟩
  have rc : codeAny (model X.prog X.w) X.A (.call (.ref f) ⟨[.ref fl], []⟩) (CR C8.CX0 X.stack X.prog X.w H1 s' Q C8.E0) s' := by
    refine LamX.run_ofS (N := N) (ps := [a]) (us := [.ref fl]) (vs := [.ref fl]) lk hcd S room I1.env0 (bind s' [.ref fl] I1.kIn rfl) (.cons rfl .nil) rfl fun hr' => ?_
    refine ⟨_, ?_, heard_wish (es := es) (gR := gR) (m := m) (g1 := g1) (xc := xc) (CS := CS) (f := fl) (c' := c') (q := X.env.qual ++ "<lambda>") hn h4 R1 hc1 ⟨hCS, hall⟩ hg1 (Rz.wp_mono hw (fun p hp Hf' H' v S R h => hp Hf' H' v (S1.trans S) R h) fun _ _ z => z)⟩
    rw [hst]
    refine PSs.nox (pss_cons (hs1 _ _ _ _ _ _ _) (pss_cons ?_ (hR _ _ _ _ _ _ _ hr' hgd)))
    refine ps_try_keep (X := (cxOf C8.CX0 X.prog X.w X.K X.mg X.base N x (defScope st) f cdv X.A X.stack s' H1 C8.E0).nox) (c := .ref CS) (i := 3) (j := 2) (tb := fun W => tAsk fl c' (X.env.qual ++ "<lambda>") (fun E H' Q' => tBody ⟨X.K, X.mg⟩ m E σ H' Q') W) rfl rfl rfl S.nd h3 lE h2 lC hdF hcF ⟨lX, hxd, .inl hCS⟩ takes0 (fun a pn => hsw2 _) fun W pn xe tk _ => ?_
    refine pss_one (ps_set (X := (cxOf C8.CX0 X.prog X.w X.K X.mg X.base N x (defScope st) f cdv X.A X.stack s' H1 C8.E0).nox.tr pn xe) (i := 1) S.nd h1 (.inl lF) ?_ (hsw1 _) (.inr lF))
    exact Lam.act (CXg := C8.CX0) (Eg := C8.E0) (i := 0) (tb := fun E σ H Q => tBody ⟨X.K, X.mg⟩ m E σ H Q) I1 L pr hl hdv hf hfn hfr tk hr' (fun A outer s H E hr2 hg2 => hm A outer s H E fl c' hr2 (hg2.trans hgd)) h0 va had hac
  refine wpAny_call (codeAny_mono rc fun r s2 hq => ?_)
  cases r with
  | error e => exact (show False from hq).elim
  | ok fl =>
    cases fl with
    | ret u => exact I1.after hq
    | next => exact False.elim hq
    | brk => exact False.elim hq
    | cont => exact False.elim hq
end
end Fx

set_option Elab.async false
set_option linter.all false
set_option maxRecDepth 100000
set_option maxHeartbeats 4000000
/-! A kept exception's fields. -/
namespace L2
open PySem PySem.Spec PyProof.Rows
variable [Fx.Tb]
/-- o.f of a tracked exception -/
def tXFld (K : PySem.W.Frag) (f : Str) (te : TE) : TE := fun σ H Q => te σ H fun x H1 => ∃ (a C dd : Addr) (fs : List (Str × V)) (v : V), x = .ref a ∧ H1 a = some (.ext (Fx.exnAt a C dd)) ∧ H1 dd = some (.xd fs) ∧ XfC K C ∧ PySem.W.findIn K (.ref C) f = some none ∧ fs.lookup f = some v ∧ Q v H1
theorem pe_xfld {X : Cx} {e : Expr} {te : TE} {pos : Pos} {n : Str} (he : PE X e te) (hb : attributeBase e n X.env (eval e X.env) = eval e X.env := by rfl) : PE X (.Attribute e n pos) (tXFld X.K n te) := by
  refine ⟨fun pins s σ H Q I h => ?_⟩
  refine attr_of hb (thn (he.run pins s σ H _ I h) fun u s1 ⟨x, H1, I1, rx, a, C, dd, fs, v, ex, ea, ed, T, hno, l, q⟩ => ?_)
  subst ex
  obtain rfl : u = Value.ref a := rx
  obtain ⟨oe, od, mA, J, hns, ho, hr⟩ := Fx.exn_inst I1 ea ed
  obtain ⟨u, hu, ru⟩ := RelO.some_of (v := v) (o := mA n) (by rw [← l]; exact hr n)
  obtain ⟨od', ho', hl⟩ := lookIn_ns hns
  rw [ho] at ho'
  cases ho'
  exact HandSPX.exc_get I1.kIn J T.ga T.gg T.exC (PySem.W.findObj_own T.hdC hno rfl (by rw [hl, hu])) (handed_of ru) ⟨v, H1, I1.tok _, ru, q⟩
end L2
namespace Fx
open PySem L2
variable [Tb]
/-- the exception classes of a module whose instances' field f can be read -/
structure XfT (K : PySem.W.Frag) (mg : Str → Option Value) (cs : List Str) (f : Str) : Prop where
  ex : ∀ c ∈ cs, ∃ C, mg c = some (.ref C) ∧ XfC K C ∧ PySem.W.findIn K (.ref C) f = some none
def dXFldR (cs : List Str) (f : Str) : D → Option D
  | .nd (.exn c fs) ds => if cs.contains c = true then lookD f fs ds else none
  | _ => none
def dXFld (cs : List Str) (f : Str) (d : D) : Option D := (dXFldR cs f d).map D.nrm
theorem dXFld_spec {M : Md} {Hf H : Hp} {cs : List Str} {f : Str} {d y : D} {v : V} (T : HasT M Hf H d v) (e : dXFld cs f d = some y) : ∃ a C dd fs w c, v = .ref a ∧ c ∈ cs ∧ M.mg c = some (.ref C) ∧ H a = some (.ext (exnAt a C dd)) ∧ H dd = some (.xd fs) ∧ fs.lookup f = some w ∧ Has M Hf y w := by
  obtain ⟨y', e', rfl⟩ := Option.map_eq_some_iff.mp e
  cases T with
  | exn g ha hd t =>
    obtain ⟨ec, e2⟩ := ite_some e'
    obtain ⟨w, l, hw'⟩ := lookD_has t e2
    exact ⟨_, _, _, _, w, _, rfl, by simpa using ec, g, ha, hd, l, hw'.nrm⟩
  | _ => cases e'
section
variable {X : Cx} {W : WX} {e : Expr} {h : Env → Rz (Env × Rs)} {pos : Pos} {cs : List Str} {f : Str}
theorem rv_xfld (cs : List Str) (T : XfT X.K X.mg cs f) (ho : RH X W e h) (hb : attributeBase e f X.env (eval e X.env) = eval e X.env := by rfl) : RV X W (.Attribute e f pos) (v1 (dXFld cs f) h) := by
  refine pe_mono (pe_xfld ho hb) fun σ H Q ⟨Γ, Hf, ρ, R, hw⟩ => bindH R hw fun ρ1 r Hf1 H1 v S1 R1 hv hq => ?_
  obtain ⟨d, e1, hq⟩ := ofO_bind hq
  obtain ⟨y, e2, hq⟩ := ofO_bind hq
  obtain ⟨a, C, dd, fs, w, c, rfl, hc, hm, ha, hd, l, hw'⟩ := dXFld_spec (R1.peek hv.rs e1) e2
  obtain ⟨C', hm', T1, T2⟩ := T.ex c hc
  have hm : X.mg c = some (.ref C) := hm
  rw [hm'] at hm
  cases hm
  exact ⟨a, C, dd, fs, w, rfl, ha, hd, T1, T2, l, hq Hf1 H1 w S1 R1 hw'⟩
end
end Fx

set_option Elab.async false
set_option linter.all false
set_option maxRecDepth 100000
set_option maxHeartbeats 2000000
/-! list(zip(a, b)) of two lists. -/
namespace PySem
open Sem (wp)
namespace F
theorem zip_no_len : typeLookup (.type "zip") "__len__" = pure none := by rw [typeLookup_type, builtinLookup_eq_fast]; kernel_rfl
theorem zip_no_hint : typeLookup (.type "zip") "__length_hint__" = pure none := by rw [typeLookup_type, builtinLookup_eq_fast]; kernel_rfl
end F
abbrev LO (acc : Array Value) (c : Nat) : Obj := { cls := .type "list", dict := none, data := .seq acc c, slots := #[] }
section
variable {prog : Program} {w : World} {A : Around} {R : Result → Shared → Prop} {I S : Addr} {n : Nat} {res : Value} {Iv : Nat → Shared → Array Value → Prop} {Fin : Shared → Array Value → Prop}
/-- the loop of list.extend, by what stands at each turn -/
theorem extend_loopI (hn : n ≤ sizeLine) (sz : ∀ i s acc, Iv i s acc → acc.size = i)
    (item : ∀ i (s : Shared) (acc : Array Value) (c : Nat) (Q : Option Value → Shared → Prop) (E : Value → Shared → Prop), i < n → Iv i s acc → s.heap.get? S = some (LO acc c) →
      (∀ v s', s'.heap.get? S = some (LO acc c) → Iv (i + 1) { s' with heap := s'.heap.update S (Obj.mapSeq (·.push v)) } (acc.push v) → Q (some v) s') → wpAny (model prog w) A.in1 (pyNext (.ref I)) Q E s)
    (done : ∀ (s : Shared) (acc : Array Value) (c : Nat) (Q : Option Value → Shared → Prop) (E : Value → Shared → Prop), Iv n s acc → s.heap.get? S = some (LO acc c) →
      (∀ s', s'.heap.get? S = some (LO acc c) → Fin s' acc → Q none s') → wpAny (model prog w) A.in1 (pyNext (.ref I)) Q E s)
    (hR : ∀ s' acc' c', Fin s' acc' → s'.heap.get? S = some (LO acc' c') → R (.ok (.ret res)) s') :
    ∀ (k i : Nat) (s : Shared) (acc : Array Value) (c : Nat), n - i = k → i ≤ n → Iv i s acc → s.heap.get? S = some (LO acc c) → codeAny (model prog w) A (.builtin "list.extend.loop" ⟨[.ref S, .ref I, res], []⟩) R s := by
  intro k
  induction k with
  | zero =>
    intro i s acc c hk hi hst hS
    have hin : i = n := by omega
    subst hin
    refine codeAny_builtin F.entry_extend_loop ?_
    rw [Around.under_plainId F.plain_extend_loop _]
    show wpAny _ A.in1 (pyNext (.ref I) >>= _) _ _ s
    refine wpAny_bind (done s acc c _ _ hst hS fun s' hS' iv => ?_)
    exact wpAny_pure (hR s' acc c iv hS')
  | succ k ih =>
    intro i s acc c hk hi hst hS
    have hlt : i < n := by omega
    have hz := sz _ _ _ hst
    refine codeAny_builtin F.entry_extend_loop ?_
    rw [Around.under_plainId F.plain_extend_loop _]
    show wpAny _ A.in1 (pyNext (.ref I) >>= _) _ _ s
    refine wpAny_bind (item i s acc c _ _ hlt hst hS fun v s' hS' iv => ?_)
    show wpAny _ A.in1 (updateSeq S (·.push v) >>= _) _ _ _
    refine wpAny_bind ?_
    refine wpAny_updateSeq hS' rfl (wpAny_pure ⟨plainId_quiet F.plain_extend_loop _, ih (i + 1) _ (acc.push v) _ (by omega) hlt iv (Heap.get?_update_self _ hS' rfl)⟩)
      (by rw [hz]; omega) (by show (acc.push v).size ≤ sizeLine + 1; rw [Array.size_push, hz]; omega)
/-- list(zip object), by what stands at each turn -/
theorem call_list_zipI {Q : Value → Shared → Prop} {E : Value → Shared → Prop} {s : Shared} {z TI TO : Addr} {S : Addr} (hS0 : S = s.heap.objs.size) {IvA : Around → Nat → Shared → Array Value → Prop} (hn : n ≤ sizeLine) (hz : IsZip s.heap z TI TO .none) (sz : ∀ A i s acc, IvA A i s acc → acc.size = i)
    (st : ∀ h' : Heap, (∀ b o, s.heap.get? b = some o → h'.get? b = some o) → s.heap.objs.size < h'.objs.size → ∀ A, IvA A 0 { s with heap := h' } #[])
    (item : ∀ A i (s : Shared) (acc : Array Value) (c : Nat) (Q : Option Value → Shared → Prop) (E : Value → Shared → Prop), i < n → IvA A i s acc → s.heap.get? S = some (LO acc c) →
      (∀ v s', s'.heap.get? S = some (LO acc c) → IvA A (i + 1) { s' with heap := s'.heap.update S (Obj.mapSeq (·.push v)) } (acc.push v) → Q (some v) s') → wpAny (model prog w) A (pyNext (.ref z)) Q E s)
    (done : ∀ B (s : Shared) (acc : Array Value) (c : Nat) (Q : Option Value → Shared → Prop) (E : Value → Shared → Prop), B.handled = A.handled → IvA B n s acc → s.heap.get? S = some (LO acc c) →
      (∀ s', s'.heap.get? S = some (LO acc c) → Fin s' acc → Q none s') → wpAny (model prog w) B (pyNext (.ref z)) Q E s)
    (hQ : ∀ s' acc' c', Fin s' acc' → s'.heap.get? S = some (LO acc' c') → Q (.ref S) s') :
    wpAny (model prog w) A (call (.type "list") [.ref z]) Q E s := by
  subst hS0
  refine callType_codes (Q₁ := fun obj s₁ => obj = .ref s.heap.objs.size ∧ s₁ = { s with heap := s.heap.push { cls := .type "list", data := .seq #[] } }) F.called_list (F.typeCall_list_1 _) F.entry_list_init
    (code_list_new _ ⟨rfl, rfl⟩) fun obj s₁ h₁ => ?_
  obtain ⟨rfl, rfl⟩ := h₁
  have hS : (s.heap.push { cls := .type "list", data := .seq #[] }).get? s.heap.objs.size = some { cls := .type "list", data := .seq #[] } := Heap.get?_push_size _ rfl
  have hzS : z ≠ s.heap.objs.size := Nat.ne_of_lt (Heap.lt_size hz)
  refine ⟨⟨_, hS, rfl⟩, F.args_list_init_2 _ _, ?_⟩
  show wpAny _ A.in1.in1 (do let old ← Builtin.List.listItems (.ref s.heap.objs.size); Builtin.List.listUpdate (.ref s.heap.objs.size) (fun _ => #[]); letGo old.toList.reverse; Builtin.List.listExtendWith (.ref s.heap.objs.size) (.ref z) .none) _ _ _
  refine wpAny_bind ?_
  unfold Builtin.List.listItems
  refine wpAny_bind (wpAny_seqItems hS rfl (wpAny_pure ?_))
  show wpAny _ A.in1.in1 (updateSeq s.heap.objs.size (fun _ => #[]) >>= fun _ => letGo (#[] : Array Value).toList.reverse >>= fun _ => Builtin.List.listExtendWith (.ref s.heap.objs.size) (.ref z) .none) _ _ _
  refine wpAny_bind (wpAny_updateSeq hS rfl ?_)
  have hS₂ := Heap.get?_update_self (Obj.mapSeq (fun _ => (#[] : Array Value))) hS rfl
  refine wpAny_bind (wpAny_letGo ?_)
  have k2 : ∀ b o, s.heap.get? b = some o → ((s.heap.push { cls := .type "list", data := .seq #[] }).update s.heap.objs.size (Obj.mapSeq (fun _ => (#[] : Array Value)))).get? b = some o := fun b o e =>
    (Heap.get?_update_other _ _ (Nat.ne_of_gt (Heap.lt_size e))).trans (Heap.get?_push_of_some _ e)
  have hz2 := k2 _ _ hz
  have hT : (⟨(s.heap.push { cls := .type "list", data := .seq #[] }).update s.heap.objs.size (Obj.mapSeq (fun _ => (#[] : Array Value))), s.gens, s.drawn, s.toks, s.os⟩ : Shared).TypeIs (.ref z) "zip" := ⟨_, hz2, rfl⟩
  unfold Builtin.List.listExtendWith
  refine wpAny_bind (wpAny_typeOf hT ?_)
  have h1 : Builtin.List.listSameRef (.ref s.heap.objs.size) (.ref z) = false := by simp [Builtin.List.listSameRef, Ne.symm hzS]
  have h2 : (Value.type "zip" == Value.type "list") = false := by decide
  have h3 : (Value.type "zip" == Value.type "tuple") = false := by decide
  simp only [h1, h2, h3, Bool.or_false, Bool.false_eq_true, if_false]
  refine wpAny_bind (wpAny_pyIter_zip hz2 ?_)
  refine wpAny_bind (wpAny_holding ?_)
  unfold Builtin.List.listLengthHint
  refine wpAny_bind (wpAny_specialOf hT F.zip_no_len ?_)
  show wpAny _ A.in1.in1 (specialOf (Value.ref z) (Str.ofString "__length_hint__") >>= _) _ _ _
  refine wpAny_bind (wpAny_specialOf hT F.zip_no_hint ?_)
  refine wpAny_pure ?_
  show wpAny _ A.in1.in1 (rule "list.extend.makes-room" >>= fun _ => Builtin.List.listTouch (.ref s.heap.objs.size) >>= fun _ =>
    again (.builtin "list.extend.loop" ⟨[.ref s.heap.objs.size, .ref z, .none], []⟩)) _ _ _
  refine wpAny_bind (wpAny_rule ?_)
  refine wpAny_bind ?_
  show wpAny _ A.in1.in1 (updateSeq s.heap.objs.size (·.push .none) >>= fun _ => updateSeq s.heap.objs.size (·.pop)) _ _ _
  refine wpAny_bind (wpAny_updateSeq hS₂ rfl ?_)
  have hS₃ := Heap.get?_update_self (Obj.mapSeq (·.push Value.none)) hS₂ rfl
  refine wpAny_updateSeq (hz := by seq_fits) hS₃ rfl ?_
  have hS₄ := Heap.get?_update_self (Obj.mapSeq (·.pop)) hS₃ rfl
  refine wpAny_pure ⟨plainId_quiet F.plain_extend_loop _, ?_⟩
  refine extend_loopI (Iv := IvA A.in1.in1) hn (sz _) (item _) (fun s acc c Q E iv => done _ s acc c Q E rfl iv) (fun s' acc' c' iv hS' => ⟨rfl, hQ s' acc' c' iv hS'⟩) n 0 _ #[] _ rfl (Nat.zero_le _) (st _ (fun b o e => ?_) ?_ _) hS₄
  · exact (Heap.get?_update_other _ _ (Nat.ne_of_gt (Heap.lt_size e))).trans ((Heap.get?_update_other _ _ (Nat.ne_of_gt (Heap.lt_size e))).trans (k2 b o e))
  · exact Heap.lt_size hS₄
end
end PySem

namespace L2
open PySem PySem.Spec PyProof.Rows
section
variable {X : Cx} {pins : List (Addr × Obj)} {σ : St} {H : Hp} {s : Shared}
/-- an object that was not there at the entry, and is not tracked, is tracked from now on -/
theorem Inv.trackAny {a : Addr} {oe : Obj} {u : HO} (I : Inv X pins σ H s) (ha : s.heap.get? a = some oe) (hd : ∀ v, oe.data ≠ .cell v) (h0 : X.s_0.heap.get? a = none) (na : H a = none) (nL : a ≠ X.env.locals) (nP : ∀ p ∈ X.pn ++ pins, p.1 ≠ a)
    (new : ObjOk X.prog X.w (upd H a u) s.heap a u) : Inv X pins σ (upd H a u) s := by
  refine ⟨I.ok, I.os, I.bare, ⟨I.base.keep, I.base.slot, fun b o e n hx => ?_, I.base.there, fun b xs e => ?_, fun b o u e => ?_, fun b ps e => ?_⟩, I.loc, I.cell, ?_, fun x c e => ?_, fun p hp => ?_, fun b u e => ?_, I.len⟩
  · rw [upd_ne (fun z => by rw [z, h0] at e; cases e)]
    exact I.base.free b o e n hx
  · have q := I.base.tups b xs e
    rw [upd_ne (ne_of_none q na)]; exact q
  · have q := I.base.frzs b o u e
    rw [upd_ne (ne_of_none q na)]; exact q
  · obtain ⟨more, q⟩ := I.base.tbls b ps e
    exact ⟨more, by rw [upd_ne (ne_of_none q na)]; exact q⟩
  · rw [upd_ne (Ne.symm nL)]; exact I.free
  · have q : c ≠ a := fun z => by
      subst z
      obtain ⟨v, o, h1, h2⟩ := I.cell x c e
      rw [ha] at h1
      cases h1
      exact hd _ h2
    rw [upd_ne q]; exact I.freeC x c e
  · obtain ⟨h1, h2, h3, h4, h5⟩ := I.pin p hp
    refine ⟨h1, ?_, h3, h4, h5⟩
    rw [upd_ne (nP p hp)]; exact h2
  · by_cases hb : b = a
    · subst hb
      rw [upd_same] at e
      cases e
      exact new
    · rw [upd_ne hb] at e
      exact (I.hok b _ e).stay (fun c v _ q => q) (fun c q => by rw [upd_ne (ne_of_none q na)]; exact q) fun c xs q => by rw [upd_ne (ne_of_none q na)]; exact q
end
/-- i pairs are laid down one behind another -/
inductive ZL (xs ys : List V) (H : Hp) : Nat → Hp → List Addr → Prop
  | nil : ZL xs ys H 0 H []
  | snoc {i : Nat} {Hm : Hp} {Ts : List Addr} {T : Addr} {x y : V} : ZL xs ys H i Hm Ts → Hm T = none → xs[i]? = some x → ys[i]? = some y → ZL xs ys H (i + 1) (upd Hm T (.tup [x, y])) (Ts ++ [T])
theorem ZL.up {xs ys : List V} {H Hm : Hp} {i : Nat} {Ts : List Addr} (z : ZL xs ys H i Hm Ts) : ∀ b o, H b = some o → Hm b = some o := by
  induction z with
  | nil => exact fun _ _ e => e
  | snoc z n hx hy ih => exact fun b o e => by rw [upd_ne (ne_of_none (ih b o e) n)]; exact ih b o e
theorem ZL.len {xs ys : List V} {H Hm : Hp} {i : Nat} {Ts : List Addr} (z : ZL xs ys H i Hm Ts) : Ts.length = i := by
  induction z with
  | nil => rfl
  | snoc z n hx hy ih => simp [ih]
theorem SqL.up {K : PySem.W.Frag} {H H' : Hp} {a : Addr} {xs : List V} (u : ∀ b o, H b = some o → H' b = some o) (h : SqL K H a xs) : SqL K H' a xs := by
  rcases h with (h | ⟨o, h⟩) | h
  · exact .inl (.inl (u _ _ h))
  · exact .inl (.inr ⟨o, u _ _ h⟩)
  · exact .inr h
/-- list(zip(a, b)): the pairs, then the list -/
def tListZip (K : PySem.W.Frag) (ta : TA) : TE := fun σ H Q => ta σ H fun vs H1 => ∃ a b xs ys, vs = [.ref a, .ref b] ∧ SqL K H1 a xs ∧ SqL K H1 b ys ∧ ∀ Hm Ts S, ZL xs ys H1 (min xs.length ys.length) Hm Ts → Hm S = none → Q (.ref S) (upd Hm S (.lst (Ts.map V.ref)))
/-- what stands at each turn -/
structure ZIv (X : Cx) (pins : List (Addr × Obj)) (σ : St) (xs ys : List V) (H1 : Hp) (a b z TI TO i1 i2 S : Addr) (i : Nat) (s : Shared) (acc : Array Value) : Prop where
  ex : ∃ Hm Ts, ZL xs ys H1 i Hm Ts ∧ Inv X pins σ Hm s ∧ (∀ c ∈ [z, TI, TO, i1, i2, S], FpOk X pins Hm c) ∧ acc.toList = Ts.map Value.ref
  S0 : X.s_0.heap.objs.size ≤ S
  lt : S < s.heap.objs.size
  ti : IsPair s.heap TI (.ref i1) (.ref i2)
  h1 : s.heap.IsListIter i1 a i
  h2 : s.heap.IsListIter i2 b i
  zs : (IsZip s.heap z TI TO .none ∧ ∃ x y, IsPair s.heap TO x y) ∨ ∃ T f oT, IsZipHeld s.heap z TI TO T f ∧ s.heap.get? T = some oT ∧ T ≠ z ∧ T ≠ i1 ∧ T ≠ i2 ∧ T ≠ S
section
variable {X : Cx} {pins : List (Addr × Obj)} {σ : St} {xs ys : List V} {H1 : Hp} {a b z TI TO i1 i2 S : Addr} {i : Nat} {s : Shared} {acc : Array Value}
/-- the turn is over: the new pair is tracked, the list is longer -/
theorem ZIv.next {h' : Heap} {x y : V} {ux uy : Value} {c : Nat} {Hm : Hp} {Ts : List Addr} (D : ZipApart z TI TO i1 i2 a b) (ls : ∀ c ∈ [z, TI, TO, i1, i2], c < S) (S0 : X.s_0.heap.objs.size ≤ S) (lt : S < s.heap.objs.size)
    (zl : ZL xs ys H1 i Hm Ts) (I : Inv X pins σ Hm s) (fp : ∀ c ∈ [z, TI, TO, i1, i2, S], FpOk X pins Hm c) (ac : acc.toList = Ts.map Value.ref) (hS : s.heap.get? S = some (LO acc c)) (hx : xs[i]? = some x) (hy : ys[i]? = some y) (rx : RelV x ux) (ry : RelV y uy)
    (hTI : IsPair h' TI (.ref i1) (.ref i2)) (h1 : h'.IsListIter i1 a (i + 1)) (h2 : h'.IsListIter i2 b (i + 1)) (hp : IsPair h' s.heap.objs.size ux uy) (hsz : h'.objs.size = s.heap.objs.size + 1)
    (zs : ∃ T f oT, IsZipHeld h' z TI TO T f ∧ h'.get? T = some oT ∧ T ≠ z ∧ T ≠ i1 ∧ T ≠ i2 ∧ T ≠ S) (hk : ∀ c o, c ≠ z → c ≠ TO → c ≠ i1 → c ≠ i2 → s.heap.get? c = some o → h'.get? c = some o) :
    h'.get? S = some (LO acc c) ∧ ZIv X pins σ xs ys H1 a b z TI TO i1 i2 S (i + 1) { s with heap := h'.update S (Obj.mapSeq (·.push (.ref s.heap.objs.size))) } (acc.push (.ref s.heap.objs.size)) := by
  have d1 : S ≠ z := Nat.ne_of_gt (ls z (by simp))
  have d2 : S ≠ TI := Nat.ne_of_gt (ls TI (by simp))
  have d3 : S ≠ TO := Nat.ne_of_gt (ls TO (by simp))
  have d4 : S ≠ i1 := Nat.ne_of_gt (ls i1 (by simp))
  have d5 : S ≠ i2 := Nat.ne_of_gt (ls i2 (by simp))
  have hS' := hk S _ d1 d3 d4 d5 hS
  have fp4 : ∀ c ∈ [z, TO, i1, i2], FpOk X pins Hm c := fun c hc => fp c (by
    have e' : c = z ∨ c = TO ∨ c = i1 ∨ c = i2 := by simpa using hc
    rcases e' with q | q | q | q <;> simp [q])
  have new : ObjOk X.prog X.w (upd Hm s.heap.objs.size (.tup [x, y])) h' s.heap.objs.size (.tup [x, y]) :=
    ⟨by show 2 ≤ sizeLine; decide, [ux, uy], .cons rx (.cons ry .nil), ⟨_, hp, rfl, _, rfl⟩⟩
  have I1 : Inv X pins σ (upd Hm s.heap.objs.size (.tup [x, y])) { s with heap := h' } :=
    I.turnedNew (t' := s.toks) (ch := [z, TO, i1, i2]) (fun c o hb q => hk c o (fun q' => hb (by simp [q'])) (fun q' => hb (by simp [q'])) (fun q' => hb (by simp [q'])) (fun q' => hb (by simp [q'])) q) fp4 (Nat.le_refl _) new
  have nS : s.heap.objs.size ≠ S := Nat.ne_of_gt lt
  have fp' : ∀ c ∈ [z, TI, TO, i1, i2, S], FpOk X pins (upd Hm s.heap.objs.size (.tup [x, y])) c := fun c hc => by
    have hlt : c < s.heap.objs.size := by
      have e' : c ∈ [z, TI, TO, i1, i2] ∨ c = S := by
        simp at hc ⊢
        rcases hc with q | q | q | q | q | q <;> simp [q]
      rcases e' with q | q
      · exact Nat.lt_trans (ls c q) lt
      · rw [q]; exact lt
    have q := fp c hc
    exact ⟨by rw [upd_ne (Nat.ne_of_lt hlt)]; exact q.1, q.2⟩
  have up : ∀ c o, c ≠ S → h'.get? c = some o → (h'.update S (Obj.mapSeq (·.push (.ref s.heap.objs.size)))).get? c = some o := fun c o hc e => (Heap.get?_update_other _ _ (Ne.symm hc)).trans e
  have I2 : Inv X pins σ (upd Hm s.heap.objs.size (.tup [x, y])) { s with heap := h'.update S (Obj.mapSeq (·.push (.ref s.heap.objs.size))) } :=
    Inv.turnedL (s := { s with heap := h' }) (h' := h'.update S (Obj.mapSeq (·.push (.ref s.heap.objs.size)))) (t' := s.toks) (ch := [S]) I1 (fun c o hb q => up c o (fun z => hb (by simp [z])) q) fun c hc => fp' c (by have := List.mem_singleton.mp hc; simp [this])
  refine ⟨hS', ⟨_, _, .snoc zl (I.hok.fresh (Nat.le_refl _)) hx hy, I2, fp', by simp [ac]⟩, S0, ?_, up _ _ (Ne.symm d2) hTI, h1.at fun o q => up _ o (Ne.symm d4) q, h2.at fun o q => up _ o (Ne.symm d5) q, .inr ?_⟩
  · show S < (h'.update S _).objs.size
    exact Heap.lt_size (Heap.get?_update_self (Obj.mapSeq (·.push (Value.ref s.heap.objs.size))) hS' rfl)
  · obtain ⟨T, f, oT, q1, q2, q3, q4, q5, q6⟩ := zs
    exact ⟨T, f, oT, up _ _ (Ne.symm d1) q1, up _ _ q6 q2, q3, q4, q5, q6⟩
theorem ZIv.item {A : Around} {c : Nat} {Q : Option Value → Shared → Prop} {E : Value → Shared → Prop} (D : ZipApart z TI TO i1 i2 a b) (ls : ∀ c ∈ [z, TI, TO, i1, i2], c < S) (qx : SqL X.K H1 a xs) (qy : SqL X.K H1 b ys) (hi : i < min xs.length ys.length) (iv : ZIv X pins σ xs ys H1 a b z TI TO i1 i2 S i s acc)
    (hS : s.heap.get? S = some (LO acc c)) (h : ∀ v s', s'.heap.get? S = some (LO acc c) → ZIv X pins σ xs ys H1 a b z TI TO i1 i2 S (i + 1) { s' with heap := s'.heap.update S (Obj.mapSeq (·.push v)) } (acc.push v) → Q (some v) s') :
    wpAny (model X.prog X.w) A (pyNext (.ref z)) Q E s := by
  obtain ⟨⟨Hm, Ts, zl, I, fp, ac⟩, S0, lt, hTI, h1, h2, zs⟩ := iv
  obtain ⟨its, rv, p1, _⟩ := I.list (qx.up zl.up)
  obtain ⟨its2, rv2, p2, _⟩ := I.list (qy.up zl.up)
  have l1 := rv.length
  have l2 := rv2.length
  obtain ⟨x, hx⟩ : ∃ x, xs[i]? = some x := ⟨_, List.getElem?_eq_getElem (by omega)⟩
  obtain ⟨y, hy⟩ : ∃ y, ys[i]? = some y := ⟨_, List.getElem?_eq_getElem (by omega)⟩
  obtain ⟨ux, hux, rx⟩ := rv.get hx
  obtain ⟨uy, huy, ry⟩ := rv2.get hy
  have tl : ∀ {c o}, s.heap.get? c = some o → c < s.heap.objs.size := fun e => Heap.lt_size e
  have n1 : i1 < s.heap.objs.size := let ⟨_, e, _⟩ := h1; tl e
  have n2 : i2 < s.heap.objs.size := let ⟨_, e, _⟩ := h2; tl e
  rcases zs with ⟨hz, x0, y0, hTO⟩ | ⟨T, f, oT, hz, hT, r1, r2, r3, r4⟩
  · refine wpAny_pyNext_zip_item D hz hTI hTO h1 h2 p1.isList p2.isList (x := ux) (y := uy) (by simpa using hux) (by simpa using huy) fun h' a1 a2 a3 a4 a5 a6 hk => ?_
    obtain ⟨q1, q2⟩ := ZIv.next (h' := h') D ls S0 lt zl I fp ac hS hx hy rx ry (hk _ _ D.TIz D.TITO D.TIi1 D.TIi2 hTI) a3 a4 a5 a6 ⟨s.heap.objs.size, false, _, a1, a5, Nat.ne_of_gt (tl hz), Nat.ne_of_gt n1, Nat.ne_of_gt n2, Nat.ne_of_gt lt⟩ hk
    exact h _ { s with heap := h' } q1 q2
  · refine wpAny_pyNext_zip_item_held D hz hT hTI h1 h2 p1.isList p2.isList (x := ux) (y := uy) (by simpa using hux) (by simpa using huy) fun h' a1 a3 a4 a5 a6 hk => ?_
    obtain ⟨q1, q2⟩ := ZIv.next (h' := h') D ls S0 lt zl I fp ac hS hx hy rx ry (hk _ _ D.TIz D.TIi1 D.TIi2 hTI) a3 a4 a5 a6 ⟨T, true, oT, a1, hk _ _ r1 r2 r3 hT, r1, r2, r3, r4⟩ fun c o h1 _ h3 h4 => hk c o h1 h3 h4
    exact h _ { s with heap := h' } q1 q2
theorem ZIv.done {A : Around} {c : Nat} {Q : Option Value → Shared → Prop} {E : Value → Shared → Prop} (hh : A.handled = none) (D : ZipApart z TI TO i1 i2 a b) (ls : ∀ c ∈ [z, TI, TO, i1, i2], c < S) (qx : SqL X.K H1 a xs) (qy : SqL X.K H1 b ys) (iv : ZIv X pins σ xs ys H1 a b z TI TO i1 i2 S (min xs.length ys.length) s acc)
    (hS : s.heap.get? S = some (LO acc c)) (h : ∀ s' Hm Ts, s'.heap.get? S = some (LO acc c) → ZL xs ys H1 (min xs.length ys.length) Hm Ts → Inv X pins σ Hm s' → FpOk X pins Hm S → acc.toList = Ts.map Value.ref → Q none s') : wpAny (model X.prog X.w) A (pyNext (.ref z)) Q E s := by
  obtain ⟨⟨Hm, Ts, zl, I, fp, ac⟩, S0, lt, hTI, h1, h2, zs⟩ := iv
  obtain ⟨its, rv, p1, _⟩ := I.list (qx.up zl.up)
  obtain ⟨its2, rv2, p2, _⟩ := I.list (qy.up zl.up)
  have l1 := rv.length
  have l2 := rv2.length
  have d1 : S ≠ z := Nat.ne_of_gt (ls z (by simp))
  have d3 : S ≠ TO := Nat.ne_of_gt (ls TO (by simp))
  have d4 : S ≠ i1 := Nat.ne_of_gt (ls i1 (by simp))
  have d5 : S ≠ i2 := Nat.ne_of_gt (ls i2 (by simp))
  have fp4 : ∀ c ∈ [z, TO, i1, i2], FpOk X pins Hm c := fun c hc => fp c (by
    have e' : c = z ∨ c = TO ∨ c = i1 ∨ c = i2 := by simpa using hc
    rcases e' with q | q | q | q <;> simp [q])
  have hend : its.toArray[min xs.length ys.length]? = none ∨ its2.toArray[min xs.length ys.length]? = none := by
    rcases Nat.le_total xs.length ys.length with q | q
    · exact .inl (by simp; omega)
    · exact .inr (by simp; omega)
  have fin : ∀ h' : Heap, (∀ c o, c ≠ z → c ≠ TO → c ≠ i1 → c ≠ i2 → s.heap.get? c = some o → h'.get? c = some o) → Q none { s with heap := h' } := fun h' hk =>
    h { s with heap := h' } Hm Ts (hk S _ d1 d3 d4 d5 hS) zl (Inv.turnedL (t' := s.toks) (ch := [z, TO, i1, i2]) I (fun c o hb q => hk c o (fun q' => hb (by simp [q'])) (fun q' => hb (by simp [q'])) (fun q' => hb (by simp [q'])) (fun q' => hb (by simp [q'])) q) fp4) (fp S (by simp)) ac
  rcases zs with ⟨hz, x0, y0, hTO⟩ | ⟨T, f, oT, hz, hT, r1, r2, r3, r4⟩
  · exact wpAny_pyNext_zip_end hh D hz hTI hTO h1 h2 p1.isList p2.isList hend fun h' hk => fin h' hk
  · exact wpAny_pyNext_zip_end_held hh D hz hT hTI h1 h2 p1.isList p2.isList hend fun h' hk => fin h' fun c o h1 _ h3 h4 => hk c o h1 h3 h4
end
/-- list(zip(e, e2)) of two lists -/
theorem pe_listZip {X : Cx} {e e2 : Expr} {ta : TA} {p q zpos pos : Pos} (hc : X.calm = true) (hg : Gl X "list") (hm : X.mg "list" = none) (hgz : Gl X "zip") (hmz : X.mg "zip" = none) (ha : PA X [e, e2] ta)
    (hs : starEach [e, e2] X.env = (false, eval e X.env) :: starEach [e2] X.env := by rfl) (hpl : (backTo zpos (starEach [e2] X.env)).any (·.1) = false := by rfl)
    (hse : starEach [Expr.Call (.Name "zip" q) [e, e2] [] zpos] X.env = [(false, eval (Expr.Call (.Name "zip" q) [e, e2] [] zpos) X.env)] := by rfl) :
    PE X (.Call (.Name "list" p) [.Call (.Name "zip" q) [e, e2] [] zpos] [] pos) (tListZip X.K ta) := by
  refine ⟨fun pins s σ H Q I h => ?_⟩
  refine wpAny_Call_Name_kw (ld_blt I hg hm (u := .type "list") (by first | rfl | decide +kernel) ?_ (by first | decide +kernel | decide) (by first | decide +kernel | decide))
  rw [hse]
  refine PySem.callWith_type1 ?_
  refine Call_ (ld_blt I hgz hmz PyProof.Rows.boot_zip (PyProof.Rows.callWith_type1 (thn (ha.run zpos pins s σ H _ I h) fun us s1 ⟨vs, H1, I1, r1, q1⟩ => ?_) hs hpl))
  obtain ⟨a, b, xs, ys, ex, hqx, hqy, q1⟩ := q1
  subst ex
  cases r1 with
  | cons r rr =>
    cases rr with
    | cons r' rr =>
      cases rr
      cases r
      cases r'
      obtain ⟨its, rv, p1, hz1⟩ := I1.list hqx
      obtain ⟨its2, rv2, p2, hz2⟩ := I1.list hqy
      refine call_zip_2 p1.isList p2.isList fun h' hz hTI hTO h1 h2 hsz hk => ?_
      have I2 : Inv X pins σ H1 { s1 with heap := h' } := I1.kept (t' := s1.toks) hk
      have D := PySem.W.ktu_apart s1.heap.objs.size a b p1.lt p2.lt
      have ls : ∀ c ∈ [s1.heap.objs.size + 4, s1.heap.objs.size + 2, s1.heap.objs.size + 3, s1.heap.objs.size, s1.heap.objs.size + 1], c < h'.objs.size := fun c hcm => by
        have e' : c = s1.heap.objs.size + 4 ∨ c = s1.heap.objs.size + 2 ∨ c = s1.heap.objs.size + 3 ∨ c = s1.heap.objs.size ∨ c = s1.heap.objs.size + 1 := by simpa using hcm
        rcases e' with z | z | z | z | z <;> (rw [z, hsz]; omega)
      have hA : X.A.handled = none := I1.ok.hd hc
      refine call_list_zipI (s := { s1 with heap := h' }) (S := h'.objs.size) (n := min xs.length ys.length) (z := s1.heap.objs.size + 4) (TI := s1.heap.objs.size + 2) (TO := s1.heap.objs.size + 3)
        (IvA := fun _ i s acc => ZIv X pins σ xs ys H1 a b (s1.heap.objs.size + 4) (s1.heap.objs.size + 2) (s1.heap.objs.size + 3) s1.heap.objs.size (s1.heap.objs.size + 1) h'.objs.size i s acc)
        (Fin := fun s' acc => ∃ Hm Ts, ZL xs ys H1 (min xs.length ys.length) Hm Ts ∧ Inv X pins σ Hm s' ∧ FpOk X pins Hm h'.objs.size ∧ acc.toList = Ts.map Value.ref) rfl (by omega) hz ?_ ?_ ?_ ?_ ?_
      · intro _ i s acc iv
        obtain ⟨Hm, Ts, zl, _, _, ac⟩ := iv.ex
        have := congrArg List.length ac
        rw [List.length_map, zl.len] at this
        simpa using this
      · intro h2' hk2 hlt _
        have I3 : Inv X pins σ H1 { s1 with heap := h2' } := I2.kept (t' := s1.toks) hk2
        have fresh : ∀ c, s1.heap.objs.size ≤ c → FpOk X pins H1 c := fun c hle => I1.fpOk hle (I1.hok.fresh hle)
        refine ⟨⟨H1, [], .nil, I3, fun c hcm => fresh c ?_, rfl⟩, ?_, hlt, hk2 _ _ hTI, h1.at fun o q => hk2 _ o q, h2.at fun o q => hk2 _ o q, .inl ⟨hk2 _ _ hz, _, _, hk2 _ _ hTO⟩⟩
        · have e' : c = s1.heap.objs.size + 4 ∨ c = s1.heap.objs.size + 2 ∨ c = s1.heap.objs.size + 3 ∨ c = s1.heap.objs.size ∨ c = s1.heap.objs.size + 1 ∨ c = h'.objs.size := by simpa using hcm
          rcases e' with z | z | z | z | z | z <;> (rw [z]; omega)
        · have := I1.sz
          omega
      · intro B i s acc c Q E hi iv hS h
        exact ZIv.item D ls hqx hqy hi iv hS h
      · intro B s acc c Q E hB iv hS h
        exact ZIv.done (hB.trans hA) D ls hqx hqy iv hS fun s' Hm Ts hS' zl J fpS ac => h s' hS' ⟨Hm, Ts, zl, J, fpS, ac⟩
      · intro s' acc' c' ⟨Hm, Ts, zl, J, fpS, ac⟩ hS
        have hlen := zl.len
        have s0 : X.s_0.heap.get? h'.objs.size = none := Heap.get?_none_of_le (by have := I1.sz; omega)
        have rel : ∀ Ts : List Addr, Vals (Ts.map V.ref) (Ts.map Value.ref) := fun Ts => by
          induction Ts with
          | nil => exact .nil
          | cons T Ts ih => exact .cons rfl ih
        have ok : ObjOk X.prog X.w (upd Hm h'.objs.size (.lst (Ts.map V.ref))) s'.heap h'.objs.size (.lst (Ts.map V.ref)) :=
          ⟨by rw [List.length_map, hlen]; omega, Ts.map Value.ref, c', rel Ts, by rw [hS, ← ac]⟩
        exact ⟨.ref h'.objs.size, _, J.trackAny hS (fun v q => by cases q) s0 fpS.1 fpS.2.1 (fun p hp => fpS.2.2.2.2.2 p hp) ok, rfl, q1 _ _ _ zl fpS.1⟩
end L2

set_option Elab.async false
set_option linter.all false
set_option maxRecDepth 100000
set_option maxHeartbeats 4000000
namespace Fx
open PySem L2
variable [Tb]
/-! ### list(zip(a, b)) -/
def eListZip (f g : Env → Rz (Env × D)) : Env → Rz (Env × Rs) := fun ρ => (f ρ).bind fun p => (g p.1).bind fun q => match p.2, q.2 with
  | .nd .lst ds, .nd .lst es => .ok (q.1, .nw (.nd .lst (zipD ds es)))
  | _, _ => .no
theorem zpD_get : ∀ {ds es : List D} {i : Nat} {d e : D}, ds[i]? = some d → es[i]? = some e → (zipD ds es)[i]? = some (.nd .tup [d, e])
  | [], _, _, _, _, h, _ => by simp at h
  | _ :: _, [], _, _, _, _, h => by simp at h
  | x :: ds, y :: es, 0, d, e, h, k => by simp at h k; subst h; subst k; rfl
  | x :: ds, y :: es, i + 1, d, e, h, k => zpD_get (ds := ds) (es := es) (i := i) (by simpa using h) (by simpa using k)
theorem zpD_len : ∀ {ds es : List D}, (zipD ds es).length = min ds.length es.length
  | [], _ => by simp [zipD]
  | _ :: _, [] => by simp [zipD]
  | x :: ds, y :: es => by
    have := zpD_len (ds := ds) (es := es)
    simp only [zipD, List.length_cons, this]
    omega
theorem zl_has {M : Md} {Γ : Gh} {Hf : Hp} {σ : L2.St} {H : Hp} {ρ : Env} {ds es : List D} {xs ys : List V} (R : Rep M Γ Hf σ H ρ) (hd : HasAll M Hf ds xs) (he : HasAll M Hf es ys) {i : Nat} {Hm : Hp} {Ts : List Addr} (z : ZL xs ys H i Hm Ts) :
    ∃ Hf', Same Hf Hf' ∧ Rep M Γ Hf' σ Hm ρ ∧ HasAll M Hf' ((zipD ds es).take i) (Ts.map V.ref) := by
  induction z with
  | nil => exact ⟨Hf, Same.refl _, R, by rw [List.take_zero]; exact .nil⟩
  | snoc z n hx hy ih =>
    rename_i i Hm Ts T x y
    obtain ⟨Hf', S, R', h⟩ := ih
    obtain ⟨d, hd1, hd2⟩ := hd.getV hx
    obtain ⟨e, he1, he2⟩ := he.getV hy
    obtain ⟨S2, R2⟩ := R'.lay n (.tup [x, y])
    refine ⟨_, S.trans S2, R2, ?_⟩
    have e1 : (zipD ds es).take (i + 1) = (zipD ds es).take i ++ [.nd .tup [d, e]] := by
      rw [List.take_add_one, zpD_get hd1 he1]
      rfl
    rw [e1, List.map_append]
    exact (h.same S2).append (.single (.tup (.inl (.inl upd_same)) (.cons (hd2.same (S.trans S2)) (.cons (he2.same (S.trans S2)) .nil))))
section
variable {X : Cx} {W : WX} {e e2 : Expr} {f g : Env → Rz (Env × D)} {p q zpos pos : Pos}
theorem re_listZip (hc : X.calm = true) (h : RV X W e f) (h2 : RV X W e2 g) (hm : X.mg "list" = none) (hmz : X.mg "zip" = none) (hg : Gl X "list" := by rfl) (hgz : Gl X "zip" := by rfl)
    (hs : starEach [e, e2] X.env = (false, eval e X.env) :: starEach [e2] X.env := by rfl) (hs2 : starEach [e2] X.env = (false, eval e2 X.env) :: starEach [] X.env := by rfl) (hpl : (backTo zpos (starEach [e2] X.env)).any (·.1) = false := by rfl)
    (hse : starEach [Expr.Call (.Name "zip" q) [e, e2] [] zpos] X.env = [(false, eval (Expr.Call (.Name "zip" q) [e, e2] [] zpos) X.env)] := by rfl) :
    RE X W (.Call (.Name "list" p) [.Call (.Name "zip" q) [e, e2] [] zpos] [] pos) (eListZip f g) :=
  pe_mono (pe_listZip hc hg hm hgz hmz (pa_cons h (pa_cons h2 pa_nil hs2) hs) hs hpl hse) fun σ H Q ⟨Γ, Hf, ρ, R, hw⟩ => bindV R hw fun ρ1 d Hf1 H1 v S R1 hv hq => bindV R1 hq fun ρ2 d2 Hf2 H2 v2 S2 R2 hv2 hq2 => by
    have hv' := hv.same S2
    cases hv' with
    | lst s t =>
      cases hv2 with
      | lst s2 t2 =>
        refine ⟨_, _, _, _, rfl, SqL.of (R2.sub _ _ s), SqL.of (R2.sub _ _ s2), fun Hm Ts T zl hn => ?_⟩
        obtain ⟨Hf3, S3, R3, h3⟩ := zl_has R2 t t2 zl
        obtain ⟨R4, h0, hf, hnw⟩ := R3.layN hn (.lst (Ts.map V.ref))
        have l1 := t.length
        have l2 := t2.length
        rw [← l1, ← l2, ← zpD_len, List.take_length] at h3
        exact hq2 Hf3 _ _ (S.trans (S2.trans S3)) R4 ⟨_, rfl, h0, .lst hf upd_same h3, hnw⟩
      | _ => exact hq2.elim
    | _ => cases hv2 <;> exact hq2.elim
end
end Fx

set_option Elab.async false
set_option linter.all false
set_option maxRecDepth 100000
set_option maxHeartbeats 4000000
namespace Fx
open PySem L2 PySem.Spec PyProof.Rows
/-! ### the end, where the law's def holds lambdas -/
/-- the law's def, its code object at c -/
structure LawC (K : PySem.W.Frag) (mg : Str → Option Value) (x : Str) (st : Stmt) (c : Addr) : Prop where
  ex : ∃ (f : Addr) (oc : Value) (od : Option Addr) (kV doc pm ct : Value) (an : Option Addr) (osl : Array (Option Value)), mg x = some (.ref f) ∧ K.lookup f = some ⟨oc, od, .func (PySem.W.fnOf x x (defArgs st) (defBody st) (defScope st) .none kV doc pm an (.ref c) ct), osl⟩ ∧ PySem.W.codeIn K (.ref c) x = true
theorem law_of [Tb] {P : Program} {w : World} {K : PySem.W.Frag} {mg : Str → Option Value} {base : Heap} {x : Str} {st : Stmt} {c k : Nat} {N ps : List Str} {body : Env → Rz (Env × Fl)} (L : LawC K mg x st c) (S : FnScope N ps (defScope st)) (hps : ps.length ≤ N.length)
    (hbody : ∀ (A : Around) (outer : List PySem.Env) (f : Addr) (s : Shared) (H : Hp) (E : XK), Room k (A.deeper (frameOf x (defScope st) s f (.ref c))) → A.guards = some [] →
      RSs (cxOf CX0 P w K mg base N x (defScope st) f (.ref c) A outer s H E).nox W0 (defBody st) body) :
    ∀ (f : Addr) (oc : Value) (od : Option Addr) (kV doc pm ct : Value) (an : Option Addr) (osl : Array (Option Value)), K.lookup f = some ⟨oc, od, .func (PySem.W.fnOf x x (defArgs st) (defBody st) (defScope st) .none kV doc pm an (.ref c) ct), osl⟩ → PySem.W.codeIn K (.ref c) x = true →
      FnG P w K mg base CX0 (k + 1) f (PySem.W.fnOf x x (defArgs st) (defBody st) (defScope st) .none kV doc pm an (.ref c) ct) ps (spN ps.length ⟨K, mg⟩ fun a => noX (runF N.length body a)) := by
  intro f oc od kV doc pm ct an osl lk hcd
  refine fnG_of lk hcd S (fun vs H Q E h => h.1) fun A outer s H vs Q E hr hg hsp => ?_
  refine ⟨_, (hbody A outer f s H E hr hg).nox, ?_⟩
  obtain ⟨hl, Hf, args, Ar, hw⟩ := hsp
  exact runF_ends (E := fun _ _ _ => False) (by rw [hl]; exact hps) (fun _ _ _ _ z => z) ⟨Hf, args, Ar, Rz.wp_mono (noX_wp hw) (fun _ z => z) fun _ _ z => z.elim⟩
/-- the law's def is called, one table of code objects is watched -/
theorem law_callG {P : Program} {w : World} {K : PySem.W.Frag} {mg mb : Str → Option Value} {k : Nat} {fa a c T : Addr} {fd : FuncData} {x : Str} {sp : Sp} {s₁ : Shared} {vs : List Value} {ns : List Int}
    (KX : K.In s₁.heap) (hns : s₁.heap.Ns mainGlobals mg) (hb : s₁.heap.Ns builtinsNs mb) (hbb : ∀ x : Str, x ≠ "__name__" → mb x = bootBuiltins x) (hlim : s₁.heap.NoLimit) (hg : s₁.gens = #[])
    (hT : s₁.heap.get? T = some { cls := .none, data := .fields #[] }) (nT : K.lookup T = none) (C : PySem.W.CodeHd s₁.heap c T)
    (hbm : ∃ (bm : Addr) (ob : Obj), mg "__builtins__" = some (.ref bm) ∧ bm ≠ builtinsNs ∧ s₁.heap.get? bm = some ob ∧ ob.cls = .type "module" ∧ ob.dict = some builtinsNs ∧ ob.data = .plain)
    (ha : s₁.heap.get? a = some { cls := .type "list", data := .seq vs.toArray }) (hi : IntsAre vs ns) (hl : ns.length ≤ sizeLine) (hr : Room k callerA)
    (F : ∀ base : Heap, K.In base → base.Ns mainGlobals mg → LamX.TabB base mg c T → FnG P w K mg base CX0 k fa fd [x] sp) (hbind : ∀ (s : Shared) (u : Value), BindsTo s fd ⟨[u], []⟩ [(x, u)])
    (hsp : ∀ H : Hp, H T = some (.tbl #[]) → SqL K H a (ns.map V.int) → sp [.ref a] H (fun v _ => v = .bl true) fun _ _ _ => False) :
    codeAny (model P w) callerA (.call (.ref fa) ⟨[.ref a], []⟩) (fun r s' => r = .ok (.ret (.bool true)) ∧ OldK s₁.heap s'.heap ∧ s'.os = s₁.os ∧ AllBare s'.gens) s₁ := by
  have rv := vals_ints hi
  have lenV := hi.length
  have aT : a ≠ T := fun z => by
    rw [z, hT] at ha
    have z' : Data.fields #[] = Data.seq vs.toArray _ := congrArg Obj.data (Option.some.inj ha)
    cases z'
  have core : ∀ H : Hp, H T = some (.tbl #[]) → (∀ b, H b = none ∨ b = T ∨ ∃ o xs, H b = some (.frz o (.lst xs))) → SqL K H a (ns.map V.int) → HOk P w H s₁.heap → (∀ b, H b ≠ none → b = a ∨ b = T) → (H a ≠ none → K.lookup a = none) →
      codeAny (model P w) callerA (.call (.ref fa) ⟨[.ref a], []⟩) (fun r s' => r = .ok (.ret (.bool true)) ∧ OldK s₁.heap s'.heap ∧ s'.os = s₁.os ∧ AllBare s'.gens) s₁ := by
    intro H hH hO hS hok hA hK
    have base_of : ∀ {b : Addr} {o : Obj}, s₁.heap.get? b = some o → H b = none → (hidT s₁.heap H).get? b = some o := fun e n => hidT_get e n
    have noD : ∀ {b : Addr} {o : Obj}, s₁.heap.get? b = some o → (∀ vs n, o.data ≠ .seq vs n) → o.data ≠ .fields #[] → H b = none := fun {b o} e h1 h2 => by
      cases q : H b with
      | none => rfl
      | some u =>
        rcases hA b (by rw [q]; simp) with e' | e'
        · rw [e', ha] at e
          cases e
          exact (h1 _ _ rfl).elim
        · rw [e', hT] at e
          cases e
          exact (h2 rfl).elim
    have noA : ∀ {b : Addr} {o : Obj} {es : Array DictEntry} {ep : Nat}, s₁.heap.get? b = some o → o.data = .dict es ep → H b = none := fun {b o es ep} e d => by
      refine noD e (fun vs n z => ?_) fun z => ?_
      · rw [d] at z
        cases z
      · rw [d] at z
        cases z
    have nsK : ∀ {b : Addr} {m : Str → Option Value}, s₁.heap.Ns b m → (hidT s₁.heap H).Ns b m := fun {b m} ⟨o, es, ep, e, d, r⟩ => ⟨o, es, ep, base_of e (noA e d), d, r⟩
    have hKb : K.In (hidT s₁.heap H) := fun b o e => base_of (KX b o e) (by
      cases q : H b with
      | none => rfl
      | some u =>
        rcases hA b (by rw [q]; simp) with e' | e'
        · rw [e'] at e q
          rw [hK (by rw [q]; simp)] at e
          cases e
        · rw [e', nT] at e
          cases e)
    have hM : L2.Mod K mg (hidT s₁.heap H) := ⟨hKb, nsK hns, ⟨mb, nsK hb, hbb⟩, let ⟨mc, h1, h2⟩ := hlim; ⟨mc, nsK h1, h2⟩⟩
    have TBx : LamX.TabB (hidT s₁.heap H) mg c T := by
      refine ⟨?_, ?_, fun z => ?_⟩
      · obtain ⟨o, us, file, tf, flags, tg, inF, text, tt, e1, r1, r2, r3, r4, r5, r6, r7, r8, hne⟩ := C
        refine ⟨o, us, file, tf, flags, tg, inF, text, tt, base_of e1 (noD e1 (fun vs n z => ?_) fun z => ?_), r1, r2, r3, r4, r5, r6, r7, r8, hne⟩
        · rw [r2] at z
          cases z
        · rw [r2] at z
          cases z
          simp at r3
      · obtain ⟨bm, ob, b1, b2, b3, b4, b5, b6⟩ := hbm
        have nG : bm ≠ mainGlobals := fun q => by
          obtain ⟨o, es, ep, e, hd, _⟩ := hns
          rw [q, e] at b3
          cases b3
          rw [hd] at b6
          cases b6
        have nP : bm ≠ T := fun q => by
          rw [q, hT] at b3
          cases b3
          cases b6
        refine ⟨bm, ob, b1, b2, nG, nP, base_of b3 (noD b3 (fun vs n z => ?_) fun z => ?_), b4, b5, b6⟩
        · rw [b6] at z
          cases z
        · rw [b6] at z
          cases z
      · obtain ⟨o, es, ep, e, hd, _⟩ := hns
        rw [z, hT] at e
        cases e
        cases hd
    have e0 : Env0 P w K mg (hidT s₁.heap H) callerA [] s₁ H := ⟨rfl, hM, fun b o e => of_hidT e, Nat.le_of_eq (hidT_size _ _), trivial, fun b hb => absurd (show b ∈ ([] : List Addr) from hb) (by simp), hok, .of_eq hg⟩
    refine codeAny_mono ((F _ hKb (nsK hns) TBx).run callerA [] s₁ H ⟨[.ref a], []⟩ [.ref a] [.ref a] _ _ hr rfl e0 (hbind s₁ (.ref a)) (.cons rfl .nil) (hsp H hH hS)) fun r s' h => ?_
    cases r with
    | error e => exact h.elim
    | ok fl =>
      cases fl with
      | next => exact False.elim h
      | brk => exact False.elim h
      | cont => exact False.elim h
      | ret u =>
        obtain ⟨v, H', os, bare, un, hok', r', q⟩ := h
        have q' : v = .bl true := q
        subst q'
        obtain rfl : u = Value.bool true := r'
        have key : ∀ b o, b ≠ T → s₁.heap.get? b = some o → s'.heap.get? b = some o := fun b o nb e => by
          cases q : H b with
          | none => exact un.keep b o e q (by intro z; exact absurd (show b ∈ ([] : List Addr) from z) (by simp)) (by simp)
          | some u =>
            rcases hO b with z | z | ⟨ob, xs, z⟩
            · rw [q] at z; cases z
            · exact absurd z nb
            · have z2 := un.frzs b ob _ z
              obtain ⟨e1, _⟩ := hok b _ z
              obtain ⟨e2, _⟩ := hok' b _ z2
              rw [e] at e1; cases e1
              exact e2
        obtain ⟨more, hm⟩ : ∃ more : Array Value, s'.heap.get? T = some { cls := .none, data := .fields more } := by
          obtain ⟨more, z⟩ := un.tbls T #[] hH
          exact ⟨_, hok' T _ z⟩
        refine ⟨rfl, ⟨fun b o e => ?_, fun b o e => ?_⟩, os, bare⟩
        · by_cases hb : b = T
          · subst hb
            rw [hT] at e
            cases e
            exact .inr (.inl ⟨(C.tab hT).isCodeTable, rfl, #[], more, rfl, by rw [Array.empty_append]; exact hm⟩)
          · exact .inl (key b o hb e)
        · by_cases hb : b = T
          · subst hb
            exact ⟨_, hm⟩
          · exact ⟨o, key b o hb e⟩
  cases hk : K.lookup a with
  | some o =>
    have e := KX a o hk
    rw [ha] at e
    cases e
    refine core (fun b => if b = T then some (.tbl #[]) else none) (if_pos rfl) (fun b => ?_) (.inr ⟨_, vs.toArray, _, hk, rfl, rfl, rfl, by rw [List.size_toArray, lenV]; exact hl, by simpa using rv⟩) (fun b u z => ?_) (fun b z => ?_) fun z => absurd (show (if a = T then some (HO.tbl #[]) else none) = none from if_neg aT) z
    · by_cases hb : b = T
      · exact .inr (.inl hb)
      · exact .inl (if_neg hb)
    · by_cases hb : b = T
      · have z' := (if_pos hb).symm.trans z
        cases z'
        rw [hb]
        exact hT
      · have z' := (if_neg hb).symm.trans z
        cases z'
    · by_cases hb : b = T
      · exact .inr hb
      · exact absurd (if_neg hb) z
  | none =>
    refine core (fun b => if b = a then some (.frz { cls := .type "list", data := .seq vs.toArray } (.lst (ns.map V.int))) else if b = T then some (.tbl #[]) else none) ((if_neg (Ne.symm aT)).trans (if_pos rfl)) (fun b => ?_)
      (.inl (.inr ⟨{ cls := .type "list", data := .seq vs.toArray }, if_pos rfl⟩)) (fun b u z => ?_) (fun b z => ?_) fun _ => hk
    · by_cases hb : b = a
      · exact .inr (.inr ⟨_, _, if_pos hb⟩)
      · by_cases hb2 : b = T
        · exact .inr (.inl hb2)
        · exact .inl ((if_neg hb).trans (if_neg hb2))
    · by_cases hb : b = a
      · have z' := (if_pos hb).symm.trans z
        cases z'
        rw [hb]
        exact ⟨ha, by rw [List.length_map]; exact hl, vs, _, rv, ha⟩
      · have z1 := (if_neg hb).symm.trans z
        by_cases hb2 : b = T
        · have z' := (if_pos hb2).symm.trans z1
          cases z'
          rw [hb2]
          exact hT
        · have z' := (if_neg hb2).symm.trans z1
          cases z'
    · by_cases hb : b = a
      · exact .inl hb
      · by_cases hb2 : b = T
        · exact .inr hb2
        · exact absurd ((if_neg hb).trans (if_neg hb2)) z
/-- the goal of the row's walk -/
theorem walkT {l : PySem.W.OpenLaw} {n k : Nat} {q : Program} {loose : List Str} {XP : (Str → Option Value) → Heap → Prop} {YP : World → Heap → Prop} {d : DefRec} {K : Params → PySem.W.Frag} {x : Str} (hn : l.most = some n) (n2 : n ≤ sizeLine) (hdf : d.params.defaults = [])
    (room : Room k callerA) (hrec : ((recsOf q).any fun e => e.name == d.name) = true) (hY : ∀ (w : World) (h : Heap), YP w h → (K w.params).In h)
    (F : ∀ (w : World) (mg : Str → Option Value) (fa : Addr) (h : Heap), (K w.params).In h → h.Ns mainGlobals mg → mg d.name = some (.ref fa) → ∃ (fd : FuncData) (c T : Addr) (o : Obj) (sp : Sp), (K w.params).lookup fa = some o ∧ o.data = .func fd ∧ fd.code = .ref c ∧ PySem.W.codeHdIn (K w.params) c T = true ∧ (K w.params).lookup T = none ∧
      (∀ (s : Shared) (u : Value), BindsTo s fd ⟨[u], []⟩ [(x, u)]) ∧
      (∀ (H : Hp) (a : Addr) (ns : List Int), ns.length ≤ n → (∀ z ∈ ns, Builtin.Int.intBits z ≤ 1048576) → H T = some (.tbl #[]) → SqL (K w.params) H a (ns.map V.int) → sp [.ref a] H (fun v _ => v = .bl true) fun _ _ _ => False) ∧
      ∀ base : Heap, (K w.params).In base → base.Ns mainGlobals mg → LamX.TabB base mg c T → FnG l.prog w (K w.params) mg base CX0 k fa fd [x] sp) :
    PySem.W.WalkO q loose XP YP l.row.toRowW d [] (fun f vs => PySem.call f vs) := by
  refine Att.attach_callB hn hdf fun w s₀ s₁ mg mb fa o pm cd doc a vs ns G Y ho hd hcd hmg hobj hints hlen hbits hg => ?_
  have KX := hY w _ Y
  obtain ⟨fd, c, T, o1, sp, k1, k2, k3, hcT, nT, hb, hsp, hF⟩ := F w mg fa _ KX G.T.g hmg
  have C := PySem.W.codeHd_of_K KX hcT
  have hT : s₁.heap.get? T = some { cls := .none, data := .fields #[] } := by
    obtain ⟨dL, hm, hn1⟩ := List.any_eq_true.mp hrec
    have hn2 : dL.name = d.name := beq_iff_eq.mp hn1
    obtain ⟨a', o', fd', c', P', h1, h2, h3, h4, h5, h6⟩ := G.T.tab dL hm
    rw [hn2, hmg] at h1
    cases h1
    have g1 := KX _ _ k1
    rw [g1] at h2
    cases h2
    rw [k2] at h3
    cases h3
    rw [k3] at h4
    cases h4
    obtain ⟨⟨oc, vc, e1, _, e3, e4⟩, hP⟩ := h6
    obtain ⟨o, us, file, tf, flags, tg, inF, text, tt, f1, f2, f3, f4, _⟩ := C
    rw [e1] at f1
    cases f1
    rw [e3] at f3
    cases f3
    rw [e4] at f4
    cases f4
    exact hP
  exact law_callG KX G.T.g G.T.b G.T.builtins G.T.nolimit hg hT nT C G.T.bmain hobj hints (Nat.le_trans hlen n2) room hF hb fun H hH hS => hsp H a ns hlen hbits hH hS
end Fx

set_option Elab.async false
set_option linter.all false
set_option maxRecDepth 100000
set_option maxHeartbeats 4000000
namespace Fx
open PySem L2
/-! ### classes as expressions; the stand of a class -/
section
variable {X : Cx} {x : Str} {p : Pos}
theorem clsE_b (t : BT) (hm : X.mg x = none) (hv : bootBuiltins x = some (.type t.name) := by decide +kernel) (hg : Gl X x := by rfl) (hn : x ≠ "__name__" := by decide) (hd : (x == ("__debug__" : Str)) = false := by decide) : ClsE X (.Name x p) (.b t) :=
  ⟨_, _, pe_bltn (v := .ty t.name) hg hm hv rfl hn hd, .ty _, rfl⟩
theorem clsE_e (hm : ∃ C, X.mg x = some (.ref C)) (hg : Gl X x := by rfl) (hd : (x == ("__debug__" : Str)) = false := by decide) : ClsE X (.Name x p) (.e x) := by
  obtain ⟨C, hm⟩ := hm
  exact ⟨_, _, pe_glob (v := .ref C) hg hm rfl hd, .own C, hm, C, rfl⟩
theorem clsE_o (hm : ∃ C, X.mg x = some (.ref C)) (hg : Gl X x := by rfl) (hd : (x == ("__debug__" : Str)) = false := by decide) : ClsE X (.Name x p) (.o x) := by
  obtain ⟨C, hm⟩ := hm
  exact ⟨_, _, pe_glob (v := .ref C) hg hm rfl hd, .own C, hm, C, rfl⟩
end
/-- the statements of a class -/
def clsBody (s : Stmt) : List Stmt := match s with
  | .ClassDef _ _ _ b _ _ _ _ _ _ _ => b
  | _ => []
theorem XfT.nil {K : PySem.W.Frag} {mg : Str → Option Value} {f : Str} : XfT K mg [] f := ⟨fun c h => by cases h⟩
end Fx

set_option Elab.async false
set_option linter.all false
set_option maxRecDepth 100000
set_option maxHeartbeats 4000000
namespace Fx
open PySem L2
variable [Tb]
/-! ### chains and 'is None' as tests -/
section
variable {X : Cx} {W : WX} {a b c : Expr} {pos : Pos} {f g h : Env → Rz (Env × Rs)}
theorem rdT_tV {M : Md} {v : Env → Rz (Env × D)} {σ : L2.St} {H : Hp} {Q : Bool → Hp → Prop} (h : rdT M W (tV v) σ H Q) : rdV M W v σ H fun x H1 => ∃ k, x = .bl k ∧ Q k H1 := by
  obtain ⟨Γ, Hf, ρ, R, hw⟩ := h
  exact bindV R hw fun ρ1 d Hf1 H1 v S1 R1 hv hq => by
    cases hv with
    | bl b => exact ⟨b, rfl, hq Hf1 H1 S1 R1⟩
    | _ => exact hq.elim
theorem rt_isN {j pos'} (ha : RH X W a f) : RT X W (.Compare a [.Is] [.Constant .none j pos'] pos) (tV (vIsN f)) := pt_mono (pt_cmp (pc_isN ha) rfl) fun σ H Q h => by
  obtain ⟨Γ, Hf, ρ, R, hw⟩ := rdT_tV h
  exact bindH R hw fun ρ1 r Hf1 H1 v S1 R1 hv hq => by
    obtain ⟨d, e1, hq⟩ := ofO_bind hq
    have T := R1.peek hv.rs e1
    rw [isN_eq T]
    exact hq Hf1 H1 _ S1 R1 (.bl _)
theorem rt_notN {j pos'} (ha : RH X W a f) : RT X W (.Compare a [.IsNot] [.Constant .none j pos'] pos) (tV (vNotN f)) := pt_mono (pt_cmp (pc_notN ha) rfl) fun σ H Q h => by
  obtain ⟨Γ, Hf, ρ, R, hw⟩ := rdT_tV h
  exact bindH R hw fun ρ1 r Hf1 H1 v S1 R1 hv hq => by
    obtain ⟨d, e1, hq⟩ := ofO_bind hq
    have T := R1.peek hv.rs e1
    rw [isN_eq T]
    exact hq Hf1 H1 _ S1 R1 (.bl _)
theorem rt_chain {op op' : CmpOp} {r r' : R2} {F G : D → D → Option Bool} (ho : OpR X (compareOp op) r) (ho' : OpR X (compareOp op') r') (hs : ServesB ⟨X.K, X.mg⟩ r F) (hs' : ServesB ⟨X.K, X.mg⟩ r' G) (ha : RH X W a f) (hb : RH X W b g) (hc : RH X W c h)
    (hm : lastMarks [op, op'] [b, c] = false := by with_unfolding_all rfl) : RT X W (.Compare a [op, op'] [b, c] pos) (tV (vChain F G f g h)) := pt_mono (pt_chain ho ho' ha hb hc hm) fun σ H Q hh => by
  obtain ⟨Γ, Hf, ρ, R, hw⟩ := rdT_tV hh
  exact bindH R hw fun ρ1 r1 Hf1 H1 x S1 R1 hx hq => bindH R1 hq fun ρ2 r2 Hf2 H2 y S2 R2 hy hq2 => by
    obtain ⟨d, e1, hq2⟩ := ofO_bind hq2
    obtain ⟨e, e2, hq2⟩ := ofO_bind hq2
    obtain ⟨k, e3, hq2⟩ := ofO_bind hq2
    refine hs Hf2 H2 x y d e k (R2.peek (hx.up S2).rs e1) (R2.peek hy.rs e2) R2.sub e3 _ ⟨k, rfl, ?_⟩
    cases k with
    | false => exact iteF (hq2 Hf2 H2 _ (S1.trans S2) R2 (.bl _))
    | true =>
      refine iteT (bindH R2 (show ((h ρ2).bind _).wp _ _ from hq2) fun ρ3 r3 Hf3 H3 z S3 R3 hz hq3 => ?_)
      obtain ⟨e', e4, hq3⟩ := ofO_bind hq3
      obtain ⟨cc, e5, hq3⟩ := ofO_bind hq3
      obtain ⟨b2, e6, hq3⟩ := ofO_bind hq3
      exact hs' Hf3 H3 y z e' cc b2 (R3.peek (hy.up S3).rs e4) (R3.peek hz.rs e5) R3.sub e6 _ (hq3 Hf3 H3 _ (S1.trans (S2.trans S3)) R3 (.bl _))
theorem rt_leLe (ha : RH X W a f) (hb : RH X W b g) (hc : RH X W c h) (hm : lastMarks [.LtE, .LtE] [b, c] = false := by with_unfolding_all rfl) : RT X W (.Compare a [.LtE, .LtE] [b, c] pos) (tV (vChain dLe dLe f g h)) := rt_chain op_le op_le serves_BI serves_BI ha hb hc hm
end
end Fx

set_option Elab.async false
set_option linter.all false
set_option maxRecDepth 100000
set_option maxHeartbeats 4000000
namespace Fx
open PySem L2
/-! ### values worked out to the end, for the kernel -/
section
variable {α : Type}
def frcN (n : Nat) (K : Nat → α) : α := match n with
  | 0 => K 0
  | n + 1 => K (n + 1)
theorem frcN_eq (n : Nat) (K : Nat → α) : frcN n K = K n := by cases n <;> rfl
def frcNL : List Nat → (List Nat → α) → α
  | [], K => K []
  | n :: l, K => frcN n fun m => frcNL l fun k => K (m :: k)
theorem frcNL_eq : ∀ (l : List Nat) (K : List Nat → α), frcNL l K = K l
  | [], _ => rfl
  | n :: l, K => by
    show frcN n (fun m => frcNL l fun k => K (m :: k)) = _
    rw [frcN_eq, frcNL_eq l]
def frcI (i : Int) (K : Int → α) : α := match i with
  | .ofNat n => frcN n fun m => K (.ofNat m)
  | .negSucc n => frcN n fun m => K (.negSucc m)
theorem frcI_eq (i : Int) (K : Int → α) : frcI i K = K i := by cases i <;> simp only [frcI, frcN_eq]
def frcS (s : Str) (K : Str → α) : α := match s with
  | ⟨⟨l⟩⟩ => frcNL l fun k => K ⟨⟨k⟩⟩
theorem frcS_eq (s : Str) (K : Str → α) : frcS s K = K s := by
  obtain ⟨⟨l⟩⟩ := s
  show frcNL _ _ = _
  rw [frcNL_eq]
def frcSL : List Str → (List Str → α) → α
  | [], K => K []
  | n :: l, K => frcS n fun m => frcSL l fun k => K (m :: k)
theorem frcSL_eq : ∀ (l : List Str) (K : List Str → α), frcSL l K = K l
  | [], _ => rfl
  | n :: l, K => by
    show frcS n (fun m => frcSL l fun k => K (m :: k)) = _
    rw [frcS_eq, frcSL_eq l]
def frcY (k : Key) (K : Key → α) : α := match k with
  | .inl i => frcI i fun j => K (.inl j)
  | .inr s => frcS s fun j => K (.inr j)
theorem frcY_eq (s : Key) (K : Key → α) : frcY s K = K s := by
  cases s with
  | inl i => simp only [frcY, frcI_eq]
  | inr s => simp only [frcY, frcS_eq]
def frcYL : List Key → (List Key → α) → α
  | [], K => K []
  | n :: l, K => frcY n fun m => frcYL l fun k => K (m :: k)
theorem frcYL_eq : ∀ (l : List Key) (K : List Key → α), frcYL l K = K l
  | [], _ => rfl
  | n :: l, K => by
    show frcY n (fun m => frcYL l fun k => K (m :: k)) = _
    rw [frcY_eq, frcYL_eq l]
def frcKd (k : Kd) (K : Kd → α) : α := match k with
  | .dct ks => frcYL ks fun ks => K (.dct ks)
  | .obj c fs => frcS c fun c => frcSL fs fun fs => K (.obj c fs)
  | .exn c fs => frcS c fun c => frcSL fs fun fs => K (.exn c fs)
  | k => K k
theorem frcKd_eq (k : Kd) (K : Kd → α) : frcKd k K = K k := by
  cases k with
  | dct ks => show frcYL _ _ = _; rw [frcYL_eq]
  | obj c fs => show frcS c (fun c => frcSL fs fun fs => K (.obj c fs)) = _; rw [frcS_eq, frcSL_eq]
  | exn c fs => show frcS c (fun c => frcSL fs fun fs => K (.exn c fs)) = _; rw [frcS_eq, frcSL_eq]
  | _ => rfl
mutual
def frcD : D → (D → α) → α
  | .nd k xs, K => frcKd k fun k => frcL xs fun ys => K (.nd k ys)
  | .int i, K => frcI i fun j => K (.int j)
  | .str s, K => frcS s fun j => K (.str j)
  | .bl b, K => (match b with
    | true => K (.bl true)
    | false => K (.bl false))
  | .non, K => K .non
  | .ob a, K => K (.ob a)
def frcL : List D → (List D → α) → α
  | [], K => K []
  | x :: xs, K => frcD x fun y => frcL xs fun ys => K (y :: ys)
end
mutual
theorem frcD_eq : ∀ (d : D) (K : D → α), frcD d K = K d
  | .nd k xs, K => by
    show frcKd k (fun k => frcL xs fun ys => K (.nd k ys)) = _
    rw [frcKd_eq, frcL_eq xs]
  | .int i, K => by simp only [frcD, frcI_eq]
  | .str s, K => by simp only [frcD, frcS_eq]
  | .bl b, K => by cases b <;> rfl
  | .non, K => rfl
  | .ob a, K => rfl
theorem frcL_eq : ∀ (l : List D) (K : List D → α), frcL l K = K l
  | [], _ => rfl
  | x :: xs, K => by
    show frcD x (fun y => frcL xs fun ys => K (y :: ys)) = _
    rw [frcD_eq x, frcL_eq xs]
end
def frcSl (s : Sl) (K : Sl → α) : α := match s with
  | .no => K .no
  | .im d => frcD d fun d => K (.im d)
  | .lo d => frcD d fun d => K (.lo d)
  | .pa d => frcD d fun d => K (.pa d)
theorem frcSl_eq (s : Sl) (K : Sl → α) : frcSl s K = K s := by
  cases s with
  | no => rfl
  | _ => simp only [frcSl, frcD_eq]
def frcE : Env → (Env → α) → α
  | [], K => K []
  | x :: xs, K => frcSl x fun y => frcE xs fun ys => K (y :: ys)
theorem frcE_eq : ∀ (l : Env) (K : Env → α), frcE l K = K l
  | [], _ => rfl
  | x :: xs, K => by
    show frcSl x (fun y => frcE xs fun ys => K (y :: ys)) = _
    rw [frcSl_eq, frcE_eq xs]
def frcR (r : Rs) (K : Rs → α) : α := match r with
  | .slot i => frcN i fun i => K (.slot i)
  | .im d => frcD d fun d => K (.im d)
  | .nw d => frcD d fun d => K (.nw d)
theorem frcR_eq (r : Rs) (K : Rs → α) : frcR r K = K r := by
  cases r with
  | slot i => simp only [frcR, frcN_eq]
  | _ => simp only [frcR, frcD_eq]
def frcFl (r : Fl) (K : Fl → α) : α := match r with
  | .rt r => frcR r fun r => K (.rt r)
  | .nx => K .nx
  | .bk => K .bk
  | .ct => K .ct
theorem frcFl_eq (r : Fl) (K : Fl → α) : frcFl r K = K r := by
  cases r with
  | rt r => simp only [frcFl, frcR_eq]
  | _ => rfl
def frcFs : List (Str × D) → (List (Str × D) → α) → α
  | [], K => K []
  | x :: xs, K => frcS x.1 fun s => frcD x.2 fun d => frcFs xs fun ys => K ((s, d) :: ys)
theorem frcFs_eq : ∀ (l : List (Str × D)) (K : List (Str × D) → α), frcFs l K = K l
  | [], _ => rfl
  | x :: xs, K => by
    show frcS x.1 (fun s => frcD x.2 fun d => frcFs xs fun ys => K ((s, d) :: ys)) = _
    rw [frcS_eq, frcD_eq, frcFs_eq xs]
/-- all of an outcome -/
def frcZ (r : Rz (Env × Fl)) (K : Rz (Env × Fl) → α) : α := match r with
  | .ok p => frcE p.1 fun ρ => frcFl p.2 fun f => K (.ok (ρ, f))
  | .ex x ρ => frcE ρ fun ρ => frcS x.c fun c => frcFs x.fs fun fs => K (.ex ⟨c, fs⟩ ρ)
  | .no => K .no
theorem frcZ_eq (r : Rz (Env × Fl)) (K : Rz (Env × Fl) → α) : frcZ r K = K r := by
  cases r with
  | ok p => show frcE p.1 (fun ρ => frcFl p.2 fun f => K (.ok (ρ, f))) = _; rw [frcE_eq, frcFl_eq]
  | ex x ρ => show frcE ρ (fun ρ => frcS x.c fun c => frcFs x.fs fun fs => K (.ex ⟨c, fs⟩ ρ)) = _; rw [frcE_eq, frcS_eq, frcFs_eq]
  | no => rfl
end
def gSeqF (f g : Env → Rz (Env × Fl)) : Env → Rz (Env × Fl) := gSeq f g
theorem gSeqF_eq (f g : Env → Rz (Env × Fl)) : gSeqF f g = gSeq f g := by
  rfl
theorem rss_consF [Tb] {X : Cx} {W : WX} {st : Stmt} {rest : List Stmt} {f g : Env → Rz (Env × Fl)} (h1 : RS X W st f) (h2 : RSs X W rest g) : RSs X W (st :: rest) (gSeqF f g) := by
  rw [gSeqF_eq]
  exact rss_cons h1 h2
def frcRet (r : Rz (Env × Rs)) : Rz (Env × Rs) := match r with
  | .ok p => frcR p.2 fun r => .ok (p.1, r)
  | r => r
theorem frcRet_eq (r : Rz (Env × Rs)) : frcRet r = r := by
  cases r with
  | ok p => show frcR p.2 (fun r => (Rz.ok (p.1, r) : Rz (Env × Rs))) = _; rw [frcR_eq]
  | _ => rfl
def runFF (n : Nat) (body : Env → Rz (Env × Fl)) (args : Env) : Rz (Env × Rs) := match runF n body args with
  | .ok p => frcR p.2 fun r => .ok (p.1, r)
  | z => z
theorem runFF_eq (n : Nat) (body : Env → Rz (Env × Fl)) : runFF n body = runF n body := by
  funext args
  unfold runFF
  cases runF n body args with
  | ok p => simp only [frcR_eq]
  | _ => rfl
def runFM (n : Nat) (body : Env → Rz (Env × Fl)) (args : Env) : Rz (Env × Rs) := match runF n body args with
  | .ok p => frcE p.1 fun o => .ok (o, p.2)
  | z => z
theorem runFM_eq (n : Nat) (body : Env → Rz (Env × Fl)) : runFM n body = runF n body := by
  funext args
  unfold runFM
  cases runF n body args with
  | ok p => simp only [frcE_eq]
  | _ => rfl
/-- a list worked out -/
def eLcF (vs : List Nat) (it : Env → Rz (Env × List D)) (tgf : D → Env → Rz Env) (tt : Env → Rz (Env × Bool)) (vf : Env → Rz (Env × D)) : Env → Rz (Env × Rs) := fun ρ => frcRet (eLc vs it tgf tt vf ρ)
theorem eLcF_eq (vs : List Nat) (it : Env → Rz (Env × List D)) (tgf : D → Env → Rz Env) (tt : Env → Rz (Env × Bool)) (vf : Env → Rz (Env × D)) : eLcF vs it tgf tt vf = eLc vs it tgf tt vf := by
  funext ρ
  unfold eLcF
  rw [frcRet_eq]
theorem re_lcF [Tb] {X : Cx} {W : WX} {e : Expr} {vs : List Nat} {it : Env → Rz (Env × List D)} {tgf : D → Env → Rz Env} {tt : Env → Rz (Env × Bool)} {vf : Env → Rz (Env × D)} (h : RE X W e (eLc vs it tgf tt vf)) : RE X W e (eLcF vs it tgf tt vf) := by
  rw [eLcF_eq]
  exact h
theorem rs_setLcF [Tb] {X : Cx} {W : WX} {st : Stmt} {i : Nat} {vs : List Nat} {it : Env → Rz (Env × List D)} {tgf : D → Env → Rz Env} {tt : Env → Rz (Env × Bool)} {vf : Env → Rz (Env × D)} (h : RS X W st (gSet i (eLc vs it tgf tt vf))) : RS X W st (gSet i (eLcF vs it tgf tt vf)) := by
  rw [eLcF_eq]
  exact h
end Fx

set_option Elab.async false
set_option linter.all false
set_option maxRecDepth 100000
set_option maxHeartbeats 4000000
namespace Fx
open PySem L2
/-! ### the same by quicker roads, for the kernel -/
def nlQ : List Nat → List Nat → Bool
  | [], [] => true
  | a :: x, b :: y => (match Nat.beq a b with
    | true => nlQ x y
    | false => false)
  | _, _ => false
theorem nlQ_iff : ∀ {x y : List Nat}, nlQ x y = true ↔ x = y
  | [], [] => ⟨fun _ => rfl, fun _ => rfl⟩
  | [], _ :: _ => ⟨(fun h => by cases h), (fun h => by cases h)⟩
  | _ :: _, [] => ⟨(fun h => by cases h), (fun h => by cases h)⟩
  | a :: x, b :: y => by
    show (match Nat.beq a b with | true => nlQ x y | false => false) = true ↔ _
    cases e : Nat.beq a b with
    | true =>
      have := Nat.eq_of_beq_eq_true e
      subst this
      simp only [nlQ_iff, List.cons.injEq, true_and]
    | false =>
      have := Nat.ne_of_beq_eq_false e
      simp [this]
def strQ (a b : Str) : Bool := match a, b with
  | ⟨⟨x⟩⟩, ⟨⟨y⟩⟩ => nlQ x y
theorem strQ_iff {a b : Str} : strQ a b = true ↔ a = b := by
  obtain ⟨⟨x⟩⟩ := a
  obtain ⟨⟨y⟩⟩ := b
  show nlQ x y = true ↔ _
  rw [nlQ_iff]
  constructor
  · intro h; rw [h]
  · intro h; injection h with h; injection h
theorem strQ_dec {a b : Str} : strQ a b = decide (a = b) := by
  cases e : strQ a b with
  | true => exact (decide_eq_true (strQ_iff.mp e)).symm
  | false => exact (decide_eq_false fun h => by rw [strQ_iff.mpr h] at e; cases e).symm
theorem strQ_beq {a b : Str} : strQ a b = (a == b) := by
  rw [strQ_dec]
  by_cases h : a = b
  · subst h; simp
  · rw [decide_eq_false h]; exact (beq_eq_false_iff_ne.mpr h).symm
def eqvQ (d e : D) : Bool := match d, e with
  | .str a, .str b => strQ a b
  | d, e => d.eqv e
theorem eqvQ_eq (d e : D) : eqvQ d e = d.eqv e := by
  unfold eqvQ
  split
  · rw [strQ_beq]; rfl
  · rfl
def okNL : List Nat → Bool
  | [] => true
  | a :: l => (match Nat.blt a 1114112 with
    | true => okNL l
    | false => false)
theorem okNL_eq : ∀ l : List Nat, okNL l = l.all (fun a => decide (a < 0x110000))
  | [] => rfl
  | a :: l => by
    show (match Nat.blt a 1114112 with | true => okNL l | false => false) = _
    rw [List.all_cons, okNL_eq l]
    cases e : Nat.blt a 1114112 with
    | true =>
      have : a < 0x110000 := Nat.blt_eq.mp e
      rw [decide_eq_true this]; rfl
    | false =>
      have : ¬ a < 0x110000 := fun h => by rw [Nat.blt_eq.mpr h] at e; cases e
      rw [decide_eq_false this]; rfl
def strOkQ (x : Str) : Bool := match x with
  | ⟨⟨l⟩⟩ => okNL l
theorem strOkQ_eq (x : Str) : strOkQ x = PyData.strOk x := by
  obtain ⟨⟨l⟩⟩ := x
  show okNL l = _
  rw [okNL_eq]
  unfold PyData.strOk
  simp
mutual
/-- may be compared: n deep at most -/
def fitN : Nat → D → Bool
  | _, .non => true
  | _, .bl _ => true
  | _, .int _ => true
  | _, .str x => strOkQ x
  | n + 1, .nd .tup xs => fitAll n xs
  | n + 1, .nd .lst xs => fitAll n xs
  | _, _ => false
def fitAll : Nat → List D → Bool
  | _, [] => true
  | n, x :: xs => (match fitN n x with
    | true => fitAll n xs
    | false => false)
end
mutual
theorem fitN_ok : ∀ (n : Nat) (d : D), fitN n d = true → d.plain = true ∧ d.py.canLay0 = true ∧ d.py.depth ≤ n
  | _, .non, _ => ⟨rfl, rfl, Nat.zero_le _⟩
  | _, .bl _, _ => ⟨rfl, rfl, Nat.zero_le _⟩
  | _, .int _, _ => ⟨rfl, rfl, Nat.zero_le _⟩
  | n, .str x, h => by
    have h' : strOkQ x = true := by cases n <;> exact h
    exact ⟨rfl, by rw [strOkQ_eq] at h'; exact h', Nat.zero_le _⟩
  | _, .ob _, h => by simp [fitN] at h
  | 0, .nd k _, h => by cases k <;> simp [fitN] at h
  | n + 1, .nd .tup xs, h => by
    obtain ⟨h1, h2, h3⟩ := fitAll_ok n xs (by simpa [fitN] using h)
    exact ⟨by simpa [D.plain] using h1, by simpa [D.py, PyData.canLay0] using h2, by simpa [D.py, PyData.depth] using h3⟩
  | n + 1, .nd .lst xs, h => by
    obtain ⟨h1, h2, h3⟩ := fitAll_ok n xs (by simpa [fitN] using h)
    exact ⟨by simpa [D.plain] using h1, by simpa [D.py, PyData.canLay0] using h2, by simpa [D.py, PyData.depth] using h3⟩
  | n + 1, .nd .scr _, h => by simp [fitN] at h
  | n + 1, .nd (.dct _) _, h => by simp [fitN] at h
  | n + 1, .nd (.obj _ _) _, h => by simp [fitN] at h
  | n + 1, .nd (.exn _ _) _, h => by simp [fitN] at h
  | n + 1, .nd .tupN _, h => by simp [fitN] at h
  | n + 1, .nd (.dcx _) _, h => by simp [fitN] at h
theorem fitAll_ok : ∀ (n : Nat) (xs : List D), fitAll n xs = true → D.plains xs = true ∧ PyData.canLayAll0 (D.pys xs) = true ∧ PyData.depthAll (D.pys xs) ≤ n
  | _, [], _ => ⟨by simp [D.plains], by simp [D.pys, PyData.canLayAll0], by simp [D.pys, PyData.depthAll]⟩
  | n, x :: xs, h => by
    have h' : (match fitN n x with | true => fitAll n xs | false => false) = true := by simpa [fitAll] using h
    cases e : fitN n x with
    | false => rw [e] at h'; cases h'
    | true =>
      rw [e] at h'
      obtain ⟨a1, a2, a3⟩ := fitN_ok n x e
      obtain ⟨b1, b2, b3⟩ := fitAll_ok n xs h'
      exact ⟨by simp [D.plains, a1, b1], by simp [D.pys, PyData.canLayAll0, a2, b2], by simp [D.pys, PyData.depthAll]; omega⟩
end
theorem fitN_fit {d : D} (h : fitN 64 d = true) : d.fit = true := by
  obtain ⟨h1, h2, h3⟩ := fitN_ok 64 d h
  unfold D.fit SeqAt.shaped
  rw [h1, h2, decide_eq_true h3]
  rfl
def dEqQ : D → D → Option Bool := fun d e => if fitN 64 d && fitN 64 e then some (eqvQ d e) else dEq d e
theorem dEqQ_eq : dEqQ = dEq := by
  funext d e
  unfold dEqQ
  split
  · rename_i h
    rw [Bool.and_eq_true] at h
    unfold dEq
    rw [fitN_fit h.1, fitN_fit h.2, eqvQ_eq]
    rfl
  · rfl
def dNeQ : D → D → Option Bool := fun d e => if fitN 64 d && fitN 64 e then some (!eqvQ d e) else dNe d e
theorem dNeQ_eq : dNeQ = dNe := by
  funext d e
  unfold dNeQ
  split
  · rename_i h
    rw [Bool.and_eq_true] at h
    unfold dNe
    rw [fitN_fit h.1, fitN_fit h.2, eqvQ_eq]
    rfl
  · rfl
def keyQ (a b : Key) : Bool := match a, b with
  | .inr x, .inr y => strQ x y
  | a, b => decide (a = b)
theorem keyQ_eq (a b : Key) : keyQ a b = decide (a = b) := by
  unfold keyQ
  split
  · rename_i x y
    rw [strQ_dec]
    by_cases h : x = y
    · subst h; simp
    · simp [h]
  · rfl
def lookKQ (k : Key) : List Key → List D → Option D
  | j :: ks, d :: ds => (match keyQ j k with
    | true => some d
    | false => lookKQ k ks ds)
  | _, _ => none
theorem lookKQ_eq (k : Key) : ∀ (ks : List Key) (ds : List D), lookKQ k ks ds = lookK k ks ds
  | [], [] => rfl
  | [], _ :: _ => rfl
  | _ :: _, [] => rfl
  | j :: ks, d :: ds => by
    show (match keyQ j k with | true => some d | false => lookKQ k ks ds) = if j = k then some d else lookK k ks ds
    rw [keyQ_eq, lookKQ_eq k ks ds]
    by_cases h : j = k
    · rw [decide_eq_true h, if_pos h]
    · rw [decide_eq_false h, if_neg h]
def dIxAQ : D → D → Option D := fun d e => match d with
  | .nd (.dct ks) ds => (keyD e).bind fun k => lookKQ k ks ds
  | _ => dIx d e
theorem dIxAQ_eq : dIxAQ = dIxA := by
  funext d e
  unfold dIxAQ dIxA
  cases d with
  | nd k ds =>
    cases k with
    | dct ks => show (keyD e).bind _ = (keyD e).bind _; congr 1; funext k; exact lookKQ_eq _ _ _
    | _ => rfl
  | _ => rfl
def lookDQ (f : Str) : List Str → List D → Option D
  | g :: gs, x :: xs => (match strQ f g with
    | true => some x
    | false => lookDQ f gs xs)
  | _, _ => none
theorem lookDQ_eq (f : Str) : ∀ (gs : List Str) (xs : List D), lookDQ f gs xs = lookD f gs xs
  | [], [] => rfl
  | [], _ :: _ => rfl
  | _ :: _, [] => rfl
  | g :: gs, x :: xs => by
    show (match strQ f g with | true => some x | false => lookDQ f gs xs) = if f == g then some x else lookD f gs xs
    rw [strQ_beq, lookDQ_eq f gs xs]
    cases f == g <;> rfl
/-- membership -/
def memQ (x : D) : D → Option Bool
  | .nd .tup ds => if fitN 64 x && fitN 64 (.nd .tup ds) then some (ds.any fun z => eqvQ z x) else memD x (.nd .tup ds)
  | .nd .lst ds => if fitN 64 x && fitN 64 (.nd .lst ds) then some (ds.any fun z => eqvQ z x) else memD x (.nd .lst ds)
  | d => memD x d
theorem memQ_eq (x d : D) : memQ x d = memD x d := by
  have e : (fun z : D => eqvQ z x) = fun z => z.eqv x := by funext z; exact eqvQ_eq z x
  cases d with
  | nd k ds =>
    cases k with
    | tup =>
      show (if fitN 64 x && fitN 64 (.nd .tup ds) then some (ds.any fun z => eqvQ z x) else memD x (.nd .tup ds)) = _
      split
      · rename_i h
        rw [Bool.and_eq_true] at h
        show _ = if x.fit && (D.nd .tup ds).fit then some (ds.any fun z => z.eqv x) else none
        rw [fitN_fit h.1, fitN_fit h.2, e]
        rfl
      · rfl
    | lst =>
      show (if fitN 64 x && fitN 64 (.nd .lst ds) then some (ds.any fun z => eqvQ z x) else memD x (.nd .lst ds)) = _
      split
      · rename_i h
        rw [Bool.and_eq_true] at h
        show _ = if x.fit && (D.nd .lst ds).fit then some (ds.any fun z => z.eqv x) else none
        rw [fitN_fit h.1, fitN_fit h.2, e]
        rfl
      · rfl
    | _ => rfl
  | _ => rfl
def dInAQ (neg : Bool) : D → D → Option Bool := fun d e => match e with
  | .nd (.dct ks) ds => (keyD d).bind fun k => some (if neg then !(lookKQ k ks ds).isSome else (lookKQ k ks ds).isSome)
  | .str y => dInA neg d (.str y)
  | e => (match e with | .nd .tup _ | .nd .lst _ => (memQ d e).map fun b => if neg then !b else b | _ => none)
theorem dInAQ_eq (neg : Bool) : dInAQ neg = dInA neg := by
  funext d e
  cases e with
  | nd k ds =>
    cases k with
    | dct ks =>
      show (keyD d).bind (fun k => some (if neg then !(lookKQ k ks ds).isSome else (lookKQ k ks ds).isSome)) = (keyD d).bind _
      congr 1; funext k; rw [lookKQ_eq]
    | tup => show (memQ d _).map _ = (memD d _).map _; rw [memQ_eq]
    | lst => show (memQ d _).map _ = (memD d _).map _; rw [memQ_eq]
    | _ => rfl
  | _ => rfl
def dFldRQ (c f : Str) : D → Option D
  | .nd (.obj c' fs) ds => if strQ c' c = true then lookDQ f fs ds else none
  | _ => none
theorem dFldRQ_eq (c f : Str) : dFldRQ c f = dFldR c f := by
  funext d
  unfold dFldRQ dFldR
  cases d with
  | nd k ds =>
    cases k with
    | obj c' fs =>
      show (if strQ c' c = true then lookDQ f fs ds else none) = if decide (c' = c) = true then lookD f fs ds else none
      rw [strQ_dec, lookDQ_eq]
    | _ => rfl
  | _ => rfl
def dFldQ (c f : Str) (d : D) : Option D := (dFldRQ c f d).map D.nrm
theorem dFldQ_eq (c f : Str) : dFldQ c f = dFld c f := by
  funext d
  unfold dFldQ dFld
  rw [dFldRQ_eq]
section
variable [Tb] {X : Cx} {W : WX} {a b : Expr} {pos : Pos} {f g : Env → Rz (Env × Rs)}
theorem rv_eqQ (hu : X.A.units + 64 < cLine) (ha : RH X W a f) (hb : RH X W b g) : RV X W (.Compare a [.Eq] [b] pos) (v2 (dB dEqQ) f g) := by rw [dEqQ_eq]; exact rv_eq hu ha hb
theorem rt_eqQ (hu : X.A.units + 64 < cLine) (ha : RH X W a f) (hb : RH X W b g) : RT X W (.Compare a [.Eq] [b] pos) (t2 dEqQ f g) := by rw [dEqQ_eq]; exact rt_eq hu ha hb
theorem rv_neQ (hu : X.A.units + 64 < cLine) (ha : RH X W a f) (hb : RH X W b g) : RV X W (.Compare a [.NotEq] [b] pos) (v2 (dB dNeQ) f g) := by rw [dNeQ_eq]; exact rv_ne hu ha hb
theorem rt_neQ (hu : X.A.units + 64 < cLine) (ha : RH X W a f) (hb : RH X W b g) : RT X W (.Compare a [.NotEq] [b] pos) (t2 dNeQ f g) := by rw [dNeQ_eq]; exact rt_ne hu ha hb
theorem rv_inAQ (hu : X.A.units + 65 < cLine) (ha : RH X W a f) (hb : RH X W b g) (hm : behindInMarks .In b = false := by first | rfl | with_unfolding_all rfl) : RV X W (.Compare a [.In] [b] pos) (v2 (dB (dInAQ false)) f g) := by rw [dInAQ_eq]; exact rv_inA hu ha hb hm
theorem rt_inAQ (hu : X.A.units + 65 < cLine) (ha : RH X W a f) (hb : RH X W b g) (hm : behindInMarks .In b = false := by first | rfl | with_unfolding_all rfl) : RT X W (.Compare a [.In] [b] pos) (t2 (dInAQ false) f g) := by rw [dInAQ_eq]; exact rt_inA hu ha hb hm
theorem rv_notinAQ (hu : X.A.units + 65 < cLine) (ha : RH X W a f) (hb : RH X W b g) (hm : behindInMarks .NotIn b = false := by first | rfl | with_unfolding_all rfl) : RV X W (.Compare a [.NotIn] [b] pos) (v2 (dB (dInAQ true)) f g) := by rw [dInAQ_eq]; exact rv_notinA hu ha hb hm
theorem rt_notinAQ (hu : X.A.units + 65 < cLine) (ha : RH X W a f) (hb : RH X W b g) (hm : behindInMarks .NotIn b = false := by first | rfl | with_unfolding_all rfl) : RT X W (.Compare a [.NotIn] [b] pos) (t2 (dInAQ true) f g) := by rw [dInAQ_eq]; exact rt_notinA hu ha hb hm
theorem rv_ixAQ (hu : X.A.units + 64 < cLine) (ha : RH X W a f) (hb : RH X W b g) (hs : PlainIx b := by exact fun _ _ => rfl) : RV X W (.Subscript a b pos) (v2 dIxAQ f g) := by rw [dIxAQ_eq]; exact rv_ixA hu ha hb hs
theorem rv_fldQ {c n : Str} {fs : List Str} {e : Expr} (T : ClsN X.K X.mg c fs) (ho : RH X W e f) (hf : n ∈ fs := by simp) (hb : attributeBase e n X.env (eval e X.env) = eval e X.env := by rfl) : RV X W (.Attribute e n pos) (v1 (dFldQ c n) f) := by rw [dFldQ_eq]; exact rv_fld T ho hf hb
theorem rv_fldRQ {c n : Str} {fs : List Str} {e : Expr} (T : ClsN X.K X.mg c fs) (ho : RH X W e f) (hf : n ∈ fs := by simp) (hb : attributeBase e n X.env (eval e X.env) = eval e X.env := by rfl) : RV X W (.Attribute e n pos) (v1 (dFldRQ c n) f) := by rw [dFldRQ_eq]; exact rv_fldR T ho hf hb
end
end Fx

set_option Elab.async false
set_option linter.all false
set_option maxRecDepth 100000
set_option maxHeartbeats 4000000
namespace Fx
open PySem L2
section
variable {ρ ρ1 ρ2 : Env} {f g : Env → Rz (Env × Fl)} {r : Rs}
theorem seqF_nx (h : f ρ = .ok (ρ1, .nx)) : gSeqF f g ρ = g ρ1 := seq_nx h
theorem seqF_rt (h : f ρ = .ok (ρ1, .rt r)) : gSeqF f g ρ = .ok (ρ1, .rt r) := seq_rt h
theorem seqF_ct (h : f ρ = .ok (ρ1, .ct)) : gSeqF f g ρ = .ok (ρ1, .ct) := seq_ct h
theorem seqF_bk (h : f ρ = .ok (ρ1, .bk)) : gSeqF f g ρ = .ok (ρ1, .bk) := seq_bk h
theorem runFF_rt {n : Nat} {body : Env → Rz (Env × Fl)} {args ρ' : Env} {r r' : Rs} (h : body (args ++ List.replicate (n - args.length) .no) = .ok (ρ', .rt r)) (ho : okOuts args ρ' = true) (hr : retV ρ' r = .ok r') : runFF n body args = .ok (ρ'.take args.length, r') := by
  rw [runFF_eq]
  unfold runF
  rw [h]
  simp only
  rw [if_pos ho, hr]
  rfl
end
/-- the numbers of a law's pen -/
structure PenC (A B C E : Int) : Prop where
  qA : 0 ≤ A
  qA2 : A ≤ 1000000
  qB : 0 ≤ B
  qB2 : B ≤ 1000000
  qC : 0 ≤ C
  qC2 : C ≤ 1000000
  qE : 0 ≤ E
  qE2 : E ≤ 1000000
def gDraw (A B C E : Int) : Env → Rz (Env × Fl) := (gSeqF (gIf (t2 dLt (rN 1) (hC (.int 2))) (gRet (hV (vC (.int 0)))) gNext)
    (gSeqF (gIf (t2 dGt (hV (v2 dIxAQ (rN 0) (hC (.int 2)))) (hC (.int 0))) (gSeqF (gSet 2 (hV (v2 dMod (hH (eB dInt (aCons (hV (v2 dIxAQ (rN 0) (hC (.int 2)))) aNil))) (rN 1))))
    (gSeqF (gSubA 0 (hC (.int 2)) (v2 dDiv (hH (eB dInt (aCons (hV (v2 dIxAQ (rN 0) (hC (.int 2)))) aNil))) (rN 1)))
    (gRet (rN 2)))) gNext)
    (gSeqF (gSet 3 (hV (v2 dIxAQ (rN 0) (hC (.int 1)))))
    (gSeqF (gSubA 0 (hC (.int 1)) (vU (e2 dAdd (rN 3) (hC (.int 1)))))
    (gSeqF (gSet 4 (e2 dAdd (hV (v2 dMul (hC (.int A)) (rN 3))) (hC (.int B))))
    (gSeqF (gIf (t2 dNeQ (hV (v2 dIxAQ (rN 0) (hC (.int 0)))) (hH (eLst aNil))) (gSet 4 (hV (v2 dIxAQ (hV (v2 dIxAQ (rN 0) (hC (.int 0)))) (hV (v2 dMod (hH (eB dInt (aCons (rN 3) aNil))) (hH (eB dLen (aCons (hV (v2 dIxAQ (rN 0) (hC (.int 0)))) aNil)))))))) gNext)
    (gSeqF (gIf (tAnd (t2 dLt (rN 3) (hH (eB dLen (aCons (hV (v2 dIxAQ (rN 0) (hC (.int 0)))) aNil)))) (t2 dGe (hH (eB dAbs (aCons (rN 4) aNil))) (hV (v2 dPow (hC (.int 10)) (hC (.int 18)))))) (gSeqF (gSet 5 (e2 dAdd (hV (v2 dMul (hC (.int 2)) (hV (v2 dSub (hH (eB dAbs (aCons (rN 4) aNil))) (hV (v2 dPow (hC (.int 10)) (hC (.int 18)))))))) (hH (eB dInt (aCons (hV (v2 (dB dLt) (rN 4) (hC (.int 0)))) aNil)))))
    (gSeqF (gSubA 0 (hC (.int 2)) (v2 dDiv (hH (eB dInt (aCons (rN 5) aNil))) (rN 1)))
    (gRet (hV (v2 dMod (hH (eB dInt (aCons (rN 5) aNil))) (rN 1)))))) gNext)
    (gSeqF (gSet 6 (hV (v2 dMod (hH (eB dInt (aCons (hV (v2 dPow (hH (e2 dAdd (hH (e2 dAdd (hV (v2 dMod (hH (eB dInt (aCons (rN 4) aNil))) (hC (.int 2147483549)))) (hV (v2 dMul (hC (.int C)) (rN 3))))) (hC (.int B)))) (hC (.int 3)))) aNil))) (hC (.int 2147483629)))))
    (gSeqF (gSet 6 (hV (v2 dMod (hH (eB dInt (aCons (hV (v2 dPow (hH (e2 dAdd (hH (e2 dAdd (hV (v2 dMul (rN 6) (hH (e2 dAdd (hV (v2 dMul (hC (.int 2)) (rN 3))) (hC (.int E)))))) (hV (v2 dMul (hV (v2 dMul (hC (.int A)) (rN 3))) (rN 3))))) (hC (.int C)))) (hC (.int 5)))) aNil))) (hC (.int 2147483563)))))
    (gRet (hV (v2 dMod (hH (eB dInt (aCons (hV (v2 dDiv (rN 6) (hC (.int 16)))) aNil))) (rN 1)))))))))))))
/-! ### the pen -/
def penD (cells : List Int) (a l : Int) : D := .nd .lst [.nd .lst (cells.map .int), .int a, .int l]
theorem ix_pen {cells : List Int} {a l : Int} : dIxAQ (penD cells a l) (.int 0) = some (.nd .lst (cells.map .int)) ∧ dIxAQ (penD cells a l) (.int 1) = some (.int a) ∧ dIxAQ (penD cells a l) (.int 2) = some (.int l) := ⟨rfl, rfl, rfl⟩
theorem sub_ok {ρ : Env} {i : Nat} {x : Sl} {xs : List D} {v : Env → Rz (Env × D)} {d : D} {k : Nat} (h : ρ[i]? = some x) (hx : x.ownD = some (.nd .lst xs)) (hv : v ρ = .ok (ρ, d)) (hk : k < xs.length) : gSubA i (hC (.int (k : Int))) v ρ = .ok (ρ.set i (x.withD (.nd .lst (xs.set k d))), .nx) := by
  have own : ownC ρ i = some (x, .nd .lst xs) := by unfold ownC; rw [h]; show (x.ownD).map _ = _; rw [hx]; rfl
  have ixk : ixN xs.length (k : Int) = some k := by
    unfold ixN
    rw [if_pos (by omega), if_pos (by omega), Int.toNat_natCast]
  simp [gSubA, hv, own, hC, peek, setItemD, ixk, Rz.bind]
/-- a fair number -/
structure Drawn (cells : List Int) (a : Int) (many : Int) (o : Env) (k : Int) : Prop where
  pen : ∃ a' l', o = [.pa (penD cells a' l'), .im (.int many)] ∧ a ≤ a' ∧ a' ≤ a + 1 ∧ 0 ≤ l'
  lo : 0 ≤ k
  hi : k < many
section
variable {A B C E : Int} {cells : List Int} {a l many : Int}
theorem fit_ints (cells : List Int) : (D.nd .lst (cells.map .int)).fit = true := by
  have h1 : ∀ cs : List Int, D.plains (cs.map .int) = true ∧ PyData.canLayAll0 (D.pys (cs.map .int)) = true ∧ PyData.depthAll (D.pys (cs.map .int)) = 0 := by
    intro cs
    induction cs with
    | nil => rw [List.map_nil, D.plains, D.pys]; exact ⟨rfl, rfl, rfl⟩
    | cons c cs ih =>
      obtain ⟨q1, q2, q3⟩ := ih
      rw [List.map_cons, D.plains, D.plain, D.pys, D.py, PyData.canLayAll0, PyData.canLay0, PyData.depthAll, PyData.depth, q1, q2, q3]
      exact ⟨rfl, rfl, rfl⟩
  obtain ⟨q1, q2, q3⟩ := h1 cells
  unfold D.fit SeqAt.shaped
  rw [D.plain, D.py, PyData.canLay0, PyData.depth, q1, q2, q3]
  rfl
theorem ne_ints (cells : List Int) : dNeQ (.nd .lst (cells.map .int)) (.nd .lst []) = some (!decide (cells = [])) := by
  rw [dNeQ_eq]
  unfold dNe
  rw [fit_ints, show (D.nd .lst []) = .nd .lst (([] : List Int).map .int) from rfl, fit_ints]
  show some (!D.eqv _ _) = _
  cases cells with
  | nil => rfl
  | cons c cs => rfl
theorem mod_ok {i j : Int} (h : 0 < j) : dMod (.int i) (.int j) = some (.int (i % j)) := by
  show (if decide (0 < j) = true then some (D.int (i % j)) else none) = _
  rw [if_pos (decide_eq_true h)]
theorem div_ok {i j : Int} (h : 0 < j) (h2 : j < 1073741824) : dDiv (.int i) (.int j) = some (.int (i / j)) := by
  show (if (decide (0 < j) && decide (j < 1073741824)) = true then some (D.int (i / j)) else none) = _
  rw [if_pos (by rw [decide_eq_true h, decide_eq_true h2]; rfl)]
theorem mul_ok {i j : Int} (h : i.natAbs < 2 ^ 64 ∨ j.natAbs < 2 ^ 64) : dMul (.int i) (.int j) = some (.int (i * j)) := by
  have c : cMul i j = true := by
    unfold cMul
    rw [Bool.or_eq_true, Bool.and_eq_true, Bool.and_eq_true, decide_eq_true_iff, decide_eq_true_iff, decide_eq_true_iff, decide_eq_true_iff]
    rcases h with h | h
    · exact .inl ⟨by omega, by omega⟩
    · exact .inr ⟨by omega, by omega⟩
  show (if cMul i j = true then some (D.int (i * j)) else none) = _
  rw [if_pos c]
theorem pow_ok {i : Int} {k : Nat} (h : i.natAbs < 2 ^ 64) (hk : k ≤ 1000000) : dPow (.int i) (.int (k : Int)) = some (.int (i ^ k)) := by
  have c : cPow i (k : Int) = true := by
    unfold cPow
    rw [Bool.and_eq_true, Bool.and_eq_true, decide_eq_true_iff, decide_eq_true_iff, decide_eq_true_iff]
    exact ⟨by omega, by omega, h⟩
  show (if cPow i (k : Int) = true then some (D.int (i ^ (k : Int).toNat)) else none) = _
  rw [if_pos c, Int.toNat_natCast]
/-- int(e) of a number -/
theorem int_ok {f : Env → Rz (Env × Rs)} {ρ : Env} {x : Rs} {i : Int} (h : f ρ = .ok (ρ, x)) (hp : peek ρ x = some (.int i)) : hH (eB dInt (aCons f aNil)) ρ = .ok (ρ, .im (.int i)) :=
  hH_im (blt_ok (q := [x]) (ds := [.int i]) (cons_ok h rfl) (by simp [peekAll, hp]) rfl)
abbrev ρD (cells : List Int) (a l many : Int) (x2 x3 x4 x5 x6 : Sl) : Env := [.pa (penD cells a l), .im (.int many), x2, x3, x4, x5, x6]
theorem draw_at (P : PenC A B C E) (ha : 0 ≤ a) (ha2 : a ≤ 1000000) (hl : 0 ≤ l) (hm : 1 ≤ many) (hm2 : many ≤ 1000) : ∃ o k, (runFF 7 (gDraw A B C E) [.pa (penD cells a l), .im (.int many)]) = .ok (o, .im (.int k)) ∧ Drawn cells a many o k := by
  obtain ⟨qA, qA2, qB, qB2, qC, qC2, qE, qE2⟩ := P
  have Aa : 0 ≤ A * a := Int.mul_nonneg qA ha
  have Aa2 : A * a ≤ 1000000000000 := by
    have : A * a ≤ 1000000 * 1000000 := Int.mul_le_mul qA2 ha2 ha (by decide)
    omega
  have Ca : 0 ≤ C * a := Int.mul_nonneg qC ha
  have Ca2 : C * a ≤ 1000000000000 := by
    have : C * a ≤ 1000000 * 1000000 := Int.mul_le_mul qC2 ha2 ha (by decide)
    omega
  have lt2 : t2 dLt (rN 1) (hC (.int 2)) (ρD cells a l many .no .no .no .no .no) = .ok (ρD cells a l many .no .no .no .no .no, decide (many < 2)) := tst_ok rfl rfl rfl rfl rfl
  by_cases c1 : many < 2
  · rw [decide_eq_true c1] at lt2
    exact ⟨_, 0, runFF_rt (ρ' := ρD cells a l many .no .no .no .no .no) (r := .im (.int 0)) (seqF_rt ((if_t lt2).trans rfl)) rfl rfl, ⟨⟨a, l, rfl, by omega, by omega, hl⟩, by omega, by omega⟩⟩
  rw [decide_eq_false c1] at lt2
  have gt0 : t2 dGt (hV (v2 dIxAQ (rN 0) (hC (.int 2)))) (hC (.int 0)) (ρD cells a l many .no .no .no .no .no) = .ok (ρD cells a l many .no .no .no .no .no, decide (l > 0)) := tst_ok (hV_ok (two_ok rfl rfl rfl rfl rfl)) rfl rfl rfl rfl
  by_cases c2 : l > 0
  · rw [decide_eq_true c2] at gt0
    have e1 : gSet 2 (hV (v2 dMod (hH (eB dInt (aCons (hV (v2 dIxAQ (rN 0) (hC (.int 2)))) aNil))) (rN 1))) (ρD cells a l many .no .no .no .no .no) = .ok (ρD cells a l many (.im (.int (l % many))) .no .no .no .no, .nx) :=
      set_ok (hV_ok (two_ok (int_ok (hV_ok (two_ok rfl rfl rfl rfl rfl)) rfl) rfl rfl rfl (mod_ok (by omega)))) rfl
    have e2 : gSubA 0 (hC (.int 2)) (v2 dDiv (hH (eB dInt (aCons (hV (v2 dIxAQ (rN 0) (hC (.int 2)))) aNil))) (rN 1)) (ρD cells a l many (.im (.int (l % many))) .no .no .no .no) = .ok (ρD cells a (l / many) many (.im (.int (l % many))) .no .no .no .no, .nx) :=
      sub_ok (k := 2) (x := .pa (penD cells a l)) (xs := [.nd .lst (cells.map .int), .int a, .int l]) (d := .int (l / many)) rfl rfl (two_ok (d := .int l) (c := .int many) (int_ok (hV_ok (two_ok rfl rfl rfl rfl rfl)) rfl) rfl rfl rfl (div_ok (by omega) (by omega))) (by simp)
    exact ⟨_, l % many, runFF_rt (ρ' := ρD cells a (l / many) many (.im (.int (l % many))) .no .no .no .no) (r := .slot 2) ((seqF_nx ((if_f lt2).trans rfl)).trans (seqF_rt ((if_t gt0).trans ((seqF_nx e1).trans ((seqF_nx e2).trans (ret_ok rfl)))))) rfl rfl,
      ⟨⟨a, l / many, rfl, by omega, by omega, Int.ediv_nonneg hl (by omega)⟩, Int.emod_nonneg _ (by omega), Int.emod_lt_of_pos _ (by omega)⟩⟩
  rw [decide_eq_false c2] at gt0
  have e3 : gSet 3 (hV (v2 dIxAQ (rN 0) (hC (.int 1)))) (ρD cells a l many .no .no .no .no .no) = .ok (ρD cells a l many .no (.im (.int a)) .no .no .no, .nx) := set_ok (hV_ok (two_ok rfl rfl rfl rfl rfl)) rfl
  have e4 : gSubA 0 (hC (.int 1)) (vU (e2 dAdd (rN 3) (hC (.int 1)))) (ρD cells a l many .no (.im (.int a)) .no .no .no) = .ok (ρD cells (a + 1) l many .no (.im (.int a)) .no .no .no, .nx) := sub_ok (k := 1) (x := .pa (penD cells a l)) (xs := [.nd .lst (cells.map .int), .int a, .int l]) (d := .int (a + 1)) rfl rfl (vU_im (add_ok rfl rfl rfl rfl rfl)) (by simp)
  have e5 : gSet 4 (e2 dAdd (hV (v2 dMul (hC (.int A)) (rN 3))) (hC (.int B))) (ρD cells (a + 1) l many .no (.im (.int a)) .no .no .no) = .ok (ρD cells (a + 1) l many .no (.im (.int a)) (.im (.int (A * a + B))) .no .no, .nx) :=
    set_ok (add_ok (hV_ok (two_ok rfl rfl rfl rfl (mul_ok (.inl (by omega))))) rfl rfl rfl rfl) rfl
  have lenI : ∀ x4 : Sl, hH (eB dLen (aCons (hV (v2 dIxAQ (rN 0) (hC (.int 0)))) aNil)) (ρD cells (a + 1) l many .no (.im (.int a)) x4 .no .no) = .ok (ρD cells (a + 1) l many .no (.im (.int a)) x4 .no .no, .im (.int (cells.length : Int))) := fun x4 =>
    hH_im (blt_ok (q := [.im (.nd .lst (cells.map .int))]) (ds := [.nd .lst (cells.map .int)]) (cons_ok (hV_ok (two_ok rfl rfl rfl rfl rfl)) rfl) rfl (by show some (Rs.im (.int ((cells.map D.int).length : Int))) = _; rw [List.length_map]))
  obtain ⟨c, e6⟩ : ∃ c : Int, gIf (t2 dNeQ (hV (v2 dIxAQ (rN 0) (hC (.int 0)))) (hH (eLst aNil))) (gSet 4 (hV (v2 dIxAQ (hV (v2 dIxAQ (rN 0) (hC (.int 0)))) (hV (v2 dMod (hH (eB dInt (aCons (rN 3) aNil))) (hH (eB dLen (aCons (hV (v2 dIxAQ (rN 0) (hC (.int 0)))) aNil)))))))) gNext (ρD cells (a + 1) l many .no (.im (.int a)) (.im (.int (A * a + B))) .no .no) =
      .ok (ρD cells (a + 1) l many .no (.im (.int a)) (.im (.int c)) .no .no, .nx) := by
    have ne : t2 dNeQ (hV (v2 dIxAQ (rN 0) (hC (.int 0)))) (hH (eLst aNil)) (ρD cells (a + 1) l many .no (.im (.int a)) (.im (.int (A * a + B))) .no .no) = .ok (ρD cells (a + 1) l many .no (.im (.int a)) (.im (.int (A * a + B))) .no .no, !decide (cells = [])) :=
      tst_ok (hV_ok (two_ok rfl rfl rfl rfl rfl)) (hH_nw (lst_ok (q := []) (ds := []) rfl rfl (by simp))) rfl rfl (ne_ints cells)
    by_cases h : cells = []
    · rw [decide_eq_true h] at ne
      exact ⟨_, (if_f ne).trans rfl⟩
    · rw [decide_eq_false h] at ne
      have hl : 0 < cells.length := List.length_pos_iff.mpr h
      have h1 : 0 ≤ a % (cells.length : Int) := Int.emod_nonneg _ (by omega)
      have h2 : a % (cells.length : Int) < cells.length := Int.emod_lt_of_pos _ (by omega)
      obtain ⟨z, at1⟩ : ∃ z : Int, atI (cells.map D.int) (a % (cells.length : Int)) = some (.int z) := by
        obtain ⟨j, hj⟩ : ∃ j : Nat, a % (cells.length : Int) = (j : Int) := ⟨(a % (cells.length : Int)).toNat, by omega⟩
        rw [hj] at h2 ⊢
        have hj2 : j < cells.length := by omega
        exact ⟨cells[j], atI_nat' (by rw [List.getElem?_map, List.getElem?_eq_getElem hj2]; rfl)⟩
      exact ⟨_, (if_t ne).trans (set_ok (hV_ok (two_ok (hV_ok (two_ok rfl rfl rfl rfl rfl)) (hV_ok (two_ok (int_ok rfl rfl) (lenI _) rfl rfl (mod_ok (by omega)))) rfl rfl at1)) rfl)⟩
  have ab : hH (eB dAbs (aCons (rN 4) aNil)) (ρD cells (a + 1) l many .no (.im (.int a)) (.im (.int c)) .no .no) = .ok (ρD cells (a + 1) l many .no (.im (.int a)) (.im (.int c)) .no .no, .im (.int (if c < 0 then -c else c))) :=
    hH_im (blt_ok (q := [.slot 4]) (ds := [.int c]) (cons_ok rfl rfl) rfl rfl)
  have p18 : ∀ ρ : Env, hV (v2 dPow (hC (.int 10)) (hC (.int 18))) ρ = .ok (ρ, .im (.int (10 ^ 18))) := fun ρ => hV_ok (two_ok rfl rfl rfl rfl (pow_ok (k := 18) (by decide) (by decide)))
  obtain ⟨b, e7⟩ : ∃ b : Bool, tAnd (t2 dLt (rN 3) (hH (eB dLen (aCons (hV (v2 dIxAQ (rN 0) (hC (.int 0)))) aNil)))) (t2 dGe (hH (eB dAbs (aCons (rN 4) aNil))) (hV (v2 dPow (hC (.int 10)) (hC (.int 18))))) (ρD cells (a + 1) l many .no (.im (.int a)) (.im (.int c)) .no .no) =
      .ok (ρD cells (a + 1) l many .no (.im (.int a)) (.im (.int c)) .no .no, b) ∧ (b = true → (if c < 0 then -c else c) ≥ 10 ^ 18) := by
    have t1 : t2 dLt (rN 3) (hH (eB dLen (aCons (hV (v2 dIxAQ (rN 0) (hC (.int 0)))) aNil))) (ρD cells (a + 1) l many .no (.im (.int a)) (.im (.int c)) .no .no) = .ok (ρD cells (a + 1) l many .no (.im (.int a)) (.im (.int c)) .no .no, decide (a < (cells.length : Int))) := tst_ok rfl (lenI _) rfl rfl rfl
    have t3 : t2 dGe (hH (eB dAbs (aCons (rN 4) aNil))) (hV (v2 dPow (hC (.int 10)) (hC (.int 18)))) (ρD cells (a + 1) l many .no (.im (.int a)) (.im (.int c)) .no .no) = .ok (ρD cells (a + 1) l many .no (.im (.int a)) (.im (.int c)) .no .no, decide ((if c < 0 then -c else c) ≥ 10 ^ 18)) := tst_ok ab (p18 _) rfl rfl rfl
    unfold tAnd
    rw [t1]
    by_cases h : a < (cells.length : Int)
    · rw [decide_eq_true h]
      exact ⟨_, t3, fun z => of_decide_eq_true z⟩
    · rw [decide_eq_false h]
      exact ⟨false, rfl, fun z => nomatch z⟩
  obtain ⟨e7, hb⟩ := e7
  cases b with
  | true =>
    have h18 := hb rfl
    have lt0 : v2 (dB dLt) (rN 4) (hC (.int 0)) (ρD cells (a + 1) l many .no (.im (.int a)) (.im (.int c)) .no .no) = .ok (ρD cells (a + 1) l many .no (.im (.int a)) (.im (.int c)) .no .no, .bl (decide (c < 0))) := two_ok rfl rfl rfl rfl rfl
    have e8 : gSet 5 (e2 dAdd (hV (v2 dMul (hC (.int 2)) (hV (v2 dSub (hH (eB dAbs (aCons (rN 4) aNil))) (hV (v2 dPow (hC (.int 10)) (hC (.int 18)))))))) (hH (eB dInt (aCons (hV (v2 (dB dLt) (rN 4) (hC (.int 0)))) aNil)))) (ρD cells (a + 1) l many .no (.im (.int a)) (.im (.int c)) .no .no) =
        .ok (ρD cells (a + 1) l many .no (.im (.int a)) (.im (.int c)) (.im (.int (2 * ((if c < 0 then -c else c) - 10 ^ 18) + (if decide (c < 0) = true then 1 else 0)))) .no, .nx) :=
      set_ok (add_ok (hV_ok (two_ok rfl (hV_ok (two_ok ab (p18 _) rfl rfl rfl)) rfl rfl (mul_ok (.inl (by omega))))) (hH_im (blt_ok (q := [.im (.bl (decide (c < 0)))]) (ds := [.bl (decide (c < 0))]) (cons_ok (hV_ok lt0) rfl) rfl rfl)) rfl rfl rfl) rfl
    have g0 : 0 ≤ 2 * ((if c < 0 then -c else c) - 10 ^ 18) + (if decide (c < 0) = true then 1 else 0) := by split <;> omega
    generalize 2 * ((if c < 0 then -c else c) - 10 ^ 18) + (if decide (c < 0) = true then 1 else 0) = g at e8 g0
    have e9 : gSubA 0 (hC (.int 2)) (v2 dDiv (hH (eB dInt (aCons (rN 5) aNil))) (rN 1)) (ρD cells (a + 1) l many .no (.im (.int a)) (.im (.int c)) (.im (.int g)) .no) = .ok (ρD cells (a + 1) (g / many) many .no (.im (.int a)) (.im (.int c)) (.im (.int g)) .no, .nx) :=
      sub_ok (k := 2) (x := .pa (penD cells (a + 1) l)) (xs := [.nd .lst (cells.map .int), .int (a + 1), .int l]) (d := .int (g / many)) rfl rfl (two_ok (d := .int g) (c := .int many) (int_ok rfl rfl) rfl rfl rfl (div_ok (by omega) (by omega))) (by simp)
    refine ⟨_, g % many, runFF_rt (ρ' := ρD cells (a + 1) (g / many) many .no (.im (.int a)) (.im (.int c)) (.im (.int g)) .no) (r := .im (.int (g % many))) ((seqF_nx ((if_f lt2).trans rfl)).trans ((seqF_nx ((if_f gt0).trans rfl)).trans ((seqF_nx e3).trans ((seqF_nx e4).trans ((seqF_nx e5).trans ((seqF_nx e6).trans
      (seqF_rt ((if_t e7).trans ((seqF_nx e8).trans ((seqF_nx e9).trans (ret_ok (hV_ok (two_ok (int_ok rfl rfl) rfl rfl rfl (mod_ok (by omega)))))))))))))) ) rfl rfl, ⟨⟨a + 1, g / many, rfl, by omega, by omega, Int.ediv_nonneg g0 (by omega)⟩, Int.emod_nonneg _ (by omega), Int.emod_lt_of_pos _ (by omega)⟩⟩
  | false =>
    have cm0 : 0 ≤ c % 2147483549 := Int.emod_nonneg _ (by decide)
    have cm1 : c % 2147483549 < 2147483549 := Int.emod_lt_of_pos _ (by decide)
    have e8 : gSet 6 (hV (v2 dMod (hH (eB dInt (aCons (hV (v2 dPow (hH (e2 dAdd (hH (e2 dAdd (hV (v2 dMod (hH (eB dInt (aCons (rN 4) aNil))) (hC (.int 2147483549)))) (hV (v2 dMul (hC (.int C)) (rN 3))))) (hC (.int B)))) (hC (.int 3)))) aNil))) (hC (.int 2147483629)))) (ρD cells (a + 1) l many .no (.im (.int a)) (.im (.int c)) .no .no) =
        .ok (ρD cells (a + 1) l many .no (.im (.int a)) (.im (.int c)) .no (.im (.int ((c % 2147483549 + C * a + B) ^ 3 % 2147483629))), .nx) :=
      set_ok (hV_ok (two_ok (int_ok (hV_ok (two_ok (hH_im (add_ok (hH_im (add_ok (hV_ok (two_ok (int_ok rfl rfl) rfl rfl rfl (mod_ok (by decide)))) (hV_ok (two_ok rfl rfl rfl rfl (mul_ok (.inl (by omega))))) rfl rfl rfl)) rfl rfl rfl rfl)) rfl rfl rfl (pow_ok (k := 3) (by omega) (by decide)))) rfl) rfl rfl rfl (mod_ok (by decide)))) rfl
    have m0 : 0 ≤ (c % 2147483549 + C * a + B) ^ 3 % 2147483629 := Int.emod_nonneg _ (by decide)
    have m1 : (c % 2147483549 + C * a + B) ^ 3 % 2147483629 < 2147483629 := Int.emod_lt_of_pos _ (by decide)
    generalize (c % 2147483549 + C * a + B) ^ 3 % 2147483629 = mx at e8 m0 m1
    have bd : (mx * (2 * a + E) + A * a * a + C).natAbs < 2 ^ 64 := by
      have h1 : mx * (2 * a + E) ≤ 2147483629 * 3000000 := Int.mul_le_mul (by omega) (by omega) (by omega) (by omega)
      have h2 : 0 ≤ mx * (2 * a + E) := Int.mul_nonneg m0 (by omega)
      have h3 : A * a * a ≤ 1000000000000 * 1000000 := Int.mul_le_mul Aa2 (by omega) (by omega) (by omega)
      have h4 : 0 ≤ A * a * a := Int.mul_nonneg Aa ha
      omega
    have e9 : gSet 6 (hV (v2 dMod (hH (eB dInt (aCons (hV (v2 dPow (hH (e2 dAdd (hH (e2 dAdd (hV (v2 dMul (rN 6) (hH (e2 dAdd (hV (v2 dMul (hC (.int 2)) (rN 3))) (hC (.int E)))))) (hV (v2 dMul (hV (v2 dMul (hC (.int A)) (rN 3))) (rN 3))))) (hC (.int C)))) (hC (.int 5)))) aNil))) (hC (.int 2147483563)))) (ρD cells (a + 1) l many .no (.im (.int a)) (.im (.int c)) .no (.im (.int mx))) =
        .ok (ρD cells (a + 1) l many .no (.im (.int a)) (.im (.int c)) .no (.im (.int ((mx * (2 * a + E) + A * a * a + C) ^ 5 % 2147483563))), .nx) :=
      set_ok (hV_ok (two_ok (int_ok (hV_ok (two_ok (hH_im (add_ok (hH_im (add_ok (hV_ok (two_ok rfl (hH_im (add_ok (hV_ok (two_ok rfl rfl rfl rfl (mul_ok (.inl (by omega))))) rfl rfl rfl rfl)) rfl rfl (mul_ok (.inl (by omega))))) (hV_ok (two_ok (hV_ok (two_ok rfl rfl rfl rfl (mul_ok (.inl (by omega))))) rfl rfl rfl (mul_ok (.inr (by omega))))) rfl rfl rfl)) rfl rfl rfl rfl)) rfl rfl rfl (pow_ok (k := 5) bd (by decide)))) rfl) rfl rfl rfl (mod_ok (by decide)))) rfl
    generalize (mx * (2 * a + E) + A * a * a + C) ^ 5 % 2147483563 = my at e9
    refine ⟨_, my / 16 % many, runFF_rt (ρ' := ρD cells (a + 1) l many .no (.im (.int a)) (.im (.int c)) .no (.im (.int my))) (r := .im (.int (my / 16 % many))) ((seqF_nx ((if_f lt2).trans rfl)).trans ((seqF_nx ((if_f gt0).trans rfl)).trans ((seqF_nx e3).trans ((seqF_nx e4).trans ((seqF_nx e5).trans ((seqF_nx e6).trans
      ((seqF_nx ((if_f e7).trans rfl)).trans ((seqF_nx e8).trans ((seqF_nx e9).trans (ret_ok (hV_ok (two_ok (int_ok (hV_ok (two_ok rfl rfl rfl rfl (div_ok (by decide) (by decide)))) rfl) rfl rfl rfl (mod_ok (by omega)))))))))))))) rfl rfl, ⟨⟨a + 1, l, rfl, by omega, by omega, hl⟩, Int.emod_nonneg _ (by omega), Int.emod_lt_of_pos _ (by omega)⟩⟩
end

/-! ### drawing with the pen -/
def Pen (n : Nat) (p : D) : Prop := ∃ cells a l, p = penD cells a l ∧ 0 ≤ a ∧ a ≤ (n : Int) ∧ 0 ≤ l
theorem Pen.up {n m : Nat} {p : D} (h : Pen n p) (hn : n ≤ m) : Pen m p := by
  obtain ⟨c, a, l, e, h1, h2, h3⟩ := h
  exact ⟨c, a, l, e, h1, by omega, h3⟩
/-- a def that draws -/
def Draws (F : Env → Rz (Env × Rs)) : Prop := ∀ (n : Nat) (p : D) (many : Int), Pen n p → n ≤ 1000000 → 1 ≤ many → many ≤ 1000 → ∃ p' k, F [.pa p, .im (.int many)] = .ok ([.pa p', .im (.int many)], .im (.int k)) ∧ Pen (n + 1) p' ∧ 0 ≤ k ∧ k < many
theorem draws {A B C E : Int} (P : PenC A B C E) : Draws (runFF 7 (gDraw A B C E)) := by
  rintro n p many ⟨c, a, l, rfl, h1, h2, h3⟩ hn hm hm2
  obtain ⟨o, k, e, ⟨⟨a', l', rfl, q1, q2, q3⟩, lo, hi⟩⟩ := draw_at (cells := c) (a := a) (l := l) (many := many) P h1 (by omega) h3 hm hm2
  exact ⟨_, k, e, ⟨c, a', l', rfl, by omega, by omega, q3⟩, lo, hi⟩
theorem atI_mem {α : Type} {xs : List α} {k : Int} (h0 : 0 ≤ k) (h1 : k < xs.length) : ∃ x, atI xs k = some x ∧ x ∈ xs := by
  obtain ⟨j, rfl⟩ : ∃ j : Nat, k = (j : Int) := ⟨k.toNat, by omega⟩
  have hj : j < xs.length := by omega
  exact ⟨xs[j], atI_nat' (List.getElem?_eq_getElem hj), List.getElem_mem hj⟩
/-- a call that hands a pen on -/
theorem callX_pen2 {F : Env → Rz (Env × Rs)} {as : Env → Rz (Env × List Rs)} {ρ ρ1 : Env} {i : Nat} {x0 x : Sl} {pen pen' d2 : D} {r2 r : Rs} {y : Sl} (h0 : ρ[i]? = some x0) (hp : x0.peek ≠ none) (ha : as ρ = .ok (ρ1, [r2])) (hu : use ρ1 r2 = .ok (ρ1, d2)) (h : ρ1[i]? = some x) (hx : x.ownD = some pen)
    (hF : F [.pa pen, .im d2] = .ok ([.pa pen', y], r)) : eCallX 2 F [some true, some false] (aCons (rN i) as) ρ = .ok (ρ1.set i (x.withD pen'), r) := by
  unfold eCallX
  rw [cons_ok (rN_ok' h0 hp) ha]
  have own : ownC ρ1 i = some (x, pen) := by unfold ownC; rw [h]; show (x.ownD).map _ = _; rw [hx]; rfl
  have ui : useIm [true, false] ρ1 [.slot i, r2] = .ok (ρ1, [.no, .im d2]) := by simp [useIm, hu]
  have fp : fillPa [true, false] ρ1 [.slot i, r2] [.no, .im d2] = some [.pa pen, .im d2] := by simp [fillPa, own]
  have mi : mutIx [true, false] [.slot i, r2] = [i] := by cases r2 <;> rfl
  simp only [Rz.ok_bind]
  show (if decide (2 = 2) = true then _ else _) = _
  rw [if_pos (decide_eq_true rfl)]
  show callBy F [true, false] ρ1 [.slot i, r2] = _
  unfold callBy
  rw [ui]
  simp only [Rz.ok_bind]
  rw [fp, mi]
  simp only [Rz.ofO_some, Rz.ok_bind]
  rw [if_pos (by simp), hF]
  cases r2 <;> simp [putBack, h]
def gPick (dr : Env → Rz (Env × Rs)) : Env → Rz (Env × Fl) := (gRet (hV (v2 dIxAQ (rN 1) (hH (eCallX 2 dr [some true, some false] (aCons (rN 0) (aCons (hH (eB dLen (aCons (rN 1) aNil))) aNil)))))))
/-- a def that picks one of a list -/
def Picks (F : Env → Rz (Env × Rs)) : Prop := ∀ (n : Nat) (p : D) (ds : List D), Pen n p → n ≤ 1000000 → 1 ≤ ds.length → ds.length ≤ 1000 → ∃ p' d, F [.pa p, .im (.nd .lst ds)] = .ok ([.pa p', .im (.nd .lst ds)], .im d) ∧ Pen (n + 1) p' ∧ d ∈ ds
theorem picks {dr : Env → Rz (Env × Rs)} (hd : Draws dr) : Picks (runFF 2 (gPick dr)) := by
  intro n p ds h hn hm hm2
  obtain ⟨p', k, e, hp, k0, k1⟩ := hd n p (ds.length : Int) h hn (by omega) (by omega)
  obtain ⟨d, hd, hm⟩ := atI_mem (xs := ds) k0 k1
  refine ⟨p', d, runFF_rt (ρ' := [.pa p', .im (.nd .lst ds)]) (r := .im d) (ret_ok (hV_ok ?_)) rfl rfl, hp, hm⟩
  have c := callX_pen2 (F := dr) (as := aCons (hH (eB dLen (aCons (rN 1) aNil))) aNil) (ρ := [.pa p, .im (.nd .lst ds)]) (ρ1 := [.pa p, .im (.nd .lst ds)]) (i := 0) (x0 := .pa p) (x := .pa p) (r2 := .im (.int (ds.length : Int))) rfl (by simp [Sl.peek])
    (cons_ok (hH_im (blt_ok (q := [.slot 1]) (ds := [.nd .lst ds]) (cons_ok rfl rfl) rfl rfl)) rfl) rfl rfl rfl e
  exact two_ok (x := .slot 1) rfl (hH_im c) rfl rfl hd
end Fx

set_option Elab.async false
set_option linter.all false
set_option maxRecDepth 100000
set_option maxHeartbeats 4000000
namespace Fx
open PySem L2
/-! ### what stands at the module's top, from facts of its written part -/
section
variable {P : Program} {K : PySem.W.Frag} {h : Heap} {mg : Str → Option Value}
theorem MethF.of {c m qual : Str} {st : Stmt} {ps : List Str} {C f : Addr} {od an : Option Addr} {sl : Array (Option Value)} {oc kV dc pm cd ct : Value} (X : K.In h) (G : h.Ns mainGlobals mg)
    (aC : PySem.W.nsIn K mainGlobals c = some (some (.ref C))) (cl : L2.Cls K C) (a : PySem.W.findIn K (.ref C) m = some (some (.ref f))) (i : PySem.W.isFn K (.ref f) = true)
    (l : K.lookup f = some ⟨oc, od, .func (PySem.W.fnOf m qual (defArgs st) (defBody st) (defScope st) .none kV dc pm an cd ct), sl⟩) (cc : PySem.W.codeIn K cd qual = true) (k : PySem.W.keepIn K (.ref f) = true)
    (hb : ∀ (kV doc pm : Value) (an : Option Addr) (cdv ct : Value) (us : List Value), us.length = ps.length → bindArgs (PySem.W.fnOf m qual (defArgs st) (defBody st) (defScope st) .none kV doc pm an cdv ct) ⟨us, []⟩ = pure (ps.zip us)) : MethF K mg c m qual st ps :=
  let F := fun_mk (st := st) l cc k
  ⟨⟨C, f, _, PySem.W.mg_of X G aC, cl, ⟨a, i, k⟩, F, F.binds hb⟩⟩
theorem MakeF.of {c qual : Str} {st : Stmt} {ps : List Str} {C f : Addr} {od an : Option Addr} {sl : Array (Option Value)} {oc kV dc pm cd ct : Value} (X : K.In h) (G : h.Ns mainGlobals mg)
    (aC : PySem.W.nsIn K mainGlobals c = some (some (.ref C))) (mk : PySem.W.makesIn K C = true) (a : PySem.W.findIn K (.ref C) "__init__" = some (some (.ref f))) (i : PySem.W.isFn K (.ref f) = true) (kC : PySem.W.keepIn K (.ref C) = true)
    (l : K.lookup f = some ⟨oc, od, .func (PySem.W.fnOf "__init__" qual (defArgs st) (defBody st) (defScope st) .none kV dc pm an cd ct), sl⟩) (cc : PySem.W.codeIn K cd qual = true) (k : PySem.W.keepIn K (.ref f) = true)
    (hb : ∀ (kV doc pm : Value) (an : Option Addr) (cdv ct : Value) (us : List Value), us.length = ps.length → bindArgs (PySem.W.fnOf "__init__" qual (defArgs st) (defBody st) (defScope st) .none kV doc pm an cdv ct) ⟨us, []⟩ = pure (ps.zip us)) : MakeF K mg c qual st ps :=
  let F := fun_mk (st := st) l cc k
  ⟨⟨C, f, _, PySem.W.mg_of X G aC, ⟨mk, a, i, kC⟩, F, F.binds hb⟩⟩
/-- the text of an exception's __init__ -/
structure InitT (st : Stmt) (fs : List Str) : Prop where
  ar : ∃ ar, ((defArgs st).posonlyargs ++ (defArgs st).args).head? = some ar ∧ ar.arg = "self"
  su : (defScope st).names.lookup ("super" : Str) = some .globalImplicit
  cl : (defScope st).names.lookup ("__class__" : Str) = some .free
  se : (defScope st).names.lookup ("self" : Str) = some .local
  fl : ∀ f ∈ fs, (defScope st).names.lookup f = some .local
  nc : ∀ x ∈ (defScope st).names, x.2 ≠ .cell
  ki : (defScope st).kind = .function
  co : (defScope st).isCoroutine = false
  ge : (defScope st).isGenerator = false
  bd : ∀ (qual : Str) (cda cc : Addr) (us : List Value), us.length = fs.length → ∀ self : Value, ∀ (kV' doc' pm' ct' : Value) (an' : Option Addr), ∀ s : Shared, BindsTo s (PySem.W.ksFn "__init__" qual (defArgs st) (defBody st) (defScope st) .none kV' doc' pm' an' (.ref cda) ct' cc) ⟨self :: us, []⟩ (("self", self) :: fs.zip us)
  bo : (∃ a, fs = [a] ∧ a ≠ "self" ∧ Exc.IsX1 a (defBody st)) ∨ (∃ a b, fs = [a, b] ∧ a ≠ "self" ∧ b ≠ "self" ∧ a ≠ b ∧ Exc.IsX2 a b (defBody st))
theorem XCls.of {x qual : Str} {fs : List Str} {st : Stmt} {C fI cda cc : Addr} (X : K.In h) (G : h.Ns mainGlobals mg) (T : InitT st fs)
    (htop : (P.main.scope.names.lookup ("super" : Str)).isSome = false) (hdb : ∀ f ∈ fs, (f == ("__debug__" : Str)) = false) (two : fs.length ≤ 2)
    {nm q : Str} {N : Addr} {bs bm : List Value} {sn : List Str} {sub : List Value} {ab : Bool} {col : Option Bool} {dd : Option Addr} {k0 k1 k2 k3 k5 : Option Value}
    {oc kV doc pm ct ccl cl : Value} {od an cdd cld : Option Addr} {osl ccs csl : Array (Option Value)} {vs : Array Value} {file : Str} {tf : Tok}
    (aC : PySem.W.nsIn K mainGlobals x = some (some (.ref C)))
    (xL : K.lookup C = some (PySem.excClassObj nm q C N bs bm true sn sub ab col dd k0 k1 k2 k3 k5 "ValueError.__new__")) (bmOk : PySem.HandSPX.refsVE bm = true)
    (sa : PySem.W.findIn K (.ref C) "__setattr__" = some (some (.builtin "object.__setattr__")))
    (ga : PySem.W.findIn K (.ref C) "__getattribute__" = some (some (.builtin "BaseException.__getattribute__")))
    (gg : PySem.W.findIn K (.ref C) "__getattr__" = some none)
    (noN : ∀ f ∈ fs, PySem.W.findIn K (.ref C) f = some none)
    (kC : PySem.W.keepIn K (.ref C) = true) (exC : PySem.W.subIn K (.ref C) (.type "BaseException") = some true) (tyC : PySem.W.typeIn K (.ref C) = some (.type "type")) (hdC : PySem.W.hasDictIn K C = true)
    (tp : PySem.W.nsIn K PySem.cStatics "thirdparty.any" = some none) (sI : PySem.W.ks_superIn K C C "__init__" = some (some (.builtin "ValueError.__init__"))) (sV : PySem.W.subIn K (.ref C) (.type "ValueError") = some true) (mC : PySem.W.mroIn K C (.ref C) = some true)
    (su : PySem.W.nsIn K mainGlobals "super" = some none)
    (i1 : PySem.W.findIn K (.ref C) "__init__" = some (some (.ref fI))) (i2 : PySem.W.typeIn K (.ref fI) = some (.type "function"))
    (i3 : K.lookup fI = some ⟨oc, od, .func (PySem.W.ksFn "__init__" qual (defArgs st) (defBody st) (defScope st) .none kV doc pm an (.ref cda) ct cc), osl⟩) (i4 : PySem.W.codeIn K (.ref cda) qual = true)
    (i5 : K.lookup cda = some ⟨ccl, cdd, .fields vs, ccs⟩) (i6 : vs[2]? = some (.str file tf)) (i7 : ((P.main.file : Str) == file) = true)
    (i8 : K.lookup cc = some ⟨cl, cld, .cell (some (.ref C)), csl⟩) : XCls P K mg x fs :=
  ⟨⟨C, PySem.W.mg_of X G aC, ⟨_, _, _, _, _, _, _, _, _, _, _, _, _, _, _, xL, bmOk⟩, sa, ga, gg, noN, kC, exC, tyC, hdC, tp, sI, sV, mC, PySem.W.mg_none_of X G su, htop,
    ⟨fI, oc, od, qual, _, _, _, kV, doc, pm, ct, an, osl, cda, cc, ccl, cl, cdd, cld, vs, ccs, csl, file, tf, i1, i2, i3, i4, i5, i6, i7, i8, T.ar, T.su, T.cl, T.se, T.fl, T.nc, T.ki, T.co, T.ge, T.bd qual cda cc, T.bo⟩⟩, hdb, two⟩
theorem IsaT.nil : IsaT K mg [] := ⟨(fun _ _ _ _ _ h => nomatch h), (fun _ _ _ _ _ h => nomatch h), (fun _ _ _ _ _ h => nomatch h)⟩
theorem IsaT.cons {t c : Str} {r : Bool} {C D : Addr} {tab : List (CT × CT × Bool)} (R : IsaT K mg tab) (g1 : mg t = some (.ref C)) (g2 : mg c = some (.ref D)) (k : PySem.W.kitOne K (.ref C) (.ref D) = some r) (e : L2.ExcC K C) : IsaT K mg ((.e t, .e c, r) :: tab) := by
  refine ⟨fun t' c' r' tv cv h ht hc => ?_, fun t' c' r' n C' h et hm => ?_, fun t' c' r' n C' h et hm => ?_⟩
  · rcases List.mem_cons.mp h with h | h
    · cases h
      obtain ⟨q1, _⟩ := ht
      obtain ⟨q2, _⟩ := hc
      rw [g1] at q1
      rw [g2] at q2
      cases q1
      cases q2
      exact k
    · exact R.kit _ _ _ _ _ h ht hc
  · rcases List.mem_cons.mp h with h | h
    · cases h; cases et
    · exact R.ob _ _ _ _ _ h et hm
  · rcases List.mem_cons.mp h with h | h
    · cases h
      cases et
      rw [g1] at hm
      cases hm
      exact e
    · exact R.ex _ _ _ _ _ h et hm
end
end Fx

set_option Elab.async false
set_option linter.all false
set_option maxRecDepth 100000
set_option maxHeartbeats 4000000
namespace Fx
open PySem L2
/-! ### [at for at, edge in enumerate(..) if edge[k] == name], the quick road -/
def idxF (k : Int) (x : D) : List D → Nat → List D
  | [], _ => []
  | e :: es, n => match dIxAQ e (.int k) with
    | some y => (match eqvQ y x with
      | true => .int n :: idxF k x es (n + 1)
      | false => idxF k x es (n + 1))
    | none => idxF k x es (n + 1)
def okIx (k : Int) : List D → Bool
  | [] => true
  | e :: es => match dIxAQ e (.int k) with
    | some y => (match fitN 64 y with
      | true => okIx k es
      | false => false)
    | none => false
def seqD : D → Option (List D)
  | .nd .tup ds => some ds
  | .nd .lst ds => some ds
  | _ => none
def lcIxS (a b c : Nat) (k : Int) (it : Env → Rz (Env × D)) : Env → Rz (Env × Rs) := eLcF [a, b] (iEnu it) (tgT [tgN a, tgN b]) (t2 dEqQ (hV (v2 dIxAQ (rN b) (hC (.int k)))) (rN c)) (vN a)
def lcIxG (a b c n : Nat) : Bool := decide (a < n) && decide (b < n) && decide (a ≠ b) && decide (c ≠ a) && decide (c ≠ b)
def lcIx (a b c : Nat) (k : Int) (it : Env → Rz (Env × D)) : Env → Rz (Env × Rs) := fun ρ => match it ρ with
  | .ok (ρ1, d) => (match seqD d with
    | some es => (match (wipeE ρ1 [a, b])[c]? with
      | some (.im x) => (match fitN 64 x && okIx k es && decide (es.length ≤ 1000) && lcIxG a b c ρ1.length with
        | true => .ok (wipeE ρ1 [a, b], .nw (.nd .lst (idxF k x es 0)))
        | false => lcIxS a b c k it ρ)
      | _ => lcIxS a b c k it ρ)
    | none => lcIxS a b c k it ρ)
  | _ => lcIxS a b c k it ρ
def pIx (k : Int) (x : D) : D → Bool
  | .nd .tup [_, e] => (match dIxAQ e (.int k) with
    | some y => eqvQ y x
    | none => false)
  | _ => false
def gIx : D → D
  | .nd .tup [i, _] => i
  | _ => .non
theorem idxF_eq {k : Int} {x : D} : ∀ (es : List D) (n : Nat), ((enumD n es).filter (pIx k x)).map gIx = idxF k x es n
  | [], _ => rfl
  | e :: es, n => by
    show ((D.nd .tup [D.int (n : Int), e] :: enumD (n + 1) es).filter (pIx k x)).map gIx = _
    have ih := idxF_eq (k := k) (x := x) es (n + 1)
    show _ = (match dIxAQ e (.int k) with
      | some y => (match eqvQ y x with
        | true => D.int (n : Int) :: idxF k x es (n + 1)
        | false => idxF k x es (n + 1))
      | none => idxF k x es (n + 1))
    cases h : dIxAQ e (.int k) with
    | none =>
      rw [List.filter_cons_of_neg (by simp [pIx, h])]
      exact ih
    | some y =>
      cases h2 : eqvQ y x with
      | true =>
        rw [List.filter_cons_of_pos (by simp [pIx, h, h2]), List.map_cons, ih]
        show _ = (match eqvQ y x with
          | true => D.int (n : Int) :: idxF k x es (n + 1)
          | false => idxF k x es (n + 1))
        rw [h2]
        rfl
      | false =>
        rw [List.filter_cons_of_neg (by simp [pIx, h, h2])]
        show _ = (match eqvQ y x with
          | true => D.int (n : Int) :: idxF k x es (n + 1)
          | false => idxF k x es (n + 1))
        rw [h2]
        exact ih
theorem okIx_mem {k : Int} : ∀ {es : List D} {e : D}, okIx k es = true → e ∈ es → ∃ y, dIxAQ e (.int k) = some y ∧ fitN 64 y = true
  | [], _, _, h => by cases h
  | e0 :: es, e, h, hm => by
    have h' : (match dIxAQ e0 (.int k) with
    | some y => (match fitN 64 y with
      | true => okIx k es
      | false => false)
    | none => false) = true := h
    cases q : dIxAQ e0 (.int k) with
    | none => rw [q] at h'; cases h'
    | some y =>
      rw [q] at h'
      replace h' : (match fitN 64 y with
        | true => okIx k es
        | false => false) = true := h'
      cases q2 : fitN 64 y with
      | false => rw [q2] at h'; cases h'
      | true =>
        rw [q2] at h'
        rcases List.mem_cons.mp hm with rfl | hm
        · exact ⟨y, q, q2⟩
        · exact okIx_mem (es := es) h' hm
theorem enumD_len' : ∀ (ds : List D) (k : Nat), (enumD k ds).length = ds.length
  | [], _ => rfl
  | d :: ds, k => by
    show (enumD (k + 1) ds).length + 1 = ds.length + 1
    rw [enumD_len' ds]
theorem enumD_mem : ∀ {es : List D} {n : Nat} {d : D}, d ∈ enumD n es → ∃ i : Nat, ∃ e, d = .nd .tup [.int i, e] ∧ e ∈ es
  | [], _, _, h => by cases h
  | e :: es, n, d, h => by
    rcases List.mem_cons.mp (show d ∈ (D.nd .tup [.int n, e] :: enumD (n + 1) es) from h) with h | h
    · exact ⟨n, e, h, List.mem_cons_self⟩
    · obtain ⟨i, e', h1, h2⟩ := enumD_mem h
      exact ⟨i, e', h1, List.mem_cons_of_mem _ h2⟩
theorem lcIx_eq (a b c : Nat) (k : Int) (it : Env → Rz (Env × D)) : lcIx a b c k it = lcIxS a b c k it := by
  funext ρ
  unfold lcIx
  split
  · rename_i ρ1 d hi
    split
    · rename_i es hs
      split
      · rename_i x hc
        split
        · rename_i hk
          simp only [Bool.and_eq_true, decide_eq_true_eq, lcIxG] at hk
          obtain ⟨⟨⟨fx, oe⟩, el⟩, ⟨⟨⟨la, lb⟩, nab⟩, nca⟩, ncb⟩ := hk
          have hen : iEnu it ρ = .ok (ρ1, enumD 0 es) := by
            unfold iEnu
            rw [hi]
            unfold seqD at hs
            split at hs
            · cases hs; rfl
            · cases hs; rfl
            · cases hs
          unfold lcIxS
          rw [eLcF_eq]
          unfold eLc
          rw [hen]
          show _ = ((noX (lcL [a, b] _ _ _ (enumD 0 es) (wipeE ρ1 [a, b]) [])).bind _)
          have W : ∀ i : Nat, i ≠ a → i ≠ b → (wipeE ρ1 [a, b])[i]? = ρ1[i]? := fun i h1 h2 => by
            show ((ρ1.set b .no).set a .no)[i]? = _
            rw [List.getElem?_set_ne (Ne.symm h1), List.getElem?_set_ne (Ne.symm h2)]
          have Lw : (wipeE ρ1 [a, b]).length = ρ1.length := by show ((ρ1.set b .no).set a .no).length = _; simp
          rw [lc_ok (pIx k x) gIx (enumD 0 es) [] (by rw [enumD_len']; simpa using el) fun d hd => ?_]
          · show _ = Rz.ok (wipeE ρ1 [a, b], Rs.nw (.nd .lst ([] ++ ((enumD 0 es).filter (pIx k x)).map gIx)))
            rw [idxF_eq]
            rfl
          · obtain ⟨i, e, rfl, he⟩ := enumD_mem hd
            obtain ⟨y, hy, fy⟩ := okIx_mem oe he
            generalize hw : wipeE ρ1 [a, b] = ρw at *
            have na : ρw[a]? = some .no := by
              rw [← hw]
              show ((ρ1.set b .no).set a .no)[a]? = _
              rw [List.getElem?_set_self (by simpa using la)]
            have nb : ρw[b]? = some .no := by
              rw [← hw]
              show ((ρ1.set b .no).set a .no)[b]? = _
              rw [List.getElem?_set_ne nab, List.getElem?_set_self lb]
            have p1 : put ρw a (.im (.int i)) = .ok (ρw.set a (.im (.int i))) := by unfold put; rw [na]
            have gb : (ρw.set a (.im (.int i)))[b]? = some .no := by rw [List.getElem?_set_ne nab]; exact nb
            have p2 : put (ρw.set a (.im (.int i))) b (.im e) = .ok ((ρw.set a (.im (.int i))).set b (.im e)) := by unfold put; rw [gb]
            have lb' : b < (ρw.set a (.im (.int i))).length := by rw [List.length_set, Lw]; exact lb
            have g1 : ((ρw.set a (.im (.int i))).set b (.im e))[b]? = some (.im e) := List.getElem?_set_self lb'
            have g2 : ((ρw.set a (.im (.int i))).set b (.im e))[c]? = some (.im x) := by rw [List.getElem?_set_ne (Ne.symm ncb), List.getElem?_set_ne (Ne.symm nca)]; exact hc
            have g3 : ((ρw.set a (.im (.int i))).set b (.im e))[a]? = some (.im (.int i)) := by rw [List.getElem?_set_ne (Ne.symm nab), List.getElem?_set_self (by rw [Lw]; exact la)]
            refine ⟨(ρw.set a (.im (.int i))).set b (.im e), ?_, ?_, ?_, fun _ => ?_⟩
            · have tt : tgT [tgN a, tgN b] (.nd .tup [.int i, e]) ρw = tgAll [tgN a, tgN b] [.int i, e] ρw := by simp [tgT]
              rw [tt]
              show ((put ρw a (.im (.int i))).bind fun ρ' => tgAll [tgN b] [e] ρ') = _
              rw [p1]
              show ((put (ρw.set a (.im (.int i))) b (.im e)).bind fun ρ' => tgAll [] [] ρ') = _
              rw [p2]
              rfl
            · have r1 : rN b ((ρw.set a (.im (.int i))).set b (.im e)) = .ok ((ρw.set a (.im (.int i))).set b (.im e), .slot b) := by unfold rN; rw [g1]
              have r2 : rN c ((ρw.set a (.im (.int i))).set b (.im e)) = .ok ((ρw.set a (.im (.int i))).set b (.im e), .slot c) := by unfold rN; rw [g2]
              have q1 : Fx.peek ((ρw.set a (.im (.int i))).set b (.im e)) (.slot b) = some e := by show (((ρw.set a (.im (.int i))).set b (.im e))[b]?).bind Sl.peek = _; rw [g1]; rfl
              have q2 : Fx.peek ((ρw.set a (.im (.int i))).set b (.im e)) (.slot c) = some x := by show (((ρw.set a (.im (.int i))).set b (.im e))[c]?).bind Sl.peek = _; rw [g2]; rfl
              refine tst_ok (x := .im y) (y := .slot c) (d := y) (c := x) (hV_ok (two_ok (x := .slot b) (y := .im (.int k)) (d := e) (c := .int k) r1 rfl q1 rfl hy)) r2 rfl q2 ?_
              show dEqQ y x = some (match dIxAQ e (.int k) with
                | some y => eqvQ y x
                | none => false)
              rw [hy]
              show (if fitN 64 y && fitN 64 x then some (eqvQ y x) else dEq y x) = _
              rw [fy, fx]
              rfl
            · rw [← hw]
              apply List.ext_getElem?
              intro j
              show ((((((ρ1.set b .no).set a .no).set a (.im (.int i))).set b (.im e)).set b .no).set a .no)[j]? = ((ρ1.set b .no).set a .no)[j]?
              by_cases ja : j = a
              · subst ja
                rw [List.getElem?_set_self (by simpa using la), List.getElem?_set_self (by simpa using la)]
              · rw [List.getElem?_set_ne (Ne.symm ja), List.getElem?_set_ne (Ne.symm ja)]
                by_cases jb : j = b
                · subst jb
                  rw [List.getElem?_set_self (by simpa using lb), List.getElem?_set_self (by simpa using lb)]
                · rw [List.getElem?_set_ne (Ne.symm jb), List.getElem?_set_ne (Ne.symm jb), List.getElem?_set_ne (Ne.symm ja), List.getElem?_set_ne (Ne.symm ja)]
            · have r3 : rN a ((ρw.set a (.im (.int i))).set b (.im e)) = .ok ((ρw.set a (.im (.int i))).set b (.im e), .slot a) := by unfold rN; rw [g3]
              show ((rN a _).bind fun p => use p.1 p.2) = _
              rw [r3]
              show (match ((ρw.set a (.im (.int i))).set b (.im e))[a]? with
                | some (.im d) => (Rz.ok (((ρw.set a (.im (.int i))).set b (.im e)), d) : Rz (Env × D))
                | some (.lo d) => .ok (((ρw.set a (.im (.int i))).set b (.im e)).set a (.im d), d)
                | _ => .no) = _
              rw [g3]
              rfl
        · rfl
      · rfl
    · rfl
  · rfl
section
variable [Tb] {X : Cx} {W : WX} {e : Expr}
theorem re_lcIx {a b c : Nat} {k : Int} {it : Env → Rz (Env × D)} (h : RE X W e (eLcF [a, b] (iEnu it) (tgT [tgN a, tgN b]) (t2 dEqQ (hV (v2 dIxAQ (rN b) (hC (.int k)))) (rN c)) (vN a))) : RE X W e (lcIx a b c k it) := by
  rw [lcIx_eq]
  exact h
end
end Fx

set_option Elab.async false
set_option linter.all false
set_option maxRecDepth 100000
set_option maxHeartbeats 4000000
namespace Fx
open PySem L2
/-! ### statements that leave other slots alone; a container put aside while they run -/
section
variable [Tb]
def rdSf (M : Md) (W : WX) (is : List Nat) (g : Env → Rz (Env × Fl)) : TS := fun D σ H => ∃ Γ Hf ρ, Rep M Γ Hf σ H ρ ∧
  (g ρ).wp (fun p => ∀ Hf' σ' H', σ'.length = σ.length → (∀ j, j ∉ is → σ'[j]? = σ[j]?) → Same Hf Hf' → Rep M Γ Hf' σ' H' p.1 → FlOk M Γ Hf' σ' H' p.1 D p.2) (fun _ _ => False)
abbrev RSf (X : Cx) (W : WX) (is : List Nat) (st : Stmt) (g : Env → Rz (Env × Fl)) : Prop := PS X st (rdSf ⟨X.K, X.mg⟩ W is g)
abbrev RSsf (X : Cx) (W : WX) (is : List Nat) (st : List Stmt) (g : Env → Rz (Env × Fl)) : Prop := PSs X st (rdSf ⟨X.K, X.mg⟩ W is g)
section
variable {M : Md} {W : WX} {Γ : Gh} {Hf : Hp} {σ : L2.St} {H : Hp} {ρ : Env} {β : Type} {P : β → Prop}
theorem fbT {f : Env → Rz (Env × Bool)} {g : Env × Bool → Rz β} {Q : Bool → Hp → Prop} (R : Rep M Γ Hf σ H ρ) (hw : ((f ρ).bind g).wp P (fun _ _ => False))
    (k : ∀ ρ1 b Hf1 H1, Same Hf Hf1 → Rep M Γ Hf1 σ H1 ρ1 → (g (ρ1, b)).wp P (fun _ _ => False) → Q b H1) : rdT M W f σ H Q :=
  ⟨Γ, Hf, ρ, R, Rz.wp_mono (Rz.wp_bind hw) (fun p hp Hf1 H1 S R1 => k p.1 p.2 Hf1 H1 S R1 hp) fun _ _ z => z.elim⟩
theorem fbE {f : Env → Rz (Env × Rs)} {g : Env × Rs → Rz β} {Q : VK} (R : Rep M Γ Hf σ H ρ) (hw : ((f ρ).bind g).wp P (fun _ _ => False))
    (k : ∀ ρ1 r Hf1 H1 v, Same Hf Hf1 → Rep M Γ Hf1 σ H1 ρ1 → RsIs M Γ Hf1 σ H1 ρ1 r v → (g (ρ1, r)).wp P (fun _ _ => False) → Q v H1) : rdE M W f σ H Q :=
  ⟨Γ, Hf, ρ, R, Rz.wp_mono (Rz.wp_bind hw) (fun p hp Hf1 H1 v S R1 hv => k p.1 p.2 Hf1 H1 v S R1 hv hp) fun _ _ z => z.elim⟩
theorem fbV {f : Env → Rz (Env × D)} {g : Env × D → Rz β} {Q : VK} (R : Rep M Γ Hf σ H ρ) (hw : ((f ρ).bind g).wp P (fun _ _ => False))
    (k : ∀ ρ1 d Hf1 H1 v, Same Hf Hf1 → Rep M Γ Hf1 σ H1 ρ1 → Has M Hf1 d v → (g (ρ1, d)).wp P (fun _ _ => False) → Q v H1) : rdV M W f σ H Q :=
  ⟨Γ, Hf, ρ, R, Rz.wp_mono (Rz.wp_bind hw) (fun p hp Hf1 H1 v S R1 hv => k p.1 p.2 Hf1 H1 v S R1 hv hp) fun _ _ z => z.elim⟩
theorem rdSf_pass {is : List Nat} {g : Env → Rz (Env × Fl)} {Hf0 : Hp} {D : Ends} (R : Rep M Γ Hf σ H ρ) (S0 : Same Hf0 Hf)
    (h : (g ρ).wp (fun p => ∀ Hf' σ' H', σ'.length = σ.length → (∀ j, j ∉ is → σ'[j]? = σ[j]?) → Same Hf0 Hf' → Rep M Γ Hf' σ' H' p.1 → FlOk M Γ Hf' σ' H' p.1 D p.2) (fun _ _ => False)) : rdSf M W is g D σ H :=
  ⟨Γ, Hf, ρ, R, Rz.wp_mono h (fun p hp Hf' σ' H' hl o S' R' => hp Hf' σ' H' hl o (S0.trans S') R') fun _ _ z => z⟩
end
section
variable {X : Cx} {W : WX} {st : Stmt} {rest : List Stmt} {e tg : Expr} {pos : Pos} {f g : Env → Rz (Env × Fl)} {ef : Env → Rz (Env × Rs)} {vf : Env → Rz (Env × D)} {tf : Env → Rz (Env × Bool)} {is : List Nat}
theorem rssf_nil : RSsf X W is [] gNext := pss_mono pss_nil fun D σ H ⟨Γ, Hf, ρ, R, hw⟩ => hw Hf σ H rfl (fun _ _ => rfl) (Same.refl _) R
theorem rssf_one (h : RSf X W is st f) : RSsf X W is [st] f := pss_one h
theorem rsf_set {i : Nat} {x : Str} {pos' : Pos} (hN : X.N.Nodup) (he : RE X W e ef) (hi : X.N[i]? = some x := by rfl) (hx : Loc X.env.scope x := by first | exact Or.inl rfl | exact Or.inr rfl) (hs : swapsWith e (some (.Name x pos')) pos.line X.env = pure false := by rfl)
    (hf : X.fn x = true ∨ X.env.scope.names.lookup x = some .local := by first | exact .inl rfl | exact .inr rfl | assumption) :
    RSf X W [i] (.Assign [.Name x pos'] e pos) (gSet i ef) := ps_monoI (ps_set hN hi hx he hs hf) fun D σ H hl ⟨Γ, Hf, ρ, R, hw⟩ =>
  fbE R hw fun ρ1 r Hf1 H1 v S R1 hv hq => by
    obtain ⟨ρ', e1, hq⟩ := put_wp hq
    obtain ⟨Hf2, S2, R2⟩ := R1.store hv e1
    exact hq Hf2 (σ.set i (some v)) H1 (by simp) (fun j hj => List.getElem?_set_ne (fun e => hj (by simp [e]))) (S.trans S2) R2
theorem rsf_asg {tgf : D → Env → Rz Env} (he : RV X W e vf) (hg : RG X W tg is tgf) (hs : swapsWithSole [tg] e pos.line X.env = pure false := by rfl) (hw : swappedStores [tg] e X.env = pure none := by rfl)
    (h1 : (assignEach [tg] X.env).map (·.2) = [assign tg X.env] := by rfl) : RSf X W is (.Assign [tg] e pos) (gAsg tgf vf) := ps_mono (ps_asg he hg hs hw h1) fun D σ H ⟨Γ, Hf, ρ, R, hw⟩ =>
  fbV R hw fun ρ1 d Hf1 H1 v S R1 hv hq => ⟨Γ, Hf1, ρ1, d, R1, hv, Rz.wp_mono (Rz.wp_bind hq) (fun ρ' hp Hf' σ' H' l' o S' R' => hp Hf' σ' H' l' o (S.trans S') R') fun _ _ z => z.elim⟩
theorem rsf_if {c : Expr} {a b : List Stmt} (hc : RT X W c tf) (ha : RSsf X W is a f) (hb : RSsf X W is b g) : RSf X W is (.If c a b pos) (gIf tf f g) := ps_mono (ps_if hc ha hb) fun D σ H ⟨Γ, Hf, ρ, R, hw⟩ =>
  fbT R hw fun ρ1 b Hf1 H1 S R1 hq => by
    cases b with
    | true => exact iteT (rdSf_pass R1 S hq)
    | false => exact iteF (rdSf_pass R1 S hq)
theorem rsf_ret (he : RE X W e ef) : RSf X W is (.Return (some e) pos) (gRet ef) := ps_mono (ps_ret he) fun D σ H ⟨Γ, Hf, ρ, R, hw⟩ =>
  fbE R hw fun ρ1 r Hf1 H1 v S R1 hv hq => hq Hf1 σ H1 rfl (fun _ _ => rfl) S R1 v hv
end
/-- run with the container in slot i put aside -/
def asideS (i : Nat) (g : Env → Rz (Env × Fl)) : Env → Rz (Env × Fl) := fun ρ => match ρ[i]? with
  | some (.lo d) => (match frcE (ρ.set i .no) g with
    | .ok (ρ', .nx) => (put ρ' i (.nw d)).bind fun ρ2 => .ok (ρ2, .nx)
    | .ok (ρ', .rt (.im r)) => (put ρ' i (.nw d)).bind fun ρ2 => .ok (ρ2, .rt (.im r))
    | _ => .no)
  | _ => .no
theorem rs_aside {X : Cx} {W : WX} {st : Stmt} {g : Env → Rz (Env × Fl)} {is : List Nat} (i : Nat) (h : RSf X W is st g) (hi : i ∉ is := by decide) : RS X W st (asideS i g) := ps_mono h fun D σ H ⟨Γ, Hf, ρ, R, hw⟩ => by
  unfold asideS at hw
  cases q : ρ[i]? with
  | none => simp only [q] at hw; exact hw.elim
  | some x =>
    cases x with
    | no => simp only [q] at hw; exact hw.elim
    | im _ => simp only [q] at hw; exact hw.elim
    | pa _ => simp only [q] at hw; exact hw.elim
    | lo d =>
      simp only [q] at hw
      rw [frcE_eq] at hw
      have lt : i < ρ.length := (List.getElem?_eq_some_iff.mp q).1
      have lt' : i < σ.length := by rw [← R.len]; exact lt
      obtain ⟨a, es0, h0, hl⟩ := R.r0.lo i d (get_app q)
      have es : σ[i]? = some (some (.ref a)) := by rw [← get_left (k := Γ.τ) lt']; exact es0
      have R1 : Rep ⟨X.K, X.mg⟩ Γ Hf σ H (ρ.set i .no) := R.forget rfl (by simp) fun j x e => by
        rcases set_get e with ⟨_, z⟩ | ⟨_, z⟩
        · exact .inl z
        · exact .inr ⟨z, rfl⟩
      have nw : RsIs ⟨X.K, X.mg⟩ Γ Hf σ H (ρ.set i .no) (.nw d) (.ref a) := ⟨a, rfl, h0, hl, fun j x e ho es' => by
        have L := R.len
        have e2 : (ρ ++ Γ.γ)[j]? = some x ∧ j ≠ i := by
          by_cases hj : j = i
          · subst hj
            rw [get_left (by simpa using lt), List.getElem?_set_self lt] at e
            cases e
            exact ho.elim
          · refine ⟨?_, hj⟩
            rw [← set_left lt, List.getElem?_set_ne (Ne.symm hj)] at e
            exact e
        exact R.r0.inj j i x _ e2.2 e2.1 (get_app q) ho trivial (es'.trans es0.symm)⟩
      refine ⟨Γ.add a d, Hf, ρ.set i .no, R1.push nw, ?_⟩
      cases u : g (ρ.set i .no) with
      | no => rw [u] at hw; exact hw.elim
      | ex _ _ => rw [u] at hw; exact hw.elim
      | ok p =>
        obtain ⟨ρ', fl⟩ := p
        rw [u] at hw
        intro Hf' σ' H' l o S R'
        obtain ⟨R2, nw2⟩ := R'.pop
        have es' : σ'[i]? = some (some (.ref a)) := (o i hi).trans es
        have same : σ'.set i (some (.ref a)) = σ' := by
          apply List.ext_getElem?
          intro j
          by_cases hj : j = i
          · subst hj
            rw [List.getElem?_set_self (by rw [l]; exact lt'), es']
          · rw [List.getElem?_set_ne (Ne.symm hj)]
        cases fl with
        | bk => exact hw.elim
        | ct => exact hw.elim
        | nx =>
          obtain ⟨ρ2, e1, hq⟩ := put_wp (show ((put ρ' i (.nw d)).bind _).wp _ _ from hw)
          obtain ⟨Hf2, S2, R3⟩ := R2.store nw2 e1
          rw [same] at R3
          exact hq Hf2 σ' H' l (S.trans S2) R3
        | rt r =>
          cases r with
          | slot _ => exact hw.elim
          | nw _ => exact hw.elim
          | im r =>
            obtain ⟨ρ2, e1, hq⟩ := put_wp (show ((put ρ' i (.nw d)).bind _).wp _ _ from hw)
            obtain ⟨Hf2, S2, R3⟩ := R2.store nw2 e1
            rw [same] at R3
            intro v hv
            exact hq Hf2 σ' H' l (S.trans S2) R3 v (Has.same S2 hv)
/-- behind a statement some slots are forgotten -/
def gSeqW (vs : List Nat) (f g : Env → Rz (Env × Fl)) : Env → Rz (Env × Fl) := fun ρ => (f ρ).bind fun p => match p.2 with
  | .nx => g (wipeE p.1 vs)
  | fl => .ok (p.1, fl)
theorem rss_consW {X : Cx} {W : WX} {st : Stmt} {rest : List Stmt} {f g : Env → Rz (Env × Fl)} (vs : List Nat) (h1 : RS X W st f) (h2 : RSs X W rest g) : RSs X W (st :: rest) (gSeqW vs f g) := pss_mono (pss_cons h1 h2) fun D σ H ⟨Γ, Hf, ρ, R, hw⟩ =>
  sbS R hw fun ρ1 fl Hf1 σ1 H1 hl S R1 hq => by
    cases fl with
    | nx => exact rdS_pass (R1.wipe vs) hl S hq
    | rt r => exact hq Hf1 σ1 H1 hl S R1
    | bk => exact hq Hf1 σ1 H1 hl S R1
    | ct => exact hq Hf1 σ1 H1 hl S R1
end
/-! ### what runs with a container put aside does not hang on it -/
def Rz.mapE (k : Env → Env) : Rz (Env × Fl) → Rz (Env × Fl)
  | .ok p => .ok (k p.1, p.2)
  | .ex x ρ => .ex x (k ρ)
  | .no => .no
/-- F does the same whatever container stands in slot i -/
def Par (i : Nat) (F : Env → Rz (Env × Fl)) : Prop := ∀ (ρ : Env) (d d0 : D), i < ρ.length → F (ρ.set i (.lo d)) = (F (ρ.set i (.lo d0))).mapE (·.set i (.lo d)) ∧ ∀ ρ' fl, F (ρ.set i (.lo d0)) = .ok (ρ', fl) → ρ'[i]? = some (.lo d0)
theorem put_nw {ρ ρ2 : Env} {i : Nat} {d : D} (h : put ρ i (.nw d) = .ok ρ2) : ρ2 = ρ.set i (.lo d) ∧ i < ρ.length := by
  unfold put at h
  cases q : ρ[i]? with
  | none => simp [q] at h
  | some x => cases x <;> simp [q] at h <;> exact ⟨h.symm, (List.getElem?_eq_some_iff.mp q).1⟩
theorem put_nw' {ρ : Env} {i : Nat} (d d' : D) {ρ2 : Env} (h : put ρ i (.nw d) = .ok ρ2) : put ρ i (.nw d') = .ok (ρ2.set i (.lo d')) := by
  obtain ⟨rfl, lt⟩ := put_nw h
  rw [List.set_set]
  unfold put at h ⊢
  cases q : ρ[i]? with
  | none => simp [q] at h
  | some x => cases x <;> simp [q] at h <;> rfl
theorem put_nw_no {ρ : Env} {i : Nat} (d d' : D) (h : ∀ ρ2, put ρ i (.nw d) ≠ .ok ρ2) : put ρ i (.nw d') = .no ∧ put ρ i (.nw d) = .no := by
  unfold put at h ⊢
  cases q : ρ[i]? with
  | none => simp [q]
  | some x => cases x <;> simp [q] at h ⊢
theorem asideS_par (i : Nat) (g : Env → Rz (Env × Fl)) : Par i (asideS i g) := by
  intro ρ d d0 lt
  · have g1 : ∀ d, (ρ.set i (.lo d))[i]? = some (.lo d) := fun d => List.getElem?_set_self lt
    have s1 : ∀ d, (ρ.set i (.lo d)).set i .no = ρ.set i .no := fun d => by rw [List.set_set]
    unfold asideS
    simp only [g1, s1, frcE_eq]
    cases u : g (ρ.set i .no) with
    | no => exact ⟨rfl, fun _ _ h => nomatch h⟩
    | ex _ _ => exact ⟨rfl, fun _ _ h => nomatch h⟩
    | ok p =>
      obtain ⟨ρ', fl⟩ := p
      have fin : ∀ fl : Fl, ((put ρ' i (.nw d)).bind fun ρ2 => (.ok (ρ2, fl) : Rz (Env × Fl))) = ((put ρ' i (.nw d0)).bind fun ρ2 => (.ok (ρ2, fl) : Rz (Env × Fl))).mapE (·.set i (.lo d)) ∧ ∀ ρ'' fl', ((put ρ' i (.nw d0)).bind fun ρ2 => (.ok (ρ2, fl) : Rz (Env × Fl))) = .ok (ρ'', fl') → ρ''[i]? = some (.lo d0) := by
        intro fl
        by_cases h : ∃ ρ2, put ρ' i (.nw d0) = .ok ρ2
        · obtain ⟨ρ2, h⟩ := h
          rw [put_nw' d0 d h, h]
          refine ⟨rfl, fun ρ'' fl' e => ?_⟩
          cases e
          obtain ⟨rfl, lt2⟩ := put_nw h
          exact List.getElem?_set_self lt2
        · obtain ⟨h1, h2⟩ := put_nw_no d0 d (fun ρ2 e => h ⟨ρ2, e⟩)
          rw [h1, h2]
          exact ⟨rfl, fun _ _ h => nomatch h⟩
      cases fl with
      | bk => exact ⟨rfl, fun _ _ h => nomatch h⟩
      | ct => exact ⟨rfl, fun _ _ h => nomatch h⟩
      | nx => exact fin .nx
      | rt r =>
        cases r with
        | slot _ => exact ⟨rfl, fun _ _ h => nomatch h⟩
        | nw _ => exact ⟨rfl, fun _ _ h => nomatch h⟩
        | im r => exact fin (.rt (.im r))
theorem Par.seq {i : Nat} {f g : Env → Rz (Env × Fl)} (hf : Par i f) (hg : Par i g) : Par i (gSeq f g) := by
  intro ρ d d0 lt
  unfold gSeq
  rw [(hf ρ d d0 lt).1]
  cases u : f (ρ.set i (.lo d0)) with
  | no => exact ⟨rfl, fun _ _ h => nomatch h⟩
  | ex _ _ => exact ⟨rfl, fun _ _ h => nomatch h⟩
  | ok p =>
    obtain ⟨ρ', fl⟩ := p
    have hi := (hf ρ d d0 lt).2 _ _ u
    cases fl with
    | rt r => exact ⟨rfl, fun ρ'' fl' h => by cases h; exact hi⟩
    | bk => exact ⟨rfl, fun ρ'' fl' h => by cases h; exact hi⟩
    | ct => exact ⟨rfl, fun ρ'' fl' h => by cases h; exact hi⟩
    | nx =>
      have e0 : ρ'.set i (.lo d0) = ρ' := by
        apply List.ext_getElem?
        intro j
        by_cases hj : j = i
        · subst hj
          rw [List.getElem?_set_self (List.getElem?_eq_some_iff.mp hi).1, hi]
        · rw [List.getElem?_set_ne (Ne.symm hj)]
      have := hg ρ' d d0 (List.getElem?_eq_some_iff.mp hi).1
      rw [e0] at this
      exact this
/-- a run with another container -/
theorem Par.run {i : Nat} {F : Env → Rz (Env × Fl)} (h : Par i F) {ρ ρ' : Env} {d0 : D} {fl : Fl} (lt : i < ρ.length) (e : F (ρ.set i (.lo d0)) = .ok (ρ', fl)) (d : D) : F (ρ.set i (.lo d)) = .ok (ρ'.set i (.lo d), fl) := by
  rw [(h ρ d d0 lt).1, e]
  rfl
theorem Par.forL {i j : Nat} (hij : j ≠ i) {g : Env → Rz (Env × Fl)} (hg : Par i g) : ∀ ds : List D, Par i (gForL (tgN j) g ds)
  | [] => fun ρ d d0 lt => ⟨by
      show Rz.ok (ρ.set i (.lo d), Fl.nx) = Rz.ok ((ρ.set i (.lo d0)).set i (.lo d), Fl.nx)
      rw [List.set_set], fun ρ' fl h => by
      cases h
      exact List.getElem?_set_self lt⟩
  | e :: ds => fun ρ d d0 lt => by
    have ih := Par.forL hij hg ds
    have go : ∀ x : D, gForL (tgN j) g (e :: ds) (ρ.set i (.lo x)) = ((put (ρ.set i (.lo x)) j (.im e)).bind fun ρ1 => (g ρ1).bind fun q => match q.2 with
      | .nx => gForL (tgN j) g ds q.1
      | .ct => gForL (tgN j) g ds q.1
      | .bk => .ok (q.1, .nx)
      | .rt r => .ok (q.1, .rt r)) := fun x => rfl
    have gj : ∀ x : D, (ρ.set i (.lo x))[j]? = ρ[j]? := fun x => List.getElem?_set_ne (Ne.symm hij)
    rw [go, go]
    have pj : (∀ x : D, put (ρ.set i (.lo x)) j (.im e) = .no) ∨ ∀ x : D, put (ρ.set i (.lo x)) j (.im e) = .ok ((ρ.set j (.im e)).set i (.lo x)) := by
      cases q : ρ[j]? with
      | none => exact .inl fun x => by unfold put; rw [gj, q]
      | some y =>
        cases y with
        | pa _ => exact .inl fun x => by unfold put; rw [gj, q]
        | no => exact .inr fun x => by unfold put; rw [gj, q, List.set_comm _ _ hij]
        | im _ => exact .inr fun x => by unfold put; rw [gj, q, List.set_comm _ _ hij]
        | lo _ => exact .inr fun x => by unfold put; rw [gj, q, List.set_comm _ _ hij]
    rcases pj with pj | pj
    · rw [pj, pj]
      exact ⟨rfl, fun _ _ h => nomatch h⟩
    · rw [pj, pj]
      have lt' : i < (ρ.set j (.im e)).length := by rw [List.length_set]; exact lt
      have hb := hg (ρ.set j (.im e)) d d0 lt'
      show ((g ((ρ.set j (.im e)).set i (.lo d))).bind _) = (((g ((ρ.set j (.im e)).set i (.lo d0))).bind _)).mapE _ ∧ _
      rw [hb.1]
      cases u : g ((ρ.set j (.im e)).set i (.lo d0)) with
      | no => exact ⟨rfl, fun _ _ h => by replace h : ((g ((ρ.set j (.im e)).set i (.lo d0))).bind _) = _ := h; rw [u] at h; exact nomatch h⟩
      | ex _ _ => exact ⟨rfl, fun _ _ h => by replace h : ((g ((ρ.set j (.im e)).set i (.lo d0))).bind _) = _ := h; rw [u] at h; exact nomatch h⟩
      | ok p =>
        obtain ⟨ρ', fl⟩ := p
        have hi := hb.2 _ _ u
        have e0 : ρ'.set i (.lo d0) = ρ' := by
          apply List.ext_getElem?
          intro k
          by_cases hk : k = i
          · subst hk
            rw [List.getElem?_set_self (List.getElem?_eq_some_iff.mp hi).1, hi]
          · rw [List.getElem?_set_ne (Ne.symm hk)]
        have rest := ih ρ' d d0 (List.getElem?_eq_some_iff.mp hi).1
        rw [e0] at rest
        cases fl with
        | nx => exact ⟨rest.1, fun _ _ h => by replace h : ((g ((ρ.set j (.im e)).set i (.lo d0))).bind _) = _ := h; rw [u] at h; exact rest.2 _ _ h⟩
        | ct => exact ⟨rest.1, fun _ _ h => by replace h : ((g ((ρ.set j (.im e)).set i (.lo d0))).bind _) = _ := h; rw [u] at h; exact rest.2 _ _ h⟩
        | bk => exact ⟨rfl, fun _ _ h => by replace h : ((g ((ρ.set j (.im e)).set i (.lo d0))).bind _) = _ := h; rw [u] at h; cases h; exact hi⟩
        | rt r => exact ⟨rfl, fun _ _ h => by replace h : ((g ((ρ.set j (.im e)).set i (.lo d0))).bind _) = _ := h; rw [u] at h; cases h; exact hi⟩
theorem gSeqW_assoc {vs : List Nat} (a b c : Env → Rz (Env × Fl)) : gSeq a (gSeqW vs b c) = gSeqW vs (gSeq a b) c := by
  funext ρ
  show ((a ρ).bind fun p => match p.2 with
    | .nx => gSeqW vs b c p.1
    | fl => .ok (p.1, fl)) = (((a ρ).bind fun p => match p.2 with
      | .nx => b p.1
      | fl => .ok (p.1, fl)).bind fun p => match p.2 with
        | .nx => c (wipeE p.1 vs)
        | fl => .ok (p.1, fl))
  cases u : a ρ with
  | no => rfl
  | ex _ _ => rfl
  | ok p =>
    obtain ⟨ρ', fl⟩ := p
    cases fl <;> rfl
theorem wipeE_set {i : Nat} {x : Sl} : ∀ {vs : List Nat} {ρ : Env}, i ∉ vs → wipeE (ρ.set i x) vs = (wipeE ρ vs).set i x
  | [], _, _ => rfl
  | v :: vs, ρ, h => by
    have h' : i ≠ v ∧ i ∉ vs := by simpa using h
    show (wipeE (ρ.set i x) vs).set v .no = ((wipeE ρ vs).set v .no).set i x
    rw [wipeE_set h'.2, List.set_comm _ _ h'.1]
/-- a block that runs beside a container, then slots forgotten -/
theorem blk_step {i : Nat} {vs : List Nat} {f rest : Env → Rz (Env × Fl)} {E E' : Env} (p : D) (hP : Par i f) (h : (f (E.set i (.lo .non))).mapE (wipeE · vs) = .ok (E', .nx)) (hi : i < E.length := by decide) (hv : i ∉ vs := by decide) : gSeqW vs f rest (E.set i (.lo p)) = rest (E'.set i (.lo p)) := by
  cases u : f (E.set i (.lo .non)) with
  | no => rw [u] at h; exact nomatch h
  | ex _ _ => rw [u] at h; exact nomatch h
  | ok q =>
    obtain ⟨ρ', fl⟩ := q
    rw [u] at h
    injection h with h
    injection h with h1 h2
    simp only at h1 h2
    subst h2
    unfold gSeqW
    rw [hP.run hi u p]
    show rest (wipeE (ρ'.set i (.lo p)) vs) = _
    rw [wipeE_set hv, h1]
/-- the last statement -/
theorem blk_end {i : Nat} {f : Env → Rz (Env × Fl)} {E : Env} {d : D} (p : D) (hP : Par i f) (h : (f (E.set i (.lo .non))).mapE (fun _ => []) = .ok ([], .rt (.im d))) (hi : i < E.length := by decide) : ∃ ρ', f (E.set i (.lo p)) = .ok (ρ', .rt (.im d)) := by
  cases u : f (E.set i (.lo .non)) with
  | no => rw [u] at h; exact nomatch h
  | ex _ _ => rw [u] at h; exact nomatch h
  | ok q =>
    obtain ⟨ρ', fl⟩ := q
    rw [u] at h
    injection h with h
    injection h with h1 h2
    simp only at h2
    subst h2
    exact ⟨_, hP.run hi u p⟩
end Fx

set_option Elab.async false
set_option linter.all false
set_option maxRecDepth 100000
set_option maxHeartbeats 4000000
namespace Fx
open PySem L2
/-! ### a law's pen, steps of calls -/
def gPenB : Env → Rz (Env × Fl) := (gRet (eLst (aCons (hH (eB dList (aCons (hH (eSl (rN 0) oNone (oSome (vC (.int 63))))) aNil))) (aCons (hC (.int 0)) (aCons (hC (.int 0)) aNil)))))
theorem penB_at (ns : List Int) : runFF 1 gPenB [.im (.nd .scr (ns.map D.int))] = .ok ([.im (.nd .scr (ns.map D.int))], .nw (penD (ns.take 63) 0 0)) := by
  refine runFF_rt (ρ' := [.im (.nd .scr (ns.map D.int))]) (r := .nw (penD (ns.take 63) 0 0)) (ret_ok ?_) rfl rfl
  have sl : eSl (rN 0) oNone (oSome (vC (.int 63))) [.im (.nd .scr (ns.map D.int))] = .ok ([.im (.nd .scr (ns.map D.int))], .nw (.nd .lst ((ns.take 63).map D.int))) :=
    sl_ok rfl rfl (som_ok rfl) rfl (by show some (Rs.nw (.nd .lst (cutA (ns.map D.int) none (some ((63 : Nat) : Int))))) = _; rw [cut_take, List.map_take])
  exact lst_ok (q := [.im (.nd .lst ((ns.take 63).map D.int)), .im (.int 0), .im (.int 0)]) (ds := [.nd .lst ((ns.take 63).map D.int), .int 0, .int 0]) (cons_ok (hH_nw (blt_ok (q := [.im (.nd .lst ((ns.take 63).map D.int))]) (ds := [.nd .lst ((ns.take 63).map D.int)]) (z := .nw (.nd .lst ((ns.take 63).map D.int))) (cons_ok (hH_nw sl) rfl) rfl rfl)) rfl) rfl (by simp)
theorem pen0 (ns : List Int) : Pen 0 (penD (ns.take 63) 0 0) := ⟨_, 0, 0, rfl, by omega, by omega, by omega⟩
/-- a call by one frozen value -/
theorem callX_at {F : Env → Rz (Env × Rs)} {a : Env → Rz (Env × Rs)} {ρ ρ1 : Env} {x : Rs} {d : D} {o : Env} {r : Rs} (ha : a ρ = .ok (ρ1, x)) (hu : use ρ1 x = .ok (ρ1, d)) (h : F [.im d] = .ok (o, r)) (hl : 1 ≤ o.length) : eCallX 1 F [some false] (aCons a aNil) ρ = .ok (ρ1, r) := by
  cases o with
  | nil => simp at hl
  | cons y o =>
    unfold eCallX
    rw [cons_ok ha (show aNil ρ1 = .ok (ρ1, []) from rfl)]
    have e : (useIm [false] ρ1 [x]) = .ok (ρ1, [.im d]) := by simp [useIm, hu]
    have m : mutIx [false] [x] = [] := by cases x <;> rfl
    simp only [Rz.ok_bind]
    show (if decide (1 = 1) = true then _ else _) = _
    rw [if_pos (decide_eq_true rfl)]
    show callBy F [false] ρ1 [x] = _
    unfold callBy
    rw [e, m]
    cases x <;> simp [fillPa, h, putBack]
/-- a pick from a list that is written out, the pen in slot i -/
theorem pickX {F : Env → Rz (Env × Rs)} (hF : Picks F) {n : Nat} {p : D} {i : Nat} {ρ : Env} {ds : List D} {as : Env → Rz (Env × Rs)} {x : Sl} (hp : Pen n p) (hn : n ≤ 1000000) (h : ρ[i]? = some x) (hx : x.ownD = some p) (ha : as ρ = .ok (ρ, .nw (.nd .lst ds))) (h1 : 1 ≤ ds.length) (h2 : ds.length ≤ 1000) :
    ∃ p' d, eCallX 2 F [some true, some false] (aCons (rN i) (aCons (hH as) aNil)) ρ = .ok (ρ.set i (x.withD p'), .im d) ∧ Pen (n + 1) p' ∧ d ∈ ds := by
  obtain ⟨p', d, e, hp', hd⟩ := hF n p ds hp hn h1 h2
  refine ⟨p', d, callX_pen2 (x0 := x) (x := x) (r2 := .im (.nd .lst ds)) (d2 := .nd .lst ds) h ?_ (cons_ok (hH_nw ha) rfl) rfl h hx e, hp', hd⟩
  cases x <;> first | (intro z; cases z; done) | (cases hx)
end Fx

set_option Elab.async false
set_option linter.all false
set_option maxRecDepth 100000
set_option maxHeartbeats 4000000
namespace Fx
open PySem L2
/-! ### sorted, by a count of steps (the kernel works it out) -/
section
variable {α : Type} (le : α → α → Bool)
def mrgF : Nat → List α → List α → List α
  | 0, xs, ys => xs ++ ys
  | n + 1, xs, ys => match xs with
    | [] => ys
    | x :: xs' => (match ys with
      | [] => x :: xs'
      | y :: ys' => (match le x y with
        | true => x :: mrgF n xs' (y :: ys')
        | false => y :: mrgF n (x :: xs') ys'))
theorem mrgF_eq : ∀ (n : Nat) (xs ys : List α), xs.length + ys.length ≤ n → mrgF le n xs ys = List.merge xs ys le
  | 0, xs, ys, h => by
    have h1 : xs = [] := List.length_eq_zero_iff.mp (by omega)
    have h2 : ys = [] := List.length_eq_zero_iff.mp (by omega)
    subst h1 h2
    simp [mrgF]
  | n + 1, [], ys, h => by simp [mrgF]
  | n + 1, x :: xs, [], h => by simp [mrgF]
  | n + 1, x :: xs, y :: ys, h => by
    simp only [List.length_cons] at h
    show (match le x y with
      | true => x :: mrgF le n xs (y :: ys)
      | false => y :: mrgF le n (x :: xs) ys) = _
    rw [List.merge.eq_def]
    simp only
    cases e : le x y with
    | true =>
      rw [mrgF_eq n xs (y :: ys) (by simp only [List.length_cons]; omega)]
      simp
    | false =>
      rw [mrgF_eq n (x :: xs) ys (by simp only [List.length_cons]; omega)]
      simp
def srtF : Nat → List α → List α
  | 0, xs => xs
  | n + 1, xs => match xs with
    | [] => []
    | [a] => [a]
    | a :: b :: xs' => mrgF le (xs'.length + 2) (srtF n ((a :: b :: xs').take ((xs'.length + 3) / 2))) (srtF n ((a :: b :: xs').drop ((xs'.length + 3) / 2)))
theorem srtF_eq : ∀ (n : Nat) (xs : List α), xs.length ≤ n → srtF le n xs = xs.mergeSort le
  | 0, xs, h => by
    have h1 : xs = [] := List.length_eq_zero_iff.mp (by omega)
    subst h1
    simp [srtF]
  | n + 1, [], h => by simp [srtF]
  | n + 1, [a], h => by simp [srtF]
  | n + 1, a :: b :: xs, h => by
    simp only [List.length_cons] at h
    show mrgF le (xs.length + 2) (srtF le n ((a :: b :: xs).take ((xs.length + 3) / 2))) (srtF le n ((a :: b :: xs).drop ((xs.length + 3) / 2))) = _
    have l1 : ((a :: b :: xs).take ((xs.length + 3) / 2)).length ≤ n := by simp only [List.length_take, List.length_cons]; omega
    have l2 : ((a :: b :: xs).drop ((xs.length + 3) / 2)).length ≤ n := by simp only [List.length_drop, List.length_cons]; omega
    rw [srtF_eq n _ l1, srtF_eq n _ l2, mrgF_eq le _ _ _ (by rw [List.length_mergeSort, List.length_mergeSort, List.length_take, List.length_drop]; simp only [List.length_cons]; omega)]
    conv => rhs; rw [List.mergeSort]
    simp only [List.MergeSort.Internal.splitInTwo_fst, List.MergeSort.Internal.splitInTwo_snd, List.length_cons]
end
def sortDQ (ds : List D) : List D := srtF (PySem.W.dataLe false D.py) ds.length ds
theorem sortDQ_eq (ds : List D) : sortDQ ds = sortD ds := srtF_eq _ _ _ (Nat.le_refl _)
def dSortedQ : List D → Option Rs
  | [.nd .lst ds] => if sortOk ds then some (.nw (.nd .lst (sortDQ ds))) else none
  | _ => none
theorem dSortedQ_eq : dSortedQ = dSorted := by
  funext l
  unfold dSortedQ dSorted
  split
  · rw [sortDQ_eq]
  · rename_i h
    first
    | rfl
    | (split
       · rename_i ds
         exact (h ds rfl).elim
       · rfl)
theorem re_sortedQ [Tb] {X : Cx} {W : WX} {e : Expr} {as : Env → Rz (Env × List Rs)} (h : RE X W e (eB dSorted as)) : RE X W e (eB dSortedQ as) := by
  rw [dSortedQ_eq]
  exact h
theorem serves_sortedQ [Tb] {M : Md} : ServesC M (rSorted M.K) dSortedQ := by
  rw [dSortedQ_eq]
  exact serves_sorted
end Fx

set_option Elab.async false
set_option linter.all false
set_option maxRecDepth 100000
set_option maxHeartbeats 4000000
namespace Fx.K03
open PySem L2
def top (i : Nat) : Stmt := PySem.Challenge.pw_asonerun_k03_greatest_plans.main.body.getD i (.Pass ⟨0, 0, 0, 0⟩)
def mth (i j : Nat) : Stmt := (clsBody (top i)).getD j (.Pass ⟨0, 0, 0, 0⟩)
abbrev k_LETTERS : D := (.str "abcdefghijklmnopqrstuvwxyz")
abbrev k_MOST_NAME : D := (.int 8)
abbrev k_SOURCE : D := (.str "source")
abbrev k_MAP : D := (.str "map")
abbrev k_STAMP : D := (.str "stamp")
abbrev k_MIX : D := (.str "mix")
abbrev k_FOLD : D := (.str "fold")
abbrev k_WINDOW : D := (.str "window")
abbrev k_ROWWISE : D := (.nd .tup [(.str "map"), (.str "stamp"), (.str "mix")])
abbrev k_SINKS : D := (.nd .tup [(.str "book"), (.str "board"), (.str "bell")])
abbrev k_PLAIN : D := (.nd .tup [(.str "map"), (.str "stamp"), (.str "mix"), (.str "fold"), (.str "book"), (.str "board"), (.str "bell")])
abbrev k_MOST_NODES : D := (.int 40)
abbrev k_MOST_EDGES : D := (.int 80)
abbrev k_MOST_TIME : D := (.int 1000)
abbrev k_MOST_SIDES : D := (.int 4)
abbrev k_MOST_FOLDS : D := (.int 2)
abbrev k_MOST_WAYS : D := (.int 16)
def tab : List (CT × CT × Bool) := [(.e "BadValue", .e "BadEdge", false), (.e "BadValue", .e "BadEvent", false), (.e "BadValue", .e "BadNode", false), (.e "BadValue", .e "BadNumber", false), (.e "BadValue", .e "BadText", false), (.e "BadValue", .e "BadValue", true), (.e "BadValue", .e "BadWord", false), (.e "BadValue", .e "Misfit", false), (.e "BadValue", .e "NoName", false), (.e "BadValue", .e "Nothing", false), (.e "BadValue", .e "TooMany", false), (.e "TooMany", .e "BadEdge", false), (.e "TooMany", .e "BadEvent", false), (.e "TooMany", .e "BadNode", false), (.e "TooMany", .e "BadNumber", false), (.e "TooMany", .e "BadText", false), (.e "TooMany", .e "BadValue", false), (.e "TooMany", .e "BadWord", false), (.e "TooMany", .e "Misfit", false), (.e "TooMany", .e "NoName", false), (.e "TooMany", .e "Nothing", false), (.e "TooMany", .e "TooMany", true), (.e "Misfit", .e "BadEdge", false), (.e "Misfit", .e "BadEvent", false), (.e "Misfit", .e "BadNode", false), (.e "Misfit", .e "BadNumber", false), (.e "Misfit", .e "BadText", false), (.e "Misfit", .e "BadValue", false), (.e "Misfit", .e "BadWord", false), (.e "Misfit", .e "Misfit", true), (.e "Misfit", .e "NoName", false), (.e "Misfit", .e "Nothing", false), (.e "Misfit", .e "TooMany", false)]
structure Mods (P : Program) (K : PySem.W.Frag) (mg : Str → Option Value) : Prop where
  c_LETTERS : GlobC K mg "LETTERS" k_LETTERS
  c_MOST_NAME : GlobC K mg "MOST_NAME" k_MOST_NAME
  c_SOURCE : GlobC K mg "SOURCE" k_SOURCE
  c_MAP : GlobC K mg "MAP" k_MAP
  c_STAMP : GlobC K mg "STAMP" k_STAMP
  c_MIX : GlobC K mg "MIX" k_MIX
  c_FOLD : GlobC K mg "FOLD" k_FOLD
  c_WINDOW : GlobC K mg "WINDOW" k_WINDOW
  c_ROWWISE : GlobC K mg "ROWWISE" k_ROWWISE
  c_SINKS : GlobC K mg "SINKS" k_SINKS
  c_PLAIN : GlobC K mg "PLAIN" k_PLAIN
  c_MOST_NODES : GlobC K mg "MOST_NODES" k_MOST_NODES
  c_MOST_EDGES : GlobC K mg "MOST_EDGES" k_MOST_EDGES
  c_MOST_TIME : GlobC K mg "MOST_TIME" k_MOST_TIME
  c_MOST_SIDES : GlobC K mg "MOST_SIDES" k_MOST_SIDES
  c_MOST_FOLDS : GlobC K mg "MOST_FOLDS" k_MOST_FOLDS
  c_MOST_WAYS : GlobC K mg "MOST_WAYS" k_MOST_WAYS
  d_is_listed : DefF K mg "is_listed" (top 6) ["value"]
  d_is_row : DefF K mg "is_row" (top 7) ["value", "least", "most"]
  d_fixed : DefF K mg "fixed" (top 23) ["value"]
  d_is_integer : DefF K mg "is_integer" (top 4) ["value"]
  d_is_within : DefF K mg "is_within" (top 5) ["value", "least", "most"]
  d_is_name : DefF K mg "is_name" (top 8) ["value"]
  d_is_node : DefF K mg "is_node" (top 43) ["value"]
  mt_Plan_is_edge : MethF K mg "Plan" "is_edge" "Plan.is_edge" (mth 44 2) ["self", "value"]
  mt_Plan_of_kinds : MethF K mg "Plan" "of_kinds" "Plan.of_kinds" (mth 44 3) ["self", "kinds"]
  mt_Plan_need_degrees : MethF K mg "Plan" "need_degrees" "Plan.need_degrees" (mth 44 4) ["self"]
  mt_Plan_need_windows : MethF K mg "Plan" "need_windows" "Plan.need_windows" (mth 44 5) ["self"]
  d_all_ways : DefF K mg "all_ways" (top 45) ["plan"]
  mk_Plan___init__ : MakeF K mg "Plan" "Plan.__init__" (mth 44 0) ["self", "nodes", "edges"]
  mt_Plan_need_name : MethF K mg "Plan" "need_name" "Plan.need_name" (mth 44 6) ["self", "name"]
  mt_Plan_settings : MethF K mg "Plan" "settings" "Plan.settings" (mth 44 8) ["self", "name"]
  mt_Plan_ways_to : MethF K mg "Plan" "ways_to" "Plan.ways_to" (mth 44 12) ["self", "name"]
  d__law_pen : DefF K mg "_law_pen" (top 47) ["script"]
  d__law_draw : DefF K mg "_law_draw" (top 48) ["pen", "many"]
  d__law_pick : DefF K mg "_law_pick" (top 49) ["pen", "some"]
  d__law_heard : DefF K mg "_law_heard" (top 50) ["ask"]
  d__law_ins : DefF K mg "_law_ins" (top 51) ["plain", "name"]
  d__law_ways : DefF K mg "_law_ways" (top 52) ["plain", "name"]
  d__law_chain : DefF K mg "_law_chain" (top 53) ["many", "kind"]
  d__law_wide : DefF K mg "_law_wide" (top 54) ["many", "more"]
  d__law_doubled : DefF K mg "_law_doubled" (top 55) ["pen", "sides"]
  d__law_memories : DefF K mg "_law_memories" (top 56) ["kinds"]
  cls : ClsN K mg "Plan" ["nodes", "names", "kinds", "edges", "sources", "inner", "sinks", "into", "out", "ways"]
  x_BadValue : XCls P K mg "BadValue" ["part"]
  x_TooMany : XCls P K mg "TooMany" ["what", "most"]
  x_Misfit : XCls P K mg "Misfit" ["part"]
  isa : IsaT K mg tab
  g_BadEdge : ∃ C, mg "BadEdge" = some (.ref C)
  g_BadEvent : ∃ C, mg "BadEvent" = some (.ref C)
  g_BadNode : ∃ C, mg "BadNode" = some (.ref C)
  g_BadNumber : ∃ C, mg "BadNumber" = some (.ref C)
  g_BadText : ∃ C, mg "BadText" = some (.ref C)
  g_BadValue : ∃ C, mg "BadValue" = some (.ref C)
  g_BadWord : ∃ C, mg "BadWord" = some (.ref C)
  g_Misfit : ∃ C, mg "Misfit" = some (.ref C)
  g_NoName : ∃ C, mg "NoName" = some (.ref C)
  g_Nothing : ∃ C, mg "Nothing" = some (.ref C)
  g_TooMany : ∃ C, mg "TooMany" = some (.ref C)
  xf_event : XfT K mg [] "event"
  xf_index : XfT K mg [] "index"
  xf_line : XfT K mg [] "line"
  xf_most : XfT K mg ["TooMany"] "most"
  xf_name : XfT K mg [] "name"
  xf_part : XfT K mg ["BadValue", "Misfit"] "part"
  xf_what : XfT K mg ["TooMany"] "what"
  xf_word : XfT K mg [] "word"
  ktch : Catch K mg "OnceError" ["BadValue", "TooMany", "Misfit"]
  b_abs : mg "abs" = none
  b_all : mg "all" = none
  b_bool : mg "bool" = none
  b_enumerate : mg "enumerate" = none
  b_int : mg "int" = none
  b_isinstance : mg "isinstance" = none
  b_len : mg "len" = none
  b_list : mg "list" = none
  b_max : mg "max" = none
  b_range : mg "range" = none
  b_repr : mg "repr" = none
  b_sorted : mg "sorted" = none
  b_str : mg "str" = none
  b_tuple : mg "tuple" = none
  b_zip : mg "zip" = none
section
variable [Tb] {P : Program} {w : World} {K : PySem.W.Frag} {mg : Str → Option Value} {base : Heap}
theorem sc_is_listed : FnScope ["value"] ["value"] (defScope (top 6)) := ⟨rfl, rfl, rfl, by decide +kernel, rfl, by decide +kernel, by decide +kernel⟩
def g_is_listed : Env → Rz (Env × Fl) := (gRet (hV (v1 (dIsa tab [.b .list, .b .tuple]) (rN 0))))
def m_is_listed : Env → Rz (Env × Rs) := runFF 1 g_is_listed
theorem d_is_listed (m : Mods P K mg) : DefdX P w K mg base 1 "is_listed" ["value"] m_is_listed := by
  have sc := sc_is_listed
  unfold m_is_listed
  rw [runFF_eq]
  refine DefdX.of (k := 0) (N := ["value"]) (body := g_is_listed) m.d_is_listed sc_is_listed rfl (by decide) fun cdv A outer f s H E hr hgd => ?_
  exact (rss_one (rs_ret (re_of (rv_isaT m.isa m.b_isinstance (rh_name 0) (.cons (clsE_b .list m.b_list) rfl (.cons (clsE_b .tuple m.b_tuple) rfl .nil))))))
theorem sc_is_row : FnScope ["value", "least", "most"] ["value", "least", "most"] (defScope (top 7)) := ⟨rfl, rfl, rfl, by decide +kernel, rfl, by decide +kernel, by decide +kernel⟩
def g_is_row : Env → Rz (Env × Fl) := (gRet (hV (vAnd (vU (eCallX 1 m_is_listed [some false] (aCons (rN 0) aNil))) (vChain dLe dLe (rN 1) (hH (eB dLen (aCons (rN 0) aNil))) (rN 2)))))
def m_is_row : Env → Rz (Env × Rs) := runFF 3 g_is_row
theorem d_is_row (m : Mods P K mg) (D_is_listed : DefdX P w K mg base 1 "is_listed" ["value"] m_is_listed) : DefdX P w K mg base 2 "is_row" ["value", "least", "most"] m_is_row := by
  have sc := sc_is_row
  unfold m_is_row
  rw [runFF_eq]
  refine DefdX.of (k := 1) (N := ["value", "least", "most"]) (body := g_is_row) m.d_is_row sc_is_row rfl (by decide) fun cdv A outer f s H E hr hgd => ?_
  exact (rss_one (rs_ret (re_of (rv_and (rv_of (re_callX [some false] D_is_listed (hr.mono (j := 1) (by decide)) hgd (takes_of rfl rfl rfl rfl) (ra_cons (rh_name 0) ra_nil))) (rv_and1 (rv_leLe (rh_name 1) (rh_re (re_callB call_len serves_len rfl m.b_len rfl (ra_cons (rh_name 0) ra_nil))) (rh_name 2)))))))
theorem sc_fixed : FnScope ["value", "part"] ["value"] (defScope (top 23)) := ⟨rfl, rfl, rfl, by decide +kernel, rfl, by decide +kernel, by decide +kernel⟩
def g_fixed (self : Env → Rz (Env × Rs)) : Env → Rz (Env × Fl) := (gSeqF (gIf (tTru (hV (v1 (dIsa tab [.b .list, .b .tuple]) (rN 0)))) (gRet (eB dTuple (aCons (hH (eLcF [1] (iSeq (vN 0)) (tgN 1) tYes (vU (eCallX 1 self [some false] (aCons (rN 1) aNil))))) aNil))) gNext)
    (gRet (rN 0)))
def m_fixed : Nat → Env → Rz (Env × Rs)
  | 0 => fun _ => .no
  | n + 1 => runFF 2 (g_fixed (m_fixed n))
theorem d_fixed (m : Mods P K mg) : ∀ n : Nat, DefdX P w K mg base (0 + n) "fixed" ["value"] (m_fixed n)
  | 0 => .zero m.d_fixed
  | n + 1 => by
    have ih := d_fixed m n
    have sc := sc_fixed
    rw [show m_fixed (n + 1) = runF 2 (g_fixed (m_fixed n)) from runFF_eq _ _]
    refine DefdX.of (k := 0 + n) (body := g_fixed (m_fixed n)) m.d_fixed sc_fixed rfl (by decide) fun cdv A outer f s H E hr hgd => ?_
    exact (rss_consF (rs_if (rt_tru (rh_rv (rv_isaT m.isa m.b_isinstance (rh_name 0) (.cons (clsE_b .list m.b_list) rfl (.cons (clsE_b .tuple m.b_tuple) rfl .nil))))) (rss_one (rs_ret (re_callT call_tuple_of serves_tuple rfl m.b_tuple rfl (ra_cons (rh_re (re_lcF (re_lc [("part", 1)] rfl sc.nd (ri_seq (rv_name 0)) (blkOk_by (N := ["value", "part"]) (sc := defScope (top 23)) (by decide +kernel)) (by decide) (fun _ _ _ _ _ => (rg_name (i := 1) sc.nd)) (fun _ _ _ _ _ => rts_nil) (fun _ _ _ _ _ => (rv_of (re_callX [some false] ih hr hgd takes0 (ra_cons (rh_name 1) ra_nil))))))) ra_nil)))) rss_nil)
    (rss_one (rs_ret (re_name 0))))
theorem sc_is_integer : FnScope ["value"] ["value"] (defScope (top 4)) := ⟨rfl, rfl, rfl, by decide +kernel, rfl, by decide +kernel, by decide +kernel⟩
def g_is_integer : Env → Rz (Env × Fl) := (gRet (hV (vAnd (v1 (dIsa tab [.b .int]) (rN 0)) (vNot (v1 (dIsa tab [.b .bool]) (rN 0))))))
def m_is_integer : Env → Rz (Env × Rs) := runFF 1 g_is_integer
theorem d_is_integer (m : Mods P K mg) : DefdX P w K mg base 1 "is_integer" ["value"] m_is_integer := by
  have sc := sc_is_integer
  unfold m_is_integer
  rw [runFF_eq]
  refine DefdX.of (k := 0) (N := ["value"]) (body := g_is_integer) m.d_is_integer sc_is_integer rfl (by decide) fun cdv A outer f s H E hr hgd => ?_
  exact (rss_one (rs_ret (re_of (rv_and (rv_isa1 m.isa m.b_isinstance (rh_name 0) (clsE_b .int m.b_int)) (rv_and1 (rv_not (rv_isa1 m.isa m.b_isinstance (rh_name 0) (clsE_b .bool m.b_bool))))))))
theorem sc_is_within : FnScope ["value", "least", "most"] ["value", "least", "most"] (defScope (top 5)) := ⟨rfl, rfl, rfl, by decide +kernel, rfl, by decide +kernel, by decide +kernel⟩
def g_is_within : Env → Rz (Env × Fl) := (gRet (hV (vAnd (vU (eCallX 1 m_is_integer [some false] (aCons (rN 0) aNil))) (vChain dLe dLe (rN 1) (rN 0) (rN 2)))))
def m_is_within : Env → Rz (Env × Rs) := runFF 3 g_is_within
theorem d_is_within (m : Mods P K mg) (D_is_integer : DefdX P w K mg base 1 "is_integer" ["value"] m_is_integer) : DefdX P w K mg base 2 "is_within" ["value", "least", "most"] m_is_within := by
  have sc := sc_is_within
  unfold m_is_within
  rw [runFF_eq]
  refine DefdX.of (k := 1) (N := ["value", "least", "most"]) (body := g_is_within) m.d_is_within sc_is_within rfl (by decide) fun cdv A outer f s H E hr hgd => ?_
  exact (rss_one (rs_ret (re_of (rv_and (rv_of (re_callX [some false] D_is_integer (hr.mono (j := 1) (by decide)) hgd (takes_of rfl rfl rfl rfl) (ra_cons (rh_name 0) ra_nil))) (rv_and1 (rv_leLe (rh_name 1) (rh_name 0) (rh_name 2)))))))
theorem sc_is_name : FnScope ["value", "sign"] ["value"] (defScope (top 8)) := ⟨rfl, rfl, rfl, by decide +kernel, rfl, by decide +kernel, by decide +kernel⟩
def g_is_name : Env → Rz (Env × Fl) := (gRet (hV (vAnd (v1 (dIsa tab [.b .str]) (rN 0)) (vAnd (vChain dLe dLe (hC (.int 1)) (hH (eB dLen (aCons (rN 0) aNil))) (hC k_MOST_NAME)) (vU (eB dAll (aCons (hH (eLcF [1] (iSeqS (vN 0)) (tgN 1) tYes (v2 (dB (dInAQ false)) (rN 1) (hC k_LETTERS)))) aNil)))))))
def m_is_name : Env → Rz (Env × Rs) := runFF 2 g_is_name
theorem d_is_name (m : Mods P K mg) : DefdX P w K mg base 1 "is_name" ["value"] m_is_name := by
  have sc := sc_is_name
  unfold m_is_name
  rw [runFF_eq]
  refine DefdX.of (k := 0) (N := ["value", "sign"]) (body := g_is_name) m.d_is_name sc_is_name rfl (by decide) fun cdv A outer f s H E hr hgd => ?_
  exact (rss_one (rs_ret (re_of (rv_and (rv_isa1 m.isa m.b_isinstance (rh_name 0) (clsE_b .str m.b_str)) (rv_and (rv_leLe (rh_c rv_int) (rh_re (re_callB call_len serves_len rfl m.b_len rfl (ra_cons (rh_name 0) ra_nil))) (rh_c (rv_globC m.c_MOST_NAME))) (rv_and1 (rv_of (re_callB (cr_all rfl) serves_all rfl m.b_all rfl (ra_cons (rh_re (re_lcF (re_lc [("sign", 1)] rfl sc.nd (ri_str (rv_name 0)) (blkOk_by (N := ["value", "sign"]) (sc := defScope (top 8)) (by decide +kernel)) (by decide) (fun _ _ _ _ _ => (rg_name (i := 1) sc.nd)) (fun _ _ _ _ _ => rts_nil) (fun _ _ _ _ _ => (rv_inAQ hr.u65 (rh_name 1) (rh_c (rv_globC m.c_LETTERS))))))) ra_nil)))))))))
theorem sc_is_node : FnScope ["value"] ["value"] (defScope (top 43)) := ⟨rfl, rfl, rfl, by decide +kernel, rfl, by decide +kernel, by decide +kernel⟩
def g_is_node : Env → Rz (Env × Fl) := (gSeqF (gIf (tOr (tNot (tTru (hH (eCallX 3 m_is_row [some false, some false, some false] (aCons (rN 0) (aCons (hC (.int 2)) (aCons (hC (.int 4)) aNil))))))) (tOr (tNot (tTru (hH (eCallX 1 m_is_name [some false] (aCons (hV (v2 dIxAQ (rN 0) (hC (.int 0)))) aNil))))) (tNot (tTru (hV (v1 (dIsa tab [.b .str]) (hV (v2 dIxAQ (rN 0) (hC (.int 1)))))))))) (gRet (hV (vC (.bl false)))) gNext)
    (gSeqF (gIf (t2 dEqQ (hV (v2 dIxAQ (rN 0) (hC (.int 1)))) (hC k_SOURCE)) (gRet (hV (vAnd (v2 (dB dEqQ) (hH (eB dLen (aCons (rN 0) aNil))) (hC (.int 3))) (vU (eCallX 3 m_is_within [some false, some false, some false] (aCons (hV (v2 dIxAQ (rN 0) (hC (.int 2)))) (aCons (hC (.int 0)) (aCons (hC k_MOST_TIME) aNil)))))))) gNext)
    (gSeqF (gIf (t2 dEqQ (hV (v2 dIxAQ (rN 0) (hC (.int 1)))) (hC k_WINDOW)) (gRet (hV (vAnd (v2 (dB dEqQ) (hH (eB dLen (aCons (rN 0) aNil))) (hC (.int 4))) (vAnd (vU (eCallX 3 m_is_within [some false, some false, some false] (aCons (hV (v2 dIxAQ (rN 0) (hC (.int 2)))) (aCons (hC (.int 1)) (aCons (hC k_MOST_TIME) aNil))))) (vU (eCallX 3 m_is_within [some false, some false, some false] (aCons (hV (v2 dIxAQ (rN 0) (hC (.int 3)))) (aCons (hC (.int 0)) (aCons (hC k_MOST_TIME) aNil))))))))) gNext)
    (gRet (hV (vAnd (v2 (dB dEqQ) (hH (eB dLen (aCons (rN 0) aNil))) (hC (.int 2))) (v2 (dB (dInAQ false)) (hV (v2 dIxAQ (rN 0) (hC (.int 1)))) (hC k_PLAIN))))))))
def m_is_node : Env → Rz (Env × Rs) := runFF 1 g_is_node
theorem d_is_node (m : Mods P K mg) (D_is_row : DefdX P w K mg base 2 "is_row" ["value", "least", "most"] m_is_row) (D_is_within : DefdX P w K mg base 2 "is_within" ["value", "least", "most"] m_is_within) (D_is_name : DefdX P w K mg base 1 "is_name" ["value"] m_is_name) : DefdX P w K mg base 3 "is_node" ["value"] m_is_node := by
  have sc := sc_is_node
  unfold m_is_node
  rw [runFF_eq]
  refine DefdX.of (k := 2) (N := ["value"]) (body := g_is_node) m.d_is_node sc_is_node rfl (by decide) fun cdv A outer f s H E hr hgd => ?_
  exact (rss_consF (rs_if (rt_w (rw_or (rt_not (rt_tru (rh_re (re_callX [some false, some false, some false] D_is_row (hr.mono (j := 2) (by decide)) hgd (takes_of rfl rfl rfl rfl) (ra_cons (rh_name 0) (ra_cons (rh_c rv_int) (ra_cons (rh_c rv_int) ra_nil))))))) (rw_or (rt_not (rt_tru (rh_re (re_callX [some false] D_is_name (hr.mono (j := 1) (by decide)) hgd (takes_of rfl rfl rfl rfl) (ra_cons (rh_rv (rv_ixAQ hr.u64 (rh_name 0) (rh_c rv_int))) ra_nil))))) (rw_or1 (rt_not (rt_tru (rh_rv (rv_isa1 m.isa m.b_isinstance (rh_rv (rv_ixAQ hr.u64 (rh_name 0) (rh_c rv_int))) (clsE_b .str m.b_str))))))))) (rss_one (rs_ret (re_of rv_bl))) rss_nil)
    (rss_consF (rs_if (rt_eqQ hr.u64 (rh_rv (rv_ixAQ hr.u64 (rh_name 0) (rh_c rv_int))) (rh_c (rv_globC m.c_SOURCE))) (rss_one (rs_ret (re_of (rv_and (rv_eqQ hr.u64 (rh_re (re_callB call_len serves_len rfl m.b_len rfl (ra_cons (rh_name 0) ra_nil))) (rh_c rv_int)) (rv_and1 (rv_of (re_callX [some false, some false, some false] D_is_within (hr.mono (j := 2) (by decide)) hgd (takes_of rfl rfl rfl rfl) (ra_cons (rh_rv (rv_ixAQ hr.u64 (rh_name 0) (rh_c rv_int))) (ra_cons (rh_c rv_int) (ra_cons (rh_c (rv_globC m.c_MOST_TIME)) ra_nil)))))))))) rss_nil)
    (rss_consF (rs_if (rt_eqQ hr.u64 (rh_rv (rv_ixAQ hr.u64 (rh_name 0) (rh_c rv_int))) (rh_c (rv_globC m.c_WINDOW))) (rss_one (rs_ret (re_of (rv_and (rv_eqQ hr.u64 (rh_re (re_callB call_len serves_len rfl m.b_len rfl (ra_cons (rh_name 0) ra_nil))) (rh_c rv_int)) (rv_and (rv_of (re_callX [some false, some false, some false] D_is_within (hr.mono (j := 2) (by decide)) hgd (takes_of rfl rfl rfl rfl) (ra_cons (rh_rv (rv_ixAQ hr.u64 (rh_name 0) (rh_c rv_int))) (ra_cons (rh_c rv_int) (ra_cons (rh_c (rv_globC m.c_MOST_TIME)) ra_nil))))) (rv_and1 (rv_of (re_callX [some false, some false, some false] D_is_within (hr.mono (j := 2) (by decide)) hgd (takes_of rfl rfl rfl rfl) (ra_cons (rh_rv (rv_ixAQ hr.u64 (rh_name 0) (rh_c rv_int))) (ra_cons (rh_c rv_int) (ra_cons (rh_c (rv_globC m.c_MOST_TIME)) ra_nil))))))))))) rss_nil)
    (rss_one (rs_ret (re_of (rv_and (rv_eqQ hr.u64 (rh_re (re_callB call_len serves_len rfl m.b_len rfl (ra_cons (rh_name 0) ra_nil))) (rh_c rv_int)) (rv_and1 (rv_inAQ hr.u65 (rh_rv (rv_ixAQ hr.u64 (rh_name 0) (rh_c rv_int))) (rh_c (rv_globC m.c_PLAIN)))))))))))
theorem sc_Plan_is_edge : FnScope ["self", "value", "name"] ["self", "value"] (defScope (mth 44 2)) := ⟨rfl, rfl, rfl, by decide +kernel, rfl, by decide +kernel, by decide +kernel⟩
def g_Plan_is_edge : Env → Rz (Env × Fl) := (gSeqF (gIf (tOr (tNot (tTru (hH (eCallX 3 m_is_row [some false, some false, some false] (aCons (rN 1) (aCons (hC (.int 2)) (aCons (hC (.int 2)) aNil))))))) (tNot (tTru (hH (eB dAll (aCons (hH (eLcF [2] (iSeq (vN 1)) (tgN 2) tYes (vAnd (v1 (dIsa tab [.b .str]) (rN 2)) (v2 (dB (dInAQ false)) (rN 2) (hV (v1 (dFldQ "Plan" "names") (rN 0))))))) aNil)))))) (gRet (hV (vC (.bl false)))) gNext)
    (gSeqF (gIf (tOr (t2 (dInAQ false) (hV (v2 dIxAQ (hV (v1 (dFldQ "Plan" "kinds") (rN 0))) (hV (v2 dIxAQ (rN 1) (hC (.int 0)))))) (hC k_SINKS)) (t2 dEqQ (hV (v2 dIxAQ (hV (v1 (dFldQ "Plan" "kinds") (rN 0))) (hV (v2 dIxAQ (rN 1) (hC (.int 1)))))) (hC k_SOURCE))) (gRet (hV (vC (.bl false)))) gNext)
    (gRet (hV (v2 (dB dLt) (hV (vMth isTupN dTupIndex (hV (v1 (dFldRQ "Plan" "names") (rN 0))) (aCons (hV (v2 dIxAQ (rN 1) (hC (.int 0)))) aNil))) (hV (vMth isTupN dTupIndex (hV (v1 (dFldRQ "Plan" "names") (rN 0))) (aCons (hV (v2 dIxAQ (rN 1) (hC (.int 1)))) aNil))))))))
def m_Plan_is_edge : Env → Rz (Env × Rs) := runFF 3 g_Plan_is_edge
theorem d_Plan_is_edge (m : Mods P K mg) (D_is_row : DefdX P w K mg base 2 "is_row" ["value", "least", "most"] m_is_row) : MethX P w K mg base 3 "Plan" "is_edge" ["self", "value"] m_Plan_is_edge := by
  have sc := sc_Plan_is_edge
  unfold m_Plan_is_edge
  rw [runFF_eq]
  refine MethX.of (k := 2) (N := ["self", "value", "name"]) (body := g_Plan_is_edge) m.mt_Plan_is_edge sc_Plan_is_edge rfl (by decide) fun cdv A outer f s H E hr hgd => ?_
  exact (rss_consF (rs_if (rt_w (rw_or (rt_not (rt_tru (rh_re (re_callX [some false, some false, some false] D_is_row (hr.mono (j := 2) (by decide)) hgd (takes_of rfl rfl rfl rfl) (ra_cons (rh_name 1) (ra_cons (rh_c rv_int) (ra_cons (rh_c rv_int) ra_nil))))))) (rw_or1 (rt_not (rt_tru (rh_re (re_callB (cr_all rfl) serves_all rfl m.b_all rfl (ra_cons (rh_re (re_lcF (re_lc [("name", 2)] rfl sc.nd (ri_seq (rv_name 1)) (blkOk_by (N := ["self", "value", "name"]) (sc := defScope (mth 44 2)) (by decide +kernel)) (by decide) (fun _ _ _ _ _ => (rg_name (i := 2) sc.nd)) (fun _ _ _ _ _ => rts_nil) (fun _ _ _ _ _ => (rv_and (rv_isa1 m.isa m.b_isinstance (rh_name 2) (clsE_b .str m.b_str)) (rv_and1 (rv_inAQ hr.u65 (rh_name 2) (rh_rv (rv_fldQ m.cls (rh_name 0)))))))))) ra_nil)))))))) (rss_one (rs_ret (re_of rv_bl))) rss_nil)
    (rss_consF (rs_if (rt_w (rw_or (rt_inAQ hr.u65 (rh_rv (rv_ixAQ hr.u64 (rh_rv (rv_fldQ m.cls (rh_name 0))) (rh_rv (rv_ixAQ hr.u64 (rh_name 1) (rh_c rv_int))))) (rh_c (rv_globC m.c_SINKS))) (rw_or1 (rt_eqQ hr.u64 (rh_rv (rv_ixAQ hr.u64 (rh_rv (rv_fldQ m.cls (rh_name 0))) (rh_rv (rv_ixAQ hr.u64 (rh_name 1) (rh_c rv_int))))) (rh_c (rv_globC m.c_SOURCE)))))) (rss_one (rs_ret (re_of rv_bl))) rss_nil)
    (rss_one (rs_ret (re_of (rv_lt (rh_rv (rv_tupIndex (rh_rv (rv_fldRQ m.cls (rh_name 0))) (ra_cons (rh_rv (rv_ixAQ hr.u64 (rh_name 1) (rh_c rv_int))) ra_nil))) (rh_rv (rv_tupIndex (rh_rv (rv_fldRQ m.cls (rh_name 0))) (ra_cons (rh_rv (rv_ixAQ hr.u64 (rh_name 1) (rh_c rv_int))) ra_nil)))))))))
theorem sc_Plan_of_kinds : FnScope ["self", "kinds", "name"] ["self", "kinds"] (defScope (mth 44 3)) := ⟨rfl, rfl, rfl, by decide +kernel, rfl, by decide +kernel, by decide +kernel⟩
def g_Plan_of_kinds : Env → Rz (Env × Fl) := (gRet (eB dTuple (aCons (hH (eLcF [2] (iSeq (v1 (dFldQ "Plan" "names") (rN 0))) (tgN 2) (t2 (dInAQ false) (hV (v2 dIxAQ (hV (v1 (dFldQ "Plan" "kinds") (rN 0))) (rN 2))) (rN 1)) (vN 2))) aNil)))
def m_Plan_of_kinds : Env → Rz (Env × Rs) := runFF 3 g_Plan_of_kinds
theorem d_Plan_of_kinds (m : Mods P K mg) : MethX P w K mg base 1 "Plan" "of_kinds" ["self", "kinds"] m_Plan_of_kinds := by
  have sc := sc_Plan_of_kinds
  unfold m_Plan_of_kinds
  rw [runFF_eq]
  refine MethX.of (k := 0) (N := ["self", "kinds", "name"]) (body := g_Plan_of_kinds) m.mt_Plan_of_kinds sc_Plan_of_kinds rfl (by decide) fun cdv A outer f s H E hr hgd => ?_
  exact (rss_one (rs_ret (re_callT call_tuple_of serves_tuple rfl m.b_tuple rfl (ra_cons (rh_re (re_lcF (re_lc [("name", 2)] rfl sc.nd (ri_seq (rv_fldQ m.cls (rh_name 0))) (blkOk_by (N := ["self", "kinds", "name"]) (sc := defScope (mth 44 3)) (by decide +kernel)) (by decide) (fun _ _ _ _ _ => (rg_name (i := 2) sc.nd)) (fun _ _ _ _ _ => (rts_one (rt_inAQ hr.u65 (rh_rv (rv_ixAQ hr.u64 (rh_rv (rv_fldQ m.cls (rh_name 0))) (rh_name 2))) (rh_name 1)))) (fun _ _ _ _ _ => (rv_name 2))))) ra_nil))))
theorem sc_Plan_need_degrees : FnScope ["self", "name", "many", "least", "most"] ["self"] (defScope (mth 44 4)) := ⟨rfl, rfl, rfl, by decide +kernel, rfl, by decide +kernel, by decide +kernel⟩
def g_Plan_need_degrees : Env → Rz (Env × Fl) := (gSeqF (gFor (iSeq (v1 (dFldQ "Plan" "names") (rN 0))) (tgN 1) (gSeqF (gPar [2, 3, 4] (qCons (eB dLen (aCons (hV (v2 dIxAQ (hV (v1 (dFldQ "Plan" "into") (rN 0))) (rN 1))) aNil)) (qCons (hV (vC (.int 1))) (qCons (hV (vC (.int 1))) aNil))))
    (gSeqF (gIf (t2 dEqQ (hV (v2 dIxAQ (hV (v1 (dFldQ "Plan" "kinds") (rN 0))) (rN 1))) (hC k_SOURCE)) (gAsg (tgT [(tgN 3), (tgN 4)]) (vTup (aCons (hC (.int 0)) (aCons (hC (.int 0)) aNil)))) (gIf (t2 dEqQ (hV (v2 dIxAQ (hV (v1 (dFldQ "Plan" "kinds") (rN 0))) (rN 1))) (hC k_MIX)) (gPar [3, 4] (qCons (hV (vC (.int 2))) (qCons (hV (vC k_MOST_SIDES)) aNil))) gNext))
    (gIf (tNot (tV (vChain dLe dLe (rN 3) (rN 2) (rN 4)))) (gRaise "Misfit" ["part"] (aCons (hC (.str "ins")) aNil)) gNext))))
    (gIf (tNot (tTru (hH (eB dAll (aCons (hH (eLcF [1] (iSeq (v1 (dFldQ "Plan" "names") (rN 0))) (tgN 1) (t2 (dInAQ true) (rN 1) (hV (v1 (dFldQ "Plan" "sinks") (rN 0)))) (v2 (dB dGt) (hH (eB dLen (aCons (hV (v2 dIxAQ (hV (v1 (dFldQ "Plan" "out") (rN 0))) (rN 1))) aNil))) (hC (.int 0))))) aNil))))) (gRaise "Misfit" ["part"] (aCons (hC (.str "outs")) aNil)) gNext))
def m_Plan_need_degrees : Env → Rz (Env × Rs) := runFF 5 g_Plan_need_degrees
theorem d_Plan_need_degrees (m : Mods P K mg) : MethX P w K mg base 1 "Plan" "need_degrees" ["self"] m_Plan_need_degrees := by
  have sc := sc_Plan_need_degrees
  unfold m_Plan_need_degrees
  rw [runFF_eq]
  refine MethX.of (k := 0) (N := ["self", "name", "many", "least", "most"]) (body := g_Plan_need_degrees) m.mt_Plan_need_degrees sc_Plan_need_degrees rfl (by decide) fun cdv A outer f s H E hr hgd => ?_
  exact (rss_consF (rs_for (passes_of rfl) rfl (ri_seq (rv_fldQ m.cls (rh_name 0))) (rg_name (i := 1) sc.nd) (rss_consF (rs_par3 2 3 4 rfl sc.nd (by decide) (by decide) (by decide) (rq_cons (re_callB call_len serves_len rfl m.b_len rfl (ra_cons (rh_rv (rv_ixAQ hr.u64 (rh_rv (rv_fldQ m.cls (rh_name 0))) (rh_name 1))) ra_nil)) (rq_cons (re_of rv_int) (rq_cons (re_of rv_int) rq_nil))) rfl)
    (rss_consF (rs_if (rt_eqQ hr.u64 (rh_rv (rv_ixAQ hr.u64 (rh_rv (rv_fldQ m.cls (rh_name 0))) (rh_name 1))) (rh_c (rv_globC m.c_SOURCE))) (rss_one (rs_asg (rv_tup (ra_cons (rh_c rv_int) (ra_cons (rh_c rv_int) ra_nil))) (rg_tup rfl (rgs_cons (rg_name (i := 3) sc.nd) (rgs_cons (rg_name (i := 4) sc.nd) rgs_nil))))) (rss_one (rs_if (rt_eqQ hr.u64 (rh_rv (rv_ixAQ hr.u64 (rh_rv (rv_fldQ m.cls (rh_name 0))) (rh_name 1))) (rh_c (rv_globC m.c_MIX))) (rss_one (rs_par 3 4 rfl sc.nd (by decide) (rq_cons (re_of rv_int) (rq_cons (re_of (rv_globC m.c_MOST_SIDES)) rq_nil)) rfl)) rss_nil)))
    (rss_one (rs_if (rt_not (rt_leLe (rh_name 3) (rh_name 2) (rh_name 4))) (rss_one (rs_raise m.x_Misfit hr (takes_of rfl rfl rfl rfl) (ra_cons (rh_c rv_str) ra_nil))) rss_nil)))))
    (rss_one (rs_if (rt_not (rt_tru (rh_re (re_callB (cr_all rfl) serves_all rfl m.b_all rfl (ra_cons (rh_re (re_lcF (re_lc [("name", 1)] rfl sc.nd (ri_seq (rv_fldQ m.cls (rh_name 0))) (blkOk_by (N := ["self", "name", "many", "least", "most"]) (sc := defScope (mth 44 4)) (by decide +kernel)) (by decide) (fun _ _ _ _ _ => (rg_name (i := 1) sc.nd)) (fun _ _ _ _ _ => (rts_one (rt_notinAQ hr.u65 (rh_name 1) (rh_rv (rv_fldQ m.cls (rh_name 0)))))) (fun _ _ _ _ _ => (rv_gt (rh_re (re_callB call_len serves_len rfl m.b_len rfl (ra_cons (rh_rv (rv_ixAQ hr.u64 (rh_rv (rv_fldQ m.cls (rh_name 0))) (rh_name 1))) ra_nil))) (rh_c rv_int)))))) ra_nil))))) (rss_one (rs_raise m.x_Misfit hr (takes_of rfl rfl rfl rfl) (ra_cons (rh_c rv_str) ra_nil))) rss_nil)))
theorem sc_Plan_need_windows : FnScope ["self", "many", "name", "most", "at"] ["self"] (defScope (mth 44 5)) := ⟨rfl, rfl, rfl, by decide +kernel, rfl, by decide +kernel, by decide +kernel⟩
def g_Plan_need_windows : Env → Rz (Env × Fl) := (gSeqF (gSet 1 eDk)
    (gSeqF (gFor (iSeq (v1 (dFldQ "Plan" "names") (rN 0))) (tgN 2) (gSeqF (gSet 3 (eB dMax (aCons (hH (eLst (aCons (hC (.int 0)) (aStar (hH (eLcF [4] (iSeq (v2 dIxAQ (hV (v1 (dFldQ "Plan" "into") (rN 0))) (rN 2))) (tgN 4) tYes (v2 dIxAQ (rN 1) (hV (v2 dIxAQ (hV (v2 dIxAQ (hV (v1 (dFldQ "Plan" "edges") (rN 0))) (rN 4))) (hC (.int 0))))))) aNil)))) aNil)))
    (gSeqF (gIf (tAnd (t2 dEqQ (hV (v2 dIxAQ (hV (v1 (dFldQ "Plan" "kinds") (rN 0))) (rN 2))) (hC k_WINDOW)) (t2 dGt (rN 3) (hC (.int 0)))) (gRaise "Misfit" ["part"] (aCons (hC (.str "windows")) aNil)) gNext)
    (gSubA 1 (rN 2) (vU (e2 dAdd (rN 3) (hH (eB dInt (aCons (hV (v2 (dB (dInAQ false)) (hV (v2 dIxAQ (hV (v1 (dFldQ "Plan" "kinds") (rN 0))) (rN 2))) (hV (vTup (aCons (hC k_FOLD) (aCons (hC k_WINDOW) aNil)))))) aNil)))))))))
    (gIf (t2 dGt (hV (v1 dMaxVals (rN 1))) (hC k_MOST_FOLDS)) (gRaise "TooMany" ["what", "most"] (aCons (hC (.str "folds")) (aCons (hC k_MOST_FOLDS) aNil))) gNext)))
def m_Plan_need_windows : Env → Rz (Env × Rs) := runFF 5 g_Plan_need_windows
theorem d_Plan_need_windows (m : Mods P K mg) : MethX P w K mg base 1 "Plan" "need_windows" ["self"] m_Plan_need_windows := by
  have sc := sc_Plan_need_windows
  unfold m_Plan_need_windows
  rw [runFF_eq]
  refine MethX.of (k := 0) (N := ["self", "many", "name", "most", "at"]) (body := g_Plan_need_windows) m.mt_Plan_need_windows sc_Plan_need_windows rfl (by decide) fun cdv A outer f s H E hr hgd => ?_
  exact (rss_consF (rs_set (i := 1) sc.nd re_dk)
    (rss_consF (rs_for (passes_of rfl) rfl (ri_seq (rv_fldQ m.cls (rh_name 0))) (rg_name (i := 2) sc.nd) (rss_consF (rs_set (i := 3) sc.nd (re_callB (cr_max rfl) serves_max rfl m.b_max rfl (ra_cons (rh_re (re_lst (ra_cons (rh_c rv_int) (ra_star (rh_re (re_lcF (re_lc [("at", 4)] rfl sc.nd (ri_seq (rv_ixAQ hr.u64 (rh_rv (rv_fldQ m.cls (rh_name 0))) (rh_name 2))) (blkOk_by (N := ["self", "many", "name", "most", "at"]) (sc := defScope (mth 44 5)) (by decide +kernel)) (by decide) (fun _ _ _ _ _ => (rg_name (i := 4) sc.nd)) (fun _ _ _ _ _ => rts_nil) (fun _ _ _ _ _ => (rv_ixAQ hr.u64 (rh_name 1) (rh_rv (rv_ixAQ hr.u64 (rh_rv (rv_ixAQ hr.u64 (rh_rv (rv_fldQ m.cls (rh_name 0))) (rh_name 4))) (rh_c rv_int)))))))) ra_nil)))) ra_nil)))
    (rss_consF (rs_if (rt_w (rw_and (rt_eqQ hr.u64 (rh_rv (rv_ixAQ hr.u64 (rh_rv (rv_fldQ m.cls (rh_name 0))) (rh_name 2))) (rh_c (rv_globC m.c_WINDOW))) (rw_and1 (rt_gt (rh_name 3) (rh_c rv_int))))) (rss_one (rs_raise m.x_Misfit hr (takes_of rfl rfl rfl rfl) (ra_cons (rh_c rv_str) ra_nil))) rss_nil)
    (rss_one (rs_subA 1 hr.u64 (rv_of (re_add (rh_name 3) (rh_re (re_callT call_int1 serves_int rfl m.b_int rfl (ra_cons (rh_rv (rv_inAQ hr.u65 (rh_rv (rv_ixAQ hr.u64 (rh_rv (rv_fldQ m.cls (rh_name 0))) (rh_name 2))) (rh_rv (rv_tup (ra_cons (rh_c (rv_globC m.c_FOLD)) (ra_cons (rh_c (rv_globC m.c_WINDOW)) ra_nil)))))) ra_nil))))) (rh_name 2))))))
    (rss_one (rs_if (rt_gt (rh_rv (rv_maxVals m.b_max (rh_name 1))) (rh_c (rv_globC m.c_MOST_FOLDS))) (rss_one (rs_raise m.x_TooMany hr (takes_of rfl rfl rfl rfl) (ra_cons (rh_c rv_str) (ra_cons (rh_c (rv_globC m.c_MOST_FOLDS)) ra_nil)))) rss_nil))))
theorem sc_all_ways : FnScope ["plan", "into", "out", "name", "found", "side", "at", "more", "origin", "sides"] ["plan"] (defScope (top 45)) := ⟨rfl, rfl, rfl, by decide +kernel, rfl, by decide +kernel, by decide +kernel⟩
def g_all_ways : Env → Rz (Env × Fl) := (gSeqF (gPar [1, 2] (qCons eDk (qCons eDk aNil)))
    (gSeqF (gFor (iSeq (v1 (dFldQ "Plan" "names") (rN 0))) (tgN 3) (gSeqF (gSet 4 (eLst aNil))
    (gSeqF (gFor (iEnu (v2 dIxAQ (hV (v1 (dFldQ "Plan" "into") (rN 0))) (rN 3))) (tgT [(tgN 5), (tgN 6)]) (gSeqF (gSet 7 (hV (vIf (t2 dEqQ (hV (v2 dIxAQ (hV (v1 (dFldQ "Plan" "kinds") (rN 0))) (rN 3))) (hC k_MIX)) (vTup (aCons (hV (vTup (aCons (rN 3) (aCons (rN 5) aNil)))) aNil)) (vTup aNil))))
    (gExpr (eMth 4 mExtend (aCons (hH (eLcF [8, 9] (iSeq (v2 dIxAQ (rN 2) (hV (v2 dIxAQ (hV (v2 dIxAQ (hV (v1 (dFldQ "Plan" "edges") (rN 0))) (rN 6))) (hC (.int 0)))))) (tgT [(tgN 8), (tgN 9)]) tYes (vTup (aCons (rN 8) (aCons (hV (vTup (aStar (rN 9) (aStar (rN 7) aNil)))) aNil))))) aNil)))))
    (gSeqF (gIf (t2 dGt (hH (eB dLen (aCons (rN 4) aNil))) (hC k_MOST_WAYS)) (gRaise "TooMany" ["what", "most"] (aCons (hC (.str "ways")) (aCons (hC k_MOST_WAYS) aNil))) gNext)
    (gSeqF (gSubA 1 (rN 3) (vU (eB dTuple (aCons (hH (eB dSortedQ (aCons (rN 4) aNil))) aNil))))
    (gSubA 2 (rN 3) (vIf (t2 (dInAQ false) (hV (v2 dIxAQ (hV (v1 (dFldQ "Plan" "kinds") (rN 0))) (rN 3))) (hC k_ROWWISE)) (vN 4) (vU (eLst (aCons (hV (vTup (aCons (rN 3) (aCons (hV (vTup aNil)) aNil)))) aNil))))))))))
    (gRet (rN 1))))
def m_all_ways : Env → Rz (Env × Rs) := runFF 10 g_all_ways
theorem d_all_ways (m : Mods P K mg) : DefdX P w K mg base 1 "all_ways" ["plan"] m_all_ways := by
  have sc := sc_all_ways
  unfold m_all_ways
  rw [runFF_eq]
  refine DefdX.of (k := 0) (N := ["plan", "into", "out", "name", "found", "side", "at", "more", "origin", "sides"]) (body := g_all_ways) m.d_all_ways sc_all_ways rfl (by decide) fun cdv A outer f s H E hr hgd => ?_
  exact (rss_consF (rs_par 1 2 rfl sc.nd (by decide) (rq_cons re_dk (rq_cons re_dk rq_nil)) rfl)
    (rss_consF (rs_for (passes_of rfl) rfl (ri_seq (rv_fldQ m.cls (rh_name 0))) (rg_name (i := 3) sc.nd) (rss_consF (rs_set (i := 4) sc.nd (re_lst ra_nil))
    (rss_consF (rs_for (passes_of rfl) rfl (ri_enum (rv_ixAQ hr.u64 (rh_rv (rv_fldQ m.cls (rh_name 0))) (rh_name 3)) m.b_enumerate) (rg_tup rfl (rgs_cons (rg_name (i := 5) sc.nd) (rgs_cons (rg_name (i := 6) sc.nd) rgs_nil))) (rss_consF (rs_set (i := 7) sc.nd (re_of (rv_if (rt_eqQ hr.u64 (rh_rv (rv_ixAQ hr.u64 (rh_rv (rv_fldQ m.cls (rh_name 0))) (rh_name 3))) (rh_c (rv_globC m.c_MIX))) (rv_tup (ra_cons (rh_rv (rv_tup (ra_cons (rh_name 3) (ra_cons (rh_name 5) ra_nil)))) ra_nil)) (rv_tup ra_nil))))
    (rss_one (rs_expr (re_mth (i := 4) PySem.F.slot_list_extend rfl mt_extend serves_extend (ra_cons (rh_re (re_lcF (re_lc [("origin", 8), ("sides", 9)] rfl sc.nd (ri_seq (rv_ixAQ hr.u64 (rh_name 2) (rh_rv (rv_ixAQ hr.u64 (rh_rv (rv_ixAQ hr.u64 (rh_rv (rv_fldQ m.cls (rh_name 0))) (rh_name 6))) (rh_c rv_int))))) (blkOk_by (N := ["plan", "into", "out", "name", "found", "side", "at", "more", "origin", "sides"]) (sc := defScope (top 45)) (by decide +kernel)) (by decide) (fun _ _ _ _ _ => (rg_tup rfl (rgs_cons (rg_name (i := 8) sc.nd) (rgs_cons (rg_name (i := 9) sc.nd) rgs_nil)))) (fun _ _ _ _ _ => rts_nil) (fun _ _ _ _ _ => (rv_tup (ra_cons (rh_name 8) (ra_cons (rh_rv (rv_tup (ra_star (rh_name 9) (ra_star (rh_name 7) ra_nil)))) ra_nil))))))) ra_nil))))))
    (rss_consF (rs_if (rt_gt (rh_re (re_callB call_len serves_len rfl m.b_len rfl (ra_cons (rh_name 4) ra_nil))) (rh_c (rv_globC m.c_MOST_WAYS))) (rss_one (rs_raise m.x_TooMany hr (takes_of rfl rfl rfl rfl) (ra_cons (rh_c rv_str) (ra_cons (rh_c (rv_globC m.c_MOST_WAYS)) ra_nil)))) rss_nil)
    (rss_consF (rs_subA 1 hr.u64 (rv_of (re_callT call_tuple_of serves_tuple rfl m.b_tuple rfl (ra_cons (rh_re (re_callB (call_sortedD hr.u70) serves_sortedQ rfl m.b_sorted rfl (ra_cons (rh_name 4) ra_nil))) ra_nil))) (rh_name 3))
    (rss_one (rs_subA 2 hr.u64 (rv_if (rt_inAQ hr.u65 (rh_rv (rv_ixAQ hr.u64 (rh_rv (rv_fldQ m.cls (rh_name 0))) (rh_name 3))) (rh_c (rv_globC m.c_ROWWISE))) (rv_name 4) (rv_of (re_lst (ra_cons (rh_rv (rv_tup (ra_cons (rh_name 3) (ra_cons (rh_rv (rv_tup ra_nil)) ra_nil)))) ra_nil)))) (rh_name 3))))))))
    (rss_one (rs_ret (re_name 1)))))
theorem sc_Plan___init__ : FnScope ["self", "nodes", "edges", "names", "index", "node", "edge", "name", "at"] ["self", "nodes", "edges"] (defScope (mth 44 0)) := ⟨rfl, rfl, rfl, by decide +kernel, rfl, by decide +kernel, by decide +kernel⟩
def g_Plan___init__ : Env → Rz (Env × Fl) := (gSeqF (gIf (tNot (tTru (hH (eCallX 3 m_is_row [some false, some false, some false] (aCons (rN 1) (aCons (hC (.int 2)) (aCons (hC k_MOST_NODES) aNil))))))) (gRaise "BadValue" ["part"] (aCons (hC (.str "nodes")) aNil)) gNext)
    (gSeqF (gSet 3 (eLst aNil))
    (gSeqF (gFor (iEnu (vN 1)) (tgT [(tgN 4), (tgN 5)]) (gSeqF (gIf (tOr (tNot (tTru (hH (eCallX 1 m_is_node [some false] (aCons (rN 5) aNil))))) (t2 (dInAQ false) (hV (v2 dIxAQ (rN 5) (hC (.int 0)))) (rN 3))) gNo gNext)
    (gExpr (eMth 3 mAppend (aCons (hV (v2 dIxAQ (rN 5) (hC (.int 0)))) aNil)))))
    (gSeqF (gFldS "Plan" "nodes" 0 (vU (eCallX 1 (m_fixed 4) [some false] (aCons (rN 1) aNil))))
    (gSeqF (gFldS "Plan" "names" 0 (vU (eB dTupleN (aCons (rN 3) aNil))))
    (gSeqF (gFldS "Plan" "kinds" 0 (vU (eDc [5] (iSeq (v1 (dFldQ "Plan" "nodes") (rN 0))) (tgN 5) tYes (v2 dIxAQ (rN 5) (hC (.int 0))) (v2 dIxAQ (rN 5) (hC (.int 1))))))
    (gSeqF (gIf (tNot (tTru (hH (eCallX 3 m_is_row [some false, some false, some false] (aCons (rN 2) (aCons (hC (.int 1)) (aCons (hC k_MOST_EDGES) aNil))))))) (gRaise "BadValue" ["part"] (aCons (hC (.str "edges")) aNil)) gNext)
    (gSeqF (gFor (iEnu (vN 2)) (tgT [(tgN 4), (tgN 6)]) (gIf (tNot (tTru (hH (eMethX 2 "Plan" "is_edge" m_Plan_is_edge [some false] (rN 0) (aCons (rN 6) aNil))))) gNo gNext))
    (gSeqF (gFldS "Plan" "edges" 0 (vU (eCallX 1 (m_fixed 4) [some false] (aCons (rN 2) aNil))))
    (gSeqF (gFldS "Plan" "sources" 0 (vU (eMethX 2 "Plan" "of_kinds" m_Plan_of_kinds [some false] (rN 0) (aCons (hV (vTup (aCons (hC k_SOURCE) aNil))) aNil))))
    (gSeqF (gFldS "Plan" "inner" 0 (vU (eMethX 2 "Plan" "of_kinds" m_Plan_of_kinds [some false] (rN 0) (aCons (hV (vTup (aCons (hC k_MAP) (aCons (hC k_STAMP) (aCons (hC k_MIX) (aCons (hC k_FOLD) (aCons (hC k_WINDOW) aNil))))))) aNil))))
    (gSeqF (gFldS "Plan" "sinks" 0 (vU (eMethX 2 "Plan" "of_kinds" m_Plan_of_kinds [some false] (rN 0) (aCons (hC k_SINKS) aNil))))
    (gSeqF (gFldS "Plan" "into" 0 (vU (eDc [7] (iSeq (vN 3)) (tgN 7) tYes (vN 7) (vU (eB dTuple (aCons (hH (lcIx 8 6 7 1 (v1 (dFldQ "Plan" "edges") (rN 0)))) aNil))))))
    (gSeqF (gFldS "Plan" "out" 0 (vU (eDc [7] (iSeq (vN 3)) (tgN 7) tYes (vN 7) (vU (eB dTuple (aCons (hH (lcIx 8 6 7 0 (v1 (dFldQ "Plan" "edges") (rN 0)))) aNil))))))
    (gSeqF (gExpr (eMethX0 1 "Plan" "need_degrees" m_Plan_need_degrees (rN 0)))
    (gSeqF (gExpr (eMethX0 1 "Plan" "need_windows" m_Plan_need_windows (rN 0)))
    (gFldS "Plan" "ways" 0 (vU (eCallX 1 m_all_ways [none] (aCons (rN 0) aNil))))))))))))))))))))
def m_Plan___init__ : Env → Rz (Env × Rs) := runFM 9 g_Plan___init__
theorem d_Plan___init__ (m : Mods P K mg) (D_is_row : DefdX P w K mg base 2 "is_row" ["value", "least", "most"] m_is_row) (D_fixed : DefdX P w K mg base 4 "fixed" ["value"] (m_fixed 4)) (D_is_node : DefdX P w K mg base 3 "is_node" ["value"] m_is_node) (D_Plan_is_edge : MethX P w K mg base 3 "Plan" "is_edge" ["self", "value"] m_Plan_is_edge) (D_Plan_of_kinds : MethX P w K mg base 1 "Plan" "of_kinds" ["self", "kinds"] m_Plan_of_kinds) (D_Plan_need_degrees : MethX P w K mg base 1 "Plan" "need_degrees" ["self"] m_Plan_need_degrees) (D_Plan_need_windows : MethX P w K mg base 1 "Plan" "need_windows" ["self"] m_Plan_need_windows) (D_all_ways : DefdX P w K mg base 1 "all_ways" ["plan"] m_all_ways) : MakeX P w K mg base 5 "Plan" ["self", "nodes", "edges"] m_Plan___init__ := by
  have sc := sc_Plan___init__
  unfold m_Plan___init__
  rw [runFM_eq]
  refine MakeX.of (k := 4) (N := ["self", "nodes", "edges", "names", "index", "node", "edge", "name", "at"]) (body := g_Plan___init__) m.mk_Plan___init__ sc_Plan___init__ rfl (by decide) fun cdv A outer f s H E hr hgd => ?_
  exact (rss_consF (rs_if (rt_not (rt_tru (rh_re (re_callX [some false, some false, some false] D_is_row (hr.mono (j := 2) (by decide)) hgd (takes_of rfl rfl rfl rfl) (ra_cons (rh_name 1) (ra_cons (rh_c rv_int) (ra_cons (rh_c (rv_globC m.c_MOST_NODES)) ra_nil))))))) (rss_one (rs_raise m.x_BadValue hr (takes_of rfl rfl rfl rfl) (ra_cons (rh_c rv_str) ra_nil))) rss_nil)
    (rss_consF (rs_set (i := 3) sc.nd (re_lst ra_nil))
    (rss_consF (rs_for (passes_of rfl) rfl (ri_enum (rv_name 1) m.b_enumerate) (rg_tup rfl (rgs_cons (rg_name (i := 4) sc.nd) (rgs_cons (rg_name (i := 5) sc.nd) rgs_nil))) (rss_consF (rs_if (rt_w (rw_or (rt_not (rt_tru (rh_re (re_callX [some false] D_is_node (hr.mono (j := 3) (by decide)) hgd (takes_of rfl rfl rfl rfl) (ra_cons (rh_name 5) ra_nil))))) (rw_or1 (rt_inAQ hr.u65 (rh_rv (rv_ixAQ hr.u64 (rh_name 5) (rh_c rv_int))) (rh_name 3))))) (rss_one rs_never) rss_nil)
    (rss_one (rs_expr (re_mth (i := 3) PySem.F.slot_list_append rfl mt_append serves_append (ra_cons (rh_rv (rv_ixAQ hr.u64 (rh_name 5) (rh_c rv_int))) ra_nil))))))
    (rss_consF (rs_fld 0 m.cls (rv_of (re_callX [some false] D_fixed (hr.mono (j := 4) (by decide)) hgd (takes_of rfl rfl rfl rfl) (ra_cons (rh_name 1) ra_nil))))
    (rss_consF (rs_fld 0 m.cls (rv_of (re_callT call_tupleN serves_tupleN rfl m.b_tuple rfl (ra_cons (rh_name 3) ra_nil))))
    (rss_consF (rs_fld 0 m.cls (rv_of (re_dc [("node", 5)] rfl sc.nd (ri_seq (rv_fldQ m.cls (rh_name 0))) (blkOk_by (N := ["self", "nodes", "edges", "names", "index", "node", "edge", "name", "at"]) (sc := defScope (mth 44 0)) (by decide +kernel)) (by decide) (fun _ _ _ _ _ => (rg_name (i := 5) sc.nd)) (fun _ _ _ _ _ => rts_nil) (fun _ _ _ _ _ => (rv_ixAQ hr.u64 (rh_name 5) (rh_c rv_int))) (fun _ _ _ _ _ => (rv_ixAQ hr.u64 (rh_name 5) (rh_c rv_int))))))
    (rss_consF (rs_if (rt_not (rt_tru (rh_re (re_callX [some false, some false, some false] D_is_row (hr.mono (j := 2) (by decide)) hgd (takes_of rfl rfl rfl rfl) (ra_cons (rh_name 2) (ra_cons (rh_c rv_int) (ra_cons (rh_c (rv_globC m.c_MOST_EDGES)) ra_nil))))))) (rss_one (rs_raise m.x_BadValue hr (takes_of rfl rfl rfl rfl) (ra_cons (rh_c rv_str) ra_nil))) rss_nil)
    (rss_consF (rs_for (passes_of rfl) rfl (ri_enum (rv_name 2) m.b_enumerate) (rg_tup rfl (rgs_cons (rg_name (i := 4) sc.nd) (rgs_cons (rg_name (i := 6) sc.nd) rgs_nil))) (rss_one (rs_if (rt_not (rt_tru (rh_re (re_methX [some false] D_Plan_is_edge (hr.mono (j := 3) (by decide)) hgd (takes_of rfl rfl rfl rfl) (rh_name 0) (ra_cons (rh_name 6) ra_nil))))) (rss_one rs_never) rss_nil)))
    (rss_consF (rs_fld 0 m.cls (rv_of (re_callX [some false] D_fixed (hr.mono (j := 4) (by decide)) hgd (takes_of rfl rfl rfl rfl) (ra_cons (rh_name 2) ra_nil))))
    (rss_consF (rs_fld 0 m.cls (rv_of (re_methX [some false] D_Plan_of_kinds (hr.mono (j := 1) (by decide)) hgd (takes_of rfl rfl rfl rfl) (rh_name 0) (ra_cons (rh_rv (rv_tup (ra_cons (rh_c (rv_globC m.c_SOURCE)) ra_nil))) ra_nil))))
    (rss_consF (rs_fld 0 m.cls (rv_of (re_methX [some false] D_Plan_of_kinds (hr.mono (j := 1) (by decide)) hgd (takes_of rfl rfl rfl rfl) (rh_name 0) (ra_cons (rh_rv (rv_tup (ra_cons (rh_c (rv_globC m.c_MAP)) (ra_cons (rh_c (rv_globC m.c_STAMP)) (ra_cons (rh_c (rv_globC m.c_MIX)) (ra_cons (rh_c (rv_globC m.c_FOLD)) (ra_cons (rh_c (rv_globC m.c_WINDOW)) ra_nil))))))) ra_nil))))
    (rss_consF (rs_fld 0 m.cls (rv_of (re_methX [some false] D_Plan_of_kinds (hr.mono (j := 1) (by decide)) hgd (takes_of rfl rfl rfl rfl) (rh_name 0) (ra_cons (rh_c (rv_globC m.c_SINKS)) ra_nil))))
    (rss_consF (rs_fld 0 m.cls (rv_of (re_dc [("name", 7)] rfl sc.nd (ri_seq (rv_name 3)) (blkOk_by (N := ["self", "nodes", "edges", "names", "index", "node", "edge", "name", "at"]) (sc := defScope (mth 44 0)) (by decide +kernel)) (by decide) (fun _ _ _ _ _ => (rg_name (i := 7) sc.nd)) (fun _ _ _ _ _ => rts_nil) (fun _ _ _ _ _ => (rv_name 7)) (fun _ _ _ _ _ => (rv_of (re_callT call_tuple_of serves_tuple rfl m.b_tuple rfl (ra_cons (rh_re (re_lcIx (re_lcF (re_lc [("at", 8), ("edge", 6)] rfl sc.nd (ri_enum (rv_fldQ m.cls (rh_name 0)) m.b_enumerate) (by exact blkOk_by (N := ["self", "nodes", "edges", "names", "index", "node", "edge", "name", "at"]) (by first | decide +kernel | rfl)) (by decide) (fun _ _ _ _ _ => (rg_tup rfl (rgs_cons (rg_name (i := 8) sc.nd) (rgs_cons (rg_name (i := 6) sc.nd) rgs_nil)))) (fun _ _ _ _ _ => (rts_one (rt_eqQ hr.u64 (rh_rv (rv_ixAQ hr.u64 (rh_name 6) (rh_c rv_int))) (rh_name 7)))) (fun _ _ _ _ _ => (rv_name 8)))))) ra_nil)))))))
    (rss_consF (rs_fld 0 m.cls (rv_of (re_dc [("name", 7)] rfl sc.nd (ri_seq (rv_name 3)) (blkOk_by (N := ["self", "nodes", "edges", "names", "index", "node", "edge", "name", "at"]) (sc := defScope (mth 44 0)) (by decide +kernel)) (by decide) (fun _ _ _ _ _ => (rg_name (i := 7) sc.nd)) (fun _ _ _ _ _ => rts_nil) (fun _ _ _ _ _ => (rv_name 7)) (fun _ _ _ _ _ => (rv_of (re_callT call_tuple_of serves_tuple rfl m.b_tuple rfl (ra_cons (rh_re (re_lcIx (re_lcF (re_lc [("at", 8), ("edge", 6)] rfl sc.nd (ri_enum (rv_fldQ m.cls (rh_name 0)) m.b_enumerate) (by exact blkOk_by (N := ["self", "nodes", "edges", "names", "index", "node", "edge", "name", "at"]) (by first | decide +kernel | rfl)) (by decide) (fun _ _ _ _ _ => (rg_tup rfl (rgs_cons (rg_name (i := 8) sc.nd) (rgs_cons (rg_name (i := 6) sc.nd) rgs_nil)))) (fun _ _ _ _ _ => (rts_one (rt_eqQ hr.u64 (rh_rv (rv_ixAQ hr.u64 (rh_name 6) (rh_c rv_int))) (rh_name 7)))) (fun _ _ _ _ _ => (rv_name 8)))))) ra_nil)))))))
    (rss_consF (rs_expr (re_methX0 D_Plan_need_degrees (hr.mono (j := 1) (by decide)) hgd (takes_of rfl rfl rfl rfl) (rh_name 0)))
    (rss_consF (rs_expr (re_methX0 D_Plan_need_windows (hr.mono (j := 1) (by decide)) hgd (takes_of rfl rfl rfl rfl) (rh_name 0)))
    (rss_one (rs_fld 0 m.cls (rv_of (re_callX [none] D_all_ways (hr.mono (j := 1) (by decide)) hgd (takes_of rfl rfl rfl rfl) (ra_cons (rh_name 0) ra_nil)))))))))))))))))))))
theorem sc_Plan_need_name : FnScope ["self", "name"] ["self", "name"] (defScope (mth 44 6)) := ⟨rfl, rfl, rfl, by decide +kernel, rfl, by decide +kernel, by decide +kernel⟩
def g_Plan_need_name : Env → Rz (Env × Fl) := (gIf (tOr (tNot (tTru (hV (v1 (dIsa tab [.b .str]) (rN 1))))) (t2 (dInAQ true) (rN 1) (hV (v1 (dFldQ "Plan" "kinds") (rN 0))))) gNo gNext)
def m_Plan_need_name : Env → Rz (Env × Rs) := runFF 2 g_Plan_need_name
theorem d_Plan_need_name (m : Mods P K mg) : MethX P w K mg base 1 "Plan" "need_name" ["self", "name"] m_Plan_need_name := by
  have sc := sc_Plan_need_name
  unfold m_Plan_need_name
  rw [runFF_eq]
  refine MethX.of (k := 0) (N := ["self", "name"]) (body := g_Plan_need_name) m.mt_Plan_need_name sc_Plan_need_name rfl (by decide) fun cdv A outer f s H E hr hgd => ?_
  exact (rss_one (rs_if (rt_w (rw_or (rt_not (rt_tru (rh_rv (rv_isa1 m.isa m.b_isinstance (rh_name 1) (clsE_b .str m.b_str))))) (rw_or1 (rt_notinAQ hr.u65 (rh_name 1) (rh_rv (rv_fldQ m.cls (rh_name 0))))))) (rss_one rs_never) rss_nil))
theorem sc_Plan_settings : FnScope ["self", "name"] ["self", "name"] (defScope (mth 44 8)) := ⟨rfl, rfl, rfl, by decide +kernel, rfl, by decide +kernel, by decide +kernel⟩
def g_Plan_settings : Env → Rz (Env × Fl) := (gSeqF (gExpr (eMethX 2 "Plan" "need_name" m_Plan_need_name [some false] (rN 0) (aCons (rN 1) aNil)))
    (gRet (eSl (hV (v2 dIxAQ (hV (v1 (dFldQ "Plan" "nodes") (rN 0))) (hV (vMth isTupN dTupIndex (hV (v1 (dFldRQ "Plan" "names") (rN 0))) (aCons (rN 1) aNil))))) (oSome (vC (.int 2))) oNone)))
def m_Plan_settings : Env → Rz (Env × Rs) := runFF 2 g_Plan_settings
theorem d_Plan_settings (m : Mods P K mg) (D_Plan_need_name : MethX P w K mg base 1 "Plan" "need_name" ["self", "name"] m_Plan_need_name) : MethX P w K mg base 2 "Plan" "settings" ["self", "name"] m_Plan_settings := by
  have sc := sc_Plan_settings
  unfold m_Plan_settings
  rw [runFF_eq]
  refine MethX.of (k := 1) (N := ["self", "name"]) (body := g_Plan_settings) m.mt_Plan_settings sc_Plan_settings rfl (by decide) fun cdv A outer f s H E hr hgd => ?_
  exact (rss_consF (rs_expr (re_methX [some false] D_Plan_need_name (hr.mono (j := 1) (by decide)) hgd (takes_of rfl rfl rfl rfl) (rh_name 0) (ra_cons (rh_name 1) ra_nil)))
    (rss_one (rs_ret (re_slice (rh_rv (rv_ixAQ hr.u64 (rh_rv (rv_fldQ m.cls (rh_name 0))) (rh_rv (rv_tupIndex (rh_rv (rv_fldRQ m.cls (rh_name 0))) (ra_cons (rh_name 1) ra_nil))))) (ro_some rv_int) ro_none))))
theorem sc_Plan_ways_to : FnScope ["self", "name"] ["self", "name"] (defScope (mth 44 12)) := ⟨rfl, rfl, rfl, by decide +kernel, rfl, by decide +kernel, by decide +kernel⟩
def g_Plan_ways_to : Env → Rz (Env × Fl) := (gSeqF (gExpr (eMethX 2 "Plan" "need_name" m_Plan_need_name [some false] (rN 0) (aCons (rN 1) aNil)))
    (gRet (hV (v2 dIxAQ (hV (v1 (dFldQ "Plan" "ways") (rN 0))) (rN 1)))))
def m_Plan_ways_to : Env → Rz (Env × Rs) := runFF 2 g_Plan_ways_to
theorem d_Plan_ways_to (m : Mods P K mg) (D_Plan_need_name : MethX P w K mg base 1 "Plan" "need_name" ["self", "name"] m_Plan_need_name) : MethX P w K mg base 2 "Plan" "ways_to" ["self", "name"] m_Plan_ways_to := by
  have sc := sc_Plan_ways_to
  unfold m_Plan_ways_to
  rw [runFF_eq]
  refine MethX.of (k := 1) (N := ["self", "name"]) (body := g_Plan_ways_to) m.mt_Plan_ways_to sc_Plan_ways_to rfl (by decide) fun cdv A outer f s H E hr hgd => ?_
  exact (rss_consF (rs_expr (re_methX [some false] D_Plan_need_name (hr.mono (j := 1) (by decide)) hgd (takes_of rfl rfl rfl rfl) (rh_name 0) (ra_cons (rh_name 1) ra_nil)))
    (rss_one (rs_ret (re_of (rv_ixAQ hr.u64 (rh_rv (rv_fldQ m.cls (rh_name 0))) (rh_name 1))))))
theorem sc__law_pen : FnScope ["script"] ["script"] (defScope (top 47)) := ⟨rfl, rfl, rfl, by decide +kernel, rfl, by decide +kernel, by decide +kernel⟩
def g__law_pen : Env → Rz (Env × Fl) := (gRet (eLst (aCons (hH (eB dList (aCons (hH (eSl (rN 0) oNone (oSome (vC (.int 63))))) aNil))) (aCons (hC (.int 0)) (aCons (hC (.int 0)) aNil)))))
def m__law_pen : Env → Rz (Env × Rs) := runFF 1 g__law_pen
theorem d__law_pen (m : Mods P K mg) : DefdX P w K mg base 1 "_law_pen" ["script"] m__law_pen := by
  have sc := sc__law_pen
  unfold m__law_pen
  rw [runFF_eq]
  refine DefdX.of (k := 0) (N := ["script"]) (body := g__law_pen) m.d__law_pen sc__law_pen rfl (by decide) fun cdv A outer f s H E hr hgd => ?_
  exact (rss_one (rs_ret (re_lst (ra_cons (rh_re (re_callT call_list_of serves_list rfl m.b_list rfl (ra_cons (rh_re (re_slice (rh_name 0) ro_none (ro_some rv_int))) ra_nil))) (ra_cons (rh_c rv_int) (ra_cons (rh_c rv_int) ra_nil))))))
theorem sc__law_draw : FnScope ["pen", "many", "digit", "at", "cell", "great", "mixed"] ["pen", "many"] (defScope (top 48)) := ⟨rfl, rfl, rfl, by decide +kernel, rfl, by decide +kernel, by decide +kernel⟩
def g__law_draw : Env → Rz (Env × Fl) := (gSeqF (gIf (t2 dLt (rN 1) (hC (.int 2))) (gRet (hV (vC (.int 0)))) gNext)
    (gSeqF (gIf (t2 dGt (hV (v2 dIxAQ (rN 0) (hC (.int 2)))) (hC (.int 0))) (gSeqF (gSet 2 (hV (v2 dMod (hH (eB dInt (aCons (hV (v2 dIxAQ (rN 0) (hC (.int 2)))) aNil))) (rN 1))))
    (gSeqF (gSubA 0 (hC (.int 2)) (v2 dDiv (hH (eB dInt (aCons (hV (v2 dIxAQ (rN 0) (hC (.int 2)))) aNil))) (rN 1)))
    (gRet (rN 2)))) gNext)
    (gSeqF (gSet 3 (hV (v2 dIxAQ (rN 0) (hC (.int 1)))))
    (gSeqF (gSubA 0 (hC (.int 1)) (vU (e2 dAdd (rN 3) (hC (.int 1)))))
    (gSeqF (gSet 4 (e2 dAdd (hV (v2 dMul (hC (.int 60233)) (rN 3))) (hC (.int 7097))))
    (gSeqF (gIf (t2 dNeQ (hV (v2 dIxAQ (rN 0) (hC (.int 0)))) (hH (eLst aNil))) (gSet 4 (hV (v2 dIxAQ (hV (v2 dIxAQ (rN 0) (hC (.int 0)))) (hV (v2 dMod (hH (eB dInt (aCons (rN 3) aNil))) (hH (eB dLen (aCons (hV (v2 dIxAQ (rN 0) (hC (.int 0)))) aNil)))))))) gNext)
    (gSeqF (gIf (tAnd (t2 dLt (rN 3) (hH (eB dLen (aCons (hV (v2 dIxAQ (rN 0) (hC (.int 0)))) aNil)))) (t2 dGe (hH (eB dAbs (aCons (rN 4) aNil))) (hV (v2 dPow (hC (.int 10)) (hC (.int 18)))))) (gSeqF (gSet 5 (e2 dAdd (hV (v2 dMul (hC (.int 2)) (hV (v2 dSub (hH (eB dAbs (aCons (rN 4) aNil))) (hV (v2 dPow (hC (.int 10)) (hC (.int 18)))))))) (hH (eB dInt (aCons (hV (v2 (dB dLt) (rN 4) (hC (.int 0)))) aNil)))))
    (gSeqF (gSubA 0 (hC (.int 2)) (v2 dDiv (hH (eB dInt (aCons (rN 5) aNil))) (rN 1)))
    (gRet (hV (v2 dMod (hH (eB dInt (aCons (rN 5) aNil))) (rN 1)))))) gNext)
    (gSeqF (gSet 6 (hV (v2 dMod (hH (eB dInt (aCons (hV (v2 dPow (hH (e2 dAdd (hH (e2 dAdd (hV (v2 dMod (hH (eB dInt (aCons (rN 4) aNil))) (hC (.int 2147483549)))) (hV (v2 dMul (hC (.int 21185)) (rN 3))))) (hC (.int 7097)))) (hC (.int 3)))) aNil))) (hC (.int 2147483629)))))
    (gSeqF (gSet 6 (hV (v2 dMod (hH (eB dInt (aCons (hV (v2 dPow (hH (e2 dAdd (hH (e2 dAdd (hV (v2 dMul (rN 6) (hH (e2 dAdd (hV (v2 dMul (hC (.int 2)) (rN 3))) (hC (.int 5266)))))) (hV (v2 dMul (hV (v2 dMul (hC (.int 60233)) (rN 3))) (rN 3))))) (hC (.int 21185)))) (hC (.int 5)))) aNil))) (hC (.int 2147483563)))))
    (gRet (hV (v2 dMod (hH (eB dInt (aCons (hV (v2 dDiv (rN 6) (hC (.int 16)))) aNil))) (rN 1)))))))))))))
def m__law_draw : Env → Rz (Env × Rs) := runFF 7 g__law_draw
theorem d__law_draw (m : Mods P K mg) : DefdX P w K mg base 1 "_law_draw" ["pen", "many"] m__law_draw := by
  have sc := sc__law_draw
  unfold m__law_draw
  rw [runFF_eq]
  refine DefdX.of (k := 0) (N := ["pen", "many", "digit", "at", "cell", "great", "mixed"]) (body := g__law_draw) m.d__law_draw sc__law_draw rfl (by decide) fun cdv A outer f s H E hr hgd => ?_
  exact (rss_consF (rs_if (rt_lt (rh_name 1) (rh_c rv_int)) (rss_one (rs_ret (re_of rv_int))) rss_nil)
    (rss_consF (rs_if (rt_gt (rh_rv (rv_ixAQ hr.u64 (rh_name 0) (rh_c rv_int))) (rh_c rv_int)) (rss_consF (rs_set (i := 2) sc.nd (re_of (rv_mod (rh_re (re_callT call_int1 serves_int rfl m.b_int rfl (ra_cons (rh_rv (rv_ixAQ hr.u64 (rh_name 0) (rh_c rv_int))) ra_nil))) (rh_name 1))))
    (rss_consF (rs_subA 0 hr.u64 (rv_div (rh_re (re_callT call_int1 serves_int rfl m.b_int rfl (ra_cons (rh_rv (rv_ixAQ hr.u64 (rh_name 0) (rh_c rv_int))) ra_nil))) (rh_name 1)) (rh_c rv_int))
    (rss_one (rs_ret (re_name 2))))) rss_nil)
    (rss_consF (rs_set (i := 3) sc.nd (re_of (rv_ixAQ hr.u64 (rh_name 0) (rh_c rv_int))))
    (rss_consF (rs_subA 0 hr.u64 (rv_of (re_add (rh_name 3) (rh_c rv_int))) (rh_c rv_int))
    (rss_consF (rs_set (i := 4) sc.nd (re_add (rh_rv (rv_mul (rh_c rv_int) (rh_name 3))) (rh_c rv_int)))
    (rss_consF (rs_if (rt_neQ hr.u64 (rh_rv (rv_ixAQ hr.u64 (rh_name 0) (rh_c rv_int))) (rh_re (re_lst ra_nil))) (rss_one (rs_set (i := 4) sc.nd (re_of (rv_ixAQ hr.u64 (rh_rv (rv_ixAQ hr.u64 (rh_name 0) (rh_c rv_int))) (rh_rv (rv_mod (rh_re (re_callT call_int1 serves_int rfl m.b_int rfl (ra_cons (rh_name 3) ra_nil))) (rh_re (re_callB call_len serves_len rfl m.b_len rfl (ra_cons (rh_rv (rv_ixAQ hr.u64 (rh_name 0) (rh_c rv_int))) ra_nil))))))))) rss_nil)
    (rss_consF (rs_if (rt_w (rw_and (rt_lt (rh_name 3) (rh_re (re_callB call_len serves_len rfl m.b_len rfl (ra_cons (rh_rv (rv_ixAQ hr.u64 (rh_name 0) (rh_c rv_int))) ra_nil)))) (rw_and1 (rt_ge (rh_re (re_callB call_abs serves_abs rfl m.b_abs rfl (ra_cons (rh_name 4) ra_nil))) (rh_rv (rv_pow (rh_c rv_int) (rh_c rv_int))))))) (rss_consF (rs_set (i := 5) sc.nd (re_add (rh_rv (rv_mul (rh_c rv_int) (rh_rv (rv_sub (rh_re (re_callB call_abs serves_abs rfl m.b_abs rfl (ra_cons (rh_name 4) ra_nil))) (rh_rv (rv_pow (rh_c rv_int) (rh_c rv_int))))))) (rh_re (re_callT call_int1 serves_int rfl m.b_int rfl (ra_cons (rh_rv (rv_lt (rh_name 4) (rh_c rv_int))) ra_nil)))))
    (rss_consF (rs_subA 0 hr.u64 (rv_div (rh_re (re_callT call_int1 serves_int rfl m.b_int rfl (ra_cons (rh_name 5) ra_nil))) (rh_name 1)) (rh_c rv_int))
    (rss_one (rs_ret (re_of (rv_mod (rh_re (re_callT call_int1 serves_int rfl m.b_int rfl (ra_cons (rh_name 5) ra_nil))) (rh_name 1))))))) rss_nil)
    (rss_consF (rs_set (i := 6) sc.nd (re_of (rv_mod (rh_re (re_callT call_int1 serves_int rfl m.b_int rfl (ra_cons (rh_rv (rv_pow (rh_re (re_add (rh_re (re_add (rh_rv (rv_mod (rh_re (re_callT call_int1 serves_int rfl m.b_int rfl (ra_cons (rh_name 4) ra_nil))) (rh_c rv_int))) (rh_rv (rv_mul (rh_c rv_int) (rh_name 3))))) (rh_c rv_int))) (rh_c rv_int))) ra_nil))) (rh_c rv_int))))
    (rss_consF (rs_set (i := 6) sc.nd (re_of (rv_mod (rh_re (re_callT call_int1 serves_int rfl m.b_int rfl (ra_cons (rh_rv (rv_pow (rh_re (re_add (rh_re (re_add (rh_rv (rv_mul (rh_name 6) (rh_re (re_add (rh_rv (rv_mul (rh_c rv_int) (rh_name 3))) (rh_c rv_int))))) (rh_rv (rv_mul (rh_rv (rv_mul (rh_c rv_int) (rh_name 3))) (rh_name 3))))) (rh_c rv_int))) (rh_c rv_int))) ra_nil))) (rh_c rv_int))))
    (rss_one (rs_ret (re_of (rv_mod (rh_re (re_callT call_int1 serves_int rfl m.b_int rfl (ra_cons (rh_rv (rv_div (rh_name 6) (rh_c rv_int))) ra_nil))) (rh_name 1))))))))))))))
theorem sc__law_pick : FnScope ["pen", "some"] ["pen", "some"] (defScope (top 49)) := ⟨rfl, rfl, rfl, by decide +kernel, rfl, by decide +kernel, by decide +kernel⟩
def g__law_pick : Env → Rz (Env × Fl) := (gRet (hV (v2 dIxAQ (rN 1) (hH (eCallX 2 m__law_draw [some true, some false] (aCons (rN 0) (aCons (hH (eB dLen (aCons (rN 1) aNil))) aNil)))))))
def m__law_pick : Env → Rz (Env × Rs) := runFF 2 g__law_pick
theorem d__law_pick (m : Mods P K mg) (D__law_draw : DefdX P w K mg base 1 "_law_draw" ["pen", "many"] m__law_draw) : DefdX P w K mg base 2 "_law_pick" ["pen", "some"] m__law_pick := by
  have sc := sc__law_pick
  unfold m__law_pick
  rw [runFF_eq]
  refine DefdX.of (k := 1) (N := ["pen", "some"]) (body := g__law_pick) m.d__law_pick sc__law_pick rfl (by decide) fun cdv A outer f s H E hr hgd => ?_
  exact (rss_one (rs_ret (re_of (rv_ixAQ hr.u64 (rh_name 1) (rh_re (re_callX [some true, some false] D__law_draw (hr.mono (j := 1) (by decide)) hgd (takes_of rfl rfl rfl rfl) (ra_cons (rh_name 0) (ra_cons (rh_re (re_callB call_len serves_len rfl m.b_len rfl (ra_cons (rh_name 1) ra_nil))) ra_nil))))))))
theorem sc__law_heard : FnScope ["ask", "found", "caught", "error", "kinds"] ["ask"] (defScope (top 50)) := ⟨rfl, rfl, rfl, by decide +kernel, rfl, by decide +kernel, by decide +kernel⟩
def g1__law_heard : Env → Rz (Env × Fl) := (gAsg (tgT [(tgN 1), (tgN 2)]) (vTup (aCons (hC .non) (aCons (hC .non) aNil))))
def g__law_heard : Env → Rz (Env × Fl) := (gSeqF (gIf (tV (vIsN (rN 2))) (gRet (eLst (aCons (rN 1) aNil))) gNext)
    (gSeqF (gIf (tTru (hV (v1 (dIsa tab [.e "TooMany"]) (rN 2)))) (gRet (hV (vTup (aCons (hC (.str "many")) (aCons (hV (v1 (dXFld ["TooMany"] "what") (rN 2))) (aCons (hV (v1 (dXFld ["TooMany"] "most") (rN 2))) aNil)))))) gNext)
    (gSeqF (gIf (tTru (hV (v1 (dIsa tab [.e "BadNode", .e "BadEdge"]) (rN 2)))) (gRet (hV (vTup (aCons (hV (vIf (tTru (hV (v1 (dIsa tab [.e "BadNode"]) (rN 2)))) (vC (.str "node")) (vC (.str "edge")))) (aCons (hV (v1 (dXFld [] "index") (rN 2))) aNil))))) gNext)
    (gSeqF (gIf (tTru (hV (v1 (dIsa tab [.e "BadEvent"]) (rN 2)))) (gRet (hV (vTup (aCons (hC (.str "event")) (aCons (hH (eB dRepr (aCons (hV (v1 (dXFld [] "event") (rN 2))) aNil))) aNil))))) gNext)
    (gSeqF (gIf (tTru (hV (v1 (dIsa tab [.e "NoName"]) (rN 2)))) (gRet (hV (vTup (aCons (hC (.str "noname")) (aCons (hH (eB dRepr (aCons (hV (v1 (dXFld [] "name") (rN 2))) aNil))) aNil))))) gNext)
    (gSeqF (gIf (tTru (hV (v1 (dIsa tab [.e "BadText"]) (rN 2)))) (gRet (hV (vTup (aCons (hC (.str "text")) (aCons (hV (v1 (dXFld [] "line") (rN 2))) (aCons (hV (v1 (dXFld [] "word") (rN 2))) aNil)))))) gNext)
    (gSeqF (gIf (tTru (hV (v1 (dIsa tab [.e "BadWord", .e "Nothing"]) (rN 2)))) (gRet (hV (vTup (aCons (hV (vIf (tTru (hV (v1 (dIsa tab [.e "BadWord"]) (rN 2)))) (vC (.str "word")) (vC (.str "nothing")))) (aCons (hV (v1 (dXFld [] "word") (rN 2))) aNil))))) gNext)
    (gSeqF (gSet 4 (eLst (aCons (hV (v1 (dIsa tab [.e "BadValue"]) (rN 2))) (aCons (hV (v1 (dIsa tab [.e "BadNumber"]) (rN 2))) (aCons (hV (v1 (dIsa tab [.e "Misfit"]) (rN 2))) aNil)))))
    (gRet (hV (vIf (t2 dEqQ (hV (vMth isLstD dLstCount (rN 4) (aCons (hC (.bl true)) aNil))) (hC (.int 1))) (vTup (aCons (hV (v2 dIxAQ (hH (eLst (aCons (hC (.str "value")) (aCons (hC (.str "number")) (aCons (hC (.str "misfit")) aNil))))) (hV (vMth isLstD dLstIndex (rN 4) (aCons (hC (.bl true)) aNil))))) (aCons (hV (v1 (dXFld ["BadValue", "Misfit"] "part") (rN 2))) aNil))) (vTup (aCons (hC (.str "other")) aNil)))))))))))))
def heardEs : List Str := ["BadValue", "TooMany", "Misfit"]
theorem rv_hd {X : Cx} {W : WX} {k : Nat} {ns : List Str} {params : Arguments} {body : Expr} {scope : Scope} {p lpos pos : Pos} {mm : Env → Rz (Env × D)} (m : Mods X.prog X.K X.mg) (LT : TabL X.base X.mg X.env.code (X.env.qual ++ "<lambda>")) (hgd : X.A.guards = some []) (room : Room (k + 2) X.A)
    (L : Lam.Names X.N X.env.scope scope ns) (pr : Lam.Params X params body scope lpos ns)
    (hm : ∀ (A : Around) (outer : List PySem.Env) (s : Shared) (H : Hp) (E : XK) (f c' : Addr), Room k (A.deeper (LamX.lamEnv X scope s.heap.objs.size f c')) → A.guards = some [] → RV (LamX.lamCx X A outer s H E scope f c') (fun c d _ H' => E c d H') body mm)
    (hg : Gl X "_law_heard" := by rfl) : RV X W (.Call (.Name "_law_heard" p) [.Lambda params body scope lpos] [] pos) (vHeard 5 heardEs g__law_heard mm) := by
  have sc := sc__law_heard
  refine rv_heard (N := ["ask", "found", "caught", "error", "kinds"]) (x := "_law_heard") (a := "ask") (yF := "found") (yC := "caught") (yE := "error") (xc := "OnceError") (st := (top 50)) (g1 := g1__law_heard) m.d__law_heard sc__law_heard m.ktch LT hgd room L pr hm (fun cdv A outer f s H E => ?_) (fun cdv A outer f s H E hr hgd => ?_) (fun _ => rfl) rfl (by decide) rfl rfl rfl rfl rfl rfl rfl rfl (.inl rfl) rfl (by decide) (by decide) (by decide) (by decide) (by decide) (fun _ => rfl) (fun _ => rfl) hg
  · exact (rs_asg (rv_tup (ra_cons (rh_c rv_non) (ra_cons (rh_c rv_non) ra_nil))) (rg_tup rfl (rgs_cons (rg_name (i := 1) sc.nd) (rgs_cons (rg_name (i := 2) sc.nd) rgs_nil))))
  · exact (rss_consF (rs_if (rt_isN (rh_name 2)) (rss_one (rs_ret (re_lst (ra_cons (rh_name 1) ra_nil)))) rss_nil)
    (rss_consF (rs_if (rt_tru (rh_rv (rv_isa1 m.isa m.b_isinstance (rh_name 2) (clsE_e m.g_TooMany)))) (rss_one (rs_ret (re_of (rv_tup (ra_cons (rh_c rv_str) (ra_cons (rh_rv (rv_xfld ["TooMany"] m.xf_what (rh_name 2))) (ra_cons (rh_rv (rv_xfld ["TooMany"] m.xf_most (rh_name 2))) ra_nil))))))) rss_nil)
    (rss_consF (rs_if (rt_tru (rh_rv (rv_isaT m.isa m.b_isinstance (rh_name 2) (.cons (clsE_e m.g_BadNode) rfl (.cons (clsE_e m.g_BadEdge) rfl .nil))))) (rss_one (rs_ret (re_of (rv_tup (ra_cons (rh_rv (rv_if (rt_tru (rh_rv (rv_isa1 m.isa m.b_isinstance (rh_name 2) (clsE_e m.g_BadNode)))) rv_str rv_str)) (ra_cons (rh_rv (rv_xfld [] m.xf_index (rh_name 2))) ra_nil)))))) rss_nil)
    (rss_consF (rs_if (rt_tru (rh_rv (rv_isa1 m.isa m.b_isinstance (rh_name 2) (clsE_e m.g_BadEvent)))) (rss_one (rs_ret (re_of (rv_tup (ra_cons (rh_c rv_str) (ra_cons (rh_re (re_callB (call_reprD hgd hr.u65) serves_repr rfl m.b_repr rfl (ra_cons (rh_rv (rv_xfld [] m.xf_event (rh_name 2))) ra_nil))) ra_nil)))))) rss_nil)
    (rss_consF (rs_if (rt_tru (rh_rv (rv_isa1 m.isa m.b_isinstance (rh_name 2) (clsE_e m.g_NoName)))) (rss_one (rs_ret (re_of (rv_tup (ra_cons (rh_c rv_str) (ra_cons (rh_re (re_callB (call_reprD hgd hr.u65) serves_repr rfl m.b_repr rfl (ra_cons (rh_rv (rv_xfld [] m.xf_name (rh_name 2))) ra_nil))) ra_nil)))))) rss_nil)
    (rss_consF (rs_if (rt_tru (rh_rv (rv_isa1 m.isa m.b_isinstance (rh_name 2) (clsE_e m.g_BadText)))) (rss_one (rs_ret (re_of (rv_tup (ra_cons (rh_c rv_str) (ra_cons (rh_rv (rv_xfld [] m.xf_line (rh_name 2))) (ra_cons (rh_rv (rv_xfld [] m.xf_word (rh_name 2))) ra_nil))))))) rss_nil)
    (rss_consF (rs_if (rt_tru (rh_rv (rv_isaT m.isa m.b_isinstance (rh_name 2) (.cons (clsE_e m.g_BadWord) rfl (.cons (clsE_e m.g_Nothing) rfl .nil))))) (rss_one (rs_ret (re_of (rv_tup (ra_cons (rh_rv (rv_if (rt_tru (rh_rv (rv_isa1 m.isa m.b_isinstance (rh_name 2) (clsE_e m.g_BadWord)))) rv_str rv_str)) (ra_cons (rh_rv (rv_xfld [] m.xf_word (rh_name 2))) ra_nil)))))) rss_nil)
    (rss_consF (rs_set (i := 4) sc.nd (re_lst (ra_cons (rh_rv (rv_isa1 m.isa m.b_isinstance (rh_name 2) (clsE_e m.g_BadValue))) (ra_cons (rh_rv (rv_isa1 m.isa m.b_isinstance (rh_name 2) (clsE_e m.g_BadNumber))) (ra_cons (rh_rv (rv_isa1 m.isa m.b_isinstance (rh_name 2) (clsE_e m.g_Misfit))) ra_nil)))))
    (rss_one (rs_ret (re_of (rv_if (rt_eqQ hr.u64 (rh_rv (rv_lstCount hr.u65 (rh_name 4) (ra_cons (rh_c rv_bl) ra_nil))) (rh_c rv_int)) (rv_tup (ra_cons (rh_rv (rv_ixAQ hr.u64 (rh_re (re_lst (ra_cons (rh_c rv_str) (ra_cons (rh_c rv_str) (ra_cons (rh_c rv_str) ra_nil))))) (rh_rv (rv_lstIndex hr.u65 (rh_name 4) (ra_cons (rh_c rv_bl) ra_nil))))) (ra_cons (rh_rv (rv_xfld ["BadValue", "Misfit"] m.xf_part (rh_name 2))) ra_nil))) (rv_tup (ra_cons (rh_c rv_str) ra_nil))))))))))))))
theorem sc__law_ins : FnScope ["plain", "name", "at", "edge"] ["plain", "name"] (defScope (top 51)) := ⟨rfl, rfl, rfl, by decide +kernel, rfl, by decide +kernel, by decide +kernel⟩
def g__law_ins : Env → Rz (Env × Fl) := (gRet (lcIx 2 3 1 1 (v2 dIxAQ (rN 0) (hC (.str "edges")))))
def m__law_ins : Env → Rz (Env × Rs) := runFF 4 g__law_ins
theorem d__law_ins (m : Mods P K mg) : DefdX P w K mg base 1 "_law_ins" ["plain", "name"] m__law_ins := by
  have sc := sc__law_ins
  unfold m__law_ins
  rw [runFF_eq]
  refine DefdX.of (k := 0) (N := ["plain", "name", "at", "edge"]) (body := g__law_ins) m.d__law_ins sc__law_ins rfl (by decide) fun cdv A outer f s H E hr hgd => ?_
  exact (rss_one (rs_ret (re_lcIx (re_lcF (re_lc [("at", 2), ("edge", 3)] rfl sc.nd (ri_enum (rv_ixAQ hr.u64 (rh_name 0) (rh_c rv_str)) m.b_enumerate) (blkOk_by (N := ["plain", "name", "at", "edge"]) (sc := defScope (top 51)) (by decide +kernel)) (by decide) (fun _ _ _ _ _ => (rg_tup rfl (rgs_cons (rg_name (i := 2) sc.nd) (rgs_cons (rg_name (i := 3) sc.nd) rgs_nil)))) (fun _ _ _ _ _ => (rts_one (rt_eqQ hr.u64 (rh_rv (rv_ixAQ hr.u64 (rh_name 3) (rh_c rv_int))) (rh_name 1)))) (fun _ _ _ _ _ => (rv_name 2)))))))
theorem sc__law_ways : FnScope ["plain", "name", "into", "out", "node", "found", "side", "at", "origin", "sides"] ["plain", "name"] (defScope (top 52)) := ⟨rfl, rfl, rfl, by decide +kernel, rfl, by decide +kernel, by decide +kernel⟩
def g__law_ways : Env → Rz (Env × Fl) := (gSeqF (gPar [2, 3] (qCons eDk (qCons eDk aNil)))
    (gSeqF (gFor (iSeq (v2 dIxAQ (rN 0) (hC (.str "nodes")))) (tgN 4) (gSeqF (gSet 5 (eLst aNil))
    (gSeqF (gFor (iEnu (vU (eCallX 2 m__law_ins [some false, some false] (aCons (rN 0) (aCons (hV (v2 dIxAQ (rN 4) (hC (.int 0)))) aNil))))) (tgT [(tgN 6), (tgN 7)]) (gFor (iSeq (v2 dIxAQ (rN 3) (hV (v2 dIxAQ (hV (v2 dIxAQ (hV (v2 dIxAQ (rN 0) (hC (.str "edges")))) (rN 7))) (hC (.int 0)))))) (tgT [(tgN 8), (tgN 9)]) (gExpr (eMth 5 mAppend (aCons (hV (vTup (aCons (rN 8) (aCons (hH (e2 dAdd (rN 9) (hV (vIf (t2 dEqQ (hV (v2 dIxAQ (rN 4) (hC (.int 1)))) (hC (.str "mix"))) (vTup (aCons (hV (vTup (aCons (hV (v2 dIxAQ (rN 4) (hC (.int 0)))) (aCons (rN 6) aNil)))) aNil)) (vTup aNil))))) aNil)))) aNil)))))
    (gSeqF (gSubA 2 (hV (v2 dIxAQ (rN 4) (hC (.int 0)))) (vU (eB dSortedQ (aCons (rN 5) aNil))))
    (gSubA 3 (hV (v2 dIxAQ (rN 4) (hC (.int 0)))) (vIf (t2 (dInAQ false) (hV (v2 dIxAQ (rN 4) (hC (.int 1)))) (hV (vTup (aCons (hC (.str "map")) (aCons (hC (.str "stamp")) (aCons (hC (.str "mix")) aNil)))))) (vN 5) (vU (eLst (aCons (hV (vTup (aCons (hV (v2 dIxAQ (rN 4) (hC (.int 0)))) (aCons (hV (vTup aNil)) aNil)))) aNil)))))))))
    (gRet (hV (v2 dIxAQ (rN 2) (rN 1))))))
def m__law_ways : Env → Rz (Env × Rs) := runFF 10 g__law_ways
theorem d__law_ways (m : Mods P K mg) (D__law_ins : DefdX P w K mg base 1 "_law_ins" ["plain", "name"] m__law_ins) : DefdX P w K mg base 2 "_law_ways" ["plain", "name"] m__law_ways := by
  have sc := sc__law_ways
  unfold m__law_ways
  rw [runFF_eq]
  refine DefdX.of (k := 1) (N := ["plain", "name", "into", "out", "node", "found", "side", "at", "origin", "sides"]) (body := g__law_ways) m.d__law_ways sc__law_ways rfl (by decide) fun cdv A outer f s H E hr hgd => ?_
  exact (rss_consF (rs_par 2 3 rfl sc.nd (by decide) (rq_cons re_dk (rq_cons re_dk rq_nil)) rfl)
    (rss_consF (rs_for (passes_of rfl) rfl (ri_seq (rv_ixAQ hr.u64 (rh_name 0) (rh_c rv_str))) (rg_name (i := 4) sc.nd) (rss_consF (rs_set (i := 5) sc.nd (re_lst ra_nil))
    (rss_consF (rs_for (passes_of rfl) rfl (ri_enum (rv_of (re_callX [some false, some false] D__law_ins (hr.mono (j := 1) (by decide)) hgd (takes_of rfl rfl rfl rfl) (ra_cons (rh_name 0) (ra_cons (rh_rv (rv_ixAQ hr.u64 (rh_name 4) (rh_c rv_int))) ra_nil)))) m.b_enumerate) (rg_tup rfl (rgs_cons (rg_name (i := 6) sc.nd) (rgs_cons (rg_name (i := 7) sc.nd) rgs_nil))) (rss_one (rs_for (passes_of rfl) rfl (ri_seq (rv_ixAQ hr.u64 (rh_name 3) (rh_rv (rv_ixAQ hr.u64 (rh_rv (rv_ixAQ hr.u64 (rh_rv (rv_ixAQ hr.u64 (rh_name 0) (rh_c rv_str))) (rh_name 7))) (rh_c rv_int))))) (rg_tup rfl (rgs_cons (rg_name (i := 8) sc.nd) (rgs_cons (rg_name (i := 9) sc.nd) rgs_nil))) (rss_one (rs_expr (re_mth (i := 5) PySem.F.slot_list_append rfl mt_append serves_append (ra_cons (rh_rv (rv_tup (ra_cons (rh_name 8) (ra_cons (rh_re (re_add (rh_name 9) (rh_rv (rv_if (rt_eqQ hr.u64 (rh_rv (rv_ixAQ hr.u64 (rh_name 4) (rh_c rv_int))) (rh_c rv_str)) (rv_tup (ra_cons (rh_rv (rv_tup (ra_cons (rh_rv (rv_ixAQ hr.u64 (rh_name 4) (rh_c rv_int))) (ra_cons (rh_name 6) ra_nil)))) ra_nil)) (rv_tup ra_nil))))) ra_nil)))) ra_nil)))))))
    (rss_consF (rs_subA 2 hr.u64 (rv_of (re_callB (call_sortedD hr.u70) serves_sortedQ rfl m.b_sorted rfl (ra_cons (rh_name 5) ra_nil))) (rh_rv (rv_ixAQ hr.u64 (rh_name 4) (rh_c rv_int))))
    (rss_one (rs_subA 3 hr.u64 (rv_if (rt_inAQ hr.u65 (rh_rv (rv_ixAQ hr.u64 (rh_name 4) (rh_c rv_int))) (rh_rv (rv_tup (ra_cons (rh_c rv_str) (ra_cons (rh_c rv_str) (ra_cons (rh_c rv_str) ra_nil)))))) (rv_name 5) (rv_of (re_lst (ra_cons (rh_rv (rv_tup (ra_cons (rh_rv (rv_ixAQ hr.u64 (rh_name 4) (rh_c rv_int))) (ra_cons (rh_rv (rv_tup ra_nil)) ra_nil)))) ra_nil)))) (rh_rv (rv_ixAQ hr.u64 (rh_name 4) (rh_c rv_int)))))))))
    (rss_one (rs_ret (re_of (rv_ixAQ hr.u64 (rh_name 2) (rh_name 1)))))))
theorem sc__law_chain : FnScope ["many", "kind", "names", "nodes", "at", "name"] ["many", "kind"] (defScope (top 53)) := ⟨rfl, rfl, rfl, by decide +kernel, rfl, by decide +kernel, by decide +kernel⟩
def g__law_chain : Env → Rz (Env × Fl) := (gSeqF (gSet 2 (eLcF [4] (iRng dRng1 (aCons (rN 0) aNil)) (tgN 4) tYes (vU (e2 dAdd (hV (v2 dIxAQ (hC (.str "abcdefghijklmnopqrstuvwxyz")) (hH (e2 dAdd (hV (v2 dMul (hV (v2 dDiv (hH (eB dInt (aCons (rN 4) aNil))) (hC (.int 20)))) (hC (.int 9)))) (hV (v2 dMod (hH (eB dInt (aCons (rN 4) aNil))) (hC (.int 9)))))))) (hH (e2 dMulS (hV (v2 dIxAQ (hC (.str "abcdefghijklmnopqrst")) (hV (v2 dMod (hH (eB dInt (aCons (rN 4) aNil))) (hC (.int 20)))))) (hC (.int 7))))))))
    (gSeqF (gSet 3 (e2 dAdd (hH (e2 dAdd (hH (eLst (aCons (hV (vTup (aCons (hV (v2 dIxAQ (rN 2) (hC (.int 0)))) (aCons (hC (.str "source")) (aCons (hC (.int 1000)) aNil))))) aNil))) (hH (eLcF [5] (iSeq (vU (eSl (rN 2) (oSome (vC (.int 1))) (oSome (v1 dNeg (hC (.int 1))))))) (tgN 5) tYes (vTup (aCons (rN 5) (aCons (rN 1) aNil))))))) (hH (eLst (aCons (hV (vTup (aCons (hV (v2 dIxAQ (rN 2) (hV (v1 dNeg (hC (.int 1)))))) (aCons (hC (.str "board")) aNil)))) aNil)))))
    (gRet (hV (vTup (aCons (rN 3) (aCons (hH (eListZip (vN 2) (vU (eSl (rN 2) (oSome (vC (.int 1))) oNone)))) aNil)))))))
def m__law_chain : Env → Rz (Env × Rs) := runFF 6 g__law_chain
theorem d__law_chain (m : Mods P K mg) : DefdX P w K mg base 1 "_law_chain" ["many", "kind"] m__law_chain := by
  have sc := sc__law_chain
  unfold m__law_chain
  rw [runFF_eq]
  refine DefdX.of (k := 0) (N := ["many", "kind", "names", "nodes", "at", "name"]) (body := g__law_chain) m.d__law_chain sc__law_chain rfl (by decide) fun cdv A outer f s H E hr hgd => ?_
  exact (rss_consF (rs_setLcF (rs_setLc (i := 2) [("at", 4)] rfl sc.nd (ri_range1 rfl m.b_range (ra_cons (rh_name 0) ra_nil)) (blkOk_by (N := ["many", "kind", "names", "nodes", "at", "name"]) (sc := defScope (top 53)) (by decide +kernel)) (by decide) (fun _ _ _ _ _ => (rg_name (i := 4) sc.nd)) (fun _ _ _ _ _ => rts_nil) (fun _ _ _ _ _ => (rv_of (re_add (rh_rv (rv_ixAQ hr.u64 (rh_c rv_str) (rh_re (re_add (rh_rv (rv_mul (rh_rv (rv_div (rh_re (re_callT call_int1 serves_int rfl m.b_int rfl (ra_cons (rh_name 4) ra_nil))) (rh_c rv_int))) (rh_c rv_int))) (rh_rv (rv_mod (rh_re (re_callT call_int1 serves_int rfl m.b_int rfl (ra_cons (rh_name 4) ra_nil))) (rh_c rv_int))))))) (rh_re (re_mulS (rh_rv (rv_ixAQ hr.u64 (rh_c rv_str) (rh_rv (rv_mod (rh_re (re_callT call_int1 serves_int rfl m.b_int rfl (ra_cons (rh_name 4) ra_nil))) (rh_c rv_int))))) (rh_c rv_int)))))) rfl))
    (rss_consF (rs_set (i := 3) sc.nd (re_add (rh_re (re_add (rh_re (re_lst (ra_cons (rh_rv (rv_tup (ra_cons (rh_rv (rv_ixAQ hr.u64 (rh_name 2) (rh_c rv_int))) (ra_cons (rh_c rv_str) (ra_cons (rh_c rv_int) ra_nil))))) ra_nil))) (rh_re (re_lcF (re_lc [("name", 5)] rfl sc.nd (ri_seq (rv_of (re_slice (rh_name 2) (ro_some rv_int) (ro_some (rv_neg (rh_c rv_int)))))) (blkOk_by (N := ["many", "kind", "names", "nodes", "at", "name"]) (sc := defScope (top 53)) (by decide +kernel)) (by decide) (fun _ _ _ _ _ => (rg_name (i := 5) sc.nd)) (fun _ _ _ _ _ => rts_nil) (fun _ _ _ _ _ => (rv_tup (ra_cons (rh_name 5) (ra_cons (rh_name 1) ra_nil))))))))) (rh_re (re_lst (ra_cons (rh_rv (rv_tup (ra_cons (rh_rv (rv_ixAQ hr.u64 (rh_name 2) (rh_rv (rv_neg (rh_c rv_int))))) (ra_cons (rh_c rv_str) ra_nil)))) ra_nil)))))
    (rss_one (rs_ret (re_of (rv_tup (ra_cons (rh_name 3) (ra_cons (rh_re (re_listZip rfl (rv_name 2) (rv_of (re_slice (rh_name 2) (ro_some rv_int) ro_none)) m.b_list m.b_zip)) ra_nil))))))))
theorem sc__law_wide : FnScope ["many", "more", "nodes", "edges", "at"] ["many", "more"] (defScope (top 54)) := ⟨rfl, rfl, rfl, by decide +kernel, rfl, by decide +kernel, by decide +kernel⟩
def g__law_wide : Env → Rz (Env × Fl) := (gSeqF (gPar [2, 3] (qCons (eLst (aCons (hV (vTup (aCons (hC (.str "s")) (aCons (hC (.str "source")) (aCons (hC (.int 0)) aNil))))) aNil)) (qCons (eLst aNil) aNil)))
    (gSeqF (gFor (iRng dRng1 (aCons (rN 0) aNil)) (tgN 4) (gSeqF (gExpr (eMth 2 mAppend (aCons (hV (vTup (aCons (hH (e2 dAdd (hC (.str "x")) (hV (v2 dIxAQ (hC (.str "abcdefghijklmnopqrst")) (rN 4))))) (aCons (hC (.str "mix")) aNil)))) aNil)))
    (gExpr (eMth 3 mExtend (aCons (hH (e2 dMulS (hH (eLst (aCons (hV (vTup (aCons (hC (.str "s")) (aCons (hV (v2 dIxAQ (hV (v2 dIxAQ (rN 2) (hV (v1 dNeg (hC (.int 1)))))) (hC (.int 0)))) aNil)))) aNil))) (hC (.int 4)))) aNil)))))
    (gSeqF (gFor (iRng dRng1 (aCons (rN 0) aNil)) (tgN 4) (gSeqF (gExpr (eMth 2 mAppend (aCons (hV (vTup (aCons (hH (e2 dAdd (hC (.str "k")) (hV (v2 dIxAQ (hC (.str "abcdefghijklmnopqrst")) (rN 4))))) (aCons (hC (.str "book")) aNil)))) aNil)))
    (gExpr (eMth 3 mAppend (aCons (hV (vTup (aCons (hV (v2 dIxAQ (hV (v2 dIxAQ (rN 2) (hH (e2 dAdd (hC (.int 1)) (rN 4))))) (hC (.int 0)))) (aCons (hV (v2 dIxAQ (hV (v2 dIxAQ (rN 2) (hV (v1 dNeg (hC (.int 1)))))) (hC (.int 0)))) aNil)))) aNil)))))
    (gSeqF (gFor (iRng dRng1 (aCons (rN 1) aNil)) (tgN 4) (gSeqF (gExpr (eMth 2 mAppend (aCons (hV (vTup (aCons (hH (e2 dAdd (hC (.str "l")) (hV (v2 dIxAQ (hC (.str "abcdefghijklmnopqrst")) (rN 4))))) (aCons (hC (.str "book")) aNil)))) aNil)))
    (gExpr (eMth 3 mAppend (aCons (hV (vTup (aCons (hC (.str "s")) (aCons (hV (v2 dIxAQ (hV (v2 dIxAQ (rN 2) (hV (v1 dNeg (hC (.int 1)))))) (hC (.int 0)))) aNil)))) aNil)))))
    (gRet (hV (vTup (aCons (rN 2) (aCons (rN 3) aNil)))))))))
def m__law_wide : Env → Rz (Env × Rs) := runFF 5 g__law_wide
theorem d__law_wide (m : Mods P K mg) : DefdX P w K mg base 1 "_law_wide" ["many", "more"] m__law_wide := by
  have sc := sc__law_wide
  unfold m__law_wide
  rw [runFF_eq]
  refine DefdX.of (k := 0) (N := ["many", "more", "nodes", "edges", "at"]) (body := g__law_wide) m.d__law_wide sc__law_wide rfl (by decide) fun cdv A outer f s H E hr hgd => ?_
  exact (rss_consF (rs_par 2 3 rfl sc.nd (by decide) (rq_cons (re_lst (ra_cons (rh_rv (rv_tup (ra_cons (rh_c rv_str) (ra_cons (rh_c rv_str) (ra_cons (rh_c rv_int) ra_nil))))) ra_nil)) (rq_cons (re_lst ra_nil) rq_nil)) rfl)
    (rss_consF (rs_for (passes_of rfl) rfl (ri_range1 rfl m.b_range (ra_cons (rh_name 0) ra_nil)) (rg_name (i := 4) sc.nd) (rss_consF (rs_expr (re_mth (i := 2) PySem.F.slot_list_append rfl mt_append serves_append (ra_cons (rh_rv (rv_tup (ra_cons (rh_re (re_add (rh_c rv_str) (rh_rv (rv_ixAQ hr.u64 (rh_c rv_str) (rh_name 4))))) (ra_cons (rh_c rv_str) ra_nil)))) ra_nil)))
    (rss_one (rs_expr (re_mth (i := 3) PySem.F.slot_list_extend rfl mt_extend serves_extend (ra_cons (rh_re (re_mulS (rh_re (re_lst (ra_cons (rh_rv (rv_tup (ra_cons (rh_c rv_str) (ra_cons (rh_rv (rv_ixAQ hr.u64 (rh_rv (rv_ixAQ hr.u64 (rh_name 2) (rh_rv (rv_neg (rh_c rv_int))))) (rh_c rv_int))) ra_nil)))) ra_nil))) (rh_c rv_int))) ra_nil))))))
    (rss_consF (rs_for (passes_of rfl) rfl (ri_range1 rfl m.b_range (ra_cons (rh_name 0) ra_nil)) (rg_name (i := 4) sc.nd) (rss_consF (rs_expr (re_mth (i := 2) PySem.F.slot_list_append rfl mt_append serves_append (ra_cons (rh_rv (rv_tup (ra_cons (rh_re (re_add (rh_c rv_str) (rh_rv (rv_ixAQ hr.u64 (rh_c rv_str) (rh_name 4))))) (ra_cons (rh_c rv_str) ra_nil)))) ra_nil)))
    (rss_one (rs_expr (re_mth (i := 3) PySem.F.slot_list_append rfl mt_append serves_append (ra_cons (rh_rv (rv_tup (ra_cons (rh_rv (rv_ixAQ hr.u64 (rh_rv (rv_ixAQ hr.u64 (rh_name 2) (rh_re (re_add (rh_c rv_int) (rh_name 4))))) (rh_c rv_int))) (ra_cons (rh_rv (rv_ixAQ hr.u64 (rh_rv (rv_ixAQ hr.u64 (rh_name 2) (rh_rv (rv_neg (rh_c rv_int))))) (rh_c rv_int))) ra_nil)))) ra_nil))))))
    (rss_consF (rs_for (passes_of rfl) rfl (ri_range1 rfl m.b_range (ra_cons (rh_name 1) ra_nil)) (rg_name (i := 4) sc.nd) (rss_consF (rs_expr (re_mth (i := 2) PySem.F.slot_list_append rfl mt_append serves_append (ra_cons (rh_rv (rv_tup (ra_cons (rh_re (re_add (rh_c rv_str) (rh_rv (rv_ixAQ hr.u64 (rh_c rv_str) (rh_name 4))))) (ra_cons (rh_c rv_str) ra_nil)))) ra_nil)))
    (rss_one (rs_expr (re_mth (i := 3) PySem.F.slot_list_append rfl mt_append serves_append (ra_cons (rh_rv (rv_tup (ra_cons (rh_c rv_str) (ra_cons (rh_rv (rv_ixAQ hr.u64 (rh_rv (rv_ixAQ hr.u64 (rh_name 2) (rh_rv (rv_neg (rh_c rv_int))))) (rh_c rv_int))) ra_nil)))) ra_nil))))))
    (rss_one (rs_ret (re_of (rv_tup (ra_cons (rh_name 2) (ra_cons (rh_name 3) ra_nil))))))))))
theorem sc__law_doubled : FnScope ["pen", "sides", "nodes", "edges", "last", "at", "many", "name"] ["pen", "sides"] (defScope (top 55)) := ⟨rfl, rfl, rfl, by decide +kernel, rfl, by decide +kernel, by decide +kernel⟩
def g__law_doubled : Env → Rz (Env × Fl) := (gSeqF (gPar [2, 3, 4] (qCons (eLst (aCons (hV (vTup (aCons (hC (.str "s")) (aCons (hC (.str "source")) (aCons (hC (.int 0)) aNil))))) aNil)) (qCons (eLst aNil) (qCons (hV (vC (.str "s"))) aNil))))
    (gSeqF (gFor (iEnu (vN 1)) (tgT [(tgN 5), (tgN 6)]) (gSeqF (gSet 7 (e2 dAdd (hC (.str "m")) (hV (v2 dIxAQ (hC (.str "abcdefgh")) (rN 5)))))
    (gSeqF (gExpr (eMth 2 mAppend (aCons (hV (vTup (aCons (rN 7) (aCons (hC (.str "mix")) aNil)))) aNil)))
    (gSeqF (gExpr (eMth 3 mExtend (aCons (hH (e2 dMulS (hH (eLst (aCons (hV (vTup (aCons (rN 4) (aCons (rN 7) aNil)))) aNil))) (rN 6))) aNil)))
    (gSet 4 (rN 7))))))
    (gRet (hV (vTup (aCons (hH (e2 dAdd (rN 2) (hH (eLst (aCons (hV (vTup (aCons (hC (.str "k")) (aCons (hH (eCallX 2 m__law_pick [some true, some false] (aCons (rN 0) (aCons (hH (eLst (aCons (hC (.str "book")) (aCons (hC (.str "board")) (aCons (hC (.str "bell")) aNil))))) aNil)))) aNil)))) aNil))))) (aCons (hH (e2 dAdd (rN 3) (hH (eLst (aCons (hV (vTup (aCons (rN 4) (aCons (hC (.str "k")) aNil)))) aNil))))) aNil)))))))
def m__law_doubled : Env → Rz (Env × Rs) := runFF 8 g__law_doubled
theorem d__law_doubled (m : Mods P K mg) (D__law_pick : DefdX P w K mg base 2 "_law_pick" ["pen", "some"] m__law_pick) : DefdX P w K mg base 3 "_law_doubled" ["pen", "sides"] m__law_doubled := by
  have sc := sc__law_doubled
  unfold m__law_doubled
  rw [runFF_eq]
  refine DefdX.of (k := 2) (N := ["pen", "sides", "nodes", "edges", "last", "at", "many", "name"]) (body := g__law_doubled) m.d__law_doubled sc__law_doubled rfl (by decide) fun cdv A outer f s H E hr hgd => ?_
  exact (rss_consF (rs_par3 2 3 4 rfl sc.nd (by decide) (by decide) (by decide) (rq_cons (re_lst (ra_cons (rh_rv (rv_tup (ra_cons (rh_c rv_str) (ra_cons (rh_c rv_str) (ra_cons (rh_c rv_int) ra_nil))))) ra_nil)) (rq_cons (re_lst ra_nil) (rq_cons (re_of rv_str) rq_nil))) rfl)
    (rss_consF (rs_for (passes_of rfl) rfl (ri_enum (rv_name 1) m.b_enumerate) (rg_tup rfl (rgs_cons (rg_name (i := 5) sc.nd) (rgs_cons (rg_name (i := 6) sc.nd) rgs_nil))) (rss_consF (rs_set (i := 7) sc.nd (re_add (rh_c rv_str) (rh_rv (rv_ixAQ hr.u64 (rh_c rv_str) (rh_name 5)))))
    (rss_consF (rs_expr (re_mth (i := 2) PySem.F.slot_list_append rfl mt_append serves_append (ra_cons (rh_rv (rv_tup (ra_cons (rh_name 7) (ra_cons (rh_c rv_str) ra_nil)))) ra_nil)))
    (rss_consF (rs_expr (re_mth (i := 3) PySem.F.slot_list_extend rfl mt_extend serves_extend (ra_cons (rh_re (re_mulS (rh_re (re_lst (ra_cons (rh_rv (rv_tup (ra_cons (rh_name 4) (ra_cons (rh_name 7) ra_nil)))) ra_nil))) (rh_name 6))) ra_nil)))
    (rss_one (rs_set (i := 4) sc.nd (re_name 7)))))))
    (rss_one (rs_ret (re_of (rv_tup (ra_cons (rh_re (re_add (rh_name 2) (rh_re (re_lst (ra_cons (rh_rv (rv_tup (ra_cons (rh_c rv_str) (ra_cons (rh_re (re_callX [some true, some false] D__law_pick (hr.mono (j := 2) (by decide)) hgd (takes_of rfl rfl rfl rfl) (ra_cons (rh_name 0) (ra_cons (rh_re (re_lst (ra_cons (rh_c rv_str) (ra_cons (rh_c rv_str) (ra_cons (rh_c rv_str) ra_nil))))) ra_nil)))) ra_nil)))) ra_nil))))) (ra_cons (rh_re (re_add (rh_name 3) (rh_re (re_lst (ra_cons (rh_rv (rv_tup (ra_cons (rh_name 4) (ra_cons (rh_c rv_str) ra_nil)))) ra_nil))))) ra_nil))))))))
theorem sc__law_memories : FnScope ["kinds", "nodes", "edges", "last", "at", "kind", "name", "its"] ["kinds"] (defScope (top 56)) := ⟨rfl, rfl, rfl, by decide +kernel, rfl, by decide +kernel, by decide +kernel⟩
def g__law_memories : Env → Rz (Env × Fl) := (gSeqF (gPar [1, 2, 3] (qCons (eLst (aCons (hV (vTup (aCons (hC (.str "s")) (aCons (hC (.str "source")) (aCons (hC (.int 3)) aNil))))) aNil)) (qCons (eLst aNil) (qCons (hV (vC (.str "s"))) aNil))))
    (gSeqF (gFor (iEnu (vN 0)) (tgT [(tgN 4), (tgN 5)]) (gFor (iSeq (vTup (aCons (hV (vTup (aCons (hH (e2 dAdd (hC (.str "n")) (hV (v2 dIxAQ (hC (.str "abcdefgh")) (rN 4))))) (aCons (rN 5) aNil)))) (aCons (hV (vTup (aCons (hH (e2 dAdd (hC (.str "o")) (hV (v2 dIxAQ (hC (.str "abcdefgh")) (rN 4))))) (aCons (hV (vTup (aCons (hC (.str "map")) aNil))) aNil)))) aNil)))) (tgT [(tgN 6), (tgN 7)]) (gSeqF (gExpr (eMth 1 mAppend (aCons (hH (e2 dAdd (hV (vTup (aCons (rN 6) aNil))) (rN 7))) aNil)))
    (gSeqF (gExpr (eMth 2 mAppend (aCons (hV (vTup (aCons (rN 3) (aCons (rN 6) aNil)))) aNil)))
    (gSet 3 (rN 6))))))
    (gRet (hV (vTup (aCons (hH (e2 dAdd (rN 1) (hH (eLst (aCons (hV (vTup (aCons (hC (.str "k")) (aCons (hC (.str "book")) aNil)))) aNil))))) (aCons (hH (e2 dAdd (rN 2) (hH (eLst (aCons (hV (vTup (aCons (rN 3) (aCons (hC (.str "k")) aNil)))) aNil))))) aNil)))))))
def m__law_memories : Env → Rz (Env × Rs) := runFF 8 g__law_memories
theorem d__law_memories (m : Mods P K mg) : DefdX P w K mg base 1 "_law_memories" ["kinds"] m__law_memories := by
  have sc := sc__law_memories
  unfold m__law_memories
  rw [runFF_eq]
  refine DefdX.of (k := 0) (N := ["kinds", "nodes", "edges", "last", "at", "kind", "name", "its"]) (body := g__law_memories) m.d__law_memories sc__law_memories rfl (by decide) fun cdv A outer f s H E hr hgd => ?_
  exact (rss_consF (rs_par3 1 2 3 rfl sc.nd (by decide) (by decide) (by decide) (rq_cons (re_lst (ra_cons (rh_rv (rv_tup (ra_cons (rh_c rv_str) (ra_cons (rh_c rv_str) (ra_cons (rh_c rv_int) ra_nil))))) ra_nil)) (rq_cons (re_lst ra_nil) (rq_cons (re_of rv_str) rq_nil))) rfl)
    (rss_consF (rs_for (passes_of rfl) rfl (ri_enum (rv_name 0) m.b_enumerate) (rg_tup rfl (rgs_cons (rg_name (i := 4) sc.nd) (rgs_cons (rg_name (i := 5) sc.nd) rgs_nil))) (rss_one (rs_for (passes_of rfl) rfl (ri_seq (rv_tup (ra_cons (rh_rv (rv_tup (ra_cons (rh_re (re_add (rh_c rv_str) (rh_rv (rv_ixAQ hr.u64 (rh_c rv_str) (rh_name 4))))) (ra_cons (rh_name 5) ra_nil)))) (ra_cons (rh_rv (rv_tup (ra_cons (rh_re (re_add (rh_c rv_str) (rh_rv (rv_ixAQ hr.u64 (rh_c rv_str) (rh_name 4))))) (ra_cons (rh_rv (rv_tup (ra_cons (rh_c rv_str) ra_nil))) ra_nil)))) ra_nil)))) (rg_tup rfl (rgs_cons (rg_name (i := 6) sc.nd) (rgs_cons (rg_name (i := 7) sc.nd) rgs_nil))) (rss_consF (rs_expr (re_mth (i := 1) PySem.F.slot_list_append rfl mt_append serves_append (ra_cons (rh_re (re_add (rh_rv (rv_tup (ra_cons (rh_name 6) ra_nil))) (rh_name 7))) ra_nil)))
    (rss_consF (rs_expr (re_mth (i := 2) PySem.F.slot_list_append rfl mt_append serves_append (ra_cons (rh_rv (rv_tup (ra_cons (rh_name 3) (ra_cons (rh_name 6) ra_nil)))) ra_nil)))
    (rss_one (rs_set (i := 3) sc.nd (re_name 6))))))))
    (rss_one (rs_ret (re_of (rv_tup (ra_cons (rh_re (re_add (rh_name 1) (rh_re (re_lst (ra_cons (rh_rv (rv_tup (ra_cons (rh_c rv_str) (ra_cons (rh_c rv_str) ra_nil)))) ra_nil))))) (ra_cons (rh_re (re_add (rh_name 2) (rh_re (re_lst (ra_cons (rh_rv (rv_tup (ra_cons (rh_name 3) (ra_cons (rh_c rv_str) ra_nil)))) ra_nil))))) ra_nil))))))))
theorem sc_law : FnScope ["script", "pen", "kind", "nodes", "edges", "plan", "sides", "plain", "more", "far", "five", "heard", "fold", "window", "kinds", "ways"] ["script"] (defScope (top 57)) := ⟨rfl, rfl, rfl, by decide +kernel, rfl, by decide +kernel, by decide +kernel⟩
def s_law_0 : Env → Rz (Env × Fl) := (gSet 1 (eCallX 1 m__law_pen [some false] (aCons (rN 0) aNil)))
def s_law_1 : Env → Rz (Env × Fl) := (gSet 2 (eCallX 2 m__law_pick [some true, some false] (aCons (rN 1) (aCons (hH (eLst (aCons (hC (.str "map")) (aCons (hC (.str "stamp")) aNil)))) aNil))))
def s_law_2 : Env → Rz (Env × Fl) := (asideS 1 (gAsg (tgT [(tgN 3), (tgN 4)]) (vU (eCallX 2 m__law_chain [some false, some false] (aCons (hC (.int 40)) (aCons (rN 2) aNil))))))
def s_law_3 : Env → Rz (Env × Fl) := (asideS 1 (gSet 5 (eMakeX 3 "Plan" m_Plan___init__ [some false, some false] (aCons (rN 3) (aCons (rN 4) aNil)))))
def s_law_4 : Env → Rz (Env × Fl) := (asideS 1 (gIf (t2 dNeQ (hH (eLst (aCons (hH (eB dLen (aCons (hV (v1 (dFldQ "Plan" "names") (rN 5))) aNil))) (aCons (hH (eB dLen (aCons (hV (v1 (dFldQ "Plan" "inner") (rN 5))) aNil))) (aCons (hH (eMethX 2 "Plan" "settings" m_Plan_settings [some false] (rN 5) (aCons (hV (v2 dIxAQ (hV (v2 dIxAQ (rN 3) (hC (.int 0)))) (hC (.int 0)))) aNil))) (aCons (hH (eMethX 2 "Plan" "ways_to" m_Plan_ways_to [some false] (rN 5) (aCons (hV (v2 dIxAQ (hV (v2 dIxAQ (rN 3) (hV (v1 dNeg (hC (.int 1)))))) (hC (.int 0)))) aNil))) aNil)))))) (hH (eLst (aCons (hC (.int 40)) (aCons (hC (.int 38)) (aCons (hV (vTup (aCons (hC (.int 1000)) aNil))) (aCons (hV (vTup (aCons (hV (vTup (aCons (hV (v2 dIxAQ (hV (v2 dIxAQ (rN 3) (hC (.int 0)))) (hC (.int 0)))) (aCons (hV (vTup aNil)) aNil)))) aNil))) aNil))))))) (gRet (hV (vC (.bl false)))) gNext))
def s_law_5 : Env → Rz (Env × Fl) := (asideS 1 (gIf (t2 dNeQ (hV (vHeard 5 heardEs g__law_heard (vU (eMakeX 3 "Plan" m_Plan___init__ [some false, some false] (aCons (hV (v2 dIxAQ (hH (eCallX 2 m__law_chain [some false, some false] (aCons (hC (.int 41)) (aCons (rN 2) aNil)))) (hC (.int 0)))) (aCons (rN 4) aNil)))))) (hV (vTup (aCons (hC (.str "value")) (aCons (hC (.str "nodes")) aNil))))) (gRet (hV (vC (.bl false)))) gNext))
def s_law_6 : Env → Rz (Env × Fl) := (asideS 1 (gAsg (tgT [(tgN 3), (tgN 4)]) (vU (eCallX 2 m__law_wide [some false, some false] (aCons (hC (.int 16)) (aCons (hC (.int 0)) aNil))))))
def s_law_7 : Env → Rz (Env × Fl) := (asideS 1 (gIf (tOr (t2 dNeQ (hH (eB dLen (aCons (hV (v1 (dFldQ "Plan" "edges") (hH (eMakeX 3 "Plan" m_Plan___init__ [some false, some false] (aCons (rN 3) (aCons (rN 4) aNil)))))) aNil))) (hC (.int 80))) (t2 dNeQ (hV (vHeard 5 heardEs g__law_heard (vU (eMakeX 3 "Plan" m_Plan___init__ [some false, some false] (aCons (hV (v2 dIxAQ (hH (eCallX 2 m__law_wide [some false, some false] (aCons (hC (.int 16)) (aCons (hC (.int 1)) aNil)))) (hC (.int 0)))) (aCons (hV (v2 dIxAQ (hH (eCallX 2 m__law_wide [some false, some false] (aCons (hC (.int 16)) (aCons (hC (.int 1)) aNil)))) (hC (.int 1)))) aNil)))))) (hV (vTup (aCons (hC (.str "value")) (aCons (hC (.str "edges")) aNil)))))) (gRet (hV (vC (.bl false)))) gNext))
def s_law_8 : Env → Rz (Env × Fl) := (gSet 6 (eCallX 2 m__law_pick [some true, some false] (aCons (rN 1) (aCons (hH (eLst (aCons (hH (eLst (aCons (hC (.int 4)) (aCons (hC (.int 4)) aNil)))) (aCons (hH (eLst (aCons (hC (.int 2)) (aCons (hC (.int 2)) (aCons (hC (.int 2)) (aCons (hC (.int 2)) aNil)))))) (aCons (hH (eLst (aCons (hC (.int 2)) (aCons (hC (.int 4)) (aCons (hC (.int 2)) aNil))))) (aCons (hH (eLst (aCons (hC (.int 4)) (aCons (hC (.int 2)) (aCons (hC (.int 2)) aNil))))) aNil)))))) aNil))))
def s_law_9 : Env → Rz (Env × Fl) := (gAsg (tgT [(tgN 3), (tgN 4)]) (vU (eCallX 2 m__law_doubled [some true, some false] (aCons (rN 1) (aCons (rN 6) aNil)))))
def s_law_10 : Env → Rz (Env × Fl) := (asideS 1 (gSet 7 (eDisp [(.inr "nodes", (vN 3)), (.inr "edges", (vN 4))])))
def s_law_11 : Env → Rz (Env × Fl) := (asideS 1 (gIf (tOr (t2 dNeQ (hH (eB dLen (aCons (hH (eMethX 2 "Plan" "ways_to" m_Plan_ways_to [some false] (hH (eMakeX 3 "Plan" m_Plan___init__ [some false, some false] (aCons (rN 3) (aCons (rN 4) aNil)))) (aCons (hC (.str "k")) aNil))) aNil))) (hC (.int 16))) (t2 dNeQ (hH (eMethX 2 "Plan" "ways_to" m_Plan_ways_to [some false] (hH (eMakeX 3 "Plan" m_Plan___init__ [some false, some false] (aCons (rN 3) (aCons (rN 4) aNil)))) (aCons (hC (.str "k")) aNil))) (hH (eB dTuple (aCons (hH (eCallX 2 m__law_ways [some false, some false] (aCons (rN 7) (aCons (hC (.str "k")) aNil)))) aNil))))) (gRet (hV (vC (.bl false)))) gNext))
def s_law_12 : Env → Rz (Env × Fl) := (gSet 8 (eCallX 2 m__law_pick [some true, some false] (aCons (rN 1) (aCons (hH (eLst (aCons (hH (eLst (aCons (hC (.int 3)) (aCons (hC (.int 3)) (aCons (hC (.int 2)) aNil))))) (aCons (hH (eLst (aCons (hC (.int 2)) (aCons (hC (.int 3)) (aCons (hC (.int 3)) aNil))))) (aCons (hH (eLst (aCons (hC (.int 4)) (aCons (hC (.int 4)) (aCons (hC (.int 2)) aNil))))) (aCons (hH (eLst (aCons (hC (.int 2)) (aCons (hC (.int 2)) (aCons (hC (.int 2)) (aCons (hC (.int 2)) (aCons (hC (.int 2)) aNil))))))) (aCons (hH (eLst (aCons (hC (.int 3)) (aCons (hC (.int 2)) (aCons (hC (.int 3)) aNil))))) aNil))))))) aNil))))
def s_law_13 : Env → Rz (Env × Fl) := (gSet 9 (eCallX 2 m__law_doubled [some true, some false] (aCons (rN 1) (aCons (rN 8) aNil))))
def s_law_14 : Env → Rz (Env × Fl) := (asideS 1 (gSet 10 (hV (vTup (aCons (hH (eLst (aCons (hV (vTup (aCons (hC (.str "s")) (aCons (hC (.str "source")) (aCons (hC (.int 0)) aNil))))) (aCons (hV (vTup (aCons (hC (.str "x")) (aCons (hC (.str "mix")) aNil)))) (aCons (hV (vTup (aCons (hC (.str "k")) (aCons (hC (.str "book")) aNil)))) aNil))))) (aCons (hH (e2 dAdd (hH (e2 dMulS (hH (eLst (aCons (hV (vTup (aCons (hC (.str "s")) (aCons (hC (.str "x")) aNil)))) aNil))) (hC (.int 5)))) (hH (eLst (aCons (hV (vTup (aCons (hC (.str "x")) (aCons (hC (.str "k")) aNil)))) aNil))))) aNil))))))
def s_law_15 : Env → Rz (Env × Fl) := (asideS 1 (gSet 11 (eLst (aCons (hV (vHeard 5 heardEs g__law_heard (vU (eMakeX 3 "Plan" m_Plan___init__ [some false, some false] (aCons (hV (v2 dIxAQ (rN 9) (hC (.int 0)))) (aCons (hV (v2 dIxAQ (rN 9) (hC (.int 1)))) aNil)))))) (aCons (hV (vHeard 5 heardEs g__law_heard (vU (eMakeX 3 "Plan" m_Plan___init__ [some false, some false] (aCons (hV (v2 dIxAQ (rN 10) (hC (.int 0)))) (aCons (hV (v2 dIxAQ (rN 10) (hC (.int 1)))) aNil)))))) aNil)))))
def s_law_16 : Env → Rz (Env × Fl) := (asideS 1 (gIf (t2 dNeQ (rN 11) (hH (eLst (aCons (hV (vTup (aCons (hC (.str "many")) (aCons (hC (.str "ways")) (aCons (hC (.int 16)) aNil))))) (aCons (hV (vTup (aCons (hC (.str "misfit")) (aCons (hC (.str "ins")) aNil)))) aNil))))) (gRet (hV (vC (.bl false)))) gNext))
def s_law_17 : Env → Rz (Env × Fl) := (asideS 1 (gAsg (tgT [(tgN 12), (tgN 13)]) (vTup (aCons (hV (vTup (aCons (hC (.str "fold")) aNil))) (aCons (hV (vTup (aCons (hC (.str "window")) (aCons (hC (.int 1000)) (aCons (hC (.int 1000)) aNil))))) aNil)))))
def s_law_18 : Env → Rz (Env × Fl) := (gFor (iSeq (vTup (aCons (hH (eLst (aCons (rN 12) (aCons (rN 12) aNil)))) (aCons (hH (eLst (aCons (rN 13) (aCons (rN 12) aNil)))) (aCons (hH (eLst (aCons (rN 13) aNil))) (aCons (hH (eLst (aCons (rN 12) aNil))) aNil)))))) (tgN 14) (gSeq (asideS 1 (gAsg (tgT [(tgN 3), (tgN 4)]) (vU (eCallX 1 m__law_memories [some false] (aCons (rN 14) aNil)))))
    (asideS 1 (gIf (t2 dNeQ (hH (eB dLen (aCons (hV (v1 (dFldQ "Plan" "inner") (hH (eMakeX 3 "Plan" m_Plan___init__ [some false, some false] (aCons (rN 3) (aCons (rN 4) aNil)))))) aNil))) (hV (v2 dMul (hC (.int 2)) (hH (eB dLen (aCons (rN 14) aNil)))))) (gRet (hV (vC (.bl false)))) gNext))))
def s_law_19 : Env → Rz (Env × Fl) := (gSet 14 (eCallX 2 m__law_pick [some true, some false] (aCons (rN 1) (aCons (hH (eLst (aCons (hH (eLst (aCons (rN 12) (aCons (rN 12) (aCons (rN 12) aNil))))) (aCons (hH (eLst (aCons (rN 13) (aCons (rN 12) (aCons (rN 12) aNil))))) (aCons (hH (eLst (aCons (rN 12) (aCons (rN 12) (aCons (rN 12) (aCons (rN 12) aNil)))))) aNil))))) aNil))))
def s_law_20 : Env → Rz (Env × Fl) := (asideS 1 (gAsg (tgT [(tgN 3), (tgN 4)]) (vU (eCallX 1 m__law_memories [some false] (aCons (rN 14) aNil)))))
def s_law_21 : Env → Rz (Env × Fl) := (asideS 1 (gSet 15 (hV (vTup (aCons (hH (eLst (aCons (hV (vTup (aCons (hC (.str "s")) (aCons (hC (.str "source")) (aCons (hC (.int 0)) aNil))))) (aCons (hV (vTup (aCons (hC (.str "x")) (aCons (hC (.str "mix")) aNil)))) (aCons (hV (vTup (aCons (hC (.str "f")) (aCons (hC (.str "fold")) aNil)))) (aCons (hV (vTup (aCons (hC (.str "y")) (aCons (hC (.str "mix")) aNil)))) (aCons (hV (vTup (aCons (hC (.str "z")) (aCons (hC (.str "mix")) aNil)))) (aCons (hV (vTup (aCons (hC (.str "k")) (aCons (hC (.str "book")) aNil)))) aNil)))))))) (aCons (hH (e2 dAdd (hH (e2 dAdd (hH (e2 dAdd (hH (e2 dAdd (hH (e2 dMulS (hH (eLst (aCons (hV (vTup (aCons (hC (.str "s")) (aCons (hC (.str "x")) aNil)))) aNil))) (hC (.int 4)))) (hH (eLst (aCons (hV (vTup (aCons (hC (.str "x")) (aCons (hC (.str "f")) aNil)))) aNil))))) (hH (e2 dMulS (hH (eLst (aCons (hV (vTup (aCons (hC (.str "f")) (aCons (hC (.str "y")) aNil)))) aNil))) (hC (.int 4)))))) (hH (e2 dMulS (hH (eLst (aCons (hV (vTup (aCons (hC (.str "y")) (aCons (hC (.str "z")) aNil)))) aNil))) (hC (.int 4)))))) (hH (eLst (aCons (hV (vTup (aCons (hC (.str "z")) (aCons (hC (.str "k")) aNil)))) aNil))))) aNil))))))
def s_law_22 : Env → Rz (Env × Fl) := (asideS 1 (gRet (hV (vAnd (v2 (dB dEqQ) (hV (vHeard 5 heardEs g__law_heard (vU (eMakeX 3 "Plan" m_Plan___init__ [some false, some false] (aCons (rN 3) (aCons (rN 4) aNil)))))) (hV (vTup (aCons (hC (.str "many")) (aCons (hC (.str "folds")) (aCons (hC (.int 2)) aNil)))))) (v2 (dB dEqQ) (hH (eB dLen (aCons (hH (eMethX 2 "Plan" "ways_to" m_Plan_ways_to [some false] (hH (eMakeX 3 "Plan" m_Plan___init__ [some false, some false] (aCons (hV (v2 dIxAQ (rN 15) (hC (.int 0)))) (aCons (hV (v2 dIxAQ (rN 15) (hC (.int 1)))) aNil)))) (aCons (hC (.str "k")) aNil))) aNil))) (hC (.int 16)))))))
def g_law : Env → Rz (Env × Fl) := (gSeqW [0] s_law_0 (gSeq s_law_1 (gSeq s_law_2 (gSeq s_law_3 (gSeq s_law_4 (gSeqW [2, 3, 4, 5] s_law_5 (gSeq s_law_6 (gSeqW [3, 4] s_law_7 (gSeq s_law_8 (gSeq s_law_9 (gSeq s_law_10 (gSeqW [3, 4, 6, 7] s_law_11 (gSeq s_law_12 (gSeq s_law_13 (gSeq s_law_14 (gSeq s_law_15 (gSeqW [8, 9, 10, 11] s_law_16 (gSeq s_law_17 (gSeqW [3, 4, 14] s_law_18 (gSeq s_law_19 (gSeq s_law_20 (gSeq s_law_21 s_law_22))))))))))))))))))))))
def m_law : Env → Rz (Env × Rs) := runF 16 g_law
theorem d_law (m : Mods P K mg) {c : Addr} (LT : TabL base mg (.ref c) ("law" ++ ".<locals>." ++ "<lambda>")) (Lw : LawC K mg "law" (top 57) c) (D_Plan___init__ : MakeX P w K mg base 5 "Plan" ["self", "nodes", "edges"] m_Plan___init__) (D_Plan_settings : MethX P w K mg base 2 "Plan" "settings" ["self", "name"] m_Plan_settings) (D_Plan_ways_to : MethX P w K mg base 2 "Plan" "ways_to" ["self", "name"] m_Plan_ways_to) (D__law_pen : DefdX P w K mg base 1 "_law_pen" ["script"] m__law_pen) (D__law_pick : DefdX P w K mg base 2 "_law_pick" ["pen", "some"] m__law_pick) (D__law_ways : DefdX P w K mg base 2 "_law_ways" ["plain", "name"] m__law_ways) (D__law_chain : DefdX P w K mg base 1 "_law_chain" ["many", "kind"] m__law_chain) (D__law_wide : DefdX P w K mg base 1 "_law_wide" ["many", "more"] m__law_wide) (D__law_doubled : DefdX P w K mg base 3 "_law_doubled" ["pen", "sides"] m__law_doubled) (D__law_memories : DefdX P w K mg base 1 "_law_memories" ["kinds"] m__law_memories) : ∀ (f : Addr) (oc : Value) (od : Option Addr) (kV doc pm ct : Value) (an : Option Addr) (osl : Array (Option Value)), K.lookup f = some ⟨oc, od, .func (PySem.W.fnOf "law" "law" (defArgs (top 57)) (defBody (top 57)) (defScope (top 57)) .none kV doc pm an (.ref c) ct), osl⟩ → PySem.W.codeIn K (.ref c) "law" = true →
      FnG P w K mg base CX0 9 f (PySem.W.fnOf "law" "law" (defArgs (top 57)) (defBody (top 57)) (defScope (top 57)) .none kV doc pm an (.ref c) ct) ["script"] (spN 1 ⟨K, mg⟩ fun a => noX (m_law a)) := by
  have sc := sc_law
  unfold m_law
  refine law_of (k := 8) (N := ["script", "pen", "kind", "nodes", "edges", "plan", "sides", "plain", "more", "far", "five", "heard", "fold", "window", "kinds", "ways"]) (body := g_law) Lw sc_law (by decide) fun A outer f s H E hr hgd => ?_
  exact (rss_consW [0] (rs_set (i := 1) sc.nd (re_callX [some false] D__law_pen (hr.mono (j := 1) (by decide)) hgd takes0 (ra_cons (rh_name 0) ra_nil)))
    (rss_cons (rs_set (i := 2) sc.nd (re_callX [some true, some false] D__law_pick (hr.mono (j := 2) (by decide)) hgd takes0 (ra_cons (rh_name 1) (ra_cons (rh_re (re_lst (ra_cons (rh_c rv_str) (ra_cons (rh_c rv_str) ra_nil)))) ra_nil))))
    (rss_cons (rs_aside 1 (rsf_asg (rv_of (re_callX [some false, some false] D__law_chain (hr.mono (j := 1) (by decide)) hgd takes0 (ra_cons (rh_c rv_int) (ra_cons (rh_name 2) ra_nil)))) (rg_tup rfl (rgs_cons (rg_name (i := 3) sc.nd) (rgs_cons (rg_name (i := 4) sc.nd) rgs_nil)))))
    (rss_cons (rs_aside 1 (rsf_set (i := 5) sc.nd (re_makeX [some false, some false] D_Plan___init__ (hr.mono (j := 6) (by decide)) hgd takes0 (ra_cons (rh_name 3) (ra_cons (rh_name 4) ra_nil)))))
    (rss_cons (rs_aside (is := []) 1 (rsf_if (rt_neQ hr.u64 (rh_re (re_lst (ra_cons (rh_re (re_callB call_len serves_len rfl m.b_len rfl (ra_cons (rh_rv (rv_fldQ m.cls (rh_name 5))) ra_nil))) (ra_cons (rh_re (re_callB call_len serves_len rfl m.b_len rfl (ra_cons (rh_rv (rv_fldQ m.cls (rh_name 5))) ra_nil))) (ra_cons (rh_re (re_methX [some false] D_Plan_settings (hr.mono (j := 2) (by decide)) hgd takes0 (rh_name 5) (ra_cons (rh_rv (rv_ixAQ hr.u64 (rh_rv (rv_ixAQ hr.u64 (rh_name 3) (rh_c rv_int))) (rh_c rv_int))) ra_nil))) (ra_cons (rh_re (re_methX [some false] D_Plan_ways_to (hr.mono (j := 2) (by decide)) hgd takes0 (rh_name 5) (ra_cons (rh_rv (rv_ixAQ hr.u64 (rh_rv (rv_ixAQ hr.u64 (rh_name 3) (rh_rv (rv_neg (rh_c rv_int))))) (rh_c rv_int))) ra_nil))) ra_nil)))))) (rh_re (re_lst (ra_cons (rh_c rv_int) (ra_cons (rh_c rv_int) (ra_cons (rh_rv (rv_tup (ra_cons (rh_c rv_int) ra_nil))) (ra_cons (rh_rv (rv_tup (ra_cons (rh_rv (rv_tup (ra_cons (rh_rv (rv_ixAQ hr.u64 (rh_rv (rv_ixAQ hr.u64 (rh_name 3) (rh_c rv_int))) (rh_c rv_int))) (ra_cons (rh_rv (rv_tup ra_nil)) ra_nil)))) ra_nil))) ra_nil))))))) (rssf_one (rsf_ret (re_of rv_bl))) rssf_nil))
    (rss_consW [2, 3, 4, 5] (rs_aside (is := []) 1 (rsf_if (rt_neQ hr.u64 (rh_rv (rv_hd (k := 6) (ns := []) m LT hgd hr (Lam.names_by (N := ["script", "pen", "kind", "nodes", "edges", "plan", "sides", "plain", "more", "far", "five", "heard", "fold", "window", "kinds", "ways"]) (sc := defScope (top 57)) (by decide +kernel)) (.of0 rfl fun _ _ _ _ _ => rfl) (fun A outer s H E f c' hr hgd => (rv_of (re_makeX [some false, some false] D_Plan___init__ (hr.mono (j := 6) (by decide)) hgd (takes_of rfl rfl rfl rfl) (ra_cons (rh_rv (rv_ixAQ hr.u64 (rh_re (re_callX [some false, some false] D__law_chain (hr.mono (j := 1) (by decide)) hgd (takes_of rfl rfl rfl rfl) (ra_cons (rh_c rv_int) (ra_cons (rh_name 2) ra_nil)))) (rh_c rv_int))) (ra_cons (rh_name 4) ra_nil))))))) (rh_rv (rv_tup (ra_cons (rh_c rv_str) (ra_cons (rh_c rv_str) ra_nil))))) (rssf_one (rsf_ret (re_of rv_bl))) rssf_nil))
    (rss_cons (rs_aside 1 (rsf_asg (rv_of (re_callX [some false, some false] D__law_wide (hr.mono (j := 1) (by decide)) hgd takes0 (ra_cons (rh_c rv_int) (ra_cons (rh_c rv_int) ra_nil)))) (rg_tup rfl (rgs_cons (rg_name (i := 3) sc.nd) (rgs_cons (rg_name (i := 4) sc.nd) rgs_nil)))))
    (rss_consW [3, 4] (rs_aside (is := []) 1 (rsf_if (rt_w (rw_or (rt_neQ hr.u64 (rh_re (re_callB call_len serves_len rfl m.b_len rfl (ra_cons (rh_rv (rv_fldQ m.cls (rh_re (re_makeX [some false, some false] D_Plan___init__ (hr.mono (j := 6) (by decide)) hgd takes0 (ra_cons (rh_name 3) (ra_cons (rh_name 4) ra_nil)))))) ra_nil))) (rh_c rv_int)) (rw_or1 (rt_neQ hr.u64 (rh_rv (rv_hd (k := 6) (ns := []) m LT hgd hr (Lam.names_by (N := ["script", "pen", "kind", "nodes", "edges", "plan", "sides", "plain", "more", "far", "five", "heard", "fold", "window", "kinds", "ways"]) (sc := defScope (top 57)) (by decide +kernel)) (.of0 rfl fun _ _ _ _ _ => rfl) (fun A outer s H E f c' hr hgd => (rv_of (re_makeX [some false, some false] D_Plan___init__ (hr.mono (j := 6) (by decide)) hgd (takes_of rfl rfl rfl rfl) (ra_cons (rh_rv (rv_ixAQ hr.u64 (rh_re (re_callX [some false, some false] D__law_wide (hr.mono (j := 1) (by decide)) hgd (takes_of rfl rfl rfl rfl) (ra_cons (rh_c rv_int) (ra_cons (rh_c rv_int) ra_nil)))) (rh_c rv_int))) (ra_cons (rh_rv (rv_ixAQ hr.u64 (rh_re (re_callX [some false, some false] D__law_wide (hr.mono (j := 1) (by decide)) hgd (takes_of rfl rfl rfl rfl) (ra_cons (rh_c rv_int) (ra_cons (rh_c rv_int) ra_nil)))) (rh_c rv_int))) ra_nil))))))) (rh_rv (rv_tup (ra_cons (rh_c rv_str) (ra_cons (rh_c rv_str) ra_nil)))))))) (rssf_one (rsf_ret (re_of rv_bl))) rssf_nil))
    (rss_cons (rs_set (i := 6) sc.nd (re_callX [some true, some false] D__law_pick (hr.mono (j := 2) (by decide)) hgd takes0 (ra_cons (rh_name 1) (ra_cons (rh_re (re_lst (ra_cons (rh_re (re_lst (ra_cons (rh_c rv_int) (ra_cons (rh_c rv_int) ra_nil)))) (ra_cons (rh_re (re_lst (ra_cons (rh_c rv_int) (ra_cons (rh_c rv_int) (ra_cons (rh_c rv_int) (ra_cons (rh_c rv_int) ra_nil)))))) (ra_cons (rh_re (re_lst (ra_cons (rh_c rv_int) (ra_cons (rh_c rv_int) (ra_cons (rh_c rv_int) ra_nil))))) (ra_cons (rh_re (re_lst (ra_cons (rh_c rv_int) (ra_cons (rh_c rv_int) (ra_cons (rh_c rv_int) ra_nil))))) ra_nil)))))) ra_nil))))
    (rss_cons (rs_asg (rv_of (re_callX [some true, some false] D__law_doubled (hr.mono (j := 3) (by decide)) hgd takes0 (ra_cons (rh_name 1) (ra_cons (rh_name 6) ra_nil)))) (rg_tup rfl (rgs_cons (rg_name (i := 3) sc.nd) (rgs_cons (rg_name (i := 4) sc.nd) rgs_nil))))
    (rss_cons (rs_aside 1 (rsf_set (i := 7) sc.nd (re_disp (.cons (key := .inr "nodes") pe_str (rv_name 3) (.cons (key := .inr "edges") pe_str (rv_name 4) .nil)))))
    (rss_consW [3, 4, 6, 7] (rs_aside (is := []) 1 (rsf_if (rt_w (rw_or (rt_neQ hr.u64 (rh_re (re_callB call_len serves_len rfl m.b_len rfl (ra_cons (rh_re (re_methX [some false] D_Plan_ways_to (hr.mono (j := 2) (by decide)) hgd takes0 (rh_re (re_makeX [some false, some false] D_Plan___init__ (hr.mono (j := 6) (by decide)) hgd takes0 (ra_cons (rh_name 3) (ra_cons (rh_name 4) ra_nil)))) (ra_cons (rh_c rv_str) ra_nil))) ra_nil))) (rh_c rv_int)) (rw_or1 (rt_neQ hr.u64 (rh_re (re_methX [some false] D_Plan_ways_to (hr.mono (j := 2) (by decide)) hgd takes0 (rh_re (re_makeX [some false, some false] D_Plan___init__ (hr.mono (j := 6) (by decide)) hgd takes0 (ra_cons (rh_name 3) (ra_cons (rh_name 4) ra_nil)))) (ra_cons (rh_c rv_str) ra_nil))) (rh_re (re_callT call_tuple_of serves_tuple rfl m.b_tuple rfl (ra_cons (rh_re (re_callX [some false, some false] D__law_ways (hr.mono (j := 2) (by decide)) hgd takes0 (ra_cons (rh_name 7) (ra_cons (rh_c rv_str) ra_nil)))) ra_nil))))))) (rssf_one (rsf_ret (re_of rv_bl))) rssf_nil))
    (rss_cons (rs_set (i := 8) sc.nd (re_callX [some true, some false] D__law_pick (hr.mono (j := 2) (by decide)) hgd takes0 (ra_cons (rh_name 1) (ra_cons (rh_re (re_lst (ra_cons (rh_re (re_lst (ra_cons (rh_c rv_int) (ra_cons (rh_c rv_int) (ra_cons (rh_c rv_int) ra_nil))))) (ra_cons (rh_re (re_lst (ra_cons (rh_c rv_int) (ra_cons (rh_c rv_int) (ra_cons (rh_c rv_int) ra_nil))))) (ra_cons (rh_re (re_lst (ra_cons (rh_c rv_int) (ra_cons (rh_c rv_int) (ra_cons (rh_c rv_int) ra_nil))))) (ra_cons (rh_re (re_lst (ra_cons (rh_c rv_int) (ra_cons (rh_c rv_int) (ra_cons (rh_c rv_int) (ra_cons (rh_c rv_int) (ra_cons (rh_c rv_int) ra_nil))))))) (ra_cons (rh_re (re_lst (ra_cons (rh_c rv_int) (ra_cons (rh_c rv_int) (ra_cons (rh_c rv_int) ra_nil))))) ra_nil))))))) ra_nil))))
    (rss_cons (rs_set (i := 9) sc.nd (re_callX [some true, some false] D__law_doubled (hr.mono (j := 3) (by decide)) hgd takes0 (ra_cons (rh_name 1) (ra_cons (rh_name 8) ra_nil))))
    (rss_cons (rs_aside 1 (rsf_set (i := 10) sc.nd (re_of (rv_tup (ra_cons (rh_re (re_lst (ra_cons (rh_rv (rv_tup (ra_cons (rh_c rv_str) (ra_cons (rh_c rv_str) (ra_cons (rh_c rv_int) ra_nil))))) (ra_cons (rh_rv (rv_tup (ra_cons (rh_c rv_str) (ra_cons (rh_c rv_str) ra_nil)))) (ra_cons (rh_rv (rv_tup (ra_cons (rh_c rv_str) (ra_cons (rh_c rv_str) ra_nil)))) ra_nil))))) (ra_cons (rh_re (re_add (rh_re (re_mulS (rh_re (re_lst (ra_cons (rh_rv (rv_tup (ra_cons (rh_c rv_str) (ra_cons (rh_c rv_str) ra_nil)))) ra_nil))) (rh_c rv_int))) (rh_re (re_lst (ra_cons (rh_rv (rv_tup (ra_cons (rh_c rv_str) (ra_cons (rh_c rv_str) ra_nil)))) ra_nil))))) ra_nil))))))
    (rss_cons (rs_aside 1 (rsf_set (i := 11) sc.nd (re_lst (ra_cons (rh_rv (rv_hd (k := 6) (ns := []) m LT hgd hr (Lam.names_by (N := ["script", "pen", "kind", "nodes", "edges", "plan", "sides", "plain", "more", "far", "five", "heard", "fold", "window", "kinds", "ways"]) (sc := defScope (top 57)) (by decide +kernel)) (.of0 rfl fun _ _ _ _ _ => rfl) (fun A outer s H E f c' hr hgd => (rv_of (re_makeX [some false, some false] D_Plan___init__ (hr.mono (j := 6) (by decide)) hgd (takes_of rfl rfl rfl rfl) (ra_cons (rh_rv (rv_ixAQ hr.u64 (rh_name 9) (rh_c rv_int))) (ra_cons (rh_rv (rv_ixAQ hr.u64 (rh_name 9) (rh_c rv_int))) ra_nil))))))) (ra_cons (rh_rv (rv_hd (k := 6) (ns := ["a1"]) m LT hgd hr (Lam.names_by (N := ["script", "pen", "kind", "nodes", "edges", "plan", "sides", "plain", "more", "far", "five", "heard", "fold", "window", "kinds", "ways"]) (sc := defScope (top 57)) (by decide +kernel)) (.of1 rfl pe_int (fun _ _ _ _ _ _ => ⟨_, rfl, fun _ => rfl⟩)) (fun A outer s H E f c' hr hgd => (rv_of (re_makeX [some false, some false] D_Plan___init__ (hr.mono (j := 6) (by decide)) hgd (takes_of rfl rfl rfl rfl) (ra_cons (rh_rv (rv_ixAQ hr.u64 (rh_name 10) (rh_c rv_int))) (ra_cons (rh_rv (rv_ixAQ hr.u64 (rh_name 10) (rh_c rv_int))) ra_nil))))))) ra_nil)))))
    (rss_consW [8, 9, 10, 11] (rs_aside (is := []) 1 (rsf_if (rt_neQ hr.u64 (rh_name 11) (rh_re (re_lst (ra_cons (rh_rv (rv_tup (ra_cons (rh_c rv_str) (ra_cons (rh_c rv_str) (ra_cons (rh_c rv_int) ra_nil))))) (ra_cons (rh_rv (rv_tup (ra_cons (rh_c rv_str) (ra_cons (rh_c rv_str) ra_nil)))) ra_nil))))) (rssf_one (rsf_ret (re_of rv_bl))) rssf_nil))
    (rss_cons (rs_aside 1 (rsf_asg (rv_tup (ra_cons (rh_rv (rv_tup (ra_cons (rh_c rv_str) ra_nil))) (ra_cons (rh_rv (rv_tup (ra_cons (rh_c rv_str) (ra_cons (rh_c rv_int) (ra_cons (rh_c rv_int) ra_nil))))) ra_nil))) (rg_tup rfl (rgs_cons (rg_name (i := 12) sc.nd) (rgs_cons (rg_name (i := 13) sc.nd) rgs_nil)))))
    (rss_consW [3, 4, 14] (rs_for .never rfl (ri_seq (rv_tup (ra_cons (rh_re (re_lst (ra_cons (rh_name 12) (ra_cons (rh_name 12) ra_nil)))) (ra_cons (rh_re (re_lst (ra_cons (rh_name 13) (ra_cons (rh_name 12) ra_nil)))) (ra_cons (rh_re (re_lst (ra_cons (rh_name 13) ra_nil))) (ra_cons (rh_re (re_lst (ra_cons (rh_name 12) ra_nil))) ra_nil)))))) (rg_name (i := 14) sc.nd) (rss_cons (rs_aside 1 (rsf_asg (rv_of (re_callX [some false] D__law_memories (hr.mono (j := 1) (by decide)) hgd takes0 (ra_cons (rh_name 14) ra_nil))) (rg_tup rfl (rgs_cons (rg_name (i := 3) sc.nd) (rgs_cons (rg_name (i := 4) sc.nd) rgs_nil)))))
    (rss_one (rs_aside (is := []) 1 (rsf_if (rt_neQ hr.u64 (rh_re (re_callB call_len serves_len rfl m.b_len rfl (ra_cons (rh_rv (rv_fldQ m.cls (rh_re (re_makeX [some false, some false] D_Plan___init__ (hr.mono (j := 6) (by decide)) hgd takes0 (ra_cons (rh_name 3) (ra_cons (rh_name 4) ra_nil)))))) ra_nil))) (rh_rv (rv_mul (rh_c rv_int) (rh_re (re_callB call_len serves_len rfl m.b_len rfl (ra_cons (rh_name 14) ra_nil)))))) (rssf_one (rsf_ret (re_of rv_bl))) rssf_nil)))))
    (rss_cons (rs_set (i := 14) sc.nd (re_callX [some true, some false] D__law_pick (hr.mono (j := 2) (by decide)) hgd takes0 (ra_cons (rh_name 1) (ra_cons (rh_re (re_lst (ra_cons (rh_re (re_lst (ra_cons (rh_name 12) (ra_cons (rh_name 12) (ra_cons (rh_name 12) ra_nil))))) (ra_cons (rh_re (re_lst (ra_cons (rh_name 13) (ra_cons (rh_name 12) (ra_cons (rh_name 12) ra_nil))))) (ra_cons (rh_re (re_lst (ra_cons (rh_name 12) (ra_cons (rh_name 12) (ra_cons (rh_name 12) (ra_cons (rh_name 12) ra_nil)))))) ra_nil))))) ra_nil))))
    (rss_cons (rs_aside 1 (rsf_asg (rv_of (re_callX [some false] D__law_memories (hr.mono (j := 1) (by decide)) hgd takes0 (ra_cons (rh_name 14) ra_nil))) (rg_tup rfl (rgs_cons (rg_name (i := 3) sc.nd) (rgs_cons (rg_name (i := 4) sc.nd) rgs_nil)))))
    (rss_cons (rs_aside 1 (rsf_set (i := 15) sc.nd (re_of (rv_tup (ra_cons (rh_re (re_lst (ra_cons (rh_rv (rv_tup (ra_cons (rh_c rv_str) (ra_cons (rh_c rv_str) (ra_cons (rh_c rv_int) ra_nil))))) (ra_cons (rh_rv (rv_tup (ra_cons (rh_c rv_str) (ra_cons (rh_c rv_str) ra_nil)))) (ra_cons (rh_rv (rv_tup (ra_cons (rh_c rv_str) (ra_cons (rh_c rv_str) ra_nil)))) (ra_cons (rh_rv (rv_tup (ra_cons (rh_c rv_str) (ra_cons (rh_c rv_str) ra_nil)))) (ra_cons (rh_rv (rv_tup (ra_cons (rh_c rv_str) (ra_cons (rh_c rv_str) ra_nil)))) (ra_cons (rh_rv (rv_tup (ra_cons (rh_c rv_str) (ra_cons (rh_c rv_str) ra_nil)))) ra_nil)))))))) (ra_cons (rh_re (re_add (rh_re (re_add (rh_re (re_add (rh_re (re_add (rh_re (re_mulS (rh_re (re_lst (ra_cons (rh_rv (rv_tup (ra_cons (rh_c rv_str) (ra_cons (rh_c rv_str) ra_nil)))) ra_nil))) (rh_c rv_int))) (rh_re (re_lst (ra_cons (rh_rv (rv_tup (ra_cons (rh_c rv_str) (ra_cons (rh_c rv_str) ra_nil)))) ra_nil))))) (rh_re (re_mulS (rh_re (re_lst (ra_cons (rh_rv (rv_tup (ra_cons (rh_c rv_str) (ra_cons (rh_c rv_str) ra_nil)))) ra_nil))) (rh_c rv_int))))) (rh_re (re_mulS (rh_re (re_lst (ra_cons (rh_rv (rv_tup (ra_cons (rh_c rv_str) (ra_cons (rh_c rv_str) ra_nil)))) ra_nil))) (rh_c rv_int))))) (rh_re (re_lst (ra_cons (rh_rv (rv_tup (ra_cons (rh_c rv_str) (ra_cons (rh_c rv_str) ra_nil)))) ra_nil))))) ra_nil))))))
    (rss_one (rs_aside (is := []) 1 (rsf_ret (re_of (rv_and (rv_eqQ hr.u64 (rh_rv (rv_hd (k := 6) (ns := []) m LT hgd hr (Lam.names_by (N := ["script", "pen", "kind", "nodes", "edges", "plan", "sides", "plain", "more", "far", "five", "heard", "fold", "window", "kinds", "ways"]) (sc := defScope (top 57)) (by decide +kernel)) (.of0 rfl fun _ _ _ _ _ => rfl) (fun A outer s H E f c' hr hgd => (rv_of (re_makeX [some false, some false] D_Plan___init__ (hr.mono (j := 6) (by decide)) hgd (takes_of rfl rfl rfl rfl) (ra_cons (rh_name 3) (ra_cons (rh_name 4) ra_nil))))))) (rh_rv (rv_tup (ra_cons (rh_c rv_str) (ra_cons (rh_c rv_str) (ra_cons (rh_c rv_int) ra_nil)))))) (rv_and1 (rv_eqQ hr.u64 (rh_re (re_callB call_len serves_len rfl m.b_len rfl (ra_cons (rh_re (re_methX [some false] D_Plan_ways_to (hr.mono (j := 2) (by decide)) hgd takes0 (rh_re (re_makeX [some false, some false] D_Plan___init__ (hr.mono (j := 6) (by decide)) hgd takes0 (ra_cons (rh_rv (rv_ixAQ hr.u64 (rh_name 15) (rh_c rv_int))) (ra_cons (rh_rv (rv_ixAQ hr.u64 (rh_name 15) (rh_c rv_int))) ra_nil)))) (ra_cons (rh_c rv_str) ra_nil))) ra_nil))) (rh_c rv_int))))))))))))))))))))))))))))))
theorem d_all (m : Mods P K mg) {c : Addr} (LT : TabL base mg (.ref c) ("law" ++ ".<locals>." ++ "<lambda>")) (Lw : LawC K mg "law" (top 57) c) : ∀ (f : Addr) (oc : Value) (od : Option Addr) (kV doc pm ct : Value) (an : Option Addr) (osl : Array (Option Value)), K.lookup f = some ⟨oc, od, .func (PySem.W.fnOf "law" "law" (defArgs (top 57)) (defBody (top 57)) (defScope (top 57)) .none kV doc pm an (.ref c) ct), osl⟩ → PySem.W.codeIn K (.ref c) "law" = true →
      FnG P w K mg base CX0 9 f (PySem.W.fnOf "law" "law" (defArgs (top 57)) (defBody (top 57)) (defScope (top 57)) .none kV doc pm an (.ref c) ct) ["script"] (spN 1 ⟨K, mg⟩ fun a => noX (m_law a)) := by
  have D_is_listed : DefdX P w K mg base 1 "is_listed" ["value"] m_is_listed := d_is_listed m
  have D_is_row : DefdX P w K mg base 2 "is_row" ["value", "least", "most"] m_is_row := d_is_row m D_is_listed
  have D_fixed : DefdX P w K mg base 4 "fixed" ["value"] (m_fixed 4) := d_fixed m 4
  have D_is_integer : DefdX P w K mg base 1 "is_integer" ["value"] m_is_integer := d_is_integer m
  have D_is_within : DefdX P w K mg base 2 "is_within" ["value", "least", "most"] m_is_within := d_is_within m D_is_integer
  have D_is_name : DefdX P w K mg base 1 "is_name" ["value"] m_is_name := d_is_name m
  have D_is_node : DefdX P w K mg base 3 "is_node" ["value"] m_is_node := d_is_node m D_is_row D_is_within D_is_name
  have D_Plan_is_edge : MethX P w K mg base 3 "Plan" "is_edge" ["self", "value"] m_Plan_is_edge := d_Plan_is_edge m D_is_row
  have D_Plan_of_kinds : MethX P w K mg base 1 "Plan" "of_kinds" ["self", "kinds"] m_Plan_of_kinds := d_Plan_of_kinds m
  have D_Plan_need_degrees : MethX P w K mg base 1 "Plan" "need_degrees" ["self"] m_Plan_need_degrees := d_Plan_need_degrees m
  have D_Plan_need_windows : MethX P w K mg base 1 "Plan" "need_windows" ["self"] m_Plan_need_windows := d_Plan_need_windows m
  have D_all_ways : DefdX P w K mg base 1 "all_ways" ["plan"] m_all_ways := d_all_ways m
  have D_Plan___init__ : MakeX P w K mg base 5 "Plan" ["self", "nodes", "edges"] m_Plan___init__ := d_Plan___init__ m D_is_row D_fixed D_is_node D_Plan_is_edge D_Plan_of_kinds D_Plan_need_degrees D_Plan_need_windows D_all_ways
  have D_Plan_need_name : MethX P w K mg base 1 "Plan" "need_name" ["self", "name"] m_Plan_need_name := d_Plan_need_name m
  have D_Plan_settings : MethX P w K mg base 2 "Plan" "settings" ["self", "name"] m_Plan_settings := d_Plan_settings m D_Plan_need_name
  have D_Plan_ways_to : MethX P w K mg base 2 "Plan" "ways_to" ["self", "name"] m_Plan_ways_to := d_Plan_ways_to m D_Plan_need_name
  have D__law_pen : DefdX P w K mg base 1 "_law_pen" ["script"] m__law_pen := d__law_pen m
  have D__law_draw : DefdX P w K mg base 1 "_law_draw" ["pen", "many"] m__law_draw := d__law_draw m
  have D__law_pick : DefdX P w K mg base 2 "_law_pick" ["pen", "some"] m__law_pick := d__law_pick m D__law_draw
  have D__law_ins : DefdX P w K mg base 1 "_law_ins" ["plain", "name"] m__law_ins := d__law_ins m
  have D__law_ways : DefdX P w K mg base 2 "_law_ways" ["plain", "name"] m__law_ways := d__law_ways m D__law_ins
  have D__law_chain : DefdX P w K mg base 1 "_law_chain" ["many", "kind"] m__law_chain := d__law_chain m
  have D__law_wide : DefdX P w K mg base 1 "_law_wide" ["many", "more"] m__law_wide := d__law_wide m
  have D__law_doubled : DefdX P w K mg base 3 "_law_doubled" ["pen", "sides"] m__law_doubled := d__law_doubled m D__law_pick
  have D__law_memories : DefdX P w K mg base 1 "_law_memories" ["kinds"] m__law_memories := d__law_memories m
  exact d_law m LT Lw D_Plan___init__ D_Plan_settings D_Plan_ways_to D__law_pen D__law_pick D__law_ways D__law_chain D__law_wide D__law_doubled D__law_memories
end
end Fx.K03

set_option Elab.async false
set_option linter.all false
set_option maxRecDepth 100000
set_option maxHeartbeats 4000000
namespace Fx.K03
open PySem L2
/-! ### the law's blocks, worked out by the kernel -/
abbrev E (p : D) : Env := [.no, .lo p, .no, .no, .no, .no, .no, .no, .no, .no, .no, .no, .no, .no, .no, .no]
abbrev dFold : D := .nd .tup [.str "fold"]
abbrev dWin : D := .nd .tup [.str "window", .int 1000, .int 1000]
abbrev EF (p : D) : Env := [.no, .lo p, .no, .no, .no, .no, .no, .no, .no, .no, .no, .no, .im dFold, .im dWin, .no, .no]
abbrev B1 : Env → Rz (Env × Fl) := gSeq s_law_2 (gSeq s_law_3 (gSeq s_law_4 s_law_5))
abbrev B2 : Env → Rz (Env × Fl) := gSeq s_law_6 s_law_7
abbrev B3 : Env → Rz (Env × Fl) := gSeq s_law_10 s_law_11
abbrev B4 : Env → Rz (Env × Fl) := gSeq s_law_14 (gSeq s_law_15 s_law_16)
abbrev B6 : Env → Rz (Env × Fl) := gSeq s_law_20 (gSeq s_law_21 s_law_22)
theorem par1 : Par 1 B1 := (asideS_par 1 _).seq ((asideS_par 1 _).seq ((asideS_par 1 _).seq (asideS_par 1 _)))
theorem par2 : Par 1 B2 := (asideS_par 1 _).seq (asideS_par 1 _)
theorem par3 : Par 1 B3 := (asideS_par 1 _).seq (asideS_par 1 _)
theorem par4 : Par 1 B4 := (asideS_par 1 _).seq ((asideS_par 1 _).seq (asideS_par 1 _))
theorem par6 : Par 1 B6 := (asideS_par 1 _).seq ((asideS_par 1 _).seq (asideS_par 1 _))
end Fx.K03

set_option Elab.async false
set_option linter.all false
set_option maxRecDepth 100000
set_option maxHeartbeats 4000000
namespace Fx.K03
open PySem L2
theorem f1_map : (B1 ((((E .non).set 2 (.im (.str "map"))).set 1 (.lo .non)))).mapE (wipeE · [2, 3, 4, 5]) = .ok (E .non, .nx) := by kernel_rfl
theorem f1_stamp : (B1 ((((E .non).set 2 (.im (.str "stamp"))).set 1 (.lo .non)))).mapE (wipeE · [2, 3, 4, 5]) = .ok (E .non, .nx) := by kernel_rfl
theorem f2 : (B2 ((E .non).set 1 (.lo .non))).mapE (wipeE · [3, 4]) = .ok (E .non, .nx) := by kernel_rfl
end Fx.K03

set_option Elab.async false
set_option linter.all false
set_option maxRecDepth 100000
set_option maxHeartbeats 4000000
namespace Fx.K03
open PySem L2
def sd_0 : D := .nd .lst [.int 4, .int 4]
def n_0_book : D := .nd .lst [.nd .tup [.str "s", .str "source", .int 0], .nd .tup [.str "ma", .str "mix"], .nd .tup [.str "mb", .str "mix"], .nd .tup [.str "k", .str "book"]]
def e_0_book : D := .nd .lst [.nd .tup [.str "s", .str "ma"], .nd .tup [.str "s", .str "ma"], .nd .tup [.str "s", .str "ma"], .nd .tup [.str "s", .str "ma"], .nd .tup [.str "ma", .str "mb"], .nd .tup [.str "ma", .str "mb"], .nd .tup [.str "ma", .str "mb"], .nd .tup [.str "ma", .str "mb"], .nd .tup [.str "mb", .str "k"]]
theorem f3_0_book : (B3 (((((E .non).set 6 (.im sd_0)).set 3 (.im n_0_book)).set 4 (.im e_0_book)).set 1 (.lo .non))).mapE (wipeE · [3, 4, 6, 7]) = .ok (E .non, .nx) := by kernel_rfl
def n_0_board : D := .nd .lst [.nd .tup [.str "s", .str "source", .int 0], .nd .tup [.str "ma", .str "mix"], .nd .tup [.str "mb", .str "mix"], .nd .tup [.str "k", .str "board"]]
def e_0_board : D := .nd .lst [.nd .tup [.str "s", .str "ma"], .nd .tup [.str "s", .str "ma"], .nd .tup [.str "s", .str "ma"], .nd .tup [.str "s", .str "ma"], .nd .tup [.str "ma", .str "mb"], .nd .tup [.str "ma", .str "mb"], .nd .tup [.str "ma", .str "mb"], .nd .tup [.str "ma", .str "mb"], .nd .tup [.str "mb", .str "k"]]
theorem f3_0_board : (B3 (((((E .non).set 6 (.im sd_0)).set 3 (.im n_0_board)).set 4 (.im e_0_board)).set 1 (.lo .non))).mapE (wipeE · [3, 4, 6, 7]) = .ok (E .non, .nx) := by kernel_rfl
def n_0_bell : D := .nd .lst [.nd .tup [.str "s", .str "source", .int 0], .nd .tup [.str "ma", .str "mix"], .nd .tup [.str "mb", .str "mix"], .nd .tup [.str "k", .str "bell"]]
def e_0_bell : D := .nd .lst [.nd .tup [.str "s", .str "ma"], .nd .tup [.str "s", .str "ma"], .nd .tup [.str "s", .str "ma"], .nd .tup [.str "s", .str "ma"], .nd .tup [.str "ma", .str "mb"], .nd .tup [.str "ma", .str "mb"], .nd .tup [.str "ma", .str "mb"], .nd .tup [.str "ma", .str "mb"], .nd .tup [.str "mb", .str "k"]]
theorem f3_0_bell : (B3 (((((E .non).set 6 (.im sd_0)).set 3 (.im n_0_bell)).set 4 (.im e_0_bell)).set 1 (.lo .non))).mapE (wipeE · [3, 4, 6, 7]) = .ok (E .non, .nx) := by kernel_rfl
def sd_1 : D := .nd .lst [.int 2, .int 2, .int 2, .int 2]
def n_1_book : D := .nd .lst [.nd .tup [.str "s", .str "source", .int 0], .nd .tup [.str "ma", .str "mix"], .nd .tup [.str "mb", .str "mix"], .nd .tup [.str "mc", .str "mix"], .nd .tup [.str "md", .str "mix"], .nd .tup [.str "k", .str "book"]]
def e_1_book : D := .nd .lst [.nd .tup [.str "s", .str "ma"], .nd .tup [.str "s", .str "ma"], .nd .tup [.str "ma", .str "mb"], .nd .tup [.str "ma", .str "mb"], .nd .tup [.str "mb", .str "mc"], .nd .tup [.str "mb", .str "mc"], .nd .tup [.str "mc", .str "md"], .nd .tup [.str "mc", .str "md"], .nd .tup [.str "md", .str "k"]]
theorem f3_1_book : (B3 (((((E .non).set 6 (.im sd_1)).set 3 (.im n_1_book)).set 4 (.im e_1_book)).set 1 (.lo .non))).mapE (wipeE · [3, 4, 6, 7]) = .ok (E .non, .nx) := by kernel_rfl
def n_1_board : D := .nd .lst [.nd .tup [.str "s", .str "source", .int 0], .nd .tup [.str "ma", .str "mix"], .nd .tup [.str "mb", .str "mix"], .nd .tup [.str "mc", .str "mix"], .nd .tup [.str "md", .str "mix"], .nd .tup [.str "k", .str "board"]]
def e_1_board : D := .nd .lst [.nd .tup [.str "s", .str "ma"], .nd .tup [.str "s", .str "ma"], .nd .tup [.str "ma", .str "mb"], .nd .tup [.str "ma", .str "mb"], .nd .tup [.str "mb", .str "mc"], .nd .tup [.str "mb", .str "mc"], .nd .tup [.str "mc", .str "md"], .nd .tup [.str "mc", .str "md"], .nd .tup [.str "md", .str "k"]]
theorem f3_1_board : (B3 (((((E .non).set 6 (.im sd_1)).set 3 (.im n_1_board)).set 4 (.im e_1_board)).set 1 (.lo .non))).mapE (wipeE · [3, 4, 6, 7]) = .ok (E .non, .nx) := by kernel_rfl
def n_1_bell : D := .nd .lst [.nd .tup [.str "s", .str "source", .int 0], .nd .tup [.str "ma", .str "mix"], .nd .tup [.str "mb", .str "mix"], .nd .tup [.str "mc", .str "mix"], .nd .tup [.str "md", .str "mix"], .nd .tup [.str "k", .str "bell"]]
def e_1_bell : D := .nd .lst [.nd .tup [.str "s", .str "ma"], .nd .tup [.str "s", .str "ma"], .nd .tup [.str "ma", .str "mb"], .nd .tup [.str "ma", .str "mb"], .nd .tup [.str "mb", .str "mc"], .nd .tup [.str "mb", .str "mc"], .nd .tup [.str "mc", .str "md"], .nd .tup [.str "mc", .str "md"], .nd .tup [.str "md", .str "k"]]
theorem f3_1_bell : (B3 (((((E .non).set 6 (.im sd_1)).set 3 (.im n_1_bell)).set 4 (.im e_1_bell)).set 1 (.lo .non))).mapE (wipeE · [3, 4, 6, 7]) = .ok (E .non, .nx) := by kernel_rfl
def sd_2 : D := .nd .lst [.int 2, .int 4, .int 2]
def n_2_book : D := .nd .lst [.nd .tup [.str "s", .str "source", .int 0], .nd .tup [.str "ma", .str "mix"], .nd .tup [.str "mb", .str "mix"], .nd .tup [.str "mc", .str "mix"], .nd .tup [.str "k", .str "book"]]
def e_2_book : D := .nd .lst [.nd .tup [.str "s", .str "ma"], .nd .tup [.str "s", .str "ma"], .nd .tup [.str "ma", .str "mb"], .nd .tup [.str "ma", .str "mb"], .nd .tup [.str "ma", .str "mb"], .nd .tup [.str "ma", .str "mb"], .nd .tup [.str "mb", .str "mc"], .nd .tup [.str "mb", .str "mc"], .nd .tup [.str "mc", .str "k"]]
theorem f3_2_book : (B3 (((((E .non).set 6 (.im sd_2)).set 3 (.im n_2_book)).set 4 (.im e_2_book)).set 1 (.lo .non))).mapE (wipeE · [3, 4, 6, 7]) = .ok (E .non, .nx) := by kernel_rfl
def n_2_board : D := .nd .lst [.nd .tup [.str "s", .str "source", .int 0], .nd .tup [.str "ma", .str "mix"], .nd .tup [.str "mb", .str "mix"], .nd .tup [.str "mc", .str "mix"], .nd .tup [.str "k", .str "board"]]
def e_2_board : D := .nd .lst [.nd .tup [.str "s", .str "ma"], .nd .tup [.str "s", .str "ma"], .nd .tup [.str "ma", .str "mb"], .nd .tup [.str "ma", .str "mb"], .nd .tup [.str "ma", .str "mb"], .nd .tup [.str "ma", .str "mb"], .nd .tup [.str "mb", .str "mc"], .nd .tup [.str "mb", .str "mc"], .nd .tup [.str "mc", .str "k"]]
theorem f3_2_board : (B3 (((((E .non).set 6 (.im sd_2)).set 3 (.im n_2_board)).set 4 (.im e_2_board)).set 1 (.lo .non))).mapE (wipeE · [3, 4, 6, 7]) = .ok (E .non, .nx) := by kernel_rfl
def n_2_bell : D := .nd .lst [.nd .tup [.str "s", .str "source", .int 0], .nd .tup [.str "ma", .str "mix"], .nd .tup [.str "mb", .str "mix"], .nd .tup [.str "mc", .str "mix"], .nd .tup [.str "k", .str "bell"]]
def e_2_bell : D := .nd .lst [.nd .tup [.str "s", .str "ma"], .nd .tup [.str "s", .str "ma"], .nd .tup [.str "ma", .str "mb"], .nd .tup [.str "ma", .str "mb"], .nd .tup [.str "ma", .str "mb"], .nd .tup [.str "ma", .str "mb"], .nd .tup [.str "mb", .str "mc"], .nd .tup [.str "mb", .str "mc"], .nd .tup [.str "mc", .str "k"]]
theorem f3_2_bell : (B3 (((((E .non).set 6 (.im sd_2)).set 3 (.im n_2_bell)).set 4 (.im e_2_bell)).set 1 (.lo .non))).mapE (wipeE · [3, 4, 6, 7]) = .ok (E .non, .nx) := by kernel_rfl
def sd_3 : D := .nd .lst [.int 4, .int 2, .int 2]
def n_3_book : D := .nd .lst [.nd .tup [.str "s", .str "source", .int 0], .nd .tup [.str "ma", .str "mix"], .nd .tup [.str "mb", .str "mix"], .nd .tup [.str "mc", .str "mix"], .nd .tup [.str "k", .str "book"]]
def e_3_book : D := .nd .lst [.nd .tup [.str "s", .str "ma"], .nd .tup [.str "s", .str "ma"], .nd .tup [.str "s", .str "ma"], .nd .tup [.str "s", .str "ma"], .nd .tup [.str "ma", .str "mb"], .nd .tup [.str "ma", .str "mb"], .nd .tup [.str "mb", .str "mc"], .nd .tup [.str "mb", .str "mc"], .nd .tup [.str "mc", .str "k"]]
theorem f3_3_book : (B3 (((((E .non).set 6 (.im sd_3)).set 3 (.im n_3_book)).set 4 (.im e_3_book)).set 1 (.lo .non))).mapE (wipeE · [3, 4, 6, 7]) = .ok (E .non, .nx) := by kernel_rfl
def n_3_board : D := .nd .lst [.nd .tup [.str "s", .str "source", .int 0], .nd .tup [.str "ma", .str "mix"], .nd .tup [.str "mb", .str "mix"], .nd .tup [.str "mc", .str "mix"], .nd .tup [.str "k", .str "board"]]
def e_3_board : D := .nd .lst [.nd .tup [.str "s", .str "ma"], .nd .tup [.str "s", .str "ma"], .nd .tup [.str "s", .str "ma"], .nd .tup [.str "s", .str "ma"], .nd .tup [.str "ma", .str "mb"], .nd .tup [.str "ma", .str "mb"], .nd .tup [.str "mb", .str "mc"], .nd .tup [.str "mb", .str "mc"], .nd .tup [.str "mc", .str "k"]]
theorem f3_3_board : (B3 (((((E .non).set 6 (.im sd_3)).set 3 (.im n_3_board)).set 4 (.im e_3_board)).set 1 (.lo .non))).mapE (wipeE · [3, 4, 6, 7]) = .ok (E .non, .nx) := by kernel_rfl
def n_3_bell : D := .nd .lst [.nd .tup [.str "s", .str "source", .int 0], .nd .tup [.str "ma", .str "mix"], .nd .tup [.str "mb", .str "mix"], .nd .tup [.str "mc", .str "mix"], .nd .tup [.str "k", .str "bell"]]
def e_3_bell : D := .nd .lst [.nd .tup [.str "s", .str "ma"], .nd .tup [.str "s", .str "ma"], .nd .tup [.str "s", .str "ma"], .nd .tup [.str "s", .str "ma"], .nd .tup [.str "ma", .str "mb"], .nd .tup [.str "ma", .str "mb"], .nd .tup [.str "mb", .str "mc"], .nd .tup [.str "mb", .str "mc"], .nd .tup [.str "mc", .str "k"]]
theorem f3_3_bell : (B3 (((((E .non).set 6 (.im sd_3)).set 3 (.im n_3_bell)).set 4 (.im e_3_bell)).set 1 (.lo .non))).mapE (wipeE · [3, 4, 6, 7]) = .ok (E .non, .nx) := by kernel_rfl
end Fx.K03

set_option Elab.async false
set_option linter.all false
set_option maxRecDepth 100000
set_option maxHeartbeats 4000000
namespace Fx.K03
open PySem L2
def md_0 : D := .nd .lst [.int 3, .int 3, .int 2]
def far_0_book : D := .nd .tup [.nd .lst [.nd .tup [.str "s", .str "source", .int 0], .nd .tup [.str "ma", .str "mix"], .nd .tup [.str "mb", .str "mix"], .nd .tup [.str "mc", .str "mix"], .nd .tup [.str "k", .str "book"]], .nd .lst [.nd .tup [.str "s", .str "ma"], .nd .tup [.str "s", .str "ma"], .nd .tup [.str "s", .str "ma"], .nd .tup [.str "ma", .str "mb"], .nd .tup [.str "ma", .str "mb"], .nd .tup [.str "ma", .str "mb"], .nd .tup [.str "mb", .str "mc"], .nd .tup [.str "mb", .str "mc"], .nd .tup [.str "mc", .str "k"]]]
theorem f4_0_book : (B4 ((((E .non).set 8 (.im md_0)).set 9 (.im far_0_book)).set 1 (.lo .non))).mapE (wipeE · [8, 9, 10, 11]) = .ok (E .non, .nx) := by kernel_rfl
def far_0_board : D := .nd .tup [.nd .lst [.nd .tup [.str "s", .str "source", .int 0], .nd .tup [.str "ma", .str "mix"], .nd .tup [.str "mb", .str "mix"], .nd .tup [.str "mc", .str "mix"], .nd .tup [.str "k", .str "board"]], .nd .lst [.nd .tup [.str "s", .str "ma"], .nd .tup [.str "s", .str "ma"], .nd .tup [.str "s", .str "ma"], .nd .tup [.str "ma", .str "mb"], .nd .tup [.str "ma", .str "mb"], .nd .tup [.str "ma", .str "mb"], .nd .tup [.str "mb", .str "mc"], .nd .tup [.str "mb", .str "mc"], .nd .tup [.str "mc", .str "k"]]]
theorem f4_0_board : (B4 ((((E .non).set 8 (.im md_0)).set 9 (.im far_0_board)).set 1 (.lo .non))).mapE (wipeE · [8, 9, 10, 11]) = .ok (E .non, .nx) := by kernel_rfl
def far_0_bell : D := .nd .tup [.nd .lst [.nd .tup [.str "s", .str "source", .int 0], .nd .tup [.str "ma", .str "mix"], .nd .tup [.str "mb", .str "mix"], .nd .tup [.str "mc", .str "mix"], .nd .tup [.str "k", .str "bell"]], .nd .lst [.nd .tup [.str "s", .str "ma"], .nd .tup [.str "s", .str "ma"], .nd .tup [.str "s", .str "ma"], .nd .tup [.str "ma", .str "mb"], .nd .tup [.str "ma", .str "mb"], .nd .tup [.str "ma", .str "mb"], .nd .tup [.str "mb", .str "mc"], .nd .tup [.str "mb", .str "mc"], .nd .tup [.str "mc", .str "k"]]]
theorem f4_0_bell : (B4 ((((E .non).set 8 (.im md_0)).set 9 (.im far_0_bell)).set 1 (.lo .non))).mapE (wipeE · [8, 9, 10, 11]) = .ok (E .non, .nx) := by kernel_rfl
def md_1 : D := .nd .lst [.int 2, .int 3, .int 3]
def far_1_book : D := .nd .tup [.nd .lst [.nd .tup [.str "s", .str "source", .int 0], .nd .tup [.str "ma", .str "mix"], .nd .tup [.str "mb", .str "mix"], .nd .tup [.str "mc", .str "mix"], .nd .tup [.str "k", .str "book"]], .nd .lst [.nd .tup [.str "s", .str "ma"], .nd .tup [.str "s", .str "ma"], .nd .tup [.str "ma", .str "mb"], .nd .tup [.str "ma", .str "mb"], .nd .tup [.str "ma", .str "mb"], .nd .tup [.str "mb", .str "mc"], .nd .tup [.str "mb", .str "mc"], .nd .tup [.str "mb", .str "mc"], .nd .tup [.str "mc", .str "k"]]]
theorem f4_1_book : (B4 ((((E .non).set 8 (.im md_1)).set 9 (.im far_1_book)).set 1 (.lo .non))).mapE (wipeE · [8, 9, 10, 11]) = .ok (E .non, .nx) := by kernel_rfl
def far_1_board : D := .nd .tup [.nd .lst [.nd .tup [.str "s", .str "source", .int 0], .nd .tup [.str "ma", .str "mix"], .nd .tup [.str "mb", .str "mix"], .nd .tup [.str "mc", .str "mix"], .nd .tup [.str "k", .str "board"]], .nd .lst [.nd .tup [.str "s", .str "ma"], .nd .tup [.str "s", .str "ma"], .nd .tup [.str "ma", .str "mb"], .nd .tup [.str "ma", .str "mb"], .nd .tup [.str "ma", .str "mb"], .nd .tup [.str "mb", .str "mc"], .nd .tup [.str "mb", .str "mc"], .nd .tup [.str "mb", .str "mc"], .nd .tup [.str "mc", .str "k"]]]
theorem f4_1_board : (B4 ((((E .non).set 8 (.im md_1)).set 9 (.im far_1_board)).set 1 (.lo .non))).mapE (wipeE · [8, 9, 10, 11]) = .ok (E .non, .nx) := by kernel_rfl
def far_1_bell : D := .nd .tup [.nd .lst [.nd .tup [.str "s", .str "source", .int 0], .nd .tup [.str "ma", .str "mix"], .nd .tup [.str "mb", .str "mix"], .nd .tup [.str "mc", .str "mix"], .nd .tup [.str "k", .str "bell"]], .nd .lst [.nd .tup [.str "s", .str "ma"], .nd .tup [.str "s", .str "ma"], .nd .tup [.str "ma", .str "mb"], .nd .tup [.str "ma", .str "mb"], .nd .tup [.str "ma", .str "mb"], .nd .tup [.str "mb", .str "mc"], .nd .tup [.str "mb", .str "mc"], .nd .tup [.str "mb", .str "mc"], .nd .tup [.str "mc", .str "k"]]]
theorem f4_1_bell : (B4 ((((E .non).set 8 (.im md_1)).set 9 (.im far_1_bell)).set 1 (.lo .non))).mapE (wipeE · [8, 9, 10, 11]) = .ok (E .non, .nx) := by kernel_rfl
def md_2 : D := .nd .lst [.int 4, .int 4, .int 2]
def far_2_book : D := .nd .tup [.nd .lst [.nd .tup [.str "s", .str "source", .int 0], .nd .tup [.str "ma", .str "mix"], .nd .tup [.str "mb", .str "mix"], .nd .tup [.str "mc", .str "mix"], .nd .tup [.str "k", .str "book"]], .nd .lst [.nd .tup [.str "s", .str "ma"], .nd .tup [.str "s", .str "ma"], .nd .tup [.str "s", .str "ma"], .nd .tup [.str "s", .str "ma"], .nd .tup [.str "ma", .str "mb"], .nd .tup [.str "ma", .str "mb"], .nd .tup [.str "ma", .str "mb"], .nd .tup [.str "ma", .str "mb"], .nd .tup [.str "mb", .str "mc"], .nd .tup [.str "mb", .str "mc"], .nd .tup [.str "mc", .str "k"]]]
theorem f4_2_book : (B4 ((((E .non).set 8 (.im md_2)).set 9 (.im far_2_book)).set 1 (.lo .non))).mapE (wipeE · [8, 9, 10, 11]) = .ok (E .non, .nx) := by kernel_rfl
def far_2_board : D := .nd .tup [.nd .lst [.nd .tup [.str "s", .str "source", .int 0], .nd .tup [.str "ma", .str "mix"], .nd .tup [.str "mb", .str "mix"], .nd .tup [.str "mc", .str "mix"], .nd .tup [.str "k", .str "board"]], .nd .lst [.nd .tup [.str "s", .str "ma"], .nd .tup [.str "s", .str "ma"], .nd .tup [.str "s", .str "ma"], .nd .tup [.str "s", .str "ma"], .nd .tup [.str "ma", .str "mb"], .nd .tup [.str "ma", .str "mb"], .nd .tup [.str "ma", .str "mb"], .nd .tup [.str "ma", .str "mb"], .nd .tup [.str "mb", .str "mc"], .nd .tup [.str "mb", .str "mc"], .nd .tup [.str "mc", .str "k"]]]
theorem f4_2_board : (B4 ((((E .non).set 8 (.im md_2)).set 9 (.im far_2_board)).set 1 (.lo .non))).mapE (wipeE · [8, 9, 10, 11]) = .ok (E .non, .nx) := by kernel_rfl
def far_2_bell : D := .nd .tup [.nd .lst [.nd .tup [.str "s", .str "source", .int 0], .nd .tup [.str "ma", .str "mix"], .nd .tup [.str "mb", .str "mix"], .nd .tup [.str "mc", .str "mix"], .nd .tup [.str "k", .str "bell"]], .nd .lst [.nd .tup [.str "s", .str "ma"], .nd .tup [.str "s", .str "ma"], .nd .tup [.str "s", .str "ma"], .nd .tup [.str "s", .str "ma"], .nd .tup [.str "ma", .str "mb"], .nd .tup [.str "ma", .str "mb"], .nd .tup [.str "ma", .str "mb"], .nd .tup [.str "ma", .str "mb"], .nd .tup [.str "mb", .str "mc"], .nd .tup [.str "mb", .str "mc"], .nd .tup [.str "mc", .str "k"]]]
theorem f4_2_bell : (B4 ((((E .non).set 8 (.im md_2)).set 9 (.im far_2_bell)).set 1 (.lo .non))).mapE (wipeE · [8, 9, 10, 11]) = .ok (E .non, .nx) := by kernel_rfl
def md_3 : D := .nd .lst [.int 2, .int 2, .int 2, .int 2, .int 2]
def far_3_book : D := .nd .tup [.nd .lst [.nd .tup [.str "s", .str "source", .int 0], .nd .tup [.str "ma", .str "mix"], .nd .tup [.str "mb", .str "mix"], .nd .tup [.str "mc", .str "mix"], .nd .tup [.str "md", .str "mix"], .nd .tup [.str "me", .str "mix"], .nd .tup [.str "k", .str "book"]], .nd .lst [.nd .tup [.str "s", .str "ma"], .nd .tup [.str "s", .str "ma"], .nd .tup [.str "ma", .str "mb"], .nd .tup [.str "ma", .str "mb"], .nd .tup [.str "mb", .str "mc"], .nd .tup [.str "mb", .str "mc"], .nd .tup [.str "mc", .str "md"], .nd .tup [.str "mc", .str "md"], .nd .tup [.str "md", .str "me"], .nd .tup [.str "md", .str "me"], .nd .tup [.str "me", .str "k"]]]
theorem f4_3_book : (B4 ((((E .non).set 8 (.im md_3)).set 9 (.im far_3_book)).set 1 (.lo .non))).mapE (wipeE · [8, 9, 10, 11]) = .ok (E .non, .nx) := by kernel_rfl
def far_3_board : D := .nd .tup [.nd .lst [.nd .tup [.str "s", .str "source", .int 0], .nd .tup [.str "ma", .str "mix"], .nd .tup [.str "mb", .str "mix"], .nd .tup [.str "mc", .str "mix"], .nd .tup [.str "md", .str "mix"], .nd .tup [.str "me", .str "mix"], .nd .tup [.str "k", .str "board"]], .nd .lst [.nd .tup [.str "s", .str "ma"], .nd .tup [.str "s", .str "ma"], .nd .tup [.str "ma", .str "mb"], .nd .tup [.str "ma", .str "mb"], .nd .tup [.str "mb", .str "mc"], .nd .tup [.str "mb", .str "mc"], .nd .tup [.str "mc", .str "md"], .nd .tup [.str "mc", .str "md"], .nd .tup [.str "md", .str "me"], .nd .tup [.str "md", .str "me"], .nd .tup [.str "me", .str "k"]]]
theorem f4_3_board : (B4 ((((E .non).set 8 (.im md_3)).set 9 (.im far_3_board)).set 1 (.lo .non))).mapE (wipeE · [8, 9, 10, 11]) = .ok (E .non, .nx) := by kernel_rfl
def far_3_bell : D := .nd .tup [.nd .lst [.nd .tup [.str "s", .str "source", .int 0], .nd .tup [.str "ma", .str "mix"], .nd .tup [.str "mb", .str "mix"], .nd .tup [.str "mc", .str "mix"], .nd .tup [.str "md", .str "mix"], .nd .tup [.str "me", .str "mix"], .nd .tup [.str "k", .str "bell"]], .nd .lst [.nd .tup [.str "s", .str "ma"], .nd .tup [.str "s", .str "ma"], .nd .tup [.str "ma", .str "mb"], .nd .tup [.str "ma", .str "mb"], .nd .tup [.str "mb", .str "mc"], .nd .tup [.str "mb", .str "mc"], .nd .tup [.str "mc", .str "md"], .nd .tup [.str "mc", .str "md"], .nd .tup [.str "md", .str "me"], .nd .tup [.str "md", .str "me"], .nd .tup [.str "me", .str "k"]]]
theorem f4_3_bell : (B4 ((((E .non).set 8 (.im md_3)).set 9 (.im far_3_bell)).set 1 (.lo .non))).mapE (wipeE · [8, 9, 10, 11]) = .ok (E .non, .nx) := by kernel_rfl
def md_4 : D := .nd .lst [.int 3, .int 2, .int 3]
def far_4_book : D := .nd .tup [.nd .lst [.nd .tup [.str "s", .str "source", .int 0], .nd .tup [.str "ma", .str "mix"], .nd .tup [.str "mb", .str "mix"], .nd .tup [.str "mc", .str "mix"], .nd .tup [.str "k", .str "book"]], .nd .lst [.nd .tup [.str "s", .str "ma"], .nd .tup [.str "s", .str "ma"], .nd .tup [.str "s", .str "ma"], .nd .tup [.str "ma", .str "mb"], .nd .tup [.str "ma", .str "mb"], .nd .tup [.str "mb", .str "mc"], .nd .tup [.str "mb", .str "mc"], .nd .tup [.str "mb", .str "mc"], .nd .tup [.str "mc", .str "k"]]]
theorem f4_4_book : (B4 ((((E .non).set 8 (.im md_4)).set 9 (.im far_4_book)).set 1 (.lo .non))).mapE (wipeE · [8, 9, 10, 11]) = .ok (E .non, .nx) := by kernel_rfl
def far_4_board : D := .nd .tup [.nd .lst [.nd .tup [.str "s", .str "source", .int 0], .nd .tup [.str "ma", .str "mix"], .nd .tup [.str "mb", .str "mix"], .nd .tup [.str "mc", .str "mix"], .nd .tup [.str "k", .str "board"]], .nd .lst [.nd .tup [.str "s", .str "ma"], .nd .tup [.str "s", .str "ma"], .nd .tup [.str "s", .str "ma"], .nd .tup [.str "ma", .str "mb"], .nd .tup [.str "ma", .str "mb"], .nd .tup [.str "mb", .str "mc"], .nd .tup [.str "mb", .str "mc"], .nd .tup [.str "mb", .str "mc"], .nd .tup [.str "mc", .str "k"]]]
theorem f4_4_board : (B4 ((((E .non).set 8 (.im md_4)).set 9 (.im far_4_board)).set 1 (.lo .non))).mapE (wipeE · [8, 9, 10, 11]) = .ok (E .non, .nx) := by kernel_rfl
def far_4_bell : D := .nd .tup [.nd .lst [.nd .tup [.str "s", .str "source", .int 0], .nd .tup [.str "ma", .str "mix"], .nd .tup [.str "mb", .str "mix"], .nd .tup [.str "mc", .str "mix"], .nd .tup [.str "k", .str "bell"]], .nd .lst [.nd .tup [.str "s", .str "ma"], .nd .tup [.str "s", .str "ma"], .nd .tup [.str "s", .str "ma"], .nd .tup [.str "ma", .str "mb"], .nd .tup [.str "ma", .str "mb"], .nd .tup [.str "mb", .str "mc"], .nd .tup [.str "mb", .str "mc"], .nd .tup [.str "mb", .str "mc"], .nd .tup [.str "mc", .str "k"]]]
theorem f4_4_bell : (B4 ((((E .non).set 8 (.im md_4)).set 9 (.im far_4_bell)).set 1 (.lo .non))).mapE (wipeE · [8, 9, 10, 11]) = .ok (E .non, .nx) := by kernel_rfl
end Fx.K03

set_option Elab.async false
set_option linter.all false
set_option maxRecDepth 100000
set_option maxHeartbeats 4000000
namespace Fx.K03
open PySem L2
theorem f5 : (s_law_17 ((E .non).set 1 (.lo .non))).mapE (wipeE · []) = .ok (EF .non, .nx) := by kernel_rfl
abbrev its : List D := [.nd .lst [dFold, dFold], .nd .lst [dWin, dFold], .nd .lst [dWin], .nd .lst [dFold]]
abbrev body18 : Env → Rz (Env × Fl) := (gSeq (asideS 1 (gAsg (tgT [(tgN 3), (tgN 4)]) (vU (eCallX 1 m__law_memories [some false] (aCons (rN 14) aNil)))))
    (asideS 1 (gIf (t2 dNeQ (hH (eB dLen (aCons (hV (v1 (dFldQ "Plan" "inner") (hH (eMakeX 3 "Plan" m_Plan___init__ [some false, some false] (aCons (rN 3) (aCons (rN 4) aNil)))))) aNil))) (hV (v2 dMul (hC (.int 2)) (hH (eB dLen (aCons (rN 14) aNil)))))) (gRet (hV (vC (.bl false)))) gNext)))
theorem par5 : Par 1 (gForL (tgN 14) body18 its) := Par.forL (by decide) ((asideS_par 1 _).seq (asideS_par 1 _)) _
theorem f5b : (gForL (tgN 14) body18 its ((EF .non).set 1 (.lo .non))).mapE (wipeE · [3, 4, 14]) = .ok (EF .non, .nx) := by kernel_rfl
theorem f6_0 : (B6 (((EF .non).set 14 (.im (.nd .lst [dFold, dFold, dFold]))).set 1 (.lo .non))).mapE (fun ρ => ρ.take 1) = .ok ([.no], .rt (.im (.bl true))) := by kernel_rfl
theorem f6_1 : (B6 (((EF .non).set 14 (.im (.nd .lst [dWin, dFold, dFold]))).set 1 (.lo .non))).mapE (fun ρ => ρ.take 1) = .ok ([.no], .rt (.im (.bl true))) := by kernel_rfl
theorem f6_2 : (B6 (((EF .non).set 14 (.im (.nd .lst [dFold, dFold, dFold, dFold]))).set 1 (.lo .non))).mapE (fun ρ => ρ.take 1) = .ok ([.no], .rt (.im (.bl true))) := by kernel_rfl
end Fx.K03





set_option Elab.async false
set_option linter.all false
set_option maxRecDepth 100000
set_option maxHeartbeats 4000000
namespace Fx.K03
open PySem L2
theorem penc : PenC 60233 7097 21185 5266 := ⟨by decide, by decide, by decide, by decide, by decide, by decide, by decide, by decide⟩
theorem draw_is : m__law_draw = runFF 7 (gDraw 60233 7097 21185 5266) := rfl
theorem pick_is : m__law_pick = runFF 2 (gPick m__law_draw) := rfl
theorem pickF : Picks m__law_pick := by
  rw [pick_is, draw_is]
  exact picks (draws penc)
theorem pen_is : m__law_pen = runFF 1 gPenB := rfl
theorem seq2_nx {f g h : Env → Rz (Env × Fl)} {ρ ρ1 : Env} (e : gSeqF f g ρ = .ok (ρ1, .nx)) : gSeqF f (gSeqF g h) ρ = h ρ1 := by
  have e' : ((f ρ).bind fun p => match p.2 with
    | .nx => g p.1
    | fl => .ok (p.1, fl)) = Rz.ok (ρ1, .nx) := e
  show ((f ρ).bind fun p => match p.2 with
    | .nx => gSeqF g h p.1
    | fl => .ok (p.1, fl)) = h ρ1
  cases u : f ρ with
  | no => rw [u] at e'; exact nomatch e'
  | ex _ _ => rw [u] at e'; exact nomatch e'
  | ok p =>
    obtain ⟨ρ', fl⟩ := p
    rw [u] at e'
    cases fl with
    | nx => exact seqF_nx e'
    | rt r => exact nomatch e'
    | bk => exact nomatch e'
    | ct => exact nomatch e'
/-- _law_doubled -/
abbrev dGo (p L : D) : Env := [.pa p, .im L, .no, .no, .no, .no, .no, .no]
abbrev gDbl1 : Env → Rz (Env × Fl) := (gPar [2, 3, 4] (qCons (eLst (aCons (hV (vTup (aCons (hC (.str "s")) (aCons (hC (.str "source")) (aCons (hC (.int 0)) aNil))))) aNil)) (qCons (eLst aNil) (qCons (hV (vC (.str "s"))) aNil))))
abbrev gDbl2 : Env → Rz (Env × Fl) := (gFor (iEnu (vN 1)) (tgT [(tgN 5), (tgN 6)]) (gSeqF (gSet 7 (e2 dAdd (hC (.str "m")) (hV (v2 dIxAQ (hC (.str "abcdefgh")) (rN 5)))))
    (gSeqF (gExpr (eMth 2 mAppend (aCons (hV (vTup (aCons (rN 7) (aCons (hC (.str "mix")) aNil)))) aNil)))
    (gSeqF (gExpr (eMth 3 mExtend (aCons (hH (e2 dMulS (hH (eLst (aCons (hV (vTup (aCons (rN 4) (aCons (rN 7) aNil)))) aNil))) (rN 6))) aNil)))
    (gSet 4 (rN 7))))))
abbrev gDbl3 : Env → Rz (Env × Fl) := (gRet (hV (vTup (aCons (hH (e2 dAdd (rN 2) (hH (eLst (aCons (hV (vTup (aCons (hC (.str "k")) (aCons (hH (eCallX 2 m__law_pick [some true, some false] (aCons (rN 0) (aCons (hH (eLst (aCons (hC (.str "book")) (aCons (hC (.str "board")) (aCons (hC (.str "bell")) aNil))))) aNil)))) aNil)))) aNil))))) (aCons (hH (e2 dAdd (rN 3) (hH (eLst (aCons (hV (vTup (aCons (rN 4) (aCons (hC (.str "k")) aNil)))) aNil))))) aNil)))))
theorem dbl_is : g__law_doubled = gSeqF gDbl1 (gSeqF gDbl2 gDbl3) := rfl
theorem lst_k {ρ : Env} : eLst (aCons (hC (.str "book")) (aCons (hC (.str "board")) (aCons (hC (.str "bell")) aNil))) ρ = .ok (ρ, .nw (.nd .lst [.str "book", .str "board", .str "bell"])) := lst_ok (q := [.im (.str "book"), .im (.str "board"), .im (.str "bell")]) (ds := [.str "book", .str "board", .str "bell"]) rfl rfl (by simp)
/-- behind its loop -/
theorem dbl_end {n : Nat} {p L : D} {ns es : List D} {last : Str} {x5 x6 x7 : Sl} (hp : Pen n p) (hn : n ≤ 1000000) (hl : ns.length ≤ 100) (he : es.length ≤ 100) :
    ∃ (p' : D) (k : Str), gDbl3 [.pa p, .im L, .lo (.nd .lst ns), .lo (.nd .lst es), .im (.str last), x5, x6, x7] = .ok ([.pa p', .im L, .lo (.nd .lst ns), .lo (.nd .lst es), .im (.str last), x5, x6, x7], .rt (.im (.nd .tup [.nd .lst (ns ++ [.nd .tup [.str "k", .str k]]), .nd .lst (es ++ [.nd .tup [.str last, .str "k"]])]))) ∧ Pen (n + 1) p' ∧ (k = "book" ∨ k = "board" ∨ k = "bell") := by
  obtain ⟨p', d, e, hp', hd⟩ := pickX (i := 0) (ρ := [.pa p, .im L, .lo (.nd .lst ns), .lo (.nd .lst es), .im (.str last), x5, x6, x7]) (x := .pa p) pickF hp hn rfl rfl lst_k (by simp) (by simp)
  obtain ⟨k, rfl, hk⟩ : ∃ k, d = .str k ∧ (k = "book" ∨ k = "board" ∨ k = "bell") := by
    simp only [List.mem_cons, List.not_mem_nil, or_false] at hd
    rcases hd with rfl | rfl | rfl
    · exact ⟨_, rfl, .inl rfl⟩
    · exact ⟨_, rfl, .inr (.inl rfl)⟩
    · exact ⟨_, rfl, .inr (.inr rfl)⟩
  refine ⟨p', k, ret_ok (hV_ok ?_), hp', hk⟩
  have s1 : sz (ns.length + 1) = true := decide_eq_true (Nat.le_trans (show ns.length + 1 ≤ 1000 by omega) (by decide))
  have s2 : sz (es.length + 1) = true := decide_eq_true (Nat.le_trans (show es.length + 1 ≤ 1000 by omega) (by decide))
  have t1 : vTup (aCons (hC (.str "k")) (aCons (hH (eCallX 2 m__law_pick [some true, some false] (aCons (rN 0) (aCons (hH (eLst (aCons (hC (.str "book")) (aCons (hC (.str "board")) (aCons (hC (.str "bell")) aNil))))) aNil)))) aNil)) [.pa p, .im L, .lo (.nd .lst ns), .lo (.nd .lst es), .im (.str last), x5, x6, x7] = .ok ([.pa p', .im L, .lo (.nd .lst ns), .lo (.nd .lst es), .im (.str last), x5, x6, x7], .nd .tup [.str "k", .str k]) :=
    tup_ok (q := [.im (.str "k"), .im (.str k)]) (cons_ok rfl (cons_ok (hH_im e) rfl)) rfl (by simp)
  have t2 : eLst (aCons (hV (vTup (aCons (hC (.str "k")) (aCons (hH (eCallX 2 m__law_pick [some true, some false] (aCons (rN 0) (aCons (hH (eLst (aCons (hC (.str "book")) (aCons (hC (.str "board")) (aCons (hC (.str "bell")) aNil))))) aNil)))) aNil)))) aNil) [.pa p, .im L, .lo (.nd .lst ns), .lo (.nd .lst es), .im (.str last), x5, x6, x7] = .ok ([.pa p', .im L, .lo (.nd .lst ns), .lo (.nd .lst es), .im (.str last), x5, x6, x7], .nw (.nd .lst [.nd .tup [.str "k", .str k]])) :=
    lst_ok (q := [.im (.nd .tup [.str "k", .str k])]) (cons_ok (hV_ok t1) rfl) rfl (by simp)
  have a1 : dAdd (.nd .lst ns) (.nd .lst [.nd .tup [.str "k", .str k]]) = some (.nw (.nd .lst (ns ++ [.nd .tup [.str "k", .str k]]))) := by
    simp [dAdd, s1]
  have a2 : dAdd (.nd .lst es) (.nd .lst [.nd .tup [.str last, .str "k"]]) = some (.nw (.nd .lst (es ++ [.nd .tup [.str last, .str "k"]]))) := by
    simp [dAdd, s2]
  have t3 : eLst (aCons (hV (vTup (aCons (rN 4) (aCons (hC (.str "k")) aNil)))) aNil) [.pa p', .im L, .lo (.nd .lst ns), .lo (.nd .lst es), .im (.str last), x5, x6, x7] = .ok ([.pa p', .im L, .lo (.nd .lst ns), .lo (.nd .lst es), .im (.str last), x5, x6, x7], .nw (.nd .lst [.nd .tup [.str last, .str "k"]])) :=
    lst_ok (q := [.im (.nd .tup [.str last, .str "k"])]) (cons_ok (hV_ok (tup_ok (q := [.slot 4, .im (.str "k")]) (cons_ok rfl (cons_ok rfl rfl)) rfl (by simp))) rfl) rfl (by simp)
  exact tup_ok (q := [.im (.nd .lst (ns ++ [.nd .tup [.str "k", .str k]])), .im (.nd .lst (es ++ [.nd .tup [.str last, .str "k"]]))]) (cons_ok (hH_nw (add_ok rfl (hH_nw t2) rfl rfl a1)) (cons_ok (hH_nw (add_ok rfl (hH_nw t3) rfl rfl a2)) rfl)) rfl (by simp)
theorem dbl_run {n : Nat} {p L : D} {ns es : List D} {last : Str} {x5 x6 x7 : Sl} (h : gSeqF gDbl1 gDbl2 (dGo p L) = .ok ([.pa p, .im L, .lo (.nd .lst ns), .lo (.nd .lst es), .im (.str last), x5, x6, x7], .nx)) (hp : Pen n p) (hn : n ≤ 1000000) (hl : ns.length ≤ 100) (he : es.length ≤ 100) :
    ∃ (p' : D) (k : Str), m__law_doubled [.pa p, .im L] = .ok ([.pa p', .im L], .im (.nd .tup [.nd .lst (ns ++ [.nd .tup [.str "k", .str k]]), .nd .lst (es ++ [.nd .tup [.str last, .str "k"]])])) ∧ Pen (n + 1) p' ∧ (k = "book" ∨ k = "board" ∨ k = "bell") := by
  obtain ⟨p', k, e, hp', hk⟩ := dbl_end (L := L) (x5 := x5) (x6 := x6) (x7 := x7) (last := last) hp hn hl he
  have r := runFF_rt (n := 8) (body := g__law_doubled) (args := [.pa p, .im L]) (ρ' := [.pa p', .im L, .lo (.nd .lst ns), .lo (.nd .lst es), .im (.str last), x5, x6, x7]) (by rw [dbl_is]; exact (seq2_nx h).trans e) rfl rfl
  exact ⟨p', k, r, hp', hk⟩
theorem dbl_s0 (p : D) : gSeqF gDbl1 gDbl2 (dGo p (.nd .lst [.int 4, .int 4])) = .ok ([.pa p, .im (.nd .lst [.int 4, .int 4]), .lo (.nd .lst [.nd .tup [.str "s", .str "source", .int 0], .nd .tup [.str "ma", .str "mix"], .nd .tup [.str "mb", .str "mix"]]), .lo (.nd .lst [.nd .tup [.str "s", .str "ma"], .nd .tup [.str "s", .str "ma"], .nd .tup [.str "s", .str "ma"], .nd .tup [.str "s", .str "ma"], .nd .tup [.str "ma", .str "mb"], .nd .tup [.str "ma", .str "mb"], .nd .tup [.str "ma", .str "mb"], .nd .tup [.str "ma", .str "mb"]]), .im (.str "mb"), .im (.int 1), .im (.int 4), .im (.str "mb")], .nx) := by kernel_rfl
theorem doubled_s0 {n : Nat} {p : D} (hp : Pen n p) (hn : n ≤ 1000000) : ∃ (p' : D) (k : Str), m__law_doubled [.pa p, .im (.nd .lst [.int 4, .int 4])] = .ok ([.pa p', .im (.nd .lst [.int 4, .int 4])], .im (.nd .tup [.nd .lst ([.nd .tup [.str "s", .str "source", .int 0], .nd .tup [.str "ma", .str "mix"], .nd .tup [.str "mb", .str "mix"]] ++ [.nd .tup [.str "k", .str k]]), .nd .lst ([.nd .tup [.str "s", .str "ma"], .nd .tup [.str "s", .str "ma"], .nd .tup [.str "s", .str "ma"], .nd .tup [.str "s", .str "ma"], .nd .tup [.str "ma", .str "mb"], .nd .tup [.str "ma", .str "mb"], .nd .tup [.str "ma", .str "mb"], .nd .tup [.str "ma", .str "mb"]] ++ [.nd .tup [.str "mb", .str "k"]])])) ∧ Pen (n + 1) p' ∧ (k = "book" ∨ k = "board" ∨ k = "bell") := dbl_run (dbl_s0 p) hp hn (by decide) (by decide)
theorem dbl_s1 (p : D) : gSeqF gDbl1 gDbl2 (dGo p (.nd .lst [.int 2, .int 2, .int 2, .int 2])) = .ok ([.pa p, .im (.nd .lst [.int 2, .int 2, .int 2, .int 2]), .lo (.nd .lst [.nd .tup [.str "s", .str "source", .int 0], .nd .tup [.str "ma", .str "mix"], .nd .tup [.str "mb", .str "mix"], .nd .tup [.str "mc", .str "mix"], .nd .tup [.str "md", .str "mix"]]), .lo (.nd .lst [.nd .tup [.str "s", .str "ma"], .nd .tup [.str "s", .str "ma"], .nd .tup [.str "ma", .str "mb"], .nd .tup [.str "ma", .str "mb"], .nd .tup [.str "mb", .str "mc"], .nd .tup [.str "mb", .str "mc"], .nd .tup [.str "mc", .str "md"], .nd .tup [.str "mc", .str "md"]]), .im (.str "md"), .im (.int 3), .im (.int 2), .im (.str "md")], .nx) := by kernel_rfl
theorem doubled_s1 {n : Nat} {p : D} (hp : Pen n p) (hn : n ≤ 1000000) : ∃ (p' : D) (k : Str), m__law_doubled [.pa p, .im (.nd .lst [.int 2, .int 2, .int 2, .int 2])] = .ok ([.pa p', .im (.nd .lst [.int 2, .int 2, .int 2, .int 2])], .im (.nd .tup [.nd .lst ([.nd .tup [.str "s", .str "source", .int 0], .nd .tup [.str "ma", .str "mix"], .nd .tup [.str "mb", .str "mix"], .nd .tup [.str "mc", .str "mix"], .nd .tup [.str "md", .str "mix"]] ++ [.nd .tup [.str "k", .str k]]), .nd .lst ([.nd .tup [.str "s", .str "ma"], .nd .tup [.str "s", .str "ma"], .nd .tup [.str "ma", .str "mb"], .nd .tup [.str "ma", .str "mb"], .nd .tup [.str "mb", .str "mc"], .nd .tup [.str "mb", .str "mc"], .nd .tup [.str "mc", .str "md"], .nd .tup [.str "mc", .str "md"]] ++ [.nd .tup [.str "md", .str "k"]])])) ∧ Pen (n + 1) p' ∧ (k = "book" ∨ k = "board" ∨ k = "bell") := dbl_run (dbl_s1 p) hp hn (by decide) (by decide)
theorem dbl_s2 (p : D) : gSeqF gDbl1 gDbl2 (dGo p (.nd .lst [.int 2, .int 4, .int 2])) = .ok ([.pa p, .im (.nd .lst [.int 2, .int 4, .int 2]), .lo (.nd .lst [.nd .tup [.str "s", .str "source", .int 0], .nd .tup [.str "ma", .str "mix"], .nd .tup [.str "mb", .str "mix"], .nd .tup [.str "mc", .str "mix"]]), .lo (.nd .lst [.nd .tup [.str "s", .str "ma"], .nd .tup [.str "s", .str "ma"], .nd .tup [.str "ma", .str "mb"], .nd .tup [.str "ma", .str "mb"], .nd .tup [.str "ma", .str "mb"], .nd .tup [.str "ma", .str "mb"], .nd .tup [.str "mb", .str "mc"], .nd .tup [.str "mb", .str "mc"]]), .im (.str "mc"), .im (.int 2), .im (.int 2), .im (.str "mc")], .nx) := by kernel_rfl
theorem doubled_s2 {n : Nat} {p : D} (hp : Pen n p) (hn : n ≤ 1000000) : ∃ (p' : D) (k : Str), m__law_doubled [.pa p, .im (.nd .lst [.int 2, .int 4, .int 2])] = .ok ([.pa p', .im (.nd .lst [.int 2, .int 4, .int 2])], .im (.nd .tup [.nd .lst ([.nd .tup [.str "s", .str "source", .int 0], .nd .tup [.str "ma", .str "mix"], .nd .tup [.str "mb", .str "mix"], .nd .tup [.str "mc", .str "mix"]] ++ [.nd .tup [.str "k", .str k]]), .nd .lst ([.nd .tup [.str "s", .str "ma"], .nd .tup [.str "s", .str "ma"], .nd .tup [.str "ma", .str "mb"], .nd .tup [.str "ma", .str "mb"], .nd .tup [.str "ma", .str "mb"], .nd .tup [.str "ma", .str "mb"], .nd .tup [.str "mb", .str "mc"], .nd .tup [.str "mb", .str "mc"]] ++ [.nd .tup [.str "mc", .str "k"]])])) ∧ Pen (n + 1) p' ∧ (k = "book" ∨ k = "board" ∨ k = "bell") := dbl_run (dbl_s2 p) hp hn (by decide) (by decide)
theorem dbl_s3 (p : D) : gSeqF gDbl1 gDbl2 (dGo p (.nd .lst [.int 4, .int 2, .int 2])) = .ok ([.pa p, .im (.nd .lst [.int 4, .int 2, .int 2]), .lo (.nd .lst [.nd .tup [.str "s", .str "source", .int 0], .nd .tup [.str "ma", .str "mix"], .nd .tup [.str "mb", .str "mix"], .nd .tup [.str "mc", .str "mix"]]), .lo (.nd .lst [.nd .tup [.str "s", .str "ma"], .nd .tup [.str "s", .str "ma"], .nd .tup [.str "s", .str "ma"], .nd .tup [.str "s", .str "ma"], .nd .tup [.str "ma", .str "mb"], .nd .tup [.str "ma", .str "mb"], .nd .tup [.str "mb", .str "mc"], .nd .tup [.str "mb", .str "mc"]]), .im (.str "mc"), .im (.int 2), .im (.int 2), .im (.str "mc")], .nx) := by kernel_rfl
theorem doubled_s3 {n : Nat} {p : D} (hp : Pen n p) (hn : n ≤ 1000000) : ∃ (p' : D) (k : Str), m__law_doubled [.pa p, .im (.nd .lst [.int 4, .int 2, .int 2])] = .ok ([.pa p', .im (.nd .lst [.int 4, .int 2, .int 2])], .im (.nd .tup [.nd .lst ([.nd .tup [.str "s", .str "source", .int 0], .nd .tup [.str "ma", .str "mix"], .nd .tup [.str "mb", .str "mix"], .nd .tup [.str "mc", .str "mix"]] ++ [.nd .tup [.str "k", .str k]]), .nd .lst ([.nd .tup [.str "s", .str "ma"], .nd .tup [.str "s", .str "ma"], .nd .tup [.str "s", .str "ma"], .nd .tup [.str "s", .str "ma"], .nd .tup [.str "ma", .str "mb"], .nd .tup [.str "ma", .str "mb"], .nd .tup [.str "mb", .str "mc"], .nd .tup [.str "mb", .str "mc"]] ++ [.nd .tup [.str "mc", .str "k"]])])) ∧ Pen (n + 1) p' ∧ (k = "book" ∨ k = "board" ∨ k = "bell") := dbl_run (dbl_s3 p) hp hn (by decide) (by decide)
theorem dbl_m0 (p : D) : gSeqF gDbl1 gDbl2 (dGo p (.nd .lst [.int 3, .int 3, .int 2])) = .ok ([.pa p, .im (.nd .lst [.int 3, .int 3, .int 2]), .lo (.nd .lst [.nd .tup [.str "s", .str "source", .int 0], .nd .tup [.str "ma", .str "mix"], .nd .tup [.str "mb", .str "mix"], .nd .tup [.str "mc", .str "mix"]]), .lo (.nd .lst [.nd .tup [.str "s", .str "ma"], .nd .tup [.str "s", .str "ma"], .nd .tup [.str "s", .str "ma"], .nd .tup [.str "ma", .str "mb"], .nd .tup [.str "ma", .str "mb"], .nd .tup [.str "ma", .str "mb"], .nd .tup [.str "mb", .str "mc"], .nd .tup [.str "mb", .str "mc"]]), .im (.str "mc"), .im (.int 2), .im (.int 2), .im (.str "mc")], .nx) := by kernel_rfl
theorem doubled_m0 {n : Nat} {p : D} (hp : Pen n p) (hn : n ≤ 1000000) : ∃ (p' : D) (k : Str), m__law_doubled [.pa p, .im (.nd .lst [.int 3, .int 3, .int 2])] = .ok ([.pa p', .im (.nd .lst [.int 3, .int 3, .int 2])], .im (.nd .tup [.nd .lst ([.nd .tup [.str "s", .str "source", .int 0], .nd .tup [.str "ma", .str "mix"], .nd .tup [.str "mb", .str "mix"], .nd .tup [.str "mc", .str "mix"]] ++ [.nd .tup [.str "k", .str k]]), .nd .lst ([.nd .tup [.str "s", .str "ma"], .nd .tup [.str "s", .str "ma"], .nd .tup [.str "s", .str "ma"], .nd .tup [.str "ma", .str "mb"], .nd .tup [.str "ma", .str "mb"], .nd .tup [.str "ma", .str "mb"], .nd .tup [.str "mb", .str "mc"], .nd .tup [.str "mb", .str "mc"]] ++ [.nd .tup [.str "mc", .str "k"]])])) ∧ Pen (n + 1) p' ∧ (k = "book" ∨ k = "board" ∨ k = "bell") := dbl_run (dbl_m0 p) hp hn (by decide) (by decide)
theorem dbl_m1 (p : D) : gSeqF gDbl1 gDbl2 (dGo p (.nd .lst [.int 2, .int 3, .int 3])) = .ok ([.pa p, .im (.nd .lst [.int 2, .int 3, .int 3]), .lo (.nd .lst [.nd .tup [.str "s", .str "source", .int 0], .nd .tup [.str "ma", .str "mix"], .nd .tup [.str "mb", .str "mix"], .nd .tup [.str "mc", .str "mix"]]), .lo (.nd .lst [.nd .tup [.str "s", .str "ma"], .nd .tup [.str "s", .str "ma"], .nd .tup [.str "ma", .str "mb"], .nd .tup [.str "ma", .str "mb"], .nd .tup [.str "ma", .str "mb"], .nd .tup [.str "mb", .str "mc"], .nd .tup [.str "mb", .str "mc"], .nd .tup [.str "mb", .str "mc"]]), .im (.str "mc"), .im (.int 2), .im (.int 3), .im (.str "mc")], .nx) := by kernel_rfl
theorem doubled_m1 {n : Nat} {p : D} (hp : Pen n p) (hn : n ≤ 1000000) : ∃ (p' : D) (k : Str), m__law_doubled [.pa p, .im (.nd .lst [.int 2, .int 3, .int 3])] = .ok ([.pa p', .im (.nd .lst [.int 2, .int 3, .int 3])], .im (.nd .tup [.nd .lst ([.nd .tup [.str "s", .str "source", .int 0], .nd .tup [.str "ma", .str "mix"], .nd .tup [.str "mb", .str "mix"], .nd .tup [.str "mc", .str "mix"]] ++ [.nd .tup [.str "k", .str k]]), .nd .lst ([.nd .tup [.str "s", .str "ma"], .nd .tup [.str "s", .str "ma"], .nd .tup [.str "ma", .str "mb"], .nd .tup [.str "ma", .str "mb"], .nd .tup [.str "ma", .str "mb"], .nd .tup [.str "mb", .str "mc"], .nd .tup [.str "mb", .str "mc"], .nd .tup [.str "mb", .str "mc"]] ++ [.nd .tup [.str "mc", .str "k"]])])) ∧ Pen (n + 1) p' ∧ (k = "book" ∨ k = "board" ∨ k = "bell") := dbl_run (dbl_m1 p) hp hn (by decide) (by decide)
theorem dbl_m2 (p : D) : gSeqF gDbl1 gDbl2 (dGo p (.nd .lst [.int 4, .int 4, .int 2])) = .ok ([.pa p, .im (.nd .lst [.int 4, .int 4, .int 2]), .lo (.nd .lst [.nd .tup [.str "s", .str "source", .int 0], .nd .tup [.str "ma", .str "mix"], .nd .tup [.str "mb", .str "mix"], .nd .tup [.str "mc", .str "mix"]]), .lo (.nd .lst [.nd .tup [.str "s", .str "ma"], .nd .tup [.str "s", .str "ma"], .nd .tup [.str "s", .str "ma"], .nd .tup [.str "s", .str "ma"], .nd .tup [.str "ma", .str "mb"], .nd .tup [.str "ma", .str "mb"], .nd .tup [.str "ma", .str "mb"], .nd .tup [.str "ma", .str "mb"], .nd .tup [.str "mb", .str "mc"], .nd .tup [.str "mb", .str "mc"]]), .im (.str "mc"), .im (.int 2), .im (.int 2), .im (.str "mc")], .nx) := by kernel_rfl
theorem doubled_m2 {n : Nat} {p : D} (hp : Pen n p) (hn : n ≤ 1000000) : ∃ (p' : D) (k : Str), m__law_doubled [.pa p, .im (.nd .lst [.int 4, .int 4, .int 2])] = .ok ([.pa p', .im (.nd .lst [.int 4, .int 4, .int 2])], .im (.nd .tup [.nd .lst ([.nd .tup [.str "s", .str "source", .int 0], .nd .tup [.str "ma", .str "mix"], .nd .tup [.str "mb", .str "mix"], .nd .tup [.str "mc", .str "mix"]] ++ [.nd .tup [.str "k", .str k]]), .nd .lst ([.nd .tup [.str "s", .str "ma"], .nd .tup [.str "s", .str "ma"], .nd .tup [.str "s", .str "ma"], .nd .tup [.str "s", .str "ma"], .nd .tup [.str "ma", .str "mb"], .nd .tup [.str "ma", .str "mb"], .nd .tup [.str "ma", .str "mb"], .nd .tup [.str "ma", .str "mb"], .nd .tup [.str "mb", .str "mc"], .nd .tup [.str "mb", .str "mc"]] ++ [.nd .tup [.str "mc", .str "k"]])])) ∧ Pen (n + 1) p' ∧ (k = "book" ∨ k = "board" ∨ k = "bell") := dbl_run (dbl_m2 p) hp hn (by decide) (by decide)
theorem dbl_m3 (p : D) : gSeqF gDbl1 gDbl2 (dGo p (.nd .lst [.int 2, .int 2, .int 2, .int 2, .int 2])) = .ok ([.pa p, .im (.nd .lst [.int 2, .int 2, .int 2, .int 2, .int 2]), .lo (.nd .lst [.nd .tup [.str "s", .str "source", .int 0], .nd .tup [.str "ma", .str "mix"], .nd .tup [.str "mb", .str "mix"], .nd .tup [.str "mc", .str "mix"], .nd .tup [.str "md", .str "mix"], .nd .tup [.str "me", .str "mix"]]), .lo (.nd .lst [.nd .tup [.str "s", .str "ma"], .nd .tup [.str "s", .str "ma"], .nd .tup [.str "ma", .str "mb"], .nd .tup [.str "ma", .str "mb"], .nd .tup [.str "mb", .str "mc"], .nd .tup [.str "mb", .str "mc"], .nd .tup [.str "mc", .str "md"], .nd .tup [.str "mc", .str "md"], .nd .tup [.str "md", .str "me"], .nd .tup [.str "md", .str "me"]]), .im (.str "me"), .im (.int 4), .im (.int 2), .im (.str "me")], .nx) := by kernel_rfl
theorem doubled_m3 {n : Nat} {p : D} (hp : Pen n p) (hn : n ≤ 1000000) : ∃ (p' : D) (k : Str), m__law_doubled [.pa p, .im (.nd .lst [.int 2, .int 2, .int 2, .int 2, .int 2])] = .ok ([.pa p', .im (.nd .lst [.int 2, .int 2, .int 2, .int 2, .int 2])], .im (.nd .tup [.nd .lst ([.nd .tup [.str "s", .str "source", .int 0], .nd .tup [.str "ma", .str "mix"], .nd .tup [.str "mb", .str "mix"], .nd .tup [.str "mc", .str "mix"], .nd .tup [.str "md", .str "mix"], .nd .tup [.str "me", .str "mix"]] ++ [.nd .tup [.str "k", .str k]]), .nd .lst ([.nd .tup [.str "s", .str "ma"], .nd .tup [.str "s", .str "ma"], .nd .tup [.str "ma", .str "mb"], .nd .tup [.str "ma", .str "mb"], .nd .tup [.str "mb", .str "mc"], .nd .tup [.str "mb", .str "mc"], .nd .tup [.str "mc", .str "md"], .nd .tup [.str "mc", .str "md"], .nd .tup [.str "md", .str "me"], .nd .tup [.str "md", .str "me"]] ++ [.nd .tup [.str "me", .str "k"]])])) ∧ Pen (n + 1) p' ∧ (k = "book" ∨ k = "board" ∨ k = "bell") := dbl_run (dbl_m3 p) hp hn (by decide) (by decide)
theorem dbl_m4 (p : D) : gSeqF gDbl1 gDbl2 (dGo p (.nd .lst [.int 3, .int 2, .int 3])) = .ok ([.pa p, .im (.nd .lst [.int 3, .int 2, .int 3]), .lo (.nd .lst [.nd .tup [.str "s", .str "source", .int 0], .nd .tup [.str "ma", .str "mix"], .nd .tup [.str "mb", .str "mix"], .nd .tup [.str "mc", .str "mix"]]), .lo (.nd .lst [.nd .tup [.str "s", .str "ma"], .nd .tup [.str "s", .str "ma"], .nd .tup [.str "s", .str "ma"], .nd .tup [.str "ma", .str "mb"], .nd .tup [.str "ma", .str "mb"], .nd .tup [.str "mb", .str "mc"], .nd .tup [.str "mb", .str "mc"], .nd .tup [.str "mb", .str "mc"]]), .im (.str "mc"), .im (.int 2), .im (.int 3), .im (.str "mc")], .nx) := by kernel_rfl
theorem doubled_m4 {n : Nat} {p : D} (hp : Pen n p) (hn : n ≤ 1000000) : ∃ (p' : D) (k : Str), m__law_doubled [.pa p, .im (.nd .lst [.int 3, .int 2, .int 3])] = .ok ([.pa p', .im (.nd .lst [.int 3, .int 2, .int 3])], .im (.nd .tup [.nd .lst ([.nd .tup [.str "s", .str "source", .int 0], .nd .tup [.str "ma", .str "mix"], .nd .tup [.str "mb", .str "mix"], .nd .tup [.str "mc", .str "mix"]] ++ [.nd .tup [.str "k", .str k]]), .nd .lst ([.nd .tup [.str "s", .str "ma"], .nd .tup [.str "s", .str "ma"], .nd .tup [.str "s", .str "ma"], .nd .tup [.str "ma", .str "mb"], .nd .tup [.str "ma", .str "mb"], .nd .tup [.str "mb", .str "mc"], .nd .tup [.str "mb", .str "mc"], .nd .tup [.str "mb", .str "mc"]] ++ [.nd .tup [.str "mc", .str "k"]])])) ∧ Pen (n + 1) p' ∧ (k = "book" ∨ k = "board" ∨ k = "bell") := dbl_run (dbl_m4 p) hp hn (by decide) (by decide)
end Fx.K03

set_option Elab.async false
set_option linter.all false
set_option maxRecDepth 100000
set_option maxHeartbeats 4000000
namespace Fx.K03
open PySem L2
theorem lst_of {ρ : Env} {as : Env → Rz (Env × List Rs)} {ds : List D} (h : as ρ = .ok (ρ, ds.map .im)) (hl : ds.length ≤ 1000) : eLst as ρ = .ok (ρ, .nw (.nd .lst ds)) := lst_ok h (use_ims ρ ds) hl
theorem hl {ρ : Env} {as : Env → Rz (Env × List Rs)} {ds : List D} (h : eLst as ρ = .ok (ρ, .nw (.nd .lst ds))) : hH (eLst as) ρ = .ok (ρ, .im (.nd .lst ds)) := hH_nw h
theorem blk_end1 {f : Env → Rz (Env × Fl)} {E : Env} {d : D} (p : D) (hP : Par 1 f) (h : (f (E.set 1 (.lo .non))).mapE (fun ρ => ρ.take 1) = .ok ([.no], .rt (.im d))) (hi : 1 < E.length := by decide) : ∃ rest, f (E.set 1 (.lo p)) = .ok (.no :: rest, .rt (.im d)) := by
  cases u : f (E.set 1 (.lo .non)) with
  | no => rw [u] at h; exact nomatch h
  | ex _ _ => rw [u] at h; exact nomatch h
  | ok q =>
    obtain ⟨ρ', fl⟩ := q
    rw [u] at h
    injection h with h
    injection h with h1 h2
    simp only at h1 h2
    subst h2
    have r := hP.run hi u p
    cases ρ' with
    | nil => simp at h1
    | cons x xs =>
      simp at h1
      subst h1
      exact ⟨_, r⟩
theorem asg_ok {ρ ρ1 ρ2 : Env} {tgf : D → Env → Rz Env} {v : Env → Rz (Env × D)} {d : D} (h : v ρ = .ok (ρ1, d)) (h2 : tgf d ρ1 = .ok ρ2) : gAsg tgf v ρ = .ok (ρ2, .nx) := by
  unfold gAsg; rw [h]
  show ((tgf d ρ1).bind _) = _
  rw [h2]; rfl
/-- the call of _law_doubled by the law -/
theorem call_dbl {p L R p' : D} {ρ : Env} {i j : Nat} (h0 : ρ[i]? = some (.lo p)) (h1 : ρ[j]? = some (.im L)) (h : m__law_doubled [.pa p, .im L] = .ok ([.pa p', .im L], .im R)) : eCallX 2 m__law_doubled [some true, some false] (aCons (rN i) (aCons (rN j) aNil)) ρ = .ok (ρ.set i (.lo p'), .im R) := by
  refine callX_pen2 (x0 := .lo p) (x := .lo p) (r2 := .slot j) (d2 := L) h0 (by simp [Sl.peek]) (cons_ok (rN_ok' h1 (by simp [Sl.peek])) rfl) ?_ h0 rfl h
  show (match ρ[j]? with
    | some (.im d) => (Rz.ok (ρ, d) : Rz (Env × D))
    | some (.lo d) => .ok (ρ.set j (.im d), d)
    | _ => .no) = _
  rw [h1]
/-- behind the picks -/
theorem step1 {B rest : Env → Rz (Env × Fl)} (hP : Par 1 B) (h1 : (B ((((E .non).set 2 (.im (.str "map"))).set 1 (.lo .non)))).mapE (wipeE · [2, 3, 4, 5]) = .ok (E .non, .nx)) (h2 : (B ((((E .non).set 2 (.im (.str "stamp"))).set 1 (.lo .non)))).mapE (wipeE · [2, 3, 4, 5]) = .ok (E .non, .nx))
    {n : Nat} {p : D} (hp : Pen n p) (hn : n ≤ 1000000) : ∃ p', Pen (n + 1) p' ∧ gSeq s_law_1 (gSeqW [2, 3, 4, 5] B rest) (E p) = rest (E p') := by
  obtain ⟨p', d, e, hp', hd⟩ := pickX (i := 1) (ρ := E p) (x := .lo p) (ds := [.str "map", .str "stamp"]) pickF hp hn rfl rfl (lst_of (as := (aCons (hC (.str "map")) (aCons (hC (.str "stamp")) aNil))) (ds := [.str "map", .str "stamp"]) rfl (by decide)) (by decide) (by decide)
  have s1 : gSeq s_law_1 (gSeqW [2, 3, 4, 5] B rest) (E p) = gSeqW [2, 3, 4, 5] B rest (((E .non).set 2 (.im d)).set 1 (.lo p')) := seq_nx (set_ok e rfl)
  refine ⟨p', hp', s1.trans ?_⟩
  simp only [List.mem_cons, List.not_mem_nil, or_false] at hd
  rcases hd with rfl | rfl
  · exact blk_step (E := (E .non).set 2 (.im (.str "map"))) (E' := E .non) p' hP h1
  · exact blk_step (E := (E .non).set 2 (.im (.str "stamp"))) (E' := E .non) p' hP h2
theorem step2 {B rest : Env → Rz (Env × Fl)} (hP : Par 1 B) (h1 : (B ((E .non).set 1 (.lo .non))).mapE (wipeE · [3, 4]) = .ok (E .non, .nx)) {p : D} : gSeqW [3, 4] B rest (E p) = rest (E p) := blk_step (E := E .non) (E' := E .non) p hP h1
theorem step3 {B rest : Env → Rz (Env × Fl)} (hP : Par 1 B) (h_0_book : (B (((((E .non).set 6 (.im sd_0)).set 3 (.im n_0_book)).set 4 (.im e_0_book)).set 1 (.lo .non))).mapE (wipeE · [3, 4, 6, 7]) = .ok (E .non, .nx))
    (h_0_board : (B (((((E .non).set 6 (.im sd_0)).set 3 (.im n_0_board)).set 4 (.im e_0_board)).set 1 (.lo .non))).mapE (wipeE · [3, 4, 6, 7]) = .ok (E .non, .nx))
    (h_0_bell : (B (((((E .non).set 6 (.im sd_0)).set 3 (.im n_0_bell)).set 4 (.im e_0_bell)).set 1 (.lo .non))).mapE (wipeE · [3, 4, 6, 7]) = .ok (E .non, .nx))
    (h_1_book : (B (((((E .non).set 6 (.im sd_1)).set 3 (.im n_1_book)).set 4 (.im e_1_book)).set 1 (.lo .non))).mapE (wipeE · [3, 4, 6, 7]) = .ok (E .non, .nx))
    (h_1_board : (B (((((E .non).set 6 (.im sd_1)).set 3 (.im n_1_board)).set 4 (.im e_1_board)).set 1 (.lo .non))).mapE (wipeE · [3, 4, 6, 7]) = .ok (E .non, .nx))
    (h_1_bell : (B (((((E .non).set 6 (.im sd_1)).set 3 (.im n_1_bell)).set 4 (.im e_1_bell)).set 1 (.lo .non))).mapE (wipeE · [3, 4, 6, 7]) = .ok (E .non, .nx))
    (h_2_book : (B (((((E .non).set 6 (.im sd_2)).set 3 (.im n_2_book)).set 4 (.im e_2_book)).set 1 (.lo .non))).mapE (wipeE · [3, 4, 6, 7]) = .ok (E .non, .nx))
    (h_2_board : (B (((((E .non).set 6 (.im sd_2)).set 3 (.im n_2_board)).set 4 (.im e_2_board)).set 1 (.lo .non))).mapE (wipeE · [3, 4, 6, 7]) = .ok (E .non, .nx))
    (h_2_bell : (B (((((E .non).set 6 (.im sd_2)).set 3 (.im n_2_bell)).set 4 (.im e_2_bell)).set 1 (.lo .non))).mapE (wipeE · [3, 4, 6, 7]) = .ok (E .non, .nx))
    (h_3_book : (B (((((E .non).set 6 (.im sd_3)).set 3 (.im n_3_book)).set 4 (.im e_3_book)).set 1 (.lo .non))).mapE (wipeE · [3, 4, 6, 7]) = .ok (E .non, .nx))
    (h_3_board : (B (((((E .non).set 6 (.im sd_3)).set 3 (.im n_3_board)).set 4 (.im e_3_board)).set 1 (.lo .non))).mapE (wipeE · [3, 4, 6, 7]) = .ok (E .non, .nx))
    (h_3_bell : (B (((((E .non).set 6 (.im sd_3)).set 3 (.im n_3_bell)).set 4 (.im e_3_bell)).set 1 (.lo .non))).mapE (wipeE · [3, 4, 6, 7]) = .ok (E .non, .nx))
    {n : Nat} {p : D} (hp : Pen n p) (hn : n + 1 ≤ 1000000) : ∃ p', Pen (n + 2) p' ∧ gSeq s_law_8 (gSeq s_law_9 (gSeqW [3, 4, 6, 7] B rest)) (E p) = rest (E p') := by
  obtain ⟨p1, d, e, hp1, hd⟩ := pickX (i := 1) (ρ := E p) (x := .lo p) (ds := [sd_0, sd_1, sd_2, sd_3]) pickF hp (by omega) rfl rfl (lst_of (as := (aCons (hH (eLst (aCons (hC (.int 4)) (aCons (hC (.int 4)) aNil)))) (aCons (hH (eLst (aCons (hC (.int 2)) (aCons (hC (.int 2)) (aCons (hC (.int 2)) (aCons (hC (.int 2)) aNil)))))) (aCons (hH (eLst (aCons (hC (.int 2)) (aCons (hC (.int 4)) (aCons (hC (.int 2)) aNil))))) (aCons (hH (eLst (aCons (hC (.int 4)) (aCons (hC (.int 2)) (aCons (hC (.int 2)) aNil))))) aNil))))) (ds := [sd_0, sd_1, sd_2, sd_3]) rfl (by decide)) (by decide) (by decide)
  have s1 : gSeq s_law_8 (gSeq s_law_9 (gSeqW [3, 4, 6, 7] B rest)) (E p) = gSeq s_law_9 (gSeqW [3, 4, 6, 7] B rest) (((E .non).set 6 (.im d)).set 1 (.lo p1)) := seq_nx (set_ok e rfl)
  have s2 : ∀ {p2 N' E' : D}, m__law_doubled [.pa p1, .im d] = .ok ([.pa p2, .im d], .im (.nd .tup [N', E'])) → gSeq s_law_9 (gSeqW [3, 4, 6, 7] B rest) (((E .non).set 6 (.im d)).set 1 (.lo p1)) = gSeqW [3, 4, 6, 7] B rest ((((((E .non).set 6 (.im d)).set 3 (.im N')).set 4 (.im E'))).set 1 (.lo p2)) := fun {p2 N' E'} h => by
    have c := call_dbl (i := 1) (j := 6) (ρ := (((E .non).set 6 (.im d)).set 1 (.lo p1))) rfl rfl h
    have a : s_law_9 (((E .non).set 6 (.im d)).set 1 (.lo p1)) = .ok (((((E .non).set 6 (.im d)).set 3 (.im N')).set 4 (.im E')).set 1 (.lo p2), .nx) := asg_ok (vU_im c) rfl
    exact seq_nx a
  simp only [List.mem_cons, List.not_mem_nil, or_false] at hd
  rcases hd with rfl | rfl | rfl | rfl
  · obtain ⟨p2, k, h, hp2, hk⟩ := doubled_s0 hp1 hn
    refine ⟨p2, hp2, s1.trans ((s2 h).trans ?_)⟩
    rcases hk with rfl | rfl | rfl
    · exact blk_step (E := (((E .non).set 6 (.im sd_0)).set 3 (.im n_0_book)).set 4 (.im e_0_book)) (E' := E .non) p2 hP h_0_book
    · exact blk_step (E := (((E .non).set 6 (.im sd_0)).set 3 (.im n_0_board)).set 4 (.im e_0_board)) (E' := E .non) p2 hP h_0_board
    · exact blk_step (E := (((E .non).set 6 (.im sd_0)).set 3 (.im n_0_bell)).set 4 (.im e_0_bell)) (E' := E .non) p2 hP h_0_bell
  · obtain ⟨p2, k, h, hp2, hk⟩ := doubled_s1 hp1 hn
    refine ⟨p2, hp2, s1.trans ((s2 h).trans ?_)⟩
    rcases hk with rfl | rfl | rfl
    · exact blk_step (E := (((E .non).set 6 (.im sd_1)).set 3 (.im n_1_book)).set 4 (.im e_1_book)) (E' := E .non) p2 hP h_1_book
    · exact blk_step (E := (((E .non).set 6 (.im sd_1)).set 3 (.im n_1_board)).set 4 (.im e_1_board)) (E' := E .non) p2 hP h_1_board
    · exact blk_step (E := (((E .non).set 6 (.im sd_1)).set 3 (.im n_1_bell)).set 4 (.im e_1_bell)) (E' := E .non) p2 hP h_1_bell
  · obtain ⟨p2, k, h, hp2, hk⟩ := doubled_s2 hp1 hn
    refine ⟨p2, hp2, s1.trans ((s2 h).trans ?_)⟩
    rcases hk with rfl | rfl | rfl
    · exact blk_step (E := (((E .non).set 6 (.im sd_2)).set 3 (.im n_2_book)).set 4 (.im e_2_book)) (E' := E .non) p2 hP h_2_book
    · exact blk_step (E := (((E .non).set 6 (.im sd_2)).set 3 (.im n_2_board)).set 4 (.im e_2_board)) (E' := E .non) p2 hP h_2_board
    · exact blk_step (E := (((E .non).set 6 (.im sd_2)).set 3 (.im n_2_bell)).set 4 (.im e_2_bell)) (E' := E .non) p2 hP h_2_bell
  · obtain ⟨p2, k, h, hp2, hk⟩ := doubled_s3 hp1 hn
    refine ⟨p2, hp2, s1.trans ((s2 h).trans ?_)⟩
    rcases hk with rfl | rfl | rfl
    · exact blk_step (E := (((E .non).set 6 (.im sd_3)).set 3 (.im n_3_book)).set 4 (.im e_3_book)) (E' := E .non) p2 hP h_3_book
    · exact blk_step (E := (((E .non).set 6 (.im sd_3)).set 3 (.im n_3_board)).set 4 (.im e_3_board)) (E' := E .non) p2 hP h_3_board
    · exact blk_step (E := (((E .non).set 6 (.im sd_3)).set 3 (.im n_3_bell)).set 4 (.im e_3_bell)) (E' := E .non) p2 hP h_3_bell
theorem step4 {B rest : Env → Rz (Env × Fl)} (hP : Par 1 B) (h_0_book : (B ((((E .non).set 8 (.im md_0)).set 9 (.im far_0_book)).set 1 (.lo .non))).mapE (wipeE · [8, 9, 10, 11]) = .ok (E .non, .nx))
    (h_0_board : (B ((((E .non).set 8 (.im md_0)).set 9 (.im far_0_board)).set 1 (.lo .non))).mapE (wipeE · [8, 9, 10, 11]) = .ok (E .non, .nx))
    (h_0_bell : (B ((((E .non).set 8 (.im md_0)).set 9 (.im far_0_bell)).set 1 (.lo .non))).mapE (wipeE · [8, 9, 10, 11]) = .ok (E .non, .nx))
    (h_1_book : (B ((((E .non).set 8 (.im md_1)).set 9 (.im far_1_book)).set 1 (.lo .non))).mapE (wipeE · [8, 9, 10, 11]) = .ok (E .non, .nx))
    (h_1_board : (B ((((E .non).set 8 (.im md_1)).set 9 (.im far_1_board)).set 1 (.lo .non))).mapE (wipeE · [8, 9, 10, 11]) = .ok (E .non, .nx))
    (h_1_bell : (B ((((E .non).set 8 (.im md_1)).set 9 (.im far_1_bell)).set 1 (.lo .non))).mapE (wipeE · [8, 9, 10, 11]) = .ok (E .non, .nx))
    (h_2_book : (B ((((E .non).set 8 (.im md_2)).set 9 (.im far_2_book)).set 1 (.lo .non))).mapE (wipeE · [8, 9, 10, 11]) = .ok (E .non, .nx))
    (h_2_board : (B ((((E .non).set 8 (.im md_2)).set 9 (.im far_2_board)).set 1 (.lo .non))).mapE (wipeE · [8, 9, 10, 11]) = .ok (E .non, .nx))
    (h_2_bell : (B ((((E .non).set 8 (.im md_2)).set 9 (.im far_2_bell)).set 1 (.lo .non))).mapE (wipeE · [8, 9, 10, 11]) = .ok (E .non, .nx))
    (h_3_book : (B ((((E .non).set 8 (.im md_3)).set 9 (.im far_3_book)).set 1 (.lo .non))).mapE (wipeE · [8, 9, 10, 11]) = .ok (E .non, .nx))
    (h_3_board : (B ((((E .non).set 8 (.im md_3)).set 9 (.im far_3_board)).set 1 (.lo .non))).mapE (wipeE · [8, 9, 10, 11]) = .ok (E .non, .nx))
    (h_3_bell : (B ((((E .non).set 8 (.im md_3)).set 9 (.im far_3_bell)).set 1 (.lo .non))).mapE (wipeE · [8, 9, 10, 11]) = .ok (E .non, .nx))
    (h_4_book : (B ((((E .non).set 8 (.im md_4)).set 9 (.im far_4_book)).set 1 (.lo .non))).mapE (wipeE · [8, 9, 10, 11]) = .ok (E .non, .nx))
    (h_4_board : (B ((((E .non).set 8 (.im md_4)).set 9 (.im far_4_board)).set 1 (.lo .non))).mapE (wipeE · [8, 9, 10, 11]) = .ok (E .non, .nx))
    (h_4_bell : (B ((((E .non).set 8 (.im md_4)).set 9 (.im far_4_bell)).set 1 (.lo .non))).mapE (wipeE · [8, 9, 10, 11]) = .ok (E .non, .nx))
    {n : Nat} {p : D} (hp : Pen n p) (hn : n + 1 ≤ 1000000) : ∃ p', Pen (n + 2) p' ∧ gSeq s_law_12 (gSeq s_law_13 (gSeqW [8, 9, 10, 11] B rest)) (E p) = rest (E p') := by
  obtain ⟨p1, d, e, hp1, hd⟩ := pickX (i := 1) (ρ := E p) (x := .lo p) (ds := [md_0, md_1, md_2, md_3, md_4]) pickF hp (by omega) rfl rfl (lst_of (as := (aCons (hH (eLst (aCons (hC (.int 3)) (aCons (hC (.int 3)) (aCons (hC (.int 2)) aNil))))) (aCons (hH (eLst (aCons (hC (.int 2)) (aCons (hC (.int 3)) (aCons (hC (.int 3)) aNil))))) (aCons (hH (eLst (aCons (hC (.int 4)) (aCons (hC (.int 4)) (aCons (hC (.int 2)) aNil))))) (aCons (hH (eLst (aCons (hC (.int 2)) (aCons (hC (.int 2)) (aCons (hC (.int 2)) (aCons (hC (.int 2)) (aCons (hC (.int 2)) aNil))))))) (aCons (hH (eLst (aCons (hC (.int 3)) (aCons (hC (.int 2)) (aCons (hC (.int 3)) aNil))))) aNil)))))) (ds := [md_0, md_1, md_2, md_3, md_4]) rfl (by decide)) (by decide) (by decide)
  have s1 : gSeq s_law_12 (gSeq s_law_13 (gSeqW [8, 9, 10, 11] B rest)) (E p) = gSeq s_law_13 (gSeqW [8, 9, 10, 11] B rest) (((E .non).set 8 (.im d)).set 1 (.lo p1)) := seq_nx (set_ok e rfl)
  have s2 : ∀ {p2 R : D}, m__law_doubled [.pa p1, .im d] = .ok ([.pa p2, .im d], .im R) → gSeq s_law_13 (gSeqW [8, 9, 10, 11] B rest) (((E .non).set 8 (.im d)).set 1 (.lo p1)) = gSeqW [8, 9, 10, 11] B rest ((((E .non).set 8 (.im d)).set 9 (.im R)).set 1 (.lo p2)) := fun {p2 R} h => by
    have c := call_dbl (i := 1) (j := 8) (ρ := (((E .non).set 8 (.im d)).set 1 (.lo p1))) rfl rfl h
    have a : s_law_13 (((E .non).set 8 (.im d)).set 1 (.lo p1)) = .ok ((((E .non).set 8 (.im d)).set 9 (.im R)).set 1 (.lo p2), .nx) := set_ok c rfl
    exact seq_nx a
  simp only [List.mem_cons, List.not_mem_nil, or_false] at hd
  rcases hd with rfl | rfl | rfl | rfl | rfl
  · obtain ⟨p2, k, h, hp2, hk⟩ := doubled_m0 hp1 hn
    refine ⟨p2, hp2, s1.trans ((s2 h).trans ?_)⟩
    rcases hk with rfl | rfl | rfl
    · exact blk_step (E := ((E .non).set 8 (.im md_0)).set 9 (.im far_0_book)) (E' := E .non) p2 hP h_0_book
    · exact blk_step (E := ((E .non).set 8 (.im md_0)).set 9 (.im far_0_board)) (E' := E .non) p2 hP h_0_board
    · exact blk_step (E := ((E .non).set 8 (.im md_0)).set 9 (.im far_0_bell)) (E' := E .non) p2 hP h_0_bell
  · obtain ⟨p2, k, h, hp2, hk⟩ := doubled_m1 hp1 hn
    refine ⟨p2, hp2, s1.trans ((s2 h).trans ?_)⟩
    rcases hk with rfl | rfl | rfl
    · exact blk_step (E := ((E .non).set 8 (.im md_1)).set 9 (.im far_1_book)) (E' := E .non) p2 hP h_1_book
    · exact blk_step (E := ((E .non).set 8 (.im md_1)).set 9 (.im far_1_board)) (E' := E .non) p2 hP h_1_board
    · exact blk_step (E := ((E .non).set 8 (.im md_1)).set 9 (.im far_1_bell)) (E' := E .non) p2 hP h_1_bell
  · obtain ⟨p2, k, h, hp2, hk⟩ := doubled_m2 hp1 hn
    refine ⟨p2, hp2, s1.trans ((s2 h).trans ?_)⟩
    rcases hk with rfl | rfl | rfl
    · exact blk_step (E := ((E .non).set 8 (.im md_2)).set 9 (.im far_2_book)) (E' := E .non) p2 hP h_2_book
    · exact blk_step (E := ((E .non).set 8 (.im md_2)).set 9 (.im far_2_board)) (E' := E .non) p2 hP h_2_board
    · exact blk_step (E := ((E .non).set 8 (.im md_2)).set 9 (.im far_2_bell)) (E' := E .non) p2 hP h_2_bell
  · obtain ⟨p2, k, h, hp2, hk⟩ := doubled_m3 hp1 hn
    refine ⟨p2, hp2, s1.trans ((s2 h).trans ?_)⟩
    rcases hk with rfl | rfl | rfl
    · exact blk_step (E := ((E .non).set 8 (.im md_3)).set 9 (.im far_3_book)) (E' := E .non) p2 hP h_3_book
    · exact blk_step (E := ((E .non).set 8 (.im md_3)).set 9 (.im far_3_board)) (E' := E .non) p2 hP h_3_board
    · exact blk_step (E := ((E .non).set 8 (.im md_3)).set 9 (.im far_3_bell)) (E' := E .non) p2 hP h_3_bell
  · obtain ⟨p2, k, h, hp2, hk⟩ := doubled_m4 hp1 hn
    refine ⟨p2, hp2, s1.trans ((s2 h).trans ?_)⟩
    rcases hk with rfl | rfl | rfl
    · exact blk_step (E := ((E .non).set 8 (.im md_4)).set 9 (.im far_4_book)) (E' := E .non) p2 hP h_4_book
    · exact blk_step (E := ((E .non).set 8 (.im md_4)).set 9 (.im far_4_board)) (E' := E .non) p2 hP h_4_board
    · exact blk_step (E := ((E .non).set 8 (.im md_4)).set 9 (.im far_4_bell)) (E' := E .non) p2 hP h_4_bell
theorem step5 {g17 rest : Env → Rz (Env × Fl)} (hP : Par 1 g17) (h : (g17 ((E .non).set 1 (.lo .non))).mapE (wipeE · []) = .ok (EF .non, .nx)) {p : D} : gSeq g17 rest (E p) = rest (EF p) := by
  have := blk_step (vs := []) (rest := rest) (E := E .non) (E' := EF .non) p hP h
  exact this
theorem step5b {body rest : Env → Rz (Env × Fl)} {it : Env → Rz (Env × List D)} {ds : List D} (hP : Par 1 (gForL (tgN 14) body ds)) (hi : ∀ p, it (EF p) = .ok (EF p, ds)) (h : (gForL (tgN 14) body ds ((EF .non).set 1 (.lo .non))).mapE (wipeE · [3, 4, 14]) = .ok (EF .non, .nx)) {p : D} : gSeqW [3, 4, 14] (gFor it (tgN 14) body) rest (EF p) = rest (EF p) := by
  have := blk_step (vs := [3, 4, 14]) (rest := rest) (E := EF .non) (E' := EF .non) p hP h
  have e : gFor it (tgN 14) body (EF p) = gForL (tgN 14) body ds (EF p) := for_ok (hi p) rfl
  unfold gSeqW
  rw [e]
  exact this
theorem step6 {B : Env → Rz (Env × Fl)} (hP : Par 1 B) (h_0 : (B (((EF .non).set 14 (.im (.nd .lst [dFold, dFold, dFold]))).set 1 (.lo .non))).mapE (fun ρ => ρ.take 1) = .ok ([.no], .rt (.im (.bl true))))
    (h_1 : (B (((EF .non).set 14 (.im (.nd .lst [dWin, dFold, dFold]))).set 1 (.lo .non))).mapE (fun ρ => ρ.take 1) = .ok ([.no], .rt (.im (.bl true))))
    (h_2 : (B (((EF .non).set 14 (.im (.nd .lst [dFold, dFold, dFold, dFold]))).set 1 (.lo .non))).mapE (fun ρ => ρ.take 1) = .ok ([.no], .rt (.im (.bl true))))
    {n : Nat} {p : D} (hp : Pen n p) (hn : n ≤ 1000000) : ∃ ρ', gSeq s_law_19 B (EF p) = .ok (.no :: ρ', .rt (.im (.bl true))) := by
  have LL : ∀ {ρ : Env}, ρ[12]? = some (.im dFold) → ρ[13]? = some (.im dWin) → True := fun _ _ => trivial
  obtain ⟨p1, d, e, hp1, hd⟩ := pickX (i := 1) (ρ := EF p) (x := .lo p) (ds := [.nd .lst [dFold, dFold, dFold], .nd .lst [dWin, dFold, dFold], .nd .lst [dFold, dFold, dFold, dFold]]) pickF hp hn rfl rfl
    (lst_of (as := (aCons (hH (eLst (aCons (rN 12) (aCons (rN 12) (aCons (rN 12) aNil))))) (aCons (hH (eLst (aCons (rN 13) (aCons (rN 12) (aCons (rN 12) aNil))))) (aCons (hH (eLst (aCons (rN 12) (aCons (rN 12) (aCons (rN 12) (aCons (rN 12) aNil)))))) aNil)))) (ds := [.nd .lst [dFold, dFold, dFold], .nd .lst [dWin, dFold, dFold], .nd .lst [dFold, dFold, dFold, dFold]]) (cons_ok (hH_nw (lst_ok (q := [.slot 12, .slot 12, .slot 12]) (ds := [dFold, dFold, dFold]) rfl rfl (by decide))) (cons_ok (hH_nw (lst_ok (q := [.slot 13, .slot 12, .slot 12]) (ds := [dWin, dFold, dFold]) rfl rfl (by decide))) (cons_ok (hH_nw (lst_ok (q := [.slot 12, .slot 12, .slot 12, .slot 12]) (ds := [dFold, dFold, dFold, dFold]) rfl rfl (by decide))) rfl))) (by decide)) (by decide) (by decide)
  have s1 : gSeq s_law_19 B (EF p) = B (((EF .non).set 14 (.im d)).set 1 (.lo p1)) := seq_nx (set_ok e rfl)
  rw [s1]
  simp only [List.mem_cons, List.not_mem_nil, or_false] at hd
  rcases hd with rfl | rfl | rfl
  · exact blk_end1 (E := (EF .non).set 14 (.im (.nd .lst [dFold, dFold, dFold]))) p1 hP h_0
  · exact blk_end1 (E := (EF .non).set 14 (.im (.nd .lst [dWin, dFold, dFold]))) p1 hP h_1
  · exact blk_end1 (E := (EF .non).set 14 (.im (.nd .lst [dFold, dFold, dFold, dFold]))) p1 hP h_2
end Fx.K03

set_option Elab.async false
set_option linter.all false
set_option maxRecDepth 100000
set_option maxHeartbeats 4000000
namespace Fx.K03
open PySem L2
theorem gSeqW_congr {vs : List Nat} {a b c : Env → Rz (Env × Fl)} (h : b = c) : gSeqW vs a b = gSeqW vs a c := by rw [h]
theorem gSeq_congr {a b c : Env → Rz (Env × Fl)} (h : b = c) : gSeq a b = gSeq a c := by rw [h]
theorem seq_is {f g h : Env → Rz (Env × Fl)} : gSeq (gSeq f g) h = gSeq f (gSeq g h) := by
  funext ρ
  show (((f ρ).bind fun p => match p.2 with
    | .nx => g p.1
    | fl => .ok (p.1, fl)).bind fun p => match p.2 with
      | .nx => h p.1
      | fl => .ok (p.1, fl)) = ((f ρ).bind fun p => match p.2 with
        | .nx => gSeq g h p.1
        | fl => .ok (p.1, fl))
  cases u : f ρ with
  | no => rfl
  | ex _ _ => rfl
  | ok p =>
    obtain ⟨ρ', fl⟩ := p
    cases fl <;> rfl
/-- the law in blocks -/
theorem g_law_is : g_law = gSeqW [0] s_law_0 (gSeq s_law_1 (gSeqW [2, 3, 4, 5] B1 (gSeqW [3, 4] B2 (gSeq s_law_8 (gSeq s_law_9 (gSeqW [3, 4, 6, 7] B3 (gSeq s_law_12 (gSeq s_law_13 (gSeqW [8, 9, 10, 11] B4 (gSeq s_law_17 (gSeqW [3, 4, 14] s_law_18 (gSeq s_law_19 B6)))))))))))) := by
  unfold g_law
  simp only [gSeqW_assoc]
abbrev it18 : Env → Rz (Env × List D) := (iSeq (vTup (aCons (hH (eLst (aCons (rN 12) (aCons (rN 12) aNil)))) (aCons (hH (eLst (aCons (rN 13) (aCons (rN 12) aNil)))) (aCons (hH (eLst (aCons (rN 13) aNil))) (aCons (hH (eLst (aCons (rN 12) aNil))) aNil))))))
theorem it18_at (p : D) : it18 (EF p) = .ok (EF p, its) := rfl
theorem s18_is : s_law_18 = gFor it18 (tgN 14) body18 := rfl
theorem law_body (ns : List Int) : ∃ ρ', g_law ([.im (.nd .scr (ns.map D.int))] ++ List.replicate 15 .no) = .ok (.no :: ρ', .rt (.im (.bl true))) := by
  rw [g_law_is]
  have h0 : m__law_pen [.im (.nd .scr (ns.map D.int))] = .ok ([.im (.nd .scr (ns.map D.int))], .nw (penD (ns.take 63) 0 0)) := by rw [pen_is]; exact penB_at ns
  have e0 : s_law_0 ([.im (.nd .scr (ns.map D.int))] ++ List.replicate 15 .no) = .ok ([.im (.nd .scr (ns.map D.int)), .lo (penD (ns.take 63) 0 0), .no, .no, .no, .no, .no, .no, .no, .no, .no, .no, .no, .no, .no, .no], .nx) :=
    set_ok (callX_at (d := .nd .scr (ns.map D.int)) (x := .slot 0) rfl rfl h0 (by simp)) rfl
  have w0 : ∀ {rest : Env → Rz (Env × Fl)}, gSeqW [0] s_law_0 rest ([.im (.nd .scr (ns.map D.int))] ++ List.replicate 15 .no) = rest (E (penD (ns.take 63) 0 0)) := fun {rest} => by
    unfold gSeqW
    rw [e0]
    rfl
  rw [w0]
  obtain ⟨p1, hp1, e1⟩ := step1 (rest := gSeqW [3, 4] B2 (gSeq s_law_8 (gSeq s_law_9 (gSeqW [3, 4, 6, 7] B3 (gSeq s_law_12 (gSeq s_law_13 (gSeqW [8, 9, 10, 11] B4 (gSeq s_law_17 (gSeqW [3, 4, 14] s_law_18 (gSeq s_law_19 B6)))))))))) par1 f1_map f1_stamp (pen0 ns) (by decide)
  rw [e1, step2 par2 f2]
  obtain ⟨p3, hp3, e3⟩ := step3 (rest := gSeq s_law_12 (gSeq s_law_13 (gSeqW [8, 9, 10, 11] B4 (gSeq s_law_17 (gSeqW [3, 4, 14] s_law_18 (gSeq s_law_19 B6)))))) par3 f3_0_book f3_0_board f3_0_bell f3_1_book f3_1_board f3_1_bell f3_2_book f3_2_board f3_2_bell f3_3_book f3_3_board f3_3_bell hp1 (by decide)
  rw [e3]
  obtain ⟨p4, hp4, e4⟩ := step4 (rest := gSeq s_law_17 (gSeqW [3, 4, 14] s_law_18 (gSeq s_law_19 B6))) par4 f4_0_book f4_0_board f4_0_bell f4_1_book f4_1_board f4_1_bell f4_2_book f4_2_board f4_2_bell f4_3_book f4_3_board f4_3_bell f4_4_book f4_4_board f4_4_bell hp3 (by decide)
  rw [e4, step5 (g17 := s_law_17) (asideS_par 1 _) f5, s18_is, step5b par5 it18_at f5b]
  exact step6 par6 f6_0 f6_1 f6_2 hp4 (by decide)
theorem law_true (ns : List Int) (hl : ns.length ≤ 63) (bits : ∀ z ∈ ns, Builtin.Int.intBits z ≤ 1048576) : ∃ o, noX (m_law [.im (.nd .scr (ns.map D.int))]) = .ok (o, .im (.bl true)) := by
  obtain ⟨ρ', h⟩ := law_body ns
  exact ⟨_, run_rt (n := 16) (body := g_law) (args := [.im (.nd .scr (ns.map D.int))]) h rfl rfl⟩
end Fx.K03

set_option Elab.async false
set_option linter.all false
set_option maxRecDepth 100000
set_option maxHeartbeats 4000000
namespace Fx.K03
open PySem L2
theorem it_BadValue : InitT (mth 11 0) ["part"] := ⟨⟨_, rfl, rfl⟩, rfl, rfl, rfl, by decide +kernel, by decide +kernel, rfl, rfl, rfl, (fun _ _ _ us hl _ _ _ _ _ _ _ => match us, hl with | [_], _ => .of_eq rfl), .inl ⟨_, rfl, by decide +kernel, ⟨_, _, _, _, _, _, _, _, _, _, rfl, rfl⟩⟩⟩
theorem it_TooMany : InitT (mth 21 0) ["what", "most"] := ⟨⟨_, rfl, rfl⟩, rfl, rfl, rfl, by decide +kernel, by decide +kernel, rfl, rfl, rfl, (fun _ _ _ us hl _ _ _ _ _ _ _ => match us, hl with | [_, _], _ => .of_eq rfl), .inr ⟨_, _, rfl, by decide +kernel, by decide +kernel, by decide +kernel, ⟨_, _, _, _, _, _, _, _, _, _, _, _, _, _, _, rfl, rfl⟩⟩⟩
theorem it_Misfit : InitT (mth 18 0) ["part"] := ⟨⟨_, rfl, rfl⟩, rfl, rfl, rfl, by decide +kernel, by decide +kernel, rfl, rfl, rfl, (fun _ _ _ us hl _ _ _ _ _ _ _ => match us, hl with | [_], _ => .of_eq rfl), .inl ⟨_, rfl, by decide +kernel, ⟨_, _, _, _, _, _, _, _, _, _, rfl, rfl⟩⟩⟩
set_option maxHeartbeats 0 in
theorem mods_mk {P : Program} {K : PySem.W.Frag} {h : Heap} {mg : Str → Option Value} (X : K.In h) (G : h.Ns mainGlobals mg) (htop : (P.main.scope.names.lookup ("super" : Str)).isSome = false)
    {t1 : Tok} (a1 : PySem.W.nsIn K mainGlobals "LETTERS" = some (some (.str "abcdefghijklmnopqrstuvwxyz" t1)))
    {t2 : Tok} (a2 : PySem.W.nsIn K mainGlobals "MOST_NAME" = some (some (.int 8 t2)))
    {t3 : Tok} (a3 : PySem.W.nsIn K mainGlobals "SOURCE" = some (some (.str "source" t3)))
    {t4 : Tok} (a4 : PySem.W.nsIn K mainGlobals "MAP" = some (some (.str "map" t4)))
    {t5 : Tok} (a5 : PySem.W.nsIn K mainGlobals "STAMP" = some (some (.str "stamp" t5)))
    {t6 : Tok} (a6 : PySem.W.nsIn K mainGlobals "MIX" = some (some (.str "mix" t6)))
    {t7 : Tok} (a7 : PySem.W.nsIn K mainGlobals "FOLD" = some (some (.str "fold" t7)))
    {t8 : Tok} (a8 : PySem.W.nsIn K mainGlobals "WINDOW" = some (some (.str "window" t8)))
    {b9 : Addr} {o9 : Option Addr} {n9 : Nat} {s9 : Array (Option Value)} {t9_0 t9_1 t9_2 : Tok} (a9 : PySem.W.nsIn K mainGlobals "ROWWISE" = some (some (.ref b9))) (l9 : K.lookup b9 = some ⟨.type "tuple", o9, .seq #[.str "map" t9_0, .str "stamp" t9_1, .str "mix" t9_2] n9, s9⟩)
    {b10 : Addr} {o10 : Option Addr} {n10 : Nat} {s10 : Array (Option Value)} {t10_0 t10_1 t10_2 : Tok} (a10 : PySem.W.nsIn K mainGlobals "SINKS" = some (some (.ref b10))) (l10 : K.lookup b10 = some ⟨.type "tuple", o10, .seq #[.str "book" t10_0, .str "board" t10_1, .str "bell" t10_2] n10, s10⟩)
    {b11 : Addr} {o11 : Option Addr} {n11 : Nat} {s11 : Array (Option Value)} {t11_0 t11_1 t11_2 t11_3 t11_4 t11_5 t11_6 : Tok} (a11 : PySem.W.nsIn K mainGlobals "PLAIN" = some (some (.ref b11))) (l11 : K.lookup b11 = some ⟨.type "tuple", o11, .seq #[.str "map" t11_0, .str "stamp" t11_1, .str "mix" t11_2, .str "fold" t11_3, .str "book" t11_4, .str "board" t11_5, .str "bell" t11_6] n11, s11⟩)
    {t12 : Tok} (a12 : PySem.W.nsIn K mainGlobals "MOST_NODES" = some (some (.int 40 t12)))
    {t13 : Tok} (a13 : PySem.W.nsIn K mainGlobals "MOST_EDGES" = some (some (.int 80 t13)))
    {t14 : Tok} (a14 : PySem.W.nsIn K mainGlobals "MOST_TIME" = some (some (.int 1000 t14)))
    {t15 : Tok} (a15 : PySem.W.nsIn K mainGlobals "MOST_SIDES" = some (some (.int 4 t15)))
    {t16 : Tok} (a16 : PySem.W.nsIn K mainGlobals "MOST_FOLDS" = some (some (.int 2 t16)))
    {t17 : Tok} (a17 : PySem.W.nsIn K mainGlobals "MOST_WAYS" = some (some (.int 16 t17)))
    {cC : Addr} (aC : PySem.W.nsIn K mainGlobals "Plan" = some (some (.ref cC)))
    (pgC : PySem.W.plainGet K cC Str.empty = true) (hdC : PySem.W.hasDictIn K cC = true) (poC : PySem.W.plainOver K cC = true) (saC : PySem.W.findIn K (.ref cC) "__setattr__" = some (some (.builtin "object.__setattr__")))
    (n_nodes : PySem.W.findIn K (.ref cC) "nodes" = some none)
    (n_names : PySem.W.findIn K (.ref cC) "names" = some none)
    (n_kinds : PySem.W.findIn K (.ref cC) "kinds" = some none)
    (n_edges : PySem.W.findIn K (.ref cC) "edges" = some none)
    (n_sources : PySem.W.findIn K (.ref cC) "sources" = some none)
    (n_inner : PySem.W.findIn K (.ref cC) "inner" = some none)
    (n_sinks : PySem.W.findIn K (.ref cC) "sinks" = some none)
    (n_into : PySem.W.findIn K (.ref cC) "into" = some none)
    (n_out : PySem.W.findIn K (.ref cC) "out" = some none)
    (n_ways : PySem.W.findIn K (.ref cC) "ways" = some none)
    {f18 : Addr} {od18 an18 : Option Addr} {sl18 : Array (Option Value)} {oc18 kV18 dc18 pm18 cd18 ct18 : Value}
    (a18 : PySem.W.nsIn K mainGlobals "is_listed" = some (some (.ref f18))) (l18 : K.lookup f18 = some ⟨oc18, od18, .func (PySem.W.fnOf "is_listed" "is_listed" (defArgs (top 6)) (defBody (top 6)) (defScope (top 6)) .none kV18 dc18 pm18 an18 cd18 ct18), sl18⟩) (c18 : PySem.W.codeIn K cd18 "is_listed" = true) (k18 : PySem.W.keepIn K (.ref f18) = true)
    {f19 : Addr} {od19 an19 : Option Addr} {sl19 : Array (Option Value)} {oc19 kV19 dc19 pm19 cd19 ct19 : Value}
    (a19 : PySem.W.nsIn K mainGlobals "is_row" = some (some (.ref f19))) (l19 : K.lookup f19 = some ⟨oc19, od19, .func (PySem.W.fnOf "is_row" "is_row" (defArgs (top 7)) (defBody (top 7)) (defScope (top 7)) .none kV19 dc19 pm19 an19 cd19 ct19), sl19⟩) (c19 : PySem.W.codeIn K cd19 "is_row" = true) (k19 : PySem.W.keepIn K (.ref f19) = true)
    {f20 : Addr} {od20 an20 : Option Addr} {sl20 : Array (Option Value)} {oc20 kV20 dc20 pm20 cd20 ct20 : Value}
    (a20 : PySem.W.nsIn K mainGlobals "fixed" = some (some (.ref f20))) (l20 : K.lookup f20 = some ⟨oc20, od20, .func (PySem.W.fnOf "fixed" "fixed" (defArgs (top 23)) (defBody (top 23)) (defScope (top 23)) .none kV20 dc20 pm20 an20 cd20 ct20), sl20⟩) (c20 : PySem.W.codeIn K cd20 "fixed" = true) (k20 : PySem.W.keepIn K (.ref f20) = true)
    {f21 : Addr} {od21 an21 : Option Addr} {sl21 : Array (Option Value)} {oc21 kV21 dc21 pm21 cd21 ct21 : Value}
    (a21 : PySem.W.nsIn K mainGlobals "is_integer" = some (some (.ref f21))) (l21 : K.lookup f21 = some ⟨oc21, od21, .func (PySem.W.fnOf "is_integer" "is_integer" (defArgs (top 4)) (defBody (top 4)) (defScope (top 4)) .none kV21 dc21 pm21 an21 cd21 ct21), sl21⟩) (c21 : PySem.W.codeIn K cd21 "is_integer" = true) (k21 : PySem.W.keepIn K (.ref f21) = true)
    {f22 : Addr} {od22 an22 : Option Addr} {sl22 : Array (Option Value)} {oc22 kV22 dc22 pm22 cd22 ct22 : Value}
    (a22 : PySem.W.nsIn K mainGlobals "is_within" = some (some (.ref f22))) (l22 : K.lookup f22 = some ⟨oc22, od22, .func (PySem.W.fnOf "is_within" "is_within" (defArgs (top 5)) (defBody (top 5)) (defScope (top 5)) .none kV22 dc22 pm22 an22 cd22 ct22), sl22⟩) (c22 : PySem.W.codeIn K cd22 "is_within" = true) (k22 : PySem.W.keepIn K (.ref f22) = true)
    {f23 : Addr} {od23 an23 : Option Addr} {sl23 : Array (Option Value)} {oc23 kV23 dc23 pm23 cd23 ct23 : Value}
    (a23 : PySem.W.nsIn K mainGlobals "is_name" = some (some (.ref f23))) (l23 : K.lookup f23 = some ⟨oc23, od23, .func (PySem.W.fnOf "is_name" "is_name" (defArgs (top 8)) (defBody (top 8)) (defScope (top 8)) .none kV23 dc23 pm23 an23 cd23 ct23), sl23⟩) (c23 : PySem.W.codeIn K cd23 "is_name" = true) (k23 : PySem.W.keepIn K (.ref f23) = true)
    {f24 : Addr} {od24 an24 : Option Addr} {sl24 : Array (Option Value)} {oc24 kV24 dc24 pm24 cd24 ct24 : Value}
    (a24 : PySem.W.nsIn K mainGlobals "is_node" = some (some (.ref f24))) (l24 : K.lookup f24 = some ⟨oc24, od24, .func (PySem.W.fnOf "is_node" "is_node" (defArgs (top 43)) (defBody (top 43)) (defScope (top 43)) .none kV24 dc24 pm24 an24 cd24 ct24), sl24⟩) (c24 : PySem.W.codeIn K cd24 "is_node" = true) (k24 : PySem.W.keepIn K (.ref f24) = true)
    {f25 : Addr} {od25 an25 : Option Addr} {sl25 : Array (Option Value)} {oc25 kV25 dc25 pm25 cd25 ct25 : Value}
    (a25 : PySem.W.findIn K (.ref cC) "is_edge" = some (some (.ref f25))) (i25 : PySem.W.isFn K (.ref f25) = true) (l25 : K.lookup f25 = some ⟨oc25, od25, .func (PySem.W.fnOf "is_edge" "Plan.is_edge" (defArgs (mth 44 2)) (defBody (mth 44 2)) (defScope (mth 44 2)) .none kV25 dc25 pm25 an25 cd25 ct25), sl25⟩) (c25 : PySem.W.codeIn K cd25 "Plan.is_edge" = true) (k25 : PySem.W.keepIn K (.ref f25) = true)
    {f26 : Addr} {od26 an26 : Option Addr} {sl26 : Array (Option Value)} {oc26 kV26 dc26 pm26 cd26 ct26 : Value}
    (a26 : PySem.W.findIn K (.ref cC) "of_kinds" = some (some (.ref f26))) (i26 : PySem.W.isFn K (.ref f26) = true) (l26 : K.lookup f26 = some ⟨oc26, od26, .func (PySem.W.fnOf "of_kinds" "Plan.of_kinds" (defArgs (mth 44 3)) (defBody (mth 44 3)) (defScope (mth 44 3)) .none kV26 dc26 pm26 an26 cd26 ct26), sl26⟩) (c26 : PySem.W.codeIn K cd26 "Plan.of_kinds" = true) (k26 : PySem.W.keepIn K (.ref f26) = true)
    {f27 : Addr} {od27 an27 : Option Addr} {sl27 : Array (Option Value)} {oc27 kV27 dc27 pm27 cd27 ct27 : Value}
    (a27 : PySem.W.findIn K (.ref cC) "need_degrees" = some (some (.ref f27))) (i27 : PySem.W.isFn K (.ref f27) = true) (l27 : K.lookup f27 = some ⟨oc27, od27, .func (PySem.W.fnOf "need_degrees" "Plan.need_degrees" (defArgs (mth 44 4)) (defBody (mth 44 4)) (defScope (mth 44 4)) .none kV27 dc27 pm27 an27 cd27 ct27), sl27⟩) (c27 : PySem.W.codeIn K cd27 "Plan.need_degrees" = true) (k27 : PySem.W.keepIn K (.ref f27) = true)
    {f28 : Addr} {od28 an28 : Option Addr} {sl28 : Array (Option Value)} {oc28 kV28 dc28 pm28 cd28 ct28 : Value}
    (a28 : PySem.W.findIn K (.ref cC) "need_windows" = some (some (.ref f28))) (i28 : PySem.W.isFn K (.ref f28) = true) (l28 : K.lookup f28 = some ⟨oc28, od28, .func (PySem.W.fnOf "need_windows" "Plan.need_windows" (defArgs (mth 44 5)) (defBody (mth 44 5)) (defScope (mth 44 5)) .none kV28 dc28 pm28 an28 cd28 ct28), sl28⟩) (c28 : PySem.W.codeIn K cd28 "Plan.need_windows" = true) (k28 : PySem.W.keepIn K (.ref f28) = true)
    {f29 : Addr} {od29 an29 : Option Addr} {sl29 : Array (Option Value)} {oc29 kV29 dc29 pm29 cd29 ct29 : Value}
    (a29 : PySem.W.nsIn K mainGlobals "all_ways" = some (some (.ref f29))) (l29 : K.lookup f29 = some ⟨oc29, od29, .func (PySem.W.fnOf "all_ways" "all_ways" (defArgs (top 45)) (defBody (top 45)) (defScope (top 45)) .none kV29 dc29 pm29 an29 cd29 ct29), sl29⟩) (c29 : PySem.W.codeIn K cd29 "all_ways" = true) (k29 : PySem.W.keepIn K (.ref f29) = true)
    {f30 : Addr} {od30 an30 : Option Addr} {sl30 : Array (Option Value)} {oc30 kV30 dc30 pm30 cd30 ct30 : Value}
    (mkC : PySem.W.makesIn K cC = true) (kC : PySem.W.keepIn K (.ref cC) = true)
    (a30 : PySem.W.findIn K (.ref cC) "__init__" = some (some (.ref f30))) (i30 : PySem.W.isFn K (.ref f30) = true) (l30 : K.lookup f30 = some ⟨oc30, od30, .func (PySem.W.fnOf "__init__" "Plan.__init__" (defArgs (mth 44 0)) (defBody (mth 44 0)) (defScope (mth 44 0)) .none kV30 dc30 pm30 an30 cd30 ct30), sl30⟩) (c30 : PySem.W.codeIn K cd30 "Plan.__init__" = true) (k30 : PySem.W.keepIn K (.ref f30) = true)
    {f31 : Addr} {od31 an31 : Option Addr} {sl31 : Array (Option Value)} {oc31 kV31 dc31 pm31 cd31 ct31 : Value}
    (a31 : PySem.W.findIn K (.ref cC) "need_name" = some (some (.ref f31))) (i31 : PySem.W.isFn K (.ref f31) = true) (l31 : K.lookup f31 = some ⟨oc31, od31, .func (PySem.W.fnOf "need_name" "Plan.need_name" (defArgs (mth 44 6)) (defBody (mth 44 6)) (defScope (mth 44 6)) .none kV31 dc31 pm31 an31 cd31 ct31), sl31⟩) (c31 : PySem.W.codeIn K cd31 "Plan.need_name" = true) (k31 : PySem.W.keepIn K (.ref f31) = true)
    {f32 : Addr} {od32 an32 : Option Addr} {sl32 : Array (Option Value)} {oc32 kV32 dc32 pm32 cd32 ct32 : Value}
    (a32 : PySem.W.findIn K (.ref cC) "settings" = some (some (.ref f32))) (i32 : PySem.W.isFn K (.ref f32) = true) (l32 : K.lookup f32 = some ⟨oc32, od32, .func (PySem.W.fnOf "settings" "Plan.settings" (defArgs (mth 44 8)) (defBody (mth 44 8)) (defScope (mth 44 8)) .none kV32 dc32 pm32 an32 cd32 ct32), sl32⟩) (c32 : PySem.W.codeIn K cd32 "Plan.settings" = true) (k32 : PySem.W.keepIn K (.ref f32) = true)
    {f33 : Addr} {od33 an33 : Option Addr} {sl33 : Array (Option Value)} {oc33 kV33 dc33 pm33 cd33 ct33 : Value}
    (a33 : PySem.W.findIn K (.ref cC) "ways_to" = some (some (.ref f33))) (i33 : PySem.W.isFn K (.ref f33) = true) (l33 : K.lookup f33 = some ⟨oc33, od33, .func (PySem.W.fnOf "ways_to" "Plan.ways_to" (defArgs (mth 44 12)) (defBody (mth 44 12)) (defScope (mth 44 12)) .none kV33 dc33 pm33 an33 cd33 ct33), sl33⟩) (c33 : PySem.W.codeIn K cd33 "Plan.ways_to" = true) (k33 : PySem.W.keepIn K (.ref f33) = true)
    {f34 : Addr} {od34 an34 : Option Addr} {sl34 : Array (Option Value)} {oc34 kV34 dc34 pm34 cd34 ct34 : Value}
    (a34 : PySem.W.nsIn K mainGlobals "_law_pen" = some (some (.ref f34))) (l34 : K.lookup f34 = some ⟨oc34, od34, .func (PySem.W.fnOf "_law_pen" "_law_pen" (defArgs (top 47)) (defBody (top 47)) (defScope (top 47)) .none kV34 dc34 pm34 an34 cd34 ct34), sl34⟩) (c34 : PySem.W.codeIn K cd34 "_law_pen" = true) (k34 : PySem.W.keepIn K (.ref f34) = true)
    {f35 : Addr} {od35 an35 : Option Addr} {sl35 : Array (Option Value)} {oc35 kV35 dc35 pm35 cd35 ct35 : Value}
    (a35 : PySem.W.nsIn K mainGlobals "_law_draw" = some (some (.ref f35))) (l35 : K.lookup f35 = some ⟨oc35, od35, .func (PySem.W.fnOf "_law_draw" "_law_draw" (defArgs (top 48)) (defBody (top 48)) (defScope (top 48)) .none kV35 dc35 pm35 an35 cd35 ct35), sl35⟩) (c35 : PySem.W.codeIn K cd35 "_law_draw" = true) (k35 : PySem.W.keepIn K (.ref f35) = true)
    {f36 : Addr} {od36 an36 : Option Addr} {sl36 : Array (Option Value)} {oc36 kV36 dc36 pm36 cd36 ct36 : Value}
    (a36 : PySem.W.nsIn K mainGlobals "_law_pick" = some (some (.ref f36))) (l36 : K.lookup f36 = some ⟨oc36, od36, .func (PySem.W.fnOf "_law_pick" "_law_pick" (defArgs (top 49)) (defBody (top 49)) (defScope (top 49)) .none kV36 dc36 pm36 an36 cd36 ct36), sl36⟩) (c36 : PySem.W.codeIn K cd36 "_law_pick" = true) (k36 : PySem.W.keepIn K (.ref f36) = true)
    {f37 : Addr} {od37 an37 : Option Addr} {sl37 : Array (Option Value)} {oc37 kV37 dc37 pm37 cd37 ct37 : Value}
    (a37 : PySem.W.nsIn K mainGlobals "_law_heard" = some (some (.ref f37))) (l37 : K.lookup f37 = some ⟨oc37, od37, .func (PySem.W.fnOf "_law_heard" "_law_heard" (defArgs (top 50)) (defBody (top 50)) (defScope (top 50)) .none kV37 dc37 pm37 an37 cd37 ct37), sl37⟩) (c37 : PySem.W.codeIn K cd37 "_law_heard" = true) (k37 : PySem.W.keepIn K (.ref f37) = true)
    {f38 : Addr} {od38 an38 : Option Addr} {sl38 : Array (Option Value)} {oc38 kV38 dc38 pm38 cd38 ct38 : Value}
    (a38 : PySem.W.nsIn K mainGlobals "_law_ins" = some (some (.ref f38))) (l38 : K.lookup f38 = some ⟨oc38, od38, .func (PySem.W.fnOf "_law_ins" "_law_ins" (defArgs (top 51)) (defBody (top 51)) (defScope (top 51)) .none kV38 dc38 pm38 an38 cd38 ct38), sl38⟩) (c38 : PySem.W.codeIn K cd38 "_law_ins" = true) (k38 : PySem.W.keepIn K (.ref f38) = true)
    {f39 : Addr} {od39 an39 : Option Addr} {sl39 : Array (Option Value)} {oc39 kV39 dc39 pm39 cd39 ct39 : Value}
    (a39 : PySem.W.nsIn K mainGlobals "_law_ways" = some (some (.ref f39))) (l39 : K.lookup f39 = some ⟨oc39, od39, .func (PySem.W.fnOf "_law_ways" "_law_ways" (defArgs (top 52)) (defBody (top 52)) (defScope (top 52)) .none kV39 dc39 pm39 an39 cd39 ct39), sl39⟩) (c39 : PySem.W.codeIn K cd39 "_law_ways" = true) (k39 : PySem.W.keepIn K (.ref f39) = true)
    {f40 : Addr} {od40 an40 : Option Addr} {sl40 : Array (Option Value)} {oc40 kV40 dc40 pm40 cd40 ct40 : Value}
    (a40 : PySem.W.nsIn K mainGlobals "_law_chain" = some (some (.ref f40))) (l40 : K.lookup f40 = some ⟨oc40, od40, .func (PySem.W.fnOf "_law_chain" "_law_chain" (defArgs (top 53)) (defBody (top 53)) (defScope (top 53)) .none kV40 dc40 pm40 an40 cd40 ct40), sl40⟩) (c40 : PySem.W.codeIn K cd40 "_law_chain" = true) (k40 : PySem.W.keepIn K (.ref f40) = true)
    {f41 : Addr} {od41 an41 : Option Addr} {sl41 : Array (Option Value)} {oc41 kV41 dc41 pm41 cd41 ct41 : Value}
    (a41 : PySem.W.nsIn K mainGlobals "_law_wide" = some (some (.ref f41))) (l41 : K.lookup f41 = some ⟨oc41, od41, .func (PySem.W.fnOf "_law_wide" "_law_wide" (defArgs (top 54)) (defBody (top 54)) (defScope (top 54)) .none kV41 dc41 pm41 an41 cd41 ct41), sl41⟩) (c41 : PySem.W.codeIn K cd41 "_law_wide" = true) (k41 : PySem.W.keepIn K (.ref f41) = true)
    {f42 : Addr} {od42 an42 : Option Addr} {sl42 : Array (Option Value)} {oc42 kV42 dc42 pm42 cd42 ct42 : Value}
    (a42 : PySem.W.nsIn K mainGlobals "_law_doubled" = some (some (.ref f42))) (l42 : K.lookup f42 = some ⟨oc42, od42, .func (PySem.W.fnOf "_law_doubled" "_law_doubled" (defArgs (top 55)) (defBody (top 55)) (defScope (top 55)) .none kV42 dc42 pm42 an42 cd42 ct42), sl42⟩) (c42 : PySem.W.codeIn K cd42 "_law_doubled" = true) (k42 : PySem.W.keepIn K (.ref f42) = true)
    {f43 : Addr} {od43 an43 : Option Addr} {sl43 : Array (Option Value)} {oc43 kV43 dc43 pm43 cd43 ct43 : Value}
    (a43 : PySem.W.nsIn K mainGlobals "_law_memories" = some (some (.ref f43))) (l43 : K.lookup f43 = some ⟨oc43, od43, .func (PySem.W.fnOf "_law_memories" "_law_memories" (defArgs (top 56)) (defBody (top 56)) (defScope (top 56)) .none kV43 dc43 pm43 an43 cd43 ct43), sl43⟩) (c43 : PySem.W.codeIn K cd43 "_law_memories" = true) (k43 : PySem.W.keepIn K (.ref f43) = true)
    {x_BadEdge : Addr} (g_BadEdge : PySem.W.nsIn K mainGlobals "BadEdge" = some (some (.ref x_BadEdge)))
    {x_BadEvent : Addr} (g_BadEvent : PySem.W.nsIn K mainGlobals "BadEvent" = some (some (.ref x_BadEvent)))
    {x_BadNode : Addr} (g_BadNode : PySem.W.nsIn K mainGlobals "BadNode" = some (some (.ref x_BadNode)))
    {x_BadNumber : Addr} (g_BadNumber : PySem.W.nsIn K mainGlobals "BadNumber" = some (some (.ref x_BadNumber)))
    {x_BadText : Addr} (g_BadText : PySem.W.nsIn K mainGlobals "BadText" = some (some (.ref x_BadText)))
    {x_BadValue : Addr} (g_BadValue : PySem.W.nsIn K mainGlobals "BadValue" = some (some (.ref x_BadValue)))
    {x_BadWord : Addr} (g_BadWord : PySem.W.nsIn K mainGlobals "BadWord" = some (some (.ref x_BadWord)))
    {x_Misfit : Addr} (g_Misfit : PySem.W.nsIn K mainGlobals "Misfit" = some (some (.ref x_Misfit)))
    {x_NoName : Addr} (g_NoName : PySem.W.nsIn K mainGlobals "NoName" = some (some (.ref x_NoName)))
    {x_Nothing : Addr} (g_Nothing : PySem.W.nsIn K mainGlobals "Nothing" = some (some (.ref x_Nothing)))
    {x_OnceError : Addr} (g_OnceError : PySem.W.nsIn K mainGlobals "OnceError" = some (some (.ref x_OnceError)))
    {x_TooMany : Addr} (g_TooMany : PySem.W.nsIn K mainGlobals "TooMany" = some (some (.ref x_TooMany)))
    (hnX : PySem.W.specialIn K (.builtin "object.__class__") "__get__" = some (some (.builtin "getset_descriptor.__get__"))) (htX : PySem.W.takesIn K (.builtin "object.__class__") = some true) (tpX : PySem.W.nsIn K PySem.cStatics "thirdparty.any" = some none) (suX : PySem.W.nsIn K mainGlobals "super" = some none)
    {nm44 q44 : Str} {N44 : Addr} {bs44 bm44 : List Value} {sn44 : List Str} {sub44 : List Value} {ab44 : Bool} {col44 : Option Bool} {dd44 : Option Addr} {u0_44 u1_44 u2_44 u3_44 u5_44 : Option Value} {fI44 cda44 cc44 : Addr}
    {oc44 kV44 doc44 pm44 ct44 ccl44 cl44 : Value} {od44 an44 cdd44 cld44 : Option Addr} {osl44 ccs44 csl44 : Array (Option Value)} {vs44 : Array Value} {file44 : Str} {tf44 : Tok}
    (xL_BadValue : K.lookup x_BadValue = some (PySem.excClassObj nm44 q44 x_BadValue N44 bs44 bm44 true sn44 sub44 ab44 col44 dd44 u0_44 u1_44 u2_44 u3_44 u5_44 "ValueError.__new__"))
    (bm_BadValue : PySem.HandSPX.refsVE bm44 = true)
    (sa_BadValue : PySem.W.findIn K (.ref x_BadValue) "__setattr__" = some (some (.builtin "object.__setattr__")))
    (ga_BadValue : PySem.W.findIn K (.ref x_BadValue) "__getattribute__" = some (some (.builtin "BaseException.__getattribute__")))
    (gg_BadValue : PySem.W.findIn K (.ref x_BadValue) "__getattr__" = some none)
    (no_part_BadValue : PySem.W.findIn K (.ref x_BadValue) "part" = some none)
    (kC_BadValue : PySem.W.keepIn K (.ref x_BadValue) = true)
    (eC_BadValue : PySem.W.subIn K (.ref x_BadValue) (.type "BaseException") = some true)
    (tC_BadValue : PySem.W.typeIn K (.ref x_BadValue) = some (.type "type"))
    (hC_BadValue : PySem.W.hasDictIn K x_BadValue = true)
    (sI_BadValue : PySem.W.ks_superIn K x_BadValue x_BadValue "__init__" = some (some (.builtin "ValueError.__init__")))
    (sV_BadValue : PySem.W.subIn K (.ref x_BadValue) (.type "ValueError") = some true)
    (mC_BadValue : PySem.W.mroIn K x_BadValue (.ref x_BadValue) = some true)
    (i1_BadValue : PySem.W.findIn K (.ref x_BadValue) "__init__" = some (some (.ref fI44)))
    (i2_BadValue : PySem.W.typeIn K (.ref fI44) = some (.type "function"))
    (i3_BadValue : K.lookup fI44 = some ⟨oc44, od44, .func (PySem.W.ksFn "__init__" "BadValue.__init__" (defArgs (mth 11 0)) (defBody (mth 11 0)) (defScope (mth 11 0)) .none kV44 doc44 pm44 an44 (.ref cda44) ct44 cc44), osl44⟩)
    (i4_BadValue : PySem.W.codeIn K (.ref cda44) "BadValue.__init__" = true)
    (i5_BadValue : K.lookup cda44 = some ⟨ccl44, cdd44, .fields vs44, ccs44⟩)
    (i6_BadValue : vs44[2]? = some (.str file44 tf44))
    (i7_BadValue : ((P.main.file : Str) == file44) = true)
    (i8_BadValue : K.lookup cc44 = some ⟨cl44, cld44, .cell (some (.ref x_BadValue)), csl44⟩)
    (ha_BadValue : PySem.W.findIn K (.ref x_BadValue) "__class__" = some (some (.builtin "object.__class__")))
    (mo_BadValue : PySem.W.mroIn K x_BadValue (.type "object") = some true)
    (sO_BadValue : PySem.W.subIn K (.ref x_BadValue) (.ref x_OnceError) = some true)
    {nm45 q45 : Str} {N45 : Addr} {bs45 bm45 : List Value} {sn45 : List Str} {sub45 : List Value} {ab45 : Bool} {col45 : Option Bool} {dd45 : Option Addr} {u0_45 u1_45 u2_45 u3_45 u5_45 : Option Value} {fI45 cda45 cc45 : Addr}
    {oc45 kV45 doc45 pm45 ct45 ccl45 cl45 : Value} {od45 an45 cdd45 cld45 : Option Addr} {osl45 ccs45 csl45 : Array (Option Value)} {vs45 : Array Value} {file45 : Str} {tf45 : Tok}
    (xL_TooMany : K.lookup x_TooMany = some (PySem.excClassObj nm45 q45 x_TooMany N45 bs45 bm45 true sn45 sub45 ab45 col45 dd45 u0_45 u1_45 u2_45 u3_45 u5_45 "ValueError.__new__"))
    (bm_TooMany : PySem.HandSPX.refsVE bm45 = true)
    (sa_TooMany : PySem.W.findIn K (.ref x_TooMany) "__setattr__" = some (some (.builtin "object.__setattr__")))
    (ga_TooMany : PySem.W.findIn K (.ref x_TooMany) "__getattribute__" = some (some (.builtin "BaseException.__getattribute__")))
    (gg_TooMany : PySem.W.findIn K (.ref x_TooMany) "__getattr__" = some none)
    (no_what_TooMany : PySem.W.findIn K (.ref x_TooMany) "what" = some none)
    (no_most_TooMany : PySem.W.findIn K (.ref x_TooMany) "most" = some none)
    (kC_TooMany : PySem.W.keepIn K (.ref x_TooMany) = true)
    (eC_TooMany : PySem.W.subIn K (.ref x_TooMany) (.type "BaseException") = some true)
    (tC_TooMany : PySem.W.typeIn K (.ref x_TooMany) = some (.type "type"))
    (hC_TooMany : PySem.W.hasDictIn K x_TooMany = true)
    (sI_TooMany : PySem.W.ks_superIn K x_TooMany x_TooMany "__init__" = some (some (.builtin "ValueError.__init__")))
    (sV_TooMany : PySem.W.subIn K (.ref x_TooMany) (.type "ValueError") = some true)
    (mC_TooMany : PySem.W.mroIn K x_TooMany (.ref x_TooMany) = some true)
    (i1_TooMany : PySem.W.findIn K (.ref x_TooMany) "__init__" = some (some (.ref fI45)))
    (i2_TooMany : PySem.W.typeIn K (.ref fI45) = some (.type "function"))
    (i3_TooMany : K.lookup fI45 = some ⟨oc45, od45, .func (PySem.W.ksFn "__init__" "TooMany.__init__" (defArgs (mth 21 0)) (defBody (mth 21 0)) (defScope (mth 21 0)) .none kV45 doc45 pm45 an45 (.ref cda45) ct45 cc45), osl45⟩)
    (i4_TooMany : PySem.W.codeIn K (.ref cda45) "TooMany.__init__" = true)
    (i5_TooMany : K.lookup cda45 = some ⟨ccl45, cdd45, .fields vs45, ccs45⟩)
    (i6_TooMany : vs45[2]? = some (.str file45 tf45))
    (i7_TooMany : ((P.main.file : Str) == file45) = true)
    (i8_TooMany : K.lookup cc45 = some ⟨cl45, cld45, .cell (some (.ref x_TooMany)), csl45⟩)
    (ha_TooMany : PySem.W.findIn K (.ref x_TooMany) "__class__" = some (some (.builtin "object.__class__")))
    (mo_TooMany : PySem.W.mroIn K x_TooMany (.type "object") = some true)
    (sO_TooMany : PySem.W.subIn K (.ref x_TooMany) (.ref x_OnceError) = some true)
    {nm46 q46 : Str} {N46 : Addr} {bs46 bm46 : List Value} {sn46 : List Str} {sub46 : List Value} {ab46 : Bool} {col46 : Option Bool} {dd46 : Option Addr} {u0_46 u1_46 u2_46 u3_46 u5_46 : Option Value} {fI46 cda46 cc46 : Addr}
    {oc46 kV46 doc46 pm46 ct46 ccl46 cl46 : Value} {od46 an46 cdd46 cld46 : Option Addr} {osl46 ccs46 csl46 : Array (Option Value)} {vs46 : Array Value} {file46 : Str} {tf46 : Tok}
    (xL_Misfit : K.lookup x_Misfit = some (PySem.excClassObj nm46 q46 x_Misfit N46 bs46 bm46 true sn46 sub46 ab46 col46 dd46 u0_46 u1_46 u2_46 u3_46 u5_46 "ValueError.__new__"))
    (bm_Misfit : PySem.HandSPX.refsVE bm46 = true)
    (sa_Misfit : PySem.W.findIn K (.ref x_Misfit) "__setattr__" = some (some (.builtin "object.__setattr__")))
    (ga_Misfit : PySem.W.findIn K (.ref x_Misfit) "__getattribute__" = some (some (.builtin "BaseException.__getattribute__")))
    (gg_Misfit : PySem.W.findIn K (.ref x_Misfit) "__getattr__" = some none)
    (no_part_Misfit : PySem.W.findIn K (.ref x_Misfit) "part" = some none)
    (kC_Misfit : PySem.W.keepIn K (.ref x_Misfit) = true)
    (eC_Misfit : PySem.W.subIn K (.ref x_Misfit) (.type "BaseException") = some true)
    (tC_Misfit : PySem.W.typeIn K (.ref x_Misfit) = some (.type "type"))
    (hC_Misfit : PySem.W.hasDictIn K x_Misfit = true)
    (sI_Misfit : PySem.W.ks_superIn K x_Misfit x_Misfit "__init__" = some (some (.builtin "ValueError.__init__")))
    (sV_Misfit : PySem.W.subIn K (.ref x_Misfit) (.type "ValueError") = some true)
    (mC_Misfit : PySem.W.mroIn K x_Misfit (.ref x_Misfit) = some true)
    (i1_Misfit : PySem.W.findIn K (.ref x_Misfit) "__init__" = some (some (.ref fI46)))
    (i2_Misfit : PySem.W.typeIn K (.ref fI46) = some (.type "function"))
    (i3_Misfit : K.lookup fI46 = some ⟨oc46, od46, .func (PySem.W.ksFn "__init__" "Misfit.__init__" (defArgs (mth 18 0)) (defBody (mth 18 0)) (defScope (mth 18 0)) .none kV46 doc46 pm46 an46 (.ref cda46) ct46 cc46), osl46⟩)
    (i4_Misfit : PySem.W.codeIn K (.ref cda46) "Misfit.__init__" = true)
    (i5_Misfit : K.lookup cda46 = some ⟨ccl46, cdd46, .fields vs46, ccs46⟩)
    (i6_Misfit : vs46[2]? = some (.str file46 tf46))
    (i7_Misfit : ((P.main.file : Str) == file46) = true)
    (i8_Misfit : K.lookup cc46 = some ⟨cl46, cld46, .cell (some (.ref x_Misfit)), csl46⟩)
    (ha_Misfit : PySem.W.findIn K (.ref x_Misfit) "__class__" = some (some (.builtin "object.__class__")))
    (mo_Misfit : PySem.W.mroIn K x_Misfit (.type "object") = some true)
    (sO_Misfit : PySem.W.subIn K (.ref x_Misfit) (.ref x_OnceError) = some true)
    (eO : PySem.W.subIn K (.ref x_OnceError) (.type "BaseException") = some true) (hO : PySem.W.hasDictIn K x_OnceError = true) (tO : PySem.W.typeIn K (.ref x_OnceError) = some (.type "type"))
    (kt_Misfit_TooMany : PySem.W.kitOne K (.ref x_Misfit) (.ref x_TooMany) = some false)
    (kt_Misfit_Nothing : PySem.W.kitOne K (.ref x_Misfit) (.ref x_Nothing) = some false)
    (kt_Misfit_NoName : PySem.W.kitOne K (.ref x_Misfit) (.ref x_NoName) = some false)
    (kt_Misfit_Misfit : PySem.W.kitOne K (.ref x_Misfit) (.ref x_Misfit) = some true)
    (kt_Misfit_BadWord : PySem.W.kitOne K (.ref x_Misfit) (.ref x_BadWord) = some false)
    (kt_Misfit_BadValue : PySem.W.kitOne K (.ref x_Misfit) (.ref x_BadValue) = some false)
    (kt_Misfit_BadText : PySem.W.kitOne K (.ref x_Misfit) (.ref x_BadText) = some false)
    (kt_Misfit_BadNumber : PySem.W.kitOne K (.ref x_Misfit) (.ref x_BadNumber) = some false)
    (kt_Misfit_BadNode : PySem.W.kitOne K (.ref x_Misfit) (.ref x_BadNode) = some false)
    (kt_Misfit_BadEvent : PySem.W.kitOne K (.ref x_Misfit) (.ref x_BadEvent) = some false)
    (kt_Misfit_BadEdge : PySem.W.kitOne K (.ref x_Misfit) (.ref x_BadEdge) = some false)
    (kt_TooMany_TooMany : PySem.W.kitOne K (.ref x_TooMany) (.ref x_TooMany) = some true)
    (kt_TooMany_Nothing : PySem.W.kitOne K (.ref x_TooMany) (.ref x_Nothing) = some false)
    (kt_TooMany_NoName : PySem.W.kitOne K (.ref x_TooMany) (.ref x_NoName) = some false)
    (kt_TooMany_Misfit : PySem.W.kitOne K (.ref x_TooMany) (.ref x_Misfit) = some false)
    (kt_TooMany_BadWord : PySem.W.kitOne K (.ref x_TooMany) (.ref x_BadWord) = some false)
    (kt_TooMany_BadValue : PySem.W.kitOne K (.ref x_TooMany) (.ref x_BadValue) = some false)
    (kt_TooMany_BadText : PySem.W.kitOne K (.ref x_TooMany) (.ref x_BadText) = some false)
    (kt_TooMany_BadNumber : PySem.W.kitOne K (.ref x_TooMany) (.ref x_BadNumber) = some false)
    (kt_TooMany_BadNode : PySem.W.kitOne K (.ref x_TooMany) (.ref x_BadNode) = some false)
    (kt_TooMany_BadEvent : PySem.W.kitOne K (.ref x_TooMany) (.ref x_BadEvent) = some false)
    (kt_TooMany_BadEdge : PySem.W.kitOne K (.ref x_TooMany) (.ref x_BadEdge) = some false)
    (kt_BadValue_TooMany : PySem.W.kitOne K (.ref x_BadValue) (.ref x_TooMany) = some false)
    (kt_BadValue_Nothing : PySem.W.kitOne K (.ref x_BadValue) (.ref x_Nothing) = some false)
    (kt_BadValue_NoName : PySem.W.kitOne K (.ref x_BadValue) (.ref x_NoName) = some false)
    (kt_BadValue_Misfit : PySem.W.kitOne K (.ref x_BadValue) (.ref x_Misfit) = some false)
    (kt_BadValue_BadWord : PySem.W.kitOne K (.ref x_BadValue) (.ref x_BadWord) = some false)
    (kt_BadValue_BadValue : PySem.W.kitOne K (.ref x_BadValue) (.ref x_BadValue) = some true)
    (kt_BadValue_BadText : PySem.W.kitOne K (.ref x_BadValue) (.ref x_BadText) = some false)
    (kt_BadValue_BadNumber : PySem.W.kitOne K (.ref x_BadValue) (.ref x_BadNumber) = some false)
    (kt_BadValue_BadNode : PySem.W.kitOne K (.ref x_BadValue) (.ref x_BadNode) = some false)
    (kt_BadValue_BadEvent : PySem.W.kitOne K (.ref x_BadValue) (.ref x_BadEvent) = some false)
    (kt_BadValue_BadEdge : PySem.W.kitOne K (.ref x_BadValue) (.ref x_BadEdge) = some false)
    (z47 : PySem.W.nsIn K mainGlobals "abs" = some none)
    (z48 : PySem.W.nsIn K mainGlobals "all" = some none)
    (z49 : PySem.W.nsIn K mainGlobals "bool" = some none)
    (z50 : PySem.W.nsIn K mainGlobals "enumerate" = some none)
    (z51 : PySem.W.nsIn K mainGlobals "int" = some none)
    (z52 : PySem.W.nsIn K mainGlobals "isinstance" = some none)
    (z53 : PySem.W.nsIn K mainGlobals "len" = some none)
    (z54 : PySem.W.nsIn K mainGlobals "list" = some none)
    (z55 : PySem.W.nsIn K mainGlobals "max" = some none)
    (z56 : PySem.W.nsIn K mainGlobals "range" = some none)
    (z57 : PySem.W.nsIn K mainGlobals "repr" = some none)
    (z58 : PySem.W.nsIn K mainGlobals "sorted" = some none)
    (z59 : PySem.W.nsIn K mainGlobals "str" = some none)
    (z60 : PySem.W.nsIn K mainGlobals "tuple" = some none)
    (z61 : PySem.W.nsIn K mainGlobals "zip" = some none)
    {fL cL tL : Addr} {odL anL : Option Addr} {slL : Array (Option Value)} {ocL kVL dcL pmL ctL : Value} (aL : PySem.W.nsIn K mainGlobals "law" = some (some (.ref fL))) (lL : K.lookup fL = some ⟨ocL, odL, .func (PySem.W.fnOf "law" "law" (defArgs (top 57)) (defBody (top 57)) (defScope (top 57)) .none kVL dcL pmL anL (.ref cL) ctL), slL⟩) (codeL : PySem.W.codeIn K (.ref cL) "law" = true)
    {ocT : Value} {odT : Option Addr} {vsT : Array Value} {slT : Array (Option Value)} (lT : K.lookup cL = some ⟨ocT, odT, .fields vsT, slT⟩) (tT : vsT[11]? = some (.ref tL)) (hT : PySem.W.codeHdIn K cL tL = true) (nT : K.lookup tL = none)
    : Mods P K mg ∧ ∃ c T, LawC K mg "law" (top 57) c ∧ PySem.W.codeHdIn K c T = true ∧ K.lookup T = none := by
  haveI : Tb := ⟨fun _ _ => False⟩
  refine ⟨⟨(.str X G a1),
      (.int X G a2),
      (.str X G a3),
      (.str X G a4),
      (.str X G a5),
      (.str X G a6),
      (.str X G a7),
      (.str X G a8),
      (.tup X G a9 l9 rfl rfl (by show 3 ≤ sizeLine; decide) (.cons (.str _ _) (.cons (.str _ _) (.cons (.str _ _) .nil)))),
      (.tup X G a10 l10 rfl rfl (by show 3 ≤ sizeLine; decide) (.cons (.str _ _) (.cons (.str _ _) (.cons (.str _ _) .nil)))),
      (.tup X G a11 l11 rfl rfl (by show 7 ≤ sizeLine; decide) (.cons (.str _ _) (.cons (.str _ _) (.cons (.str _ _) (.cons (.str _ _) (.cons (.str _ _) (.cons (.str _ _) (.cons (.str _ _) .nil)))))))),
      (.int X G a12),
      (.int X G a13),
      (.int X G a14),
      (.int X G a15),
      (.int X G a16),
      (.int X G a17),
      (.of X G a18 l18 c18 k18 (fun _ _ _ _ _ _ us hl => match us, hl with | [_], _ => rfl)),
      (.of X G a19 l19 c19 k19 (fun _ _ _ _ _ _ us hl => match us, hl with | [_, _, _], _ => rfl)),
      (.of X G a20 l20 c20 k20 (fun _ _ _ _ _ _ us hl => match us, hl with | [_], _ => rfl)),
      (.of X G a21 l21 c21 k21 (fun _ _ _ _ _ _ us hl => match us, hl with | [_], _ => rfl)),
      (.of X G a22 l22 c22 k22 (fun _ _ _ _ _ _ us hl => match us, hl with | [_, _, _], _ => rfl)),
      (.of X G a23 l23 c23 k23 (fun _ _ _ _ _ _ us hl => match us, hl with | [_], _ => rfl)),
      (.of X G a24 l24 c24 k24 (fun _ _ _ _ _ _ us hl => match us, hl with | [_], _ => rfl)),
      (.of X G aC ⟨pgC, hdC, poC, saC⟩ a25 i25 l25 c25 k25 (fun _ _ _ _ _ _ us hl => match us, hl with | [_, _], _ => rfl)),
      (.of X G aC ⟨pgC, hdC, poC, saC⟩ a26 i26 l26 c26 k26 (fun _ _ _ _ _ _ us hl => match us, hl with | [_, _], _ => rfl)),
      (.of X G aC ⟨pgC, hdC, poC, saC⟩ a27 i27 l27 c27 k27 (fun _ _ _ _ _ _ us hl => match us, hl with | [_], _ => rfl)),
      (.of X G aC ⟨pgC, hdC, poC, saC⟩ a28 i28 l28 c28 k28 (fun _ _ _ _ _ _ us hl => match us, hl with | [_], _ => rfl)),
      (.of X G a29 l29 c29 k29 (fun _ _ _ _ _ _ us hl => match us, hl with | [_], _ => rfl)),
      (.of X G aC mkC a30 i30 kC l30 c30 k30 (fun _ _ _ _ _ _ us hl => match us, hl with | [_, _, _], _ => rfl)),
      (.of X G aC ⟨pgC, hdC, poC, saC⟩ a31 i31 l31 c31 k31 (fun _ _ _ _ _ _ us hl => match us, hl with | [_, _], _ => rfl)),
      (.of X G aC ⟨pgC, hdC, poC, saC⟩ a32 i32 l32 c32 k32 (fun _ _ _ _ _ _ us hl => match us, hl with | [_, _], _ => rfl)),
      (.of X G aC ⟨pgC, hdC, poC, saC⟩ a33 i33 l33 c33 k33 (fun _ _ _ _ _ _ us hl => match us, hl with | [_, _], _ => rfl)),
      (.of X G a34 l34 c34 k34 (fun _ _ _ _ _ _ us hl => match us, hl with | [_], _ => rfl)),
      (.of X G a35 l35 c35 k35 (fun _ _ _ _ _ _ us hl => match us, hl with | [_, _], _ => rfl)),
      (.of X G a36 l36 c36 k36 (fun _ _ _ _ _ _ us hl => match us, hl with | [_, _], _ => rfl)),
      (.of X G a37 l37 c37 k37 (fun _ _ _ _ _ _ us hl => match us, hl with | [_], _ => rfl)),
      (.of X G a38 l38 c38 k38 (fun _ _ _ _ _ _ us hl => match us, hl with | [_, _], _ => rfl)),
      (.of X G a39 l39 c39 k39 (fun _ _ _ _ _ _ us hl => match us, hl with | [_, _], _ => rfl)),
      (.of X G a40 l40 c40 k40 (fun _ _ _ _ _ _ us hl => match us, hl with | [_, _], _ => rfl)),
      (.of X G a41 l41 c41 k41 (fun _ _ _ _ _ _ us hl => match us, hl with | [_, _], _ => rfl)),
      (.of X G a42 l42 c42 k42 (fun _ _ _ _ _ _ us hl => match us, hl with | [_, _], _ => rfl)),
      (.of X G a43 l43 c43 k43 (fun _ _ _ _ _ _ us hl => match us, hl with | [_], _ => rfl)),
      (⟨⟨cC, PySem.W.mg_of X G aC, ⟨pgC, hdC, poC, saC⟩, List.forall_mem_cons.mpr ⟨n_nodes, List.forall_mem_cons.mpr ⟨n_names, List.forall_mem_cons.mpr ⟨n_kinds, List.forall_mem_cons.mpr ⟨n_edges, List.forall_mem_cons.mpr ⟨n_sources, List.forall_mem_cons.mpr ⟨n_inner, List.forall_mem_cons.mpr ⟨n_sinks, List.forall_mem_cons.mpr ⟨n_into, List.forall_mem_cons.mpr ⟨n_out, List.forall_mem_cons.mpr ⟨n_ways, fun _ h => nomatch h⟩⟩⟩⟩⟩⟩⟩⟩⟩⟩⟩⟩),
      (.of X G it_BadValue htop (by decide +kernel) (by decide) g_BadValue xL_BadValue bm_BadValue sa_BadValue ga_BadValue gg_BadValue (List.forall_mem_cons.mpr ⟨no_part_BadValue, fun _ h => nomatch h⟩) kC_BadValue eC_BadValue tC_BadValue hC_BadValue tpX sI_BadValue sV_BadValue mC_BadValue suX i1_BadValue i2_BadValue i3_BadValue i4_BadValue i5_BadValue i6_BadValue i7_BadValue i8_BadValue),
      (.of X G it_TooMany htop (by decide +kernel) (by decide) g_TooMany xL_TooMany bm_TooMany sa_TooMany ga_TooMany gg_TooMany (List.forall_mem_cons.mpr ⟨no_what_TooMany, List.forall_mem_cons.mpr ⟨no_most_TooMany, fun _ h => nomatch h⟩⟩) kC_TooMany eC_TooMany tC_TooMany hC_TooMany tpX sI_TooMany sV_TooMany mC_TooMany suX i1_TooMany i2_TooMany i3_TooMany i4_TooMany i5_TooMany i6_TooMany i7_TooMany i8_TooMany),
      (.of X G it_Misfit htop (by decide +kernel) (by decide) g_Misfit xL_Misfit bm_Misfit sa_Misfit ga_Misfit gg_Misfit (List.forall_mem_cons.mpr ⟨no_part_Misfit, fun _ h => nomatch h⟩) kC_Misfit eC_Misfit tC_Misfit hC_Misfit tpX sI_Misfit sV_Misfit mC_Misfit suX i1_Misfit i2_Misfit i3_Misfit i4_Misfit i5_Misfit i6_Misfit i7_Misfit i8_Misfit),
      ((IsaT.cons (IsaT.cons (IsaT.cons (IsaT.cons (IsaT.cons (IsaT.cons (IsaT.cons (IsaT.cons (IsaT.cons (IsaT.cons (IsaT.cons (IsaT.cons (IsaT.cons (IsaT.cons (IsaT.cons (IsaT.cons (IsaT.cons (IsaT.cons (IsaT.cons (IsaT.cons (IsaT.cons (IsaT.cons (IsaT.cons (IsaT.cons (IsaT.cons (IsaT.cons (IsaT.cons (IsaT.cons (IsaT.cons (IsaT.cons (IsaT.cons (IsaT.cons (IsaT.cons IsaT.nil (PySem.W.mg_of X G g_Misfit) (PySem.W.mg_of X G g_TooMany) kt_Misfit_TooMany ⟨ga_Misfit, gg_Misfit, eC_Misfit, hC_Misfit, ha_Misfit, hnX, htX, mo_Misfit⟩) (PySem.W.mg_of X G g_Misfit) (PySem.W.mg_of X G g_Nothing) kt_Misfit_Nothing ⟨ga_Misfit, gg_Misfit, eC_Misfit, hC_Misfit, ha_Misfit, hnX, htX, mo_Misfit⟩) (PySem.W.mg_of X G g_Misfit) (PySem.W.mg_of X G g_NoName) kt_Misfit_NoName ⟨ga_Misfit, gg_Misfit, eC_Misfit, hC_Misfit, ha_Misfit, hnX, htX, mo_Misfit⟩) (PySem.W.mg_of X G g_Misfit) (PySem.W.mg_of X G g_Misfit) kt_Misfit_Misfit ⟨ga_Misfit, gg_Misfit, eC_Misfit, hC_Misfit, ha_Misfit, hnX, htX, mo_Misfit⟩) (PySem.W.mg_of X G g_Misfit) (PySem.W.mg_of X G g_BadWord) kt_Misfit_BadWord ⟨ga_Misfit, gg_Misfit, eC_Misfit, hC_Misfit, ha_Misfit, hnX, htX, mo_Misfit⟩) (PySem.W.mg_of X G g_Misfit) (PySem.W.mg_of X G g_BadValue) kt_Misfit_BadValue ⟨ga_Misfit, gg_Misfit, eC_Misfit, hC_Misfit, ha_Misfit, hnX, htX, mo_Misfit⟩) (PySem.W.mg_of X G g_Misfit) (PySem.W.mg_of X G g_BadText) kt_Misfit_BadText ⟨ga_Misfit, gg_Misfit, eC_Misfit, hC_Misfit, ha_Misfit, hnX, htX, mo_Misfit⟩) (PySem.W.mg_of X G g_Misfit) (PySem.W.mg_of X G g_BadNumber) kt_Misfit_BadNumber ⟨ga_Misfit, gg_Misfit, eC_Misfit, hC_Misfit, ha_Misfit, hnX, htX, mo_Misfit⟩) (PySem.W.mg_of X G g_Misfit) (PySem.W.mg_of X G g_BadNode) kt_Misfit_BadNode ⟨ga_Misfit, gg_Misfit, eC_Misfit, hC_Misfit, ha_Misfit, hnX, htX, mo_Misfit⟩) (PySem.W.mg_of X G g_Misfit) (PySem.W.mg_of X G g_BadEvent) kt_Misfit_BadEvent ⟨ga_Misfit, gg_Misfit, eC_Misfit, hC_Misfit, ha_Misfit, hnX, htX, mo_Misfit⟩) (PySem.W.mg_of X G g_Misfit) (PySem.W.mg_of X G g_BadEdge) kt_Misfit_BadEdge ⟨ga_Misfit, gg_Misfit, eC_Misfit, hC_Misfit, ha_Misfit, hnX, htX, mo_Misfit⟩) (PySem.W.mg_of X G g_TooMany) (PySem.W.mg_of X G g_TooMany) kt_TooMany_TooMany ⟨ga_TooMany, gg_TooMany, eC_TooMany, hC_TooMany, ha_TooMany, hnX, htX, mo_TooMany⟩) (PySem.W.mg_of X G g_TooMany) (PySem.W.mg_of X G g_Nothing) kt_TooMany_Nothing ⟨ga_TooMany, gg_TooMany, eC_TooMany, hC_TooMany, ha_TooMany, hnX, htX, mo_TooMany⟩) (PySem.W.mg_of X G g_TooMany) (PySem.W.mg_of X G g_NoName) kt_TooMany_NoName ⟨ga_TooMany, gg_TooMany, eC_TooMany, hC_TooMany, ha_TooMany, hnX, htX, mo_TooMany⟩) (PySem.W.mg_of X G g_TooMany) (PySem.W.mg_of X G g_Misfit) kt_TooMany_Misfit ⟨ga_TooMany, gg_TooMany, eC_TooMany, hC_TooMany, ha_TooMany, hnX, htX, mo_TooMany⟩) (PySem.W.mg_of X G g_TooMany) (PySem.W.mg_of X G g_BadWord) kt_TooMany_BadWord ⟨ga_TooMany, gg_TooMany, eC_TooMany, hC_TooMany, ha_TooMany, hnX, htX, mo_TooMany⟩) (PySem.W.mg_of X G g_TooMany) (PySem.W.mg_of X G g_BadValue) kt_TooMany_BadValue ⟨ga_TooMany, gg_TooMany, eC_TooMany, hC_TooMany, ha_TooMany, hnX, htX, mo_TooMany⟩) (PySem.W.mg_of X G g_TooMany) (PySem.W.mg_of X G g_BadText) kt_TooMany_BadText ⟨ga_TooMany, gg_TooMany, eC_TooMany, hC_TooMany, ha_TooMany, hnX, htX, mo_TooMany⟩) (PySem.W.mg_of X G g_TooMany) (PySem.W.mg_of X G g_BadNumber) kt_TooMany_BadNumber ⟨ga_TooMany, gg_TooMany, eC_TooMany, hC_TooMany, ha_TooMany, hnX, htX, mo_TooMany⟩) (PySem.W.mg_of X G g_TooMany) (PySem.W.mg_of X G g_BadNode) kt_TooMany_BadNode ⟨ga_TooMany, gg_TooMany, eC_TooMany, hC_TooMany, ha_TooMany, hnX, htX, mo_TooMany⟩) (PySem.W.mg_of X G g_TooMany) (PySem.W.mg_of X G g_BadEvent) kt_TooMany_BadEvent ⟨ga_TooMany, gg_TooMany, eC_TooMany, hC_TooMany, ha_TooMany, hnX, htX, mo_TooMany⟩) (PySem.W.mg_of X G g_TooMany) (PySem.W.mg_of X G g_BadEdge) kt_TooMany_BadEdge ⟨ga_TooMany, gg_TooMany, eC_TooMany, hC_TooMany, ha_TooMany, hnX, htX, mo_TooMany⟩) (PySem.W.mg_of X G g_BadValue) (PySem.W.mg_of X G g_TooMany) kt_BadValue_TooMany ⟨ga_BadValue, gg_BadValue, eC_BadValue, hC_BadValue, ha_BadValue, hnX, htX, mo_BadValue⟩) (PySem.W.mg_of X G g_BadValue) (PySem.W.mg_of X G g_Nothing) kt_BadValue_Nothing ⟨ga_BadValue, gg_BadValue, eC_BadValue, hC_BadValue, ha_BadValue, hnX, htX, mo_BadValue⟩) (PySem.W.mg_of X G g_BadValue) (PySem.W.mg_of X G g_NoName) kt_BadValue_NoName ⟨ga_BadValue, gg_BadValue, eC_BadValue, hC_BadValue, ha_BadValue, hnX, htX, mo_BadValue⟩) (PySem.W.mg_of X G g_BadValue) (PySem.W.mg_of X G g_Misfit) kt_BadValue_Misfit ⟨ga_BadValue, gg_BadValue, eC_BadValue, hC_BadValue, ha_BadValue, hnX, htX, mo_BadValue⟩) (PySem.W.mg_of X G g_BadValue) (PySem.W.mg_of X G g_BadWord) kt_BadValue_BadWord ⟨ga_BadValue, gg_BadValue, eC_BadValue, hC_BadValue, ha_BadValue, hnX, htX, mo_BadValue⟩) (PySem.W.mg_of X G g_BadValue) (PySem.W.mg_of X G g_BadValue) kt_BadValue_BadValue ⟨ga_BadValue, gg_BadValue, eC_BadValue, hC_BadValue, ha_BadValue, hnX, htX, mo_BadValue⟩) (PySem.W.mg_of X G g_BadValue) (PySem.W.mg_of X G g_BadText) kt_BadValue_BadText ⟨ga_BadValue, gg_BadValue, eC_BadValue, hC_BadValue, ha_BadValue, hnX, htX, mo_BadValue⟩) (PySem.W.mg_of X G g_BadValue) (PySem.W.mg_of X G g_BadNumber) kt_BadValue_BadNumber ⟨ga_BadValue, gg_BadValue, eC_BadValue, hC_BadValue, ha_BadValue, hnX, htX, mo_BadValue⟩) (PySem.W.mg_of X G g_BadValue) (PySem.W.mg_of X G g_BadNode) kt_BadValue_BadNode ⟨ga_BadValue, gg_BadValue, eC_BadValue, hC_BadValue, ha_BadValue, hnX, htX, mo_BadValue⟩) (PySem.W.mg_of X G g_BadValue) (PySem.W.mg_of X G g_BadEvent) kt_BadValue_BadEvent ⟨ga_BadValue, gg_BadValue, eC_BadValue, hC_BadValue, ha_BadValue, hnX, htX, mo_BadValue⟩) (PySem.W.mg_of X G g_BadValue) (PySem.W.mg_of X G g_BadEdge) kt_BadValue_BadEdge ⟨ga_BadValue, gg_BadValue, eC_BadValue, hC_BadValue, ha_BadValue, hnX, htX, mo_BadValue⟩)),
      (⟨_, PySem.W.mg_of X G g_BadEdge⟩),
      (⟨_, PySem.W.mg_of X G g_BadEvent⟩),
      (⟨_, PySem.W.mg_of X G g_BadNode⟩),
      (⟨_, PySem.W.mg_of X G g_BadNumber⟩),
      (⟨_, PySem.W.mg_of X G g_BadText⟩),
      (⟨_, PySem.W.mg_of X G g_BadValue⟩),
      (⟨_, PySem.W.mg_of X G g_BadWord⟩),
      (⟨_, PySem.W.mg_of X G g_Misfit⟩),
      (⟨_, PySem.W.mg_of X G g_NoName⟩),
      (⟨_, PySem.W.mg_of X G g_Nothing⟩),
      (⟨_, PySem.W.mg_of X G g_TooMany⟩),
      (⟨fun _ h => nomatch h⟩),
      (⟨fun _ h => nomatch h⟩),
      (⟨fun _ h => nomatch h⟩),
      (⟨List.forall_mem_cons.mpr ⟨⟨_, PySem.W.mg_of X G g_TooMany, ⟨ga_TooMany, gg_TooMany, eC_TooMany, hC_TooMany⟩, no_most_TooMany⟩, fun _ h => nomatch h⟩⟩),
      (⟨fun _ h => nomatch h⟩),
      (⟨List.forall_mem_cons.mpr ⟨⟨_, PySem.W.mg_of X G g_BadValue, ⟨ga_BadValue, gg_BadValue, eC_BadValue, hC_BadValue⟩, no_part_BadValue⟩, List.forall_mem_cons.mpr ⟨⟨_, PySem.W.mg_of X G g_Misfit, ⟨ga_Misfit, gg_Misfit, eC_Misfit, hC_Misfit⟩, no_part_Misfit⟩, fun _ h => nomatch h⟩⟩⟩),
      (⟨List.forall_mem_cons.mpr ⟨⟨_, PySem.W.mg_of X G g_TooMany, ⟨ga_TooMany, gg_TooMany, eC_TooMany, hC_TooMany⟩, no_what_TooMany⟩, fun _ h => nomatch h⟩⟩),
      (⟨fun _ h => nomatch h⟩),
      (⟨⟨_, PySem.W.mg_of X G g_OnceError, List.forall_mem_cons.mpr ⟨⟨_, PySem.W.mg_of X G g_BadValue, PySem.W.exm_ref eO hO tO sO_BadValue⟩, List.forall_mem_cons.mpr ⟨⟨_, PySem.W.mg_of X G g_TooMany, PySem.W.exm_ref eO hO tO sO_TooMany⟩, List.forall_mem_cons.mpr ⟨⟨_, PySem.W.mg_of X G g_Misfit, PySem.W.exm_ref eO hO tO sO_Misfit⟩, fun _ h => nomatch h⟩⟩⟩⟩⟩),
      (PySem.W.mg_none_of X G z47),
      (PySem.W.mg_none_of X G z48),
      (PySem.W.mg_none_of X G z49),
      (PySem.W.mg_none_of X G z50),
      (PySem.W.mg_none_of X G z51),
      (PySem.W.mg_none_of X G z52),
      (PySem.W.mg_none_of X G z53),
      (PySem.W.mg_none_of X G z54),
      (PySem.W.mg_none_of X G z55),
      (PySem.W.mg_none_of X G z56),
      (PySem.W.mg_none_of X G z57),
      (PySem.W.mg_none_of X G z58),
      (PySem.W.mg_none_of X G z59),
      (PySem.W.mg_none_of X G z60),
      (PySem.W.mg_none_of X G z61)⟩, cL, tL, ⟨⟨fL, ocL, odL, kVL, dcL, pmL, ctL, anL, slL, PySem.W.mg_of X G aL, lL, codeL⟩⟩, hT, nT⟩
/-- the row's walk -/
theorem walk (law_true : ∀ (ns : List Int) (hl : ns.length ≤ 63) (bits : ∀ z ∈ ns, Builtin.Int.intBits z ≤ 1048576), ∃ o, noX (m_law [.im (.nd .scr (ns.map D.int))]) = .ok (o, .im (.bl true))) {l : PySem.W.OpenLaw} {q : Program} {loose : List Str} {XP : (Str → Option Value) → Heap → Prop} {YP : World → Heap → Prop} {d : DefRec} {K : Params → PySem.W.Frag} (hn : l.most = some 63) (hdf : d.params.defaults = []) (hd : d.name = "law")
    (hrec : ((PyProof.Rows.recsOf q).any fun e => e.name == d.name) = true) (hY : ∀ (w : World) (h : Heap), YP w h → (K w.params).In h)
    (F : ∀ (w : World) (mg : Str → Option Value) (h : Heap), (K w.params).In h → h.Ns mainGlobals mg → Mods l.prog (K w.params) mg ∧ ∃ c T, LawC (K w.params) mg "law" (top 57) c ∧ PySem.W.codeHdIn (K w.params) c T = true ∧ (K w.params).lookup T = none) :
    PySem.W.WalkO q loose XP YP l.row.toRowW d [] (fun f vs => PySem.call f vs) := by
  refine walkT (n := 63) (k := 9) (x := "script") hn (by decide) hdf ⟨rfl, by decide, by decide⟩ hrec hY fun w mg fa h KX G hmg => ?_
  obtain ⟨m, c, T, Lw, hc, hT⟩ := F w mg h KX G
  letI TB : Tb := ⟨fun P q => P = T ∧ q = ("law" ++ ".<locals>." ++ "<lambda>" : Str)⟩
  obtain ⟨f, oc, od, kV, doc, pm, ct, an, osl, e1, lk, cd⟩ := Lw.ex
  rw [hd, e1] at hmg
  cases hmg
  refine ⟨_, c, T, _, spN 1 ⟨K w.params, mg⟩ (fun a => noX (m_law a)), lk, rfl, rfl, hc, hT, fun s u => .of_eq rfl, fun H a ns hl bits hH S => ?_, fun base _ _ tb => ?_⟩
  · obtain ⟨o, h⟩ := law_true ns hl bits
    exact spN_true (fun P q hq => by rw [hq.1]; exact hH) S h
  · exact d_all m ⟨⟨c, T, rfl, tb, ⟨rfl, rfl⟩, fun q' h => h.2⟩⟩ Lw fa oc od kV doc pm ct an osl lk cd

end Fx.K03

set_option Elab.async false
set_option linter.all false
set_option maxRecDepth 100000
set_option maxHeartbeats 4000000
open PySem PySem.W PyProof.Rows
set_option maxRecDepth 100000 in
set_option maxHeartbeats 0 in
theorem PySem.Challenge.cw_asonerun_k03_greatest_plans_holds : PySem.Challenge.rw_asonerun_k03_greatest_plans.Holds := by
  w_on; o_law; k_head; (case hw => w_witness2)
  k_fill
  refine Fx.K03.walk Fx.K03.law_true (l := PySem.Challenge.rw_asonerun_k03_greatest_plans) rfl rfl rfl (by first | rfl | kernel_rfl | decide +kernel) (fun w h Y => PySem.W.km_in_of Y) ?F
  case F =>
    intro w mg h KX G
    refine' Fx.K03.mods_mk KX G (by first | rfl | kernel_rfl) ?a1 ?a2 ?a3 ?a4 ?a5 ?a6 ?a7 ?a8 ?a9 ?l9 ?a10 ?l10 ?a11 ?l11 ?a12 ?a13 ?a14 ?a15 ?a16 ?a17 ?aC ?pgC ?hdC ?poC ?saC ?n_nodes ?n_names ?n_kinds ?n_edges ?n_sources ?n_inner ?n_sinks ?n_into ?n_out ?n_ways ?a18 ?l18 ?c18 ?k18 ?a19 ?l19 ?c19 ?k19 ?a20 ?l20 ?c20 ?k20 ?a21 ?l21 ?c21 ?k21 ?a22 ?l22 ?c22 ?k22 ?a23 ?l23 ?c23 ?k23 ?a24 ?l24 ?c24 ?k24 ?a25 ?i25 ?l25 ?c25 ?k25 ?a26 ?i26 ?l26 ?c26 ?k26 ?a27 ?i27 ?l27 ?c27 ?k27 ?a28 ?i28 ?l28 ?c28 ?k28 ?a29 ?l29 ?c29 ?k29 ?mkC ?kC ?a30 ?i30 ?l30 ?c30 ?k30 ?a31 ?i31 ?l31 ?c31 ?k31 ?a32 ?i32 ?l32 ?c32 ?k32 ?a33 ?i33 ?l33 ?c33 ?k33 ?a34 ?l34 ?c34 ?k34 ?a35 ?l35 ?c35 ?k35 ?a36 ?l36 ?c36 ?k36 ?a37 ?l37 ?c37 ?k37 ?a38 ?l38 ?c38 ?k38 ?a39 ?l39 ?c39 ?k39 ?a40 ?l40 ?c40 ?k40 ?a41 ?l41 ?c41 ?k41 ?a42 ?l42 ?c42 ?k42 ?a43 ?l43 ?c43 ?k43 ?g_BadEdge ?g_BadEvent ?g_BadNode ?g_BadNumber ?g_BadText ?g_BadValue ?g_BadWord ?g_Misfit ?g_NoName ?g_Nothing ?g_OnceError ?g_TooMany ?hnX ?htX ?tpX ?suX ?xL_BadValue ?bm_BadValue ?sa_BadValue ?ga_BadValue ?gg_BadValue ?no_part_BadValue ?kC_BadValue ?eC_BadValue ?tC_BadValue ?hC_BadValue ?sI_BadValue ?sV_BadValue ?mC_BadValue ?i1_BadValue ?i2_BadValue ?i3_BadValue ?i4_BadValue ?i5_BadValue ?i6_BadValue ?i7_BadValue ?i8_BadValue ?ha_BadValue ?mo_BadValue ?sO_BadValue ?xL_TooMany ?bm_TooMany ?sa_TooMany ?ga_TooMany ?gg_TooMany ?no_what_TooMany ?no_most_TooMany ?kC_TooMany ?eC_TooMany ?tC_TooMany ?hC_TooMany ?sI_TooMany ?sV_TooMany ?mC_TooMany ?i1_TooMany ?i2_TooMany ?i3_TooMany ?i4_TooMany ?i5_TooMany ?i6_TooMany ?i7_TooMany ?i8_TooMany ?ha_TooMany ?mo_TooMany ?sO_TooMany ?xL_Misfit ?bm_Misfit ?sa_Misfit ?ga_Misfit ?gg_Misfit ?no_part_Misfit ?kC_Misfit ?eC_Misfit ?tC_Misfit ?hC_Misfit ?sI_Misfit ?sV_Misfit ?mC_Misfit ?i1_Misfit ?i2_Misfit ?i3_Misfit ?i4_Misfit ?i5_Misfit ?i6_Misfit ?i7_Misfit ?i8_Misfit ?ha_Misfit ?mo_Misfit ?sO_Misfit ?eO ?hO ?tO ?kt_Misfit_TooMany ?kt_Misfit_Nothing ?kt_Misfit_NoName ?kt_Misfit_Misfit ?kt_Misfit_BadWord ?kt_Misfit_BadValue ?kt_Misfit_BadText ?kt_Misfit_BadNumber ?kt_Misfit_BadNode ?kt_Misfit_BadEvent ?kt_Misfit_BadEdge ?kt_TooMany_TooMany ?kt_TooMany_Nothing ?kt_TooMany_NoName ?kt_TooMany_Misfit ?kt_TooMany_BadWord ?kt_TooMany_BadValue ?kt_TooMany_BadText ?kt_TooMany_BadNumber ?kt_TooMany_BadNode ?kt_TooMany_BadEvent ?kt_TooMany_BadEdge ?kt_BadValue_TooMany ?kt_BadValue_Nothing ?kt_BadValue_NoName ?kt_BadValue_Misfit ?kt_BadValue_BadWord ?kt_BadValue_BadValue ?kt_BadValue_BadText ?kt_BadValue_BadNumber ?kt_BadValue_BadNode ?kt_BadValue_BadEvent ?kt_BadValue_BadEdge ?z47 ?z48 ?z49 ?z50 ?z51 ?z52 ?z53 ?z54 ?z55 ?z56 ?z57 ?z58 ?z59 ?z60 ?z61 ?aL ?lL ?codeL ?lT ?tT ?hT ?nT
    (case a1 => k_is)
    (case a2 => k_is)
    (case a3 => k_is)
    (case a4 => k_is)
    (case a5 => k_is)
    (case a6 => k_is)
    (case a7 => k_is)
    (case a8 => k_is)
    (case a9 => k_is)
    (case l9 => k_is)
    (case a10 => k_is)
    (case l10 => k_is)
    (case a11 => k_is)
    (case l11 => k_is)
    (case a12 => k_is)
    (case a13 => k_is)
    (case a14 => k_is)
    (case a15 => k_is)
    (case a16 => k_is)
    (case a17 => k_is)
    (case aC => k_is)
    (case pgC => k_is)
    (case hdC => k_is)
    (case poC => k_is)
    (case saC => k_is)
    (case n_nodes => k_is)
    (case n_names => k_is)
    (case n_kinds => k_is)
    (case n_edges => k_is)
    (case n_sources => k_is)
    (case n_inner => k_is)
    (case n_sinks => k_is)
    (case n_into => k_is)
    (case n_out => k_is)
    (case n_ways => k_is)
    (case a18 => k_is)
    (case l18 => k_is)
    (case c18 => k_is)
    (case k18 => k_is)
    (case a19 => k_is)
    (case l19 => k_is)
    (case c19 => k_is)
    (case k19 => k_is)
    (case a20 => k_is)
    (case l20 => k_is)
    (case c20 => k_is)
    (case k20 => k_is)
    (case a21 => k_is)
    (case l21 => k_is)
    (case c21 => k_is)
    (case k21 => k_is)
    (case a22 => k_is)
    (case l22 => k_is)
    (case c22 => k_is)
    (case k22 => k_is)
    (case a23 => k_is)
    (case l23 => k_is)
    (case c23 => k_is)
    (case k23 => k_is)
    (case a24 => k_is)
    (case l24 => k_is)
    (case c24 => k_is)
    (case k24 => k_is)
    (case a25 => k_is)
    (case i25 => k_is)
    (case l25 => k_is)
    (case c25 => k_is)
    (case k25 => k_is)
    (case a26 => k_is)
    (case i26 => k_is)
    (case l26 => k_is)
    (case c26 => k_is)
    (case k26 => k_is)
    (case a27 => k_is)
    (case i27 => k_is)
    (case l27 => k_is)
    (case c27 => k_is)
    (case k27 => k_is)
    (case a28 => k_is)
    (case i28 => k_is)
    (case l28 => k_is)
    (case c28 => k_is)
    (case k28 => k_is)
    (case a29 => k_is)
    (case l29 => k_is)
    (case c29 => k_is)
    (case k29 => k_is)
    (case mkC => k_is)
    (case kC => k_is)
    (case a30 => k_is)
    (case i30 => k_is)
    (case l30 => k_is)
    (case c30 => k_is)
    (case k30 => k_is)
    (case a31 => k_is)
    (case i31 => k_is)
    (case l31 => k_is)
    (case c31 => k_is)
    (case k31 => k_is)
    (case a32 => k_is)
    (case i32 => k_is)
    (case l32 => k_is)
    (case c32 => k_is)
    (case k32 => k_is)
    (case a33 => k_is)
    (case i33 => k_is)
    (case l33 => k_is)
    (case c33 => k_is)
    (case k33 => k_is)
    (case a34 => k_is)
    (case l34 => k_is)
    (case c34 => k_is)
    (case k34 => k_is)
    (case a35 => k_is)
    (case l35 => k_is)
    (case c35 => k_is)
    (case k35 => k_is)
    (case a36 => k_is)
    (case l36 => k_is)
    (case c36 => k_is)
    (case k36 => k_is)
    (case a37 => k_is)
    (case l37 => k_is)
    (case c37 => k_is)
    (case k37 => k_is)
    (case a38 => k_is)
    (case l38 => k_is)
    (case c38 => k_is)
    (case k38 => k_is)
    (case a39 => k_is)
    (case l39 => k_is)
    (case c39 => k_is)
    (case k39 => k_is)
    (case a40 => k_is)
    (case l40 => k_is)
    (case c40 => k_is)
    (case k40 => k_is)
    (case a41 => k_is)
    (case l41 => k_is)
    (case c41 => k_is)
    (case k41 => k_is)
    (case a42 => k_is)
    (case l42 => k_is)
    (case c42 => k_is)
    (case k42 => k_is)
    (case a43 => k_is)
    (case l43 => k_is)
    (case c43 => k_is)
    (case k43 => k_is)
    (case g_BadEdge => k_is)
    (case g_BadEvent => k_is)
    (case g_BadNode => k_is)
    (case g_BadNumber => k_is)
    (case g_BadText => k_is)
    (case g_BadValue => k_is)
    (case g_BadWord => k_is)
    (case g_Misfit => k_is)
    (case g_NoName => k_is)
    (case g_Nothing => k_is)
    (case g_OnceError => k_is)
    (case g_TooMany => k_is)
    (case hnX => k_is)
    (case htX => k_is)
    (case tpX => k_is)
    (case suX => k_is)
    (case xL_BadValue => k_is)
    (case bm_BadValue => rfl)
    (case sa_BadValue => k_is)
    (case ga_BadValue => k_is)
    (case gg_BadValue => k_is)
    (case no_part_BadValue => k_is)
    (case kC_BadValue => k_is)
    (case eC_BadValue => k_is)
    (case tC_BadValue => k_is)
    (case hC_BadValue => k_is)
    (case sI_BadValue => ks_is)
    (case sV_BadValue => k_is)
    (case mC_BadValue => k_is)
    (case i1_BadValue => k_is)
    (case i2_BadValue => k_is)
    (case i3_BadValue => k_is)
    (case i4_BadValue => k_is)
    (case i5_BadValue => k_is)
    (case i6_BadValue => rfl)
    (case i7_BadValue => decide +kernel)
    (case i8_BadValue => k_is)
    (case ha_BadValue => k_is)
    (case mo_BadValue => k_is)
    (case sO_BadValue => k_is)
    (case xL_TooMany => k_is)
    (case bm_TooMany => rfl)
    (case sa_TooMany => k_is)
    (case ga_TooMany => k_is)
    (case gg_TooMany => k_is)
    (case no_what_TooMany => k_is)
    (case no_most_TooMany => k_is)
    (case kC_TooMany => k_is)
    (case eC_TooMany => k_is)
    (case tC_TooMany => k_is)
    (case hC_TooMany => k_is)
    (case sI_TooMany => ks_is)
    (case sV_TooMany => k_is)
    (case mC_TooMany => k_is)
    (case i1_TooMany => k_is)
    (case i2_TooMany => k_is)
    (case i3_TooMany => k_is)
    (case i4_TooMany => k_is)
    (case i5_TooMany => k_is)
    (case i6_TooMany => rfl)
    (case i7_TooMany => decide +kernel)
    (case i8_TooMany => k_is)
    (case ha_TooMany => k_is)
    (case mo_TooMany => k_is)
    (case sO_TooMany => k_is)
    (case xL_Misfit => k_is)
    (case bm_Misfit => rfl)
    (case sa_Misfit => k_is)
    (case ga_Misfit => k_is)
    (case gg_Misfit => k_is)
    (case no_part_Misfit => k_is)
    (case kC_Misfit => k_is)
    (case eC_Misfit => k_is)
    (case tC_Misfit => k_is)
    (case hC_Misfit => k_is)
    (case sI_Misfit => ks_is)
    (case sV_Misfit => k_is)
    (case mC_Misfit => k_is)
    (case i1_Misfit => k_is)
    (case i2_Misfit => k_is)
    (case i3_Misfit => k_is)
    (case i4_Misfit => k_is)
    (case i5_Misfit => k_is)
    (case i6_Misfit => rfl)
    (case i7_Misfit => decide +kernel)
    (case i8_Misfit => k_is)
    (case ha_Misfit => k_is)
    (case mo_Misfit => k_is)
    (case sO_Misfit => k_is)
    (case eO => k_is)
    (case hO => k_is)
    (case tO => k_is)
    (case kt_Misfit_TooMany => kit_is)
    (case kt_Misfit_Nothing => kit_is)
    (case kt_Misfit_NoName => kit_is)
    (case kt_Misfit_Misfit => kit_is)
    (case kt_Misfit_BadWord => kit_is)
    (case kt_Misfit_BadValue => kit_is)
    (case kt_Misfit_BadText => kit_is)
    (case kt_Misfit_BadNumber => kit_is)
    (case kt_Misfit_BadNode => kit_is)
    (case kt_Misfit_BadEvent => kit_is)
    (case kt_Misfit_BadEdge => kit_is)
    (case kt_TooMany_TooMany => kit_is)
    (case kt_TooMany_Nothing => kit_is)
    (case kt_TooMany_NoName => kit_is)
    (case kt_TooMany_Misfit => kit_is)
    (case kt_TooMany_BadWord => kit_is)
    (case kt_TooMany_BadValue => kit_is)
    (case kt_TooMany_BadText => kit_is)
    (case kt_TooMany_BadNumber => kit_is)
    (case kt_TooMany_BadNode => kit_is)
    (case kt_TooMany_BadEvent => kit_is)
    (case kt_TooMany_BadEdge => kit_is)
    (case kt_BadValue_TooMany => kit_is)
    (case kt_BadValue_Nothing => kit_is)
    (case kt_BadValue_NoName => kit_is)
    (case kt_BadValue_Misfit => kit_is)
    (case kt_BadValue_BadWord => kit_is)
    (case kt_BadValue_BadValue => kit_is)
    (case kt_BadValue_BadText => kit_is)
    (case kt_BadValue_BadNumber => kit_is)
    (case kt_BadValue_BadNode => kit_is)
    (case kt_BadValue_BadEvent => kit_is)
    (case kt_BadValue_BadEdge => kit_is)
    (case z47 => k_is)
    (case z48 => k_is)
    (case z49 => k_is)
    (case z50 => k_is)
    (case z51 => k_is)
    (case z52 => k_is)
    (case z53 => k_is)
    (case z54 => k_is)
    (case z55 => k_is)
    (case z56 => k_is)
    (case z57 => k_is)
    (case z58 => k_is)
    (case z59 => k_is)
    (case z60 => k_is)
    (case z61 => k_is)
    (case aL => k_is)
    (case lL => k_is)
    (case codeL => k_is)
    (case lT => k_is)
    (case tT => rfl)
    (case hT => first | rfl | kernel_rfl | decide +kernel)
    (case nT => first | rfl | kernel_rfl)
