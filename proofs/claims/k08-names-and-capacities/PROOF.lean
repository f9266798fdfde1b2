import PyProof.Rows.All
import Wide.All
import OpenK.AllK
import Wide.FinOn
import PySem.Challenge.RW_whatiftimes_k08_names_and_capacities
import PyProof.EqAt
import PyProof.EqKinds
import PyProof.TupleCall
import HandS.ForMost
import HandS.TupMul
import HandS.Exc
import HandS.ExcOwn
import HandS.CallSlots
import HandS.TryOnly
import HandS.TryMany
import HandS.WordsExc
import HandS.IsInst
import HandS.Lambda
import HandS.EndTab
import HandS.ExcField
import KE.KNestM
import HandS.Wide
import HandS.TupAny
import HandS.Style
import PyProof.ReprRoads
import HandS.EndBits
import HandS.Comp
import HandS.Words
import HandS.Dict
import HandS.More
import PyProof.RulesMatch
import KE.KExcInit
import PyProof.ExcBaseAll.LookupError
import KE.KIsAll
import HandS.ExcIs
import HandS.SortInts
import HandS.Property
import HandS.Defaults
import HandS.DictComp
import HandS.ListItems
import KE.GoesMore
import KE.KRevSl
import HandS.Replace
import PyProof.Rows.InDataRows
import HandS.Text
set_option Elab.async false
set_option linter.all false
set_option autoImplicit false
set_option maxRecDepth 100000
set_option maxHeartbeats 4000000
/-! SLPre: which defs of the law make lambdas. -/
namespace SL
open PySem
def lamNames : List Str := ["_law_word_right", "law"]
end SL

set_option Elab.async false
set_option linter.all false
set_option autoImplicit false
set_option maxRecDepth 100000
set_option maxHeartbeats 4000000
/-! SL: a layer of plain functions over HandS. A def of the program is mirrored by a plain Lean function over the values IV; one rule a construct says that the mirror tells what the def does. -/
namespace SL
open PySem PySem.Spec L2
open PyProof.Rows hiding St

/-- a value as plain data; cell n: the n-th object that may still change; glb x: what the module keeps under the name x -/
inductive IV where
  | non | bl (b : Bool) | int (i : Int) | str (s : Str) | ty (n : String) | glb (x : Str)
  | tup (xs : List IV) | lst (xs : List IV) | rol (xs : List IV) | dct (ks : List Key) (xs : List IV) | cell (n : Nat)
  | obj (c : Str) (fs : List Str) (xs : List IV)

/-- what stands at a cell -/
inductive Cell where
  | lst (xs : List IV) | dct (ks : List Key) (xs : List IV) | ins (c : Str) (fs : List Str) (xs : List IV) | dead

/-- what a slot of a def's frame holds; own: a list of the frame's own, handed to nobody yet -/
structure Exn where
  cls : Str
  fs : List Str
  xs : List IV
/-- what a slot holds; exn: the exception that a suite holds, at a, its class and its dict -/
inductive SV where
  | un | v (x : IV) | own (xs : List IV) | exn (e : Exn) (a : Addr) (cls : Value) (d : Option Addr)

inductive Res (α : Type) where
  | ok (a : α) (cs : List Cell) | ex (e : Exn) (cs : List Cell) | stuck

inductive SR where
  | next (σ : List SV) (cs : List Cell) | ret (x : IV) (cs : List Cell) | brk (σ : List SV) (cs : List Cell) | cnt (σ : List SV) (cs : List Cell)
  | ex (e : Exn) (σ : List SV) (cs : List Cell) | stuck

/-- an expression's mirror; a statement's; a def's -/
abbrev M (α : Type) := Nat → List SV → List Cell → Res α
abbrev SM := Nat → List SV → List Cell → SR
abbrev FM := Nat → List IV → List Cell → Res IV

def Res.then {α β : Type} (r : Res α) (k : α → List Cell → Res β) : Res β :=
  match r with
  | .ok a cs => k a cs
  | .ex e cs => .ex e cs
  | .stuck => .stuck
def M.pure {α : Type} (a : α) : M α := fun _ _ cs => .ok a cs
def M.bind {α β : Type} (m : M α) (k : α → M β) : M β := fun n σ cs => (m n σ cs).then fun a cs' => k a n σ cs'
def M.opt {α : Type} (o : Option α) : M α := fun _ _ cs => match o with
  | some a => .ok a cs
  | none => .stuck

/-! ### the relation -/
structure Gx where
  K : PySem.W.Frag
  mg : Str → Option Value
  T : List (Addr × Str)
/-- the tables of code objects of the defs that make lambdas -/
def lamT (K : PySem.W.Frag) : List (Addr × Str) := lamNames.filterMap fun x => (PySem.W.tabIn K x).map fun p => (p.2, x ++ ".<locals>." ++ "<lambda>")
abbrev gK (K : PySem.W.Frag) (mg : Str → Option Value) : Gx := ⟨K, mg, lamT K⟩
/-- neither a table nor a code object -/
def NoX (o : Option HO) : Prop := (∀ ps, o ≠ some (.tbl ps)) ∧ ∀ c q, o ≠ some (LamX.CodeO c q)
theorem NoX.none : NoX Option.none := ⟨fun _ z => (by cases z), fun _ _ z => (by cases z)⟩
theorem NoX.lst {vs : List V} : NoX (some (.lst vs)) := ⟨fun _ z => (by cases z), fun _ _ z => (by unfold LamX.CodeO at z; cases z)⟩
theorem NoX.dK {vs : List (Key × V)} : NoX (some (.dK vs)) := ⟨fun _ z => (by cases z), fun _ _ z => (by unfold LamX.CodeO at z; cases z)⟩
theorem NoX.ins {C : Addr} {dx : Addr} {vs : List (Str × V)} : NoX (some (.ins C dx vs)) := ⟨fun _ z => (by cases z), fun _ _ z => (by unfold LamX.CodeO at z; cases z)⟩
theorem ft_upd {F : Hp} {p : Addr} {o : HO} (h : ∀ a ps, F a ≠ some (.tbl ps)) (ho : ∀ ps, o ≠ .tbl ps) : ∀ a ps, upd F p o a ≠ some (.tbl ps) := fun a ps z => by
  by_cases e : a = p
  · rw [e, upd_same] at z
    exact ho ps (Option.some.inj z)
  · rw [upd_ne e] at z
    exact h a ps z
theorem tabs_upd {T : List (Addr × Str)} {H : Hp} {p : Addr} {o : HO} (t : LamX.Tabs T H) (h : NoX (H p)) : LamX.Tabs T (upd H p o) := fun x hx => by
  obtain ⟨ps, h1, h2, h3⟩ := t x hx
  refine ⟨ps, by rw [upd_ne (fun z => h.1 ps (by rw [← z]; exact h1))]; exact h1, h2, fun pos cv hc => ?_⟩
  obtain ⟨c, e1, e2⟩ := h3 pos cv hc
  exact ⟨c, e1, by rw [upd_ne (fun z => h.2 c x.2 (by rw [← z]; exact e2))]; exact e2⟩

/-- a dict of int and text keys that stands still -/
def DctR (F : Hp) (a : Addr) (kvs : List (Key × V)) : Prop := ∃ o, F a = some (.frz o (.dK kvs))
theorem DctR.mono {F F' : Hp} {a : Addr} {kvs : List (Key × V)} (h : DctR F a kvs) (s : ∀ a o, F a = some o → F' a = some o) : DctR F' a kvs := let ⟨o, e⟩ := h; ⟨o, s _ _ e⟩

mutual
def Rel (g : Gx) (F : Hp) (ρ : List Addr) : IV → V → Prop
  | .non, v => v = .non
  | .bl b, v => v = .bl b
  | .int i, v => v = .int i
  | .str s, v => v = .str s
  | .ty n, v => v = .ty n
  | .glb x, v => ∃ a, g.mg x = some (.ref a) ∧ v = .ref a
  | .tup xs, v => ∃ a vs, v = .ref a ∧ SqT g.K F a vs ∧ RelL g F ρ xs vs
  | .lst xs, v => ∃ a vs, v = .ref a ∧ F a = some (.lst vs) ∧ RelL g F ρ xs vs
  | .rol xs, v => ∃ a vs, v = .ref a ∧ SqL g.K F a vs ∧ RelL g F ρ xs vs
  | .dct ks xs, v => ∃ a vs, v = .ref a ∧ ks.length = vs.length ∧ DctR F a (ks.zip vs) ∧ RelL g F ρ xs vs
  | .cell n, v => ∃ a, v = .ref a ∧ ρ[n]? = some a
  | .obj c fs xs, v => ∃ a C dx vs, v = .ref a ∧ g.mg c = some (.ref C) ∧ F a = some (.ins C dx (fs.zip vs)) ∧ fs.length = vs.length ∧ RelL g F ρ xs vs
def RelL (g : Gx) (F : Hp) (ρ : List Addr) : List IV → List V → Prop
  | [], vs => vs = []
  | x :: xs, vs => ∃ v r, vs = v :: r ∧ Rel g F ρ x v ∧ RelL g F ρ xs r
end

def RelC (g : Gx) (F : Hp) (ρ : List Addr) : Cell → Option HO → Prop
  | .lst xs, o => ∃ vs, o = some (.lst vs) ∧ RelL g F ρ xs vs
  | .dct ks xs, o => ∃ vs, o = some (.dK (ks.zip vs)) ∧ ks.length = vs.length ∧ RelL g F ρ xs vs
  | .ins c fs xs, o => ∃ C dx vs, g.mg c = some (.ref C) ∧ o = some (.ins C dx (fs.zip vs)) ∧ fs.length = vs.length ∧ RelL g F ρ xs vs
  | .dead, _ => True

structure Sim (g : Gx) (F : Hp) (ρ : List Addr) (cs : List Cell) (H : Hp) : Prop where
  fz : ∀ a o, F a = some o → H a = some o
  len : ρ.length = cs.length
  nd : ρ.Nodup
  av : ∀ a ∈ ρ, H a ≠ none
  lv : ∀ (n : Nat) (c : Cell) (a : Addr), cs[n]? = some c → ρ[n]? = some a → c ≠ .dead → F a = none
  ok : ∀ (n : Nat) (c : Cell) (a : Addr), cs[n]? = some c → ρ[n]? = some a → RelC g F ρ c (H a)
  tb : LamX.Tabs g.T H
  nx : ∀ a ∈ ρ, NoX (H a)
  ft : ∀ a ps, F a ≠ some (.tbl ps)

def NoTbl (o : HO) : Prop := ∀ ps, o ≠ .tbl ps

/-- what may have come to pass: U, lists of the frame's own, may have changed or been handed out -/
structure StpU (U : Addr → Prop) (F : Hp) (ρ : List Addr) (H : Hp) (F' : Hp) (ρ' : List Addr) (H' : Hp) : Prop where
  fz : ∀ a o, F a = some o → F' a = some o
  fn : ∀ a, F' a ≠ none → F a = none → H a = none ∨ (U a ∨ a ∈ ρ)
  rp : ∃ t, ρ' = ρ ++ t
  rn : ∀ a ∈ ρ', a ∉ ρ → H a = none ∨ U a
  fr : ∀ a o, H a = some o → NoTbl o → a ∉ ρ → ¬ U a → H' a = some o
  dm : ∀ a, H a ≠ none → H' a ≠ none
abbrev Stp := StpU (fun _ => False)

theorem StpU.refl {U : Addr → Prop} {F : Hp} {ρ : List Addr} {H : Hp} : StpU U F ρ H F ρ H :=
  ⟨fun _ _ h => h, fun _ h h' => absurd h' h, ⟨[], by simp⟩, fun _ h h' => absurd h h', fun _ _ h _ _ _ => h, fun _ h => h⟩
theorem StpU.trans {U U' : Addr → Prop} {F F1 F2 : Hp} {ρ ρ1 ρ2 : List Addr} {H H1 H2 : Hp} (a : StpU U F ρ H F1 ρ1 H1) (b : StpU U' F1 ρ1 H1 F2 ρ2 H2) (hu : ∀ x, U' x → U x ∨ H x = none) : StpU U F ρ H F2 ρ2 H2 where
  fz := fun x o h => b.fz x o (a.fz x o h)
  fn := fun x h h' => by
    cases e : F1 x with
    | some o => exact a.fn x (by rw [e]; intro z; cases z) h'
    | none =>
      rcases b.fn x h e with z | z | z
      · left
        cases e2 : H x with
        | none => rfl
        | some o => exact absurd z (a.dm x (by rw [e2]; intro z; cases z))
      · exact (hu x z).symm.imp id .inl
      · by_cases h1 : x ∈ ρ
        · exact .inr (.inr h1)
        · exact (a.rn x z h1).imp id .inl
  rp := by
    obtain ⟨t, rfl⟩ := a.rp
    obtain ⟨u, rfl⟩ := b.rp
    exact ⟨t ++ u, by rw [List.append_assoc]⟩
  rn := fun x h h' => by
    by_cases h1 : x ∈ ρ1
    · exact a.rn x h1 h'
    · rcases b.rn x h h1 with z | z
      · left
        cases e2 : H x with
        | none => rfl
        | some o => exact absurd z (a.dm x (by rw [e2]; intro z; cases z))
      · exact (hu x z).symm
  fr := fun x o h nt h' hU => by
    have h1 := a.fr x o h nt h' hU
    refine b.fr x o h1 nt (fun z => ?_) (fun z => ?_)
    · rcases a.rn x z h' with this | this
      · rw [this] at h; cases h
      · exact hU this
    · rcases hu x z with z | z
      · exact hU z
      · rw [z] at h; cases h
  dm := fun x h => b.dm x (a.dm x h)
theorem Stp.tr {F F1 F2 : Hp} {ρ ρ1 ρ2 : List Addr} {H H1 H2 : Hp} (a : Stp F ρ H F1 ρ1 H1) (b : Stp F1 ρ1 H1 F2 ρ2 H2) : Stp F ρ H F2 ρ2 H2 := StpU.trans a b fun _ z => z.elim
theorem Stp.u {U : Addr → Prop} {F F1 : Hp} {ρ ρ1 : List Addr} {H H1 : Hp} (a : Stp F ρ H F1 ρ1 H1) : StpU U F ρ H F1 ρ1 H1 :=
  ⟨a.fz, fun x h h' => (a.fn x h h').imp id (fun z => z.elim False.elim .inr), a.rp, fun x h h' => (a.rn x h h').elim .inl (fun z => z.elim), fun x o h nt h' _ => a.fr x o h nt h' (fun z => z), a.dm⟩

section
variable {g : Gx} {U : Addr → Prop} {F F' : Hp} {ρ ρ' : List Addr} {H H' : Hp}
theorem rd_mono (s : ∀ a o, F a = some o → F' a = some o) {a : Addr} {u : HO} (h : Rd F a u) : Rd F' a u := by
  rcases h with h | ⟨o, h⟩
  · exact .inl (s _ _ h)
  · exact .inr ⟨o, s _ _ h⟩
theorem sqT_mono {K : PySem.W.Frag} (s : ∀ a o, F a = some o → F' a = some o) {a : Addr} {vs : List V} (h : SqT K F a vs) : SqT K F' a vs := by
  rcases h with h | h
  · exact .inl (rd_mono s h)
  · exact .inr h
theorem sqL_mono {K : PySem.W.Frag} (s : ∀ a o, F a = some o → F' a = some o) {a : Addr} {vs : List V} (h : SqL K F a vs) : SqL K F' a vs := by
  rcases h with h | h
  · exact .inl (rd_mono s h)
  · exact .inr h
mutual
theorem Rel.mono (s : ∀ a o, F a = some o → F' a = some o) (p : ∃ t, ρ' = ρ ++ t) : ∀ {x : IV} {v : V}, Rel g F ρ x v → Rel g F' ρ' x v
  | .non, _, h => h
  | .bl _, _, h => h
  | .int _, _, h => h
  | .str _, _, h => h
  | .ty _, _, h => h
  | .glb _, _, h => h
  | .tup xs, v, h => by
    simp only [Rel] at h ⊢
    obtain ⟨a, vs, e, h1, h2⟩ := h
    exact ⟨a, vs, e, sqT_mono s h1, RelL.mono s p h2⟩
  | .lst xs, v, h => by
    simp only [Rel] at h ⊢
    obtain ⟨a, vs, e, h1, h2⟩ := h
    exact ⟨a, vs, e, s _ _ h1, RelL.mono s p h2⟩
  | .rol xs, v, h => by
    simp only [Rel] at h ⊢
    obtain ⟨a, vs, e, h1, h2⟩ := h
    exact ⟨a, vs, e, sqL_mono s h1, RelL.mono s p h2⟩
  | .dct ks xs, v, h => by
    simp only [Rel] at h ⊢
    obtain ⟨a, vs, e, hl, h1, h2⟩ := h
    exact ⟨a, vs, e, hl, h1.mono s, RelL.mono s p h2⟩
  | .cell n, v, h => by
    simp only [Rel] at h ⊢
    obtain ⟨a, e, h1⟩ := h
    obtain ⟨t, rfl⟩ := p
    have hn := (List.getElem?_eq_some_iff.mp h1).1
    exact ⟨a, e, by rw [List.getElem?_append_left hn]; exact h1⟩
  | .obj c fs xs, v, h => by
    simp only [Rel] at h ⊢
    obtain ⟨a, C, dx, vs, e, h1, h2, h3, h4⟩ := h
    exact ⟨a, C, dx, vs, e, h1, s _ _ h2, h3, RelL.mono s p h4⟩
theorem RelL.mono (s : ∀ a o, F a = some o → F' a = some o) (p : ∃ t, ρ' = ρ ++ t) : ∀ {xs : List IV} {vs : List V}, RelL g F ρ xs vs → RelL g F' ρ' xs vs
  | [], _, h => by simp only [RelL] at h ⊢; exact h
  | x :: xs, vs, h => by
    simp only [RelL] at h ⊢
    obtain ⟨v, r, e, h1, h2⟩ := h
    exact ⟨v, r, e, Rel.mono s p h1, RelL.mono s p h2⟩
end
theorem Rel.stp (t : StpU U F ρ H F' ρ' H') {x : IV} {v : V} (h : Rel g F ρ x v) : Rel g F' ρ' x v := h.mono t.fz t.rp
theorem RelL.stp (t : StpU U F ρ H F' ρ' H') {x : List IV} {v : List V} (h : RelL g F ρ x v) : RelL g F' ρ' x v := h.mono t.fz t.rp
theorem RelL.nil : RelL g F ρ [] [] := by simp only [RelL]
theorem RelL.cons {x : IV} {v : V} {xs : List IV} {vs : List V} (h : Rel g F ρ x v) (hs : RelL g F ρ xs vs) : RelL g F ρ (x :: xs) (v :: vs) := by
  simp only [RelL]
  exact ⟨v, vs, rfl, h, hs⟩
theorem RelL.len : ∀ {xs : List IV} {vs : List V}, RelL g F ρ xs vs → xs.length = vs.length
  | [], vs, h => by simp only [RelL] at h; subst h; rfl
  | x :: xs, vs, h => by
    simp only [RelL] at h
    obtain ⟨v, r, e, h1, h2⟩ := h
    subst e
    simp only [List.length_cons, h2.len]
theorem RelL.get : ∀ {xs : List IV} {vs : List V}, RelL g F ρ xs vs → ∀ {i : Nat} {x : IV}, xs[i]? = some x → ∃ v, vs[i]? = some v ∧ Rel g F ρ x v
  | [], vs, h, i, x, e => by simp at e
  | y :: xs, vs, h, i, x, e => by
    simp only [RelL] at h
    obtain ⟨v, r, e2, h1, h2⟩ := h
    subst e2
    cases i with
    | zero =>
      simp only [List.getElem?_cons_zero, Option.some.injEq] at e
      subst e
      exact ⟨v, rfl, h1⟩
    | succ j =>
      simp only [List.getElem?_cons_succ] at e
      obtain ⟨w, a, b⟩ := h2.get e
      exact ⟨w, by simpa using a, b⟩
theorem RelL.append : ∀ {xs ys : List IV} {vs ws : List V}, RelL g F ρ xs vs → RelL g F ρ ys ws → RelL g F ρ (xs ++ ys) (vs ++ ws)
  | [], ys, vs, ws, h, h' => by simp only [RelL] at h; subst h; exact h'
  | x :: xs, ys, vs, ws, h, h' => by
    simp only [RelL] at h
    obtain ⟨v, r, e, h1, h2⟩ := h
    subst e
    exact .cons h1 (h2.append h')
theorem RelL.take : ∀ {xs : List IV} {vs : List V} (n : Nat), RelL g F ρ xs vs → RelL g F ρ (xs.take n) (vs.take n)
  | xs, vs, 0, h => by simp only [List.take_zero]; exact .nil
  | [], vs, n + 1, h => by simp only [RelL] at h; subst h; exact .nil
  | x :: xs, vs, n + 1, h => by
    simp only [RelL] at h
    obtain ⟨v, r, e, h1, h2⟩ := h
    subst e
    exact .cons h1 (h2.take n)
theorem RelL.drop : ∀ {xs : List IV} {vs : List V} (n : Nat), RelL g F ρ xs vs → RelL g F ρ (xs.drop n) (vs.drop n)
  | xs, vs, 0, h => h
  | [], vs, n + 1, h => by simp only [RelL] at h; subst h; exact .nil
  | x :: xs, vs, n + 1, h => by
    simp only [RelL] at h
    obtain ⟨v, r, e, h1, h2⟩ := h
    subst e
    exact h2.drop n
theorem RelL.reverse : ∀ {xs : List IV} {vs : List V}, RelL g F ρ xs vs → RelL g F ρ xs.reverse vs.reverse
  | [], vs, h => by simp only [RelL] at h; subst h; exact .nil
  | x :: xs, vs, h => by
    simp only [RelL] at h
    obtain ⟨v, r, e, h1, h2⟩ := h
    subst e
    simp only [List.reverse_cons]
    exact h2.reverse.append (.cons h1 .nil)
theorem RelL.set {y : IV} {w : V} (hy : Rel g F ρ y w) : ∀ {xs : List IV} {vs : List V} (n : Nat), RelL g F ρ xs vs → RelL g F ρ (xs.set n y) (vs.set n w)
  | [], vs, n, h => by simp only [RelL] at h; subst h; exact .nil
  | x :: xs, vs, n, h => by
    simp only [RelL] at h
    obtain ⟨v, r, e, h1, h2⟩ := h
    subst e
    cases n with
    | zero => exact .cons hy h2
    | succ n => exact .cons h1 (h2.set hy n)
theorem RelC.mono (s : ∀ a o, F a = some o → F' a = some o) (p : ∃ t, ρ' = ρ ++ t) {c : Cell} {o : Option HO} (h : RelC g F ρ c o) : RelC g F' ρ' c o := by
  cases c with
  | lst xs =>
    obtain ⟨vs, e, r⟩ := h
    exact ⟨vs, e, r.mono s p⟩
  | dct ks xs =>
    obtain ⟨vs, e, l, r⟩ := h
    exact ⟨vs, e, l, r.mono s p⟩
  | ins c fs xs =>
    obtain ⟨C, dx, vs, m, e, l, r⟩ := h
    exact ⟨C, dx, vs, m, e, l, r.mono s p⟩
  | dead => exact h
end

/-- an exception in flight -/
def RelEx (g : Gx) (F : Hp) (ρ : List Addr) (e : Exn) (cls : Value) (d : Option Addr) : Prop :=
  ∃ C dd vs, g.mg e.cls = some (.ref C) ∧ cls = .ref C ∧ d = some dd ∧ F dd = some (.xd (e.fs.zip vs)) ∧ e.fs.length = vs.length ∧ RelL g F ρ e.xs vs
theorem RelEx.mono {g : Gx} {F F' : Hp} {ρ ρ' : List Addr} (s : ∀ a o, F a = some o → F' a = some o) (p : ∃ t, ρ' = ρ ++ t) {e : Exn} {cls : Value} {d : Option Addr} (h : RelEx g F ρ e cls d) : RelEx g F' ρ' e cls d := by
  obtain ⟨C, dd, vs, h1, h2, h3, h4, h5, h6⟩ := h
  exact ⟨C, dd, vs, h1, h2, h3, s _ _ h4, h5, h6.mono s p⟩

/-! ### slots -/
def SltR (g : Gx) (F : Hp) (ρ : List Addr) (H : Hp) : SV → Option (Option V) → Prop
  | .un, _ => True
  | .v x, o => ∃ v, o = some (some v) ∧ Rel g F ρ x v
  | .own xs, o => ∃ a vs, o = some (some (.ref a)) ∧ H a = some (.lst vs) ∧ F a = none ∧ a ∉ ρ ∧ RelL g F ρ xs vs
  | .exn e a cls d, o => o = some (some (.ref a)) ∧ RelEx g F ρ e cls d
def Own (σi : List SV) (σ : St) (a : Addr) : Prop := ∃ (i : Nat) (xs : List IV), σi[i]? = some (SV.own xs) ∧ σ[i]? = some (some (.ref a))
structure Slts (g : Gx) (F : Hp) (ρ : List Addr) (H : Hp) (σi : List SV) (σ : St) : Prop where
  len : σi.length = σ.length
  at_ : ∀ (i : Nat) (s : SV), σi[i]? = some s → SltR g F ρ H s σ[i]?
  ow : ∀ (i j : Nat) (xs ys : List IV) (a : Addr), σi[i]? = some (.own xs) → σi[j]? = some (.own ys) → σ[i]? = some (some (.ref a)) → σ[j]? = some (some (.ref a)) → i = j
section
variable {g : Gx} {F F' : Hp} {ρ ρ' : List Addr} {H H' : Hp} {σi : List SV} {σ : St}
theorem Slts.stp (l : Slts g F ρ H σi σ) (t : Stp F ρ H F' ρ' H') : Slts g F' ρ' H' σi σ := by
  refine ⟨l.len, fun i s e => ?_, l.ow⟩
  have h := l.at_ i s e
  cases s with
  | un => trivial
  | exn e a cls d => exact ⟨h.1, h.2.mono t.fz t.rp⟩
  | v x =>
    obtain ⟨v, e, r⟩ := h
    exact ⟨v, e, r.stp t⟩
  | own xs =>
    obtain ⟨a, vs, e, h1, h2, h3, r⟩ := h
    refine ⟨a, vs, e, t.fr a _ h1 (fun ps z => by cases z) h3 (fun z => z), ?_, fun z => ?_, r.stp t⟩
    · cases q : F' a with
      | none => rfl
      | some o =>
        rcases t.fn a (by rw [q]; intro z; cases z) h2 with z | z | z
        · rw [h1] at z; cases z
        · exact z.elim
        · exact absurd z h3
    · rcases t.rn a z h3 with this | this
      · rw [h1] at this; cases this
      · exact this
end

/-! ### what a mirror's answer promises -/
section
variable {α β γ δ : Type}
abbrev RR (α β : Type) := Hp → List Addr → α → β → Prop
def Pst (g : Gx) (W : WX) (σ : St) (R : RR α β) (F : Hp) (ρ : List Addr) (H : Hp) (r : Res α) (Q : β → Hp → Prop) : Prop :=
  match r with
  | .ok x cs' => ∀ F' ρ' H' v, Stp F ρ H F' ρ' H' → Sim g F' ρ' cs' H' → R F' ρ' x v → Q v H'
  | .ex e cs' => ∀ F' ρ' H' cls d, Stp F ρ H F' ρ' H' → Sim g F' ρ' cs' H' → RelEx g F' ρ' e cls d → W cls d σ H'
  | .stuck => False
/-- the reading of a mirror -/
def tG (g : Gx) (n : Nat) (W : WX) (R : RR α β) (m : M α) : St → Hp → (β → Hp → Prop) → Prop := fun σ H Q =>
  ∃ F ρ cs σi, Sim g F ρ cs H ∧ Slts g F ρ H σi σ ∧ Pst g W σ R F ρ H (m n σi cs) Q
variable {g : Gx} {n : Nat} {W : WX} {R : RR α β} {R' : RR γ δ} {F F' : Hp} {ρ ρ' : List Addr} {H H' : Hp} {σ : St} {σi : List SV} {cs : List Cell} {Q Q' : β → Hp → Prop}
theorem Pst.mono {r : Res α} (h : Pst g W σ R F ρ H r Q) (hq : ∀ v H', Q v H' → Q' v H') : Pst g W σ R F ρ H r Q' := by
  cases r with
  | ok x cs' => exact fun F' ρ' H' v a b c => hq _ _ (h F' ρ' H' v a b c)
  | ex e cs' => exact h
  | stuck => exact h
theorem Pst.stp {r : Res α} (h : Pst g W σ R F ρ H r Q) (t : Stp F ρ H F' ρ' H') : Pst g W σ R F' ρ' H' r Q := by
  cases r with
  | ok x cs' => exact fun F2 ρ2 H2 v a b c => h F2 ρ2 H2 v (t.tr a) b c
  | ex e cs' => exact fun F2 ρ2 H2 cls d a b c => h F2 ρ2 H2 cls d (t.tr a) b c
  | stuck => exact h
theorem tG.mono {m : M α} (h : tG g n W R m σ H Q) (hq : ∀ v H', Q v H' → Q' v H') : tG g n W R m σ H Q' := by
  obtain ⟨F, ρ, cs, σi, hs, hl, hp⟩ := h
  exact ⟨F, ρ, cs, σi, hs, hl, hp.mono hq⟩
/-- one step: m runs, then its continuation's answer is what was promised -/
theorem go {m : M α} {k : α → List Cell → Res γ} {Q2 : δ → Hp → Prop} (hs : Sim g F ρ cs H) (hl : Slts g F ρ H σi σ) (hp : Pst g W σ R' F ρ H ((m n σi cs).then k) Q2)
    (h : ∀ v H' F' ρ' cs' x, Stp F ρ H F' ρ' H' → Sim g F' ρ' cs' H' → Slts g F' ρ' H' σi σ → R F' ρ' x v → Pst g W σ R' F' ρ' H' (k x cs') Q2 → Q v H') : tG g n W R m σ H Q := by
  refine ⟨F, ρ, cs, σi, hs, hl, ?_⟩
  cases e : m n σi cs with
  | ok x cs' =>
    rw [e] at hp
    intro F' ρ' H' v st sm r
    exact h v H' F' ρ' cs' x st sm (hl.stp st) r (Pst.stp hp st)
  | ex ee cs' =>
    rw [e] at hp
    exact hp
  | stuck =>
    rw [e] at hp
    exact hp
end

abbrev RB : RR Bool Bool := fun _ _ a b => a = b
abbrev gx (X : Cx) : Gx := gK X.K X.mg
/-- e does as its mirror m -/
def JE (X : Cx) (n : Nat) (W : WX) (e : Expr) (m : M IV) : Prop := PE X e (tG (gx X) n W (Rel (gx X)) m)
def JT (X : Cx) (n : Nat) (W : WX) (e : Expr) (m : M Bool) : Prop := PT X e (tG (gx X) n W RB m)
def JW (X : Cx) (n : Nat) (W : WX) (e : Expr) (m : M Bool) : Prop := PW X e (tG (gx X) n W RB m)
def JA (X : Cx) (n : Nat) (W : WX) (es : List Expr) (m : M (List IV)) : Prop := PA X es (tG (gx X) n W (RelL (gx X)) m)
theorem pe_imp {X : Cx} {e : Expr} {t t' : TE} (h : PE X e t) (i : ∀ σ H Q, t' σ H Q → t σ H Q) : PE X e t' := ⟨fun pins s σ H Q I q => h.run pins s σ H Q I (i σ H Q q)⟩
theorem pt_imp {X : Cx} {e : Expr} {t t' : TT} (h : PT X e t) (i : ∀ σ H Q, t' σ H Q → t σ H Q) : PT X e t' := ⟨fun pins s σ H Q I q => h.run pins s σ H Q I (i σ H Q q)⟩
theorem pw_imp {X : Cx} {e : Expr} {t t' : TT} (h : PW X e t) (i : ∀ σ H Q, t' σ H Q → t σ H Q) : PW X e t' := ⟨fun w pins s σ H Q I q => h.run w pins s σ H Q I (i σ H Q q)⟩
theorem pa_imp {X : Cx} {e : List Expr} {t t' : TA} (h : PA X e t) (i : ∀ σ H Q, t' σ H Q → t σ H Q) : PA X e t' := ⟨fun p pins s σ H Q I q => h.run p pins s σ H Q I (i σ H Q q)⟩
theorem ps_imp {X : Cx} {e : Stmt} {t t' : TS} (h : PS X e t) (i : ∀ D σ H, t' D σ H → t D σ H) : PS X e t' := ⟨fun pins s σ H D I q => h.run pins s σ H D I (i D σ H q)⟩
theorem pss_imp {X : Cx} {e : List Stmt} {t t' : TS} (h : PSs X e t) (i : ∀ D σ H, t' D σ H → t D σ H) : PSs X e t' := ⟨fun pins s σ H D I q => h.run pins s σ H D I (i D σ H q)⟩
end SL

set_option Elab.async false
set_option linter.all false
set_option autoImplicit false
set_option maxRecDepth 100000
set_option maxHeartbeats 4000000
/-! SLExpr: names, constants, operators, comparisons, tests. -/
namespace SL
open PySem PySem.Spec L2
open PyProof.Rows hiding St

theorem upd_none {H : Hp} {p : Addr} {o : HO} (hp : H p = none) {a : Addr} {u : HO} (h : H a = some u) : upd H p o a = some u := by
  rw [upd_ne (ne_of_none h hp)]; exact h
/-- a new object that stands still from now on -/
theorem Sim.new {g : Gx} {F : Hp} {ρ : List Addr} {cs : List Cell} {H : Hp} {p : Addr} {o : HO} (hs : Sim g F ρ cs H) (hp : H p = none) (ho : ∀ ps, o ≠ .tbl ps := by intro _ z; cases z) : Sim g (upd F p o) ρ cs (upd H p o) ∧ Stp F ρ H (upd F p o) ρ (upd H p o) := by
  have fp : F p = none := by
    cases e : F p with
    | none => rfl
    | some u => rw [hs.fz p u e] at hp; cases hp
  have np : ∀ a ∈ ρ, a ≠ p := fun a ha z => hs.av a ha (by rw [z]; exact hp)
  have fm : ∀ a u, F a = some u → upd F p o a = some u := fun a u h => upd_none fp h
  refine ⟨⟨fun a u h => ?_, hs.len, hs.nd, fun a ha => ?_, fun n c a h1 h2 h3 => by rw [upd_ne (np a (List.mem_of_getElem? h2))]; exact hs.lv n c a h1 h2 h3, fun n c a h1 h2 => ?_, tabs_upd hs.tb (by rw [hp]; exact NoX.none), fun a ha => by rw [upd_ne (np a ha)]; exact hs.nx a ha, ft_upd hs.ft ho⟩, ⟨fm, fun a h h' => ?_, ⟨[], by simp⟩, fun a h h' => absurd h h', fun a u h _ _ _ => upd_none hp h, fun a h => ?_⟩⟩
  · by_cases e : a = p
    · subst e
      rw [upd_same] at h ⊢
      exact h
    · rw [upd_ne e] at h ⊢
      exact hs.fz a u h
  · rw [upd_ne (np a ha)]
    exact hs.av a ha
  · have ha : a ∈ ρ := List.mem_of_getElem? h2
    rw [upd_ne (np a ha)]
    exact (hs.ok n c a h1 h2).mono fm ⟨[], by simp⟩
  · by_cases e : a = p
    · left; rw [e]; exact hp
    · rw [upd_ne e] at h
      exact absurd h' h
  · by_cases e : a = p
    · rw [e, upd_same]; intro z; cases z
    · rw [upd_ne e]; exact h

theorem pst_opt {α β : Type} {g : Gx} {n : Nat} {W : WX} {R : RR α β} {F : Hp} {ρ : List Addr} {H : Hp} {σ : St} {σi : List SV} {cs : List Cell} {Q : β → Hp → Prop} {o : Option α} (h : Pst g W σ R F ρ H (M.opt o n σi cs) Q) :
    ∃ z, o = some z ∧ ∀ F' ρ' H' v, Stp F ρ H F' ρ' H' → Sim g F' ρ' cs H' → R F' ρ' z v → Q v H' := by
  cases o with
  | none => exact h.elim
  | some z => exact ⟨z, rfl, h⟩

abbrev lim : Nat := 1000000
theorem lim_le {n : Nat} (h : n ≤ lim) : n ≤ sizeLine := Nat.le_trans h (by decide)
theorem lim_lt {n : Nat} (h : n ≤ lim) : n < sizeLine := Nat.lt_of_le_of_lt h (by decide)

section
variable {X : Cx} {n : Nat} {W : WX} {a b c e : Expr} {ma mb mc m : M IV} {pos : Pos}

/-! ### names and constants -/
def eV (i : Nat) : M IV := fun _ σ cs => match σ[i]? with
  | some (.v x) => .ok x cs
  | _ => .stuck
theorem je_v (i : Nat) {x : Str} (hN : X.N[i]? = some x := by rfl) (hv : Vis X.env.scope x := by first | exact Or.inl rfl | exact Or.inr (Or.inl rfl) | exact Or.inr (Or.inr rfl)) (hd : (x == ("__debug__" : Str)) = false := by decide)
    (hcd : (x == ("__classdict__" : Str)) = false := by decide) : JE X n W (.Name x pos) (eV i) := by
  refine pe_imp (pe_var (i := i) hN hv hd hcd) fun σ H Q h => ?_
  obtain ⟨F, ρ, cs, σi, hs, hl, hp⟩ := h
  unfold eV at hp
  cases q : σi[i]? with
  | none => rw [q] at hp; exact hp.elim
  | some s =>
    rw [q] at hp
    cases s with
    | v x =>
      obtain ⟨v, e, r⟩ := hl.at_ i _ q
      exact ⟨v, e, hp F ρ H v StpU.refl hs r⟩
    | un => exact hp.elim
    | exn e a cls d => exact hp.elim
    | own xs => exact hp.elim
theorem je_c {v : V} {x : IV} (h : PE X e (tC v)) (r : ∀ F ρ, Rel (gx X) F ρ x v) : JE X n W e (M.pure x) := by
  refine pe_imp h fun σ H Q h => ?_
  obtain ⟨F, ρ, cs, σi, hs, hl, hp⟩ := h
  exact hp F ρ H v StpU.refl hs (r F ρ)
theorem je_int {i : Int} {j} : JE X n W (.Constant (.int i) j pos) (M.pure (.int i)) := je_c pe_int fun _ _ => by simp only [Rel]
theorem je_str {s : Str} {j} : JE X n W (.Constant (.str s) j pos) (M.pure (.str s)) := je_c pe_str fun _ _ => by simp only [Rel]
theorem je_bl {b : Bool} {j} : JE X n W (.Constant (.bool b) j pos) (M.pure (.bl b)) := je_c pe_bl fun _ _ => by simp only [Rel]
theorem je_non {j} : JE X n W (.Constant .none j pos) (M.pure .non) := je_c pe_non fun _ _ => by simp only [Rel]
/-- a module's constant, by its value -/
theorem je_gint {x : Str} {i : Int} {t : Tok} (hm : X.mg x = some (.int i t)) (hg : Gl X x := by rfl) (hd : (x == ("__debug__" : Str)) = false := by decide) : JE X n W (.Name x pos) (M.pure (.int i)) :=
  je_c (pe_glob (v := .int i) hg hm ⟨_, rfl⟩ hd) fun _ _ => by simp only [Rel]
theorem je_gstr {x : Str} {i : Str} {t : Tok} (hm : X.mg x = some (.str i t)) (hg : Gl X x := by rfl) (hd : (x == ("__debug__" : Str)) = false := by decide) : JE X n W (.Name x pos) (M.pure (.str i)) :=
  je_c (pe_glob (v := .str i) hg hm ⟨_, rfl⟩ hd) fun _ _ => by simp only [Rel]
theorem je_gref {x : Str} {a : Addr} (hm : X.mg x = some (.ref a)) (hg : Gl X x := by rfl) (hd : (x == ("__debug__" : Str)) = false := by decide) : JE X n W (.Name x pos) (M.pure (.glb x)) :=
  je_c (pe_glob (v := .ref a) hg hm rfl hd) fun _ _ => by simp only [Rel]; exact ⟨a, hm, rfl⟩
/-- a tuple of flat constants of the module -/
theorem je_gtup {x : Str} {a : Addr} {xs : List IV} (hm : X.mg x = some (.ref a)) (r : ∃ vs, SqT X.K (fun _ => none) a vs ∧ RelL (gx X) (fun _ => none) [] xs vs) (hg : Gl X x := by rfl) (hd : (x == ("__debug__" : Str)) = false := by decide) :
    JE X n W (.Name x pos) (M.pure (.tup xs)) := by
  obtain ⟨vs, h1, h2⟩ := r
  refine je_c (pe_glob (v := .ref a) hg hm rfl hd) fun F ρ => ?_
  simp only [Rel]
  exact ⟨a, vs, rfl, sqT_mono (fun _ _ z => by cases z) h1, h2.mono (fun _ _ z => by cases z) ⟨ρ, by simp⟩⟩
/-- a built-in type as a value -/
theorem je_ty {x : Str} {T : String} (hm : X.mg x = none) (hv : bootBuiltins x = some (.type T)) (hg : Gl X x := by rfl) (hn : x ≠ "__name__" := by decide) (hd : (x == ("__debug__" : Str)) = false := by decide) : JE X n W (.Name x pos) (M.pure (.ty T)) :=
  je_c (pe_bltn (v := .ty T) hg hm hv rfl hn hd) fun _ _ => by simp only [Rel]

/-! ### operators -/
/-- an operation on two values -/
def rJ (g : Gx) (f : IV → IV → Option IV) : R2 := fun x y H Q => ∃ F ρ cs xi yi z, Sim g F ρ cs H ∧ Rel g F ρ xi x ∧ Rel g F ρ yi y ∧ f xi yi = some z ∧ ∀ F' ρ' H' v, Stp F ρ H F' ρ' H' → Sim g F' ρ' cs H' → Rel g F' ρ' z v → Q v H'
def e2 (f : IV → IV → Option IV) (ma mb : M IV) : M IV := ma.bind fun x => mb.bind fun y => M.opt (f x y)
theorem je_two {t : R2 → TE → TE → TE} {f : IV → IV → Option IV} (ht : ∀ {σ H Q}, tG (gx X) n W (Rel (gx X)) ma σ H (fun x H1 => tG (gx X) n W (Rel (gx X)) mb σ H1 fun y H2 => rJ (gx X) f x y H2 Q) → t (rJ (gx X) f) (tG (gx X) n W (Rel (gx X)) ma) (tG (gx X) n W (Rel (gx X)) mb) σ H Q)
    (h : PE X e (t (rJ (gx X) f) (tG (gx X) n W (Rel (gx X)) ma) (tG (gx X) n W (Rel (gx X)) mb))) : JE X n W e (e2 f ma mb) := by
  refine pe_imp h fun σ H Q h => ht ?_
  obtain ⟨F, ρ, cs, σi, hs, hl, hp⟩ := h
  refine go hs hl hp fun x H1 F1 ρ1 cs1 xi st1 hs1 hl1 rx hp1 => ?_
  refine go hs1 hl1 hp1 fun y H2 F2 ρ2 cs2 yi st2 hs2 hl2 ry hp2 => ?_
  obtain ⟨z, q, hq⟩ := pst_opt (o := f xi yi) hp2
  exact ⟨F2, ρ2, cs2, xi, yi, z, hs2, rx.stp st2, ry, q, hq⟩
theorem je_op {op : Operator} {f : IV → IV → Option IV} (ho : OpR X (binaryOp op) (rJ (gx X) f)) (ha : JE X n W a ma) (hb : JE X n W b mb) : JE X n W (.BinOp a op b pos) (e2 f ma mb) :=
  je_two (t := tOp) (fun h => h) (pe_op ho ha hb)
theorem je_cmp {op : CmpOp} {f : IV → IV → Option IV} (ho : OpR X (compareOp op) (rJ (gx X) f)) (ha : JE X n W a ma) (hb : JE X n W b mb) (hm : behindInMarks op b = false) : JE X n W (.Compare a [op] [b] pos) (e2 f ma mb) :=
  je_two (t := tOp) (fun h => h) (pe_cmpR ho ha hb hm)

theorem relInt {g : Gx} {F : Hp} {ρ : List Addr} {i : Int} {x : V} (h : Rel g F ρ (.int i) x) : x = .int i := by simpa only [Rel] using h
theorem relStr {g : Gx} {F : Hp} {ρ : List Addr} {i : Str} {x : V} (h : Rel g F ρ (.str i) x) : x = .str i := by simpa only [Rel] using h
theorem relBl {g : Gx} {F : Hp} {ρ : List Addr} {i : Bool} {x : V} (h : Rel g F ρ (.bl i) x) : x = .bl i := by simpa only [Rel] using h
theorem relNon {g : Gx} {F : Hp} {ρ : List Addr} {x : V} (h : Rel g F ρ .non x) : x = .non := by simpa only [Rel] using h
theorem relTy {g : Gx} {F : Hp} {ρ : List Addr} {T : String} {x : V} (h : Rel g F ρ (.ty T) x) : x = .ty T := by simpa only [Rel] using h

def bAdd : IV → IV → Option IV
  | .int i, .int j => some (.int (i + j))
  | .str s, .str t => if s.length + t.length ≤ lim then some (.str (s ++ t)) else none
  | .tup xs, .tup ys => if xs.length + ys.length ≤ lim then some (.tup (xs ++ ys)) else none
  | .lst xs, .lst ys => if xs.length + ys.length ≤ lim then some (.lst (xs ++ ys)) else none
  | _, _ => none
theorem oj_add : OpR X (binaryOp .Add) (rJ (gx X) bAdd) := by
  intro pins s σ H x y v u Q I rx ry h
  obtain ⟨F, ρ, cs, xi, yi, z, hs, hx, hy, hf, q⟩ := h
  unfold bAdd at hf
  split at hf
  · cases hf
    rw [relInt hx] at rx; rw [relInt hy] at ry
    exact op_add pins s σ H _ _ v u Q I rx ry ⟨_, _, rfl, rfl, q F ρ H _ StpU.refl hs (by simp only [Rel])⟩
  · split at hf
    · rename_i hz
      cases hf
      rw [relStr hx] at rx; rw [relStr hy] at ry
      exact op_add_str pins s σ H _ _ v u Q I rx ry ⟨_, _, rfl, rfl, lim_le hz, q F ρ H _ StpU.refl hs (by simp only [Rel])⟩
    · cases hf
  · split at hf
    · rename_i xs ys hz
      cases hf
      simp only [Rel] at hx hy
      obtain ⟨a, vs, rfl, h1, r1⟩ := hx
      obtain ⟨b, ws, rfl, h2, r2⟩ := hy
      have l1 := r1.len
      have l2 := r2.len
      refine op_catA pins s σ H _ _ v u Q I rx ry ⟨a, b, vs, ws, rfl, rfl, sqT_mono hs.fz h1, sqT_mono hs.fz h2, lim_le (by omega), fun e => ?_, fun e e' => ?_, fun _ _ p hp => ?_⟩
      · subst e
        have : xs = [] := List.length_eq_zero_iff.mp l1
        subst this
        refine q F ρ H _ StpU.refl hs ?_
        simp only [Rel]
        exact ⟨b, ws, rfl, h2, by simpa using r2⟩
      · subst e'
        have : ys = [] := List.length_eq_zero_iff.mp l2
        subst this
        refine q F ρ H _ StpU.refl hs ?_
        simp only [Rel]
        exact ⟨a, vs, rfl, h1, by simpa using r1⟩
      · obtain ⟨hs', st⟩ := hs.new (o := .tup (vs ++ ws)) hp
        refine q _ ρ _ _ st hs' ?_
        simp only [Rel]
        exact ⟨p, vs ++ ws, rfl, .inl (.inl upd_same), (r1.append r2).stp st⟩
    · cases hf
  · split at hf
    · rename_i xs ys hz
      cases hf
      simp only [Rel] at hx hy
      obtain ⟨a, vs, rfl, h1, r1⟩ := hx
      obtain ⟨b, ws, rfl, h2, r2⟩ := hy
      have l1 := r1.len
      have l2 := r2.len
      refine op_cat pins s σ H _ _ v u Q I rx ry ⟨a, b, vs, ws, rfl, rfl, hs.fz _ _ h1, hs.fz _ _ h2, lim_le (by omega), fun p hp => ?_⟩
      obtain ⟨hs', st⟩ := hs.new (o := .lst (vs ++ ws)) hp
      refine q _ ρ _ _ st hs' ?_
      simp only [Rel]
      exact ⟨p, vs ++ ws, rfl, upd_same, (r1.append r2).stp st⟩
    · cases hf
  · cases hf
def bInt (f : Int → Int → Option IV) : IV → IV → Option IV
  | .int i, .int j => f i j
  | _, _ => none
theorem oj_int {op : Value → Value → Sem Value} {C : Int → Int → Prop} {h : Int → Int → V} {f : Int → Int → Option IV} (ho : OpR X op (rI C h)) (hf : ∀ i j z, f i j = some z → C i j ∧ ∀ F ρ, Rel (gx X) F ρ z (h i j)) : OpR X op (rJ (gx X) (bInt f)) := by
  intro pins s σ H x y v u Q I rx ry hh
  obtain ⟨F, ρ, cs, xi, yi, z, hs, hx, hy, hq, q⟩ := hh
  unfold bInt at hq
  split at hq
  · obtain ⟨h1, h2⟩ := hf _ _ _ hq
    rw [relInt hx] at rx; rw [relInt hy] at ry
    exact ho pins s σ H _ _ v u Q I rx ry ⟨_, _, rfl, rfl, h1, q F ρ H _ StpU.refl hs (h2 F ρ)⟩
  · cases hq
theorem oj_int0 {op : Value → Value → Sem Value} {h : Int → Int → V} {f : Int → Int → Option IV} (ho : OpR X op (rI0 h)) (hf : ∀ i j z, f i j = some z → ∀ F ρ, Rel (gx X) F ρ z (h i j)) : OpR X op (rJ (gx X) (bInt f)) := by
  intro pins s σ H x y v u Q I rx ry hh
  obtain ⟨F, ρ, cs, xi, yi, z, hs, hx, hy, hq, q⟩ := hh
  unfold bInt at hq
  split at hq
  · have h2 := hf _ _ _ hq
    rw [relInt hx] at rx; rw [relInt hy] at ry
    exact ho pins s σ H _ _ v u Q I rx ry ⟨_, _, rfl, rfl, q F ρ H _ StpU.refl hs (h2 F ρ)⟩
  · cases hq
def bSub : IV → IV → Option IV := bInt fun i j => some (.int (i - j))
theorem oj_sub : OpR X (binaryOp .Sub) (rJ (gx X) bSub) := oj_int0 op_sub fun i j z h F ρ => by cases h; simp only [Rel]
def bMod : IV → IV → Option IV := bInt fun i j => if j ≠ 0 then some (.int (i.fmod j)) else none
theorem oj_mod : OpR X (binaryOp .Mod) (rJ (gx X) bMod) := oj_int op_modN fun i j z h => by
  split at h
  · rename_i hj; cases h; exact ⟨hj, fun F ρ => by simp only [Rel]⟩
  · cases h
theorem op_fdivA : OpR X (binaryOp .FloorDiv) (rI (fun _ j => j ≠ 0 ∧ j.natAbs.log2 < 9000) fun i j => .int (i.fdiv j)) := opI fun i j _ _ _ _ _ hc q => floordiv_int hc.1 q (.inl (PyProof.noPylong_of_log2 hc.2))
def bFdiv : IV → IV → Option IV := bInt fun i j => if j ≠ 0 ∧ j.natAbs.log2 < 9000 then some (.int (i.fdiv j)) else none
theorem oj_fdiv : OpR X (binaryOp .FloorDiv) (rJ (gx X) bFdiv) := oj_int op_fdivA fun i j z h => by
  split at h
  · rename_i hj; cases h; exact ⟨hj, fun F ρ => by simp only [Rel]⟩
  · cases h
def bPow : IV → IV → Option IV := bInt fun i j => if 0 ≤ j ∧ j ≤ 1000000 ∧ i.natAbs < 2 ^ 64 then some (.int (i ^ j.toNat)) else none
theorem oj_pow : OpR X (binaryOp .Pow) (rJ (gx X) bPow) := oj_int op_pow fun i j z h => by
  split at h
  · rename_i hj; cases h; exact ⟨hj, fun F ρ => by simp only [Rel]⟩
  · cases h
def repL {α : Type} (k : Nat) (xs : List α) : List α := (List.replicate k xs).flatten
theorem RelL.rep {g : Gx} {F : Hp} {ρ : List Addr} {xs : List IV} {vs : List V} (r : RelL g F ρ xs vs) : ∀ k : Nat, RelL g F ρ (repL k xs) (repL k vs)
  | 0 => by simp only [repL, List.replicate_zero, List.flatten_nil]; exact .nil
  | k + 1 => by
    have := RelL.rep r k
    simp only [repL, List.replicate_succ, List.flatten_cons] at this ⊢
    exact r.append this
def bMul : IV → IV → Option IV
  | .int i, .int j => if i.natAbs.log2 + j.natAbs.log2 < 1000000 then some (.int (i * j)) else none
  | .lst xs, .int k => if -(2 ^ 63) ≤ k ∧ k < 2 ^ 63 ∧ xs.length * k.toNat ≤ lim then some (.lst (repL k.toNat xs)) else none
  | .tup xs, .int k => if xs.isEmpty = false ∧ 2 ≤ k ∧ k ≤ 1000 ∧ xs.length ≤ 1000 then some (.tup (repL k.toNat xs)) else none
  | _, _ => none
theorem oj_mul : OpR X (binaryOp .Mult) (rJ (gx X) bMul) := by
  intro pins s σ H x y v u Q I rx ry hh
  obtain ⟨F, ρ, cs, xi, yi, z, hs, hx, hy, hq, q⟩ := hh
  unfold bMul at hq
  split at hq
  · split at hq
    · rename_i hz
      cases hq
      rw [relInt hx] at rx; rw [relInt hy] at ry
      exact op_mulW pins s σ H _ _ v u Q I rx ry ⟨_, _, rfl, rfl, hz, q F ρ H _ StpU.refl hs (by simp only [Rel])⟩
    · cases hq
  · split at hq
    · rename_i xs k hz
      cases hq
      simp only [Rel] at hx
      obtain ⟨a, vs, rfl, h1, r1⟩ := hx
      rw [relInt hy] at ry
      refine op_rep pins s σ H _ _ v u Q I rx ry ⟨a, k, vs, rfl, rfl, hs.fz _ _ h1, hz.1, hz.2.1, lim_le (by rw [← r1.len]; exact hz.2.2), fun p hp => ?_⟩
      obtain ⟨hs', st⟩ := hs.new (o := .lst (repL k.toNat vs)) hp
      refine q _ ρ _ _ st hs' ?_
      simp only [Rel]
      exact ⟨p, _, rfl, upd_same, (r1.rep k.toNat).stp st⟩
    · cases hq
  · split at hq
    · rename_i xs k hz
      cases hq
      simp only [Rel] at hx
      obtain ⟨a, vs, rfl, h1, r1⟩ := hx
      rw [relInt hy] at ry
      refine op_repT pins s σ H _ _ v u Q I rx ry ⟨a, k, vs, rfl, rfl, sqT_mono hs.fz h1, fun z => ?_, hz.2.1, hz.2.2.1, by rw [← r1.len]; exact hz.2.2.2, fun p hp => ?_⟩
      · have := r1.len
        rw [z] at this
        have := List.eq_nil_of_length_eq_zero this
        rw [this] at hz
        cases hz.1
      · obtain ⟨hs', st⟩ := hs.new (o := .tup (repL k.toNat vs)) hp
        refine q _ ρ _ _ st hs' ?_
        simp only [Rel]
        exact ⟨p, _, rfl, .inl (.inl upd_same), (r1.rep k.toNat).stp st⟩
    · cases hq
  · cases hq

/-! ### comparisons -/
def cLt : IV → IV → Option IV := bInt fun i j => some (.bl (decide (i < j)))
def cLe : IV → IV → Option IV := bInt fun i j => some (.bl (decide (i ≤ j)))
def cGt : IV → IV → Option IV := bInt fun i j => some (.bl (decide (j < i)))
def cGe : IV → IV → Option IV := bInt fun i j => some (.bl (decide (j ≤ i)))
theorem oj_lt : OpR X (compareOp .Lt) (rJ (gx X) cLt) := oj_int0 op_lt fun i j z h F ρ => by cases h; simp only [Rel]
theorem oj_le : OpR X (compareOp .LtE) (rJ (gx X) cLe) := oj_int0 op_le fun i j z h F ρ => by cases h; simp only [Rel]
theorem oj_gt : OpR X (compareOp .Gt) (rJ (gx X) cGt) := oj_int0 op_gt fun i j z h F ρ => by cases h; simp only [Rel]
theorem oj_ge : OpR X (compareOp .GtE) (rJ (gx X) cGe) := oj_int0 op_ge fun i j z h F ρ => by cases h; simp only [Rel]
end
end SL

set_option Elab.async false
set_option linter.all false
set_option autoImplicit false
set_option maxRecDepth 100000
set_option maxHeartbeats 4000000
/-! SLDs: values that have their text: lists may stand beside dicts. -/
namespace SL
open PySem
section
variable (P : Program) (w : World) (h : Heap)
/-- v is d there, and repr(v) its text -/
structure Txt (v : Value) (d : PyData) : Prop where
  rd : ∃ l, Reads h v d l
  tx : d.showable = true → d.shown.length ≤ sizeLine → ∃ l, ReadAtMost h d.depth l ∧ ReprK P w l h d.depth v d.shown
  top : d.showable = true → d.shown.length ≤ sizeLine → ∀ (A : Around) (E : Value → Shared → Prop) (s : Shared) (Q : Value → Shared → Prop), s.heap = h → A.guards = some [] → A.units + (d.depth + 1) < cLine →
    (∀ g u k, (∀ b o, h.get? b = some o → g.get? b = some o) → Q (.str d.shown u) { s with heap := g, toks := k }) → wpAny (model P w) A (call (.builtin "repr") [v]) Q E s
structure TxtL (vs : List Value) (ds : List PyData) : Prop where
  rd : ∃ l, ReadsAll h vs ds l
  tx : PyData.showableAll ds = true → (∀ t ∈ PyData.shownAll ds, t.length ≤ sizeLine) → ∃ l, ReadAtMost h (PyData.depthAll ds) l ∧ ReprAllK P w l h (PyData.depthAll ds) vs (PyData.shownAll ds)
end
section
variable {P : Program} {w : World} {h : Heap}
theorem most_nil {k : Nat} : ReadAtMost h k [] := fun _ z => nomatch z
theorem txt_non : Txt P w h .none .none := by
  refine ⟨⟨_, .none⟩, fun _ _ => ⟨[], most_nil, ?_⟩, fun _ _ A E s Q e _ _ q => PySem.P.repr_of_none ?_⟩
  · rw [PyData.shown]
    exact ReprK.of_is .none [] h _
  · subst e
    have := q s.heap s.toks (s.toks + 1) fun _ _ z => z
    rwa [PyData.shown] at this
theorem txt_bool (b : Bool) : Txt P w h (.bool b) (.bool b) := by
  refine ⟨⟨_, .bool b⟩, fun _ _ => ⟨[], most_nil, ?_⟩, fun _ _ A E s Q e _ _ q => PySem.P.repr_of_bool ?_⟩
  · rw [PyData.shown]
    exact ReprK.of_is (.bool b) [] h _
  · subst e
    have := q s.heap s.toks (s.toks + 1) fun _ _ z => z
    rwa [PyData.shown] at this
theorem txt_int (i : Int) (t : Tok) : Txt P w h (.int i t) (.int i) := by
  have hl : (PyData.int i).showable = true → i.natAbs.log2 < 1920 := fun z => by simpa [PyData.showable] using z
  refine ⟨⟨_, .int i t⟩, fun z _ => ⟨[], most_nil, ?_⟩, fun z _ A E s Q e _ _ q => PySem.P.repr_of_int (hl z) ?_⟩
  · rw [PyData.shown]
    exact ReprK.of_is (.int t (hl z)) [] h _
  · subst e
    have := q s.heap s.toks (s.toks + 1) fun _ _ z => z
    rwa [PyData.shown] at this
theorem txt_str (x : Str) (t : Tok) : Txt P w h (.str x t) (.str x) := by
  have hl : (PyData.str x).shown.length ≤ sizeLine → (reprText x).length ≤ sizeLine := fun z => by rwa [PyData.shown] at z
  refine ⟨⟨_, .str x t⟩, fun _ z => ⟨[], most_nil, ?_⟩, fun _ z A E s Q e _ _ q => PySem.P.repr_of_str ?_ (hl z)⟩
  · rw [PyData.shown]
    exact ReprK.of_is (.str x t (hl z)) [] h _
  · subst e
    have := q s.heap s.toks (s.toks + 1) fun _ _ z => z
    rwa [PyData.shown] at this
theorem txtL_nil : TxtL P w h [] [] := ⟨⟨_, .nil⟩, fun _ _ => ⟨[], most_nil, by rw [PyData.shownAll]; exact .nil⟩⟩
theorem txtL_cons {v : Value} {vs : List Value} {d : PyData} {ds : List PyData} (t : Txt P w h v d) (r : TxtL P w h vs ds) : TxtL P w h (v :: vs) (d :: ds) := by
  obtain ⟨l1, r1⟩ := t.rd
  obtain ⟨l2, r2⟩ := r.rd
  refine ⟨⟨_, .cons r1 r2⟩, fun hs hz => ?_⟩
  simp only [PyData.showableAll, Bool.and_eq_true] at hs
  simp only [PyData.shownAll, List.mem_cons, forall_eq_or_imp] at hz
  obtain ⟨m1, a1, k1⟩ := t.tx hs.1 hz.1
  obtain ⟨m2, a2, k2⟩ := r.tx hs.2 hz.2
  simp only [PyData.depthAll, PyData.shownAll]
  have u1 : d.depth ≤ max d.depth (PyData.depthAll ds) := by omega
  have u2 : PyData.depthAll ds ≤ max d.depth (PyData.depthAll ds) := by omega
  exact ⟨m1 ++ m2, (a1.mono u1).append (a2.mono u2), .cons ((k1.level_le u1).more fun _ z => List.mem_append.mpr (.inl z)) (k2.more_le (fun _ z => List.mem_append.mpr (.inr z)) u2)⟩
section
variable {a : Addr} {o : Obj} {vs : Array Value} {n : Nat} {ds : List PyData}
theorem txt_lst (ho : h.get? a = some o) (hc : o.cls = .type "list") (hd : o.data = .seq vs n) (r : TxtL P w h vs.toList ds) : Txt P w h (.ref a) (.list ds) := by
  obtain ⟨l, rl⟩ := r.rd
  have R : Reads h (.ref a) (.list ds) (a :: l) := .list ho hc hd rl
  have hdp : (PyData.list ds).depth = PyData.depthAll ds + 1 := by rw [PyData.depth]
  have hsh : (PyData.list ds).shown = listText (PyData.shownAll ds) := by rw [PyData.shown]
  have key : (PyData.list ds).showable = true → (PyData.list ds).shown.length ≤ sizeLine → ∃ m, ReadAtMost h (PyData.depthAll ds) m ∧ a ∉ m ∧ ReprAllK P w m h (PyData.depthAll ds) vs.toList (PyData.shownAll ds) := fun z1 z2 => by
    obtain ⟨m, a1, k1⟩ := r.tx (by rwa [PyData.showable] at z1) fun t ht => by
      rw [hsh] at z2
      have := listText_mem_le ht
      omega
    exact ⟨m, a1, not_mem_of_deeper R (by omega) a1, k1⟩
  obtain ⟨its⟩ := vs
  refine ⟨⟨_, R⟩, fun z1 z2 => ?_, fun z1 z2 A E s Q e hg hu q => ?_⟩
  · obtain ⟨m, a1, nm, k1⟩ := key z1 z2
    refine ⟨a :: m, .cons R (by omega) a1, ?_⟩
    rw [hsh, hdp]
    cases its with
    | nil =>
      cases rl
      rw [PyData.shownAll, listText_nil]
      exact .listEmpty ho hc hd
    | cons x y =>
      have k2 : ReprAllK P w m h (PyData.depthAll ds) (x :: y) (PyData.shownAll ds) := k1
      exact .list ho hc hd nm (by simpa using k2.length_eq) fun i y ei => k2.item i y (by simpa using ei)
  · subst e
    obtain ⟨m, a1, nm, k1⟩ := key z1 z2
    rw [hsh] at q z2
    rw [hdp] at hu
    refine call_repr_slot (by omega) ⟨o, ho, hc⟩ F.slot_list_repr.toG ?_
    cases its with
    | nil =>
      cases rl
      rw [PyData.shownAll, listText_nil] at q
      exact call_list_repr_empty ⟨o, ho, hc⟩ ho hd ⟨_, _, rfl, q s.heap _ _ fun _ _ z => z⟩
    | cons x y =>
      have k2 : ReprAllK P w m s.heap (PyData.depthAll ds) (x :: y) (PyData.shownAll ds) := k1
      refine call_list_reprK (A := A.in1) ho hc hd nm (by simpa using k2.length_eq) (fun i y ei => k2.item i y (by simpa using ei)) (g := []) hg (fun _ _ => Clear.nil _) ?_ (fun _ _ z => z) (fun g u k hk => ⟨_, _, rfl, q g u k hk⟩) z2
      show A.units + 1 + (_ + 1) < cLine
      omega
theorem txt_tup (ho : h.get? a = some o) (hc : o.cls = .type "tuple") (hd : o.data = .seq vs n) (r : TxtL P w h vs.toList ds) : Txt P w h (.ref a) (.tuple ds) := by
  obtain ⟨l, rl⟩ := r.rd
  have R : Reads h (.ref a) (.tuple ds) l := .tuple ho hc hd rl
  have hdp : (PyData.tuple ds).depth = PyData.depthAll ds + 1 := by rw [PyData.depth]
  have hsh : (PyData.tuple ds).shown = tupleText (PyData.shownAll ds) := by rw [PyData.shown]
  have key : (PyData.tuple ds).showable = true → (PyData.tuple ds).shown.length ≤ sizeLine → ∃ m, ReadAtMost h (PyData.depthAll ds) m ∧ a ∉ m ∧ ReprAllK P w m h (PyData.depthAll ds) vs.toList (PyData.shownAll ds) := fun z1 z2 => by
    obtain ⟨m, a1, k1⟩ := r.tx (by rwa [PyData.showable] at z1) fun t ht => by
      rw [hsh] at z2
      have := tupleText_mem_le ht
      omega
    exact ⟨m, a1, not_mem_of_deeper R (by omega) a1, k1⟩
  refine ⟨⟨_, R⟩, fun z1 z2 => ?_, fun z1 z2 A E s Q e hg hu q => ?_⟩
  · obtain ⟨m, a1, nm, k1⟩ := key z1 z2
    rw [hsh, hdp]
    exact ⟨a :: m, by have := ReadAtMost.cons R (by omega) a1; rwa [hdp] at this, .tuple ho hc hd nm k1⟩
  · subst e
    obtain ⟨m, a1, nm, k1⟩ := key z1 z2
    rw [hsh] at q z2
    rw [hdp] at hu
    refine call_repr_slot (by omega) ⟨o, ho, hc⟩ F.slot_tuple_repr (call_tuple_reprK (A := A.in1) ho hc hd nm k1 (g := []) hg (fun _ _ => Clear.nil _) ?_ (fun _ _ z => z) (fun g u k hk => ⟨_, _, rfl, q g u k hk⟩) z2)
    show A.units + 1 + (_ + 1) < cLine
    omega
end
theorem txt_dct {a : Addr} {o : Obj} {es : Array DictEntry} {n : Nat} {kvs : List (PyData × PyData)} (ho : h.get? a = some o) (hc : o.cls = .type "dict") (hd : o.data = .dict es n) (hy : (a == sysModules) = false)
    (r1 : TxtL P w h (es.toList.map (·.key)) (kvs.map (·.1))) (r2 : TxtL P w h (es.toList.map (·.val)) (kvs.map (·.2))) : Txt P w h (.ref a) (.dict kvs) := by
  obtain ⟨l1, q1⟩ := r1.rd
  obtain ⟨l2, q2⟩ := r2.rd
  have R : Reads h (.ref a) (.dict kvs) (a :: l1 ++ l2) := .dict ho hc hd q1 q2
  have hdp : (PyData.dict kvs).depth = PyData.depthKv kvs + 1 := by rw [PyData.depth]
  have hsh : (PyData.dict kvs).shown = dictText (PyData.shownKv kvs) := by rw [PyData.shown]
  have d1 := PyData.depthAll_keys_le kvs
  have d2 := PyData.depthAll_vals_le kvs
  have key : (PyData.dict kvs).showable = true → (PyData.dict kvs).shown.length ≤ sizeLine → ∃ m, ReadAtMost h (PyData.depthKv kvs) m ∧ a ∉ m ∧ ReprEntriesK P w m h (PyData.depthKv kvs) es.toList (PyData.shownKv kvs) := fun z1 z2 => by
    rw [PyData.showable] at z1
    rw [hsh] at z2
    obtain ⟨s1, s2⟩ := PyData.showableKv_split kvs z1
    obtain ⟨m1, a1, k1⟩ := r1.tx s1 fun t ht => by
      obtain ⟨p, hp, hl⟩ := PyData.shownKv_key_le kvs t ht
      have := dictText_mem_le hp
      omega
    obtain ⟨m2, a2, k2⟩ := r2.tx s2 fun t ht => by
      obtain ⟨p, hp, hl⟩ := PyData.shownKv_val_le kvs t ht
      have := dictText_mem_le hp
      omega
    have am := (a1.mono d1).append (a2.mono d2)
    refine ⟨m1 ++ m2, am, not_mem_of_deeper R (by omega) am, ?_⟩
    rw [PyData.shownKv_eq]
    exact .of_two es.toList _ _ (k1.more_le (fun _ z => List.mem_append.mpr (.inl z)) d1) (k2.more_le (fun _ z => List.mem_append.mpr (.inr z)) d2)
  refine ⟨⟨_, R⟩, fun z1 z2 => ?_, fun z1 z2 A E s Q e hg hu q => ?_⟩
  · obtain ⟨m, a1, nm, k1⟩ := key z1 z2
    rw [hsh, hdp]
    exact ⟨a :: m, by have := ReadAtMost.cons R (by omega) a1; rwa [hdp] at this, .dict ho hc hd hy nm k1⟩
  · subst e
    obtain ⟨m, a1, nm, k1⟩ := key z1 z2
    rw [hsh] at q z2
    rw [hdp] at hu
    refine call_repr_slot (by omega) ⟨o, ho, hc⟩ F.slot_dict_repr (call_dict_reprK (A := A.in1) ho hc hd hy nm k1 (g := []) hg (fun _ _ => Clear.nil _) ?_ (fun _ _ z => z) (fun g u k hk => ⟨_, _, rfl, q g u k hk⟩) z2)
    show A.units + 1 + (_ + 1) < cLine
    omega
end
end SL

set_option Elab.async false
set_option linter.all false
set_option autoImplicit false
set_option maxRecDepth 100000
set_option maxHeartbeats 4000000
/-! SLData: plain data: == and repr. -/
namespace SL
open PySem PySem.Spec L2
open PyProof.Rows hiding St

def keyPy : Key → PyData
  | .inl i => .int i
  | .inr s => .str s
mutual
/-- a value as the library's data -/
def toPy : IV → Option PyData
  | .non => some .none
  | .bl b => some (.bool b)
  | .int i => some (.int i)
  | .str s => some (.str s)
  | .tup xs => (toPyL xs).map .tuple
  | .lst xs => (toPyL xs).map .list
  | .rol xs => (toPyL xs).map .list
  | .dct ks xs => (toPyL xs).map fun ds => .dict ((ks.map keyPy).zip ds)
  | _ => none
def toPyL : List IV → Option (List PyData)
  | [] => some []
  | x :: xs => match toPy x, toPyL xs with
    | some d, some ds => some (d :: ds)
    | _, _ => none
end
mutual
def noLst : IV → Bool
  | .tup xs => noLstL xs
  | .lst _ => false
  | .rol _ => false
  | .dct _ xs => noLstL xs
  | _ => true
def noLstL : List IV → Bool
  | [] => true
  | x :: xs => noLst x && noLstL xs
end

theorem keys_read {h : Heap} {P : Program} {w : World} : ∀ {es : List DictEntry} {kvs : List (Key × Value)}, Pairs (mixKind P w) es kvs → TxtL P w h (es.map (·.key)) (kvs.map fun p => keyPy p.1)
  | _, _, .nil => txtL_nil
  | e :: es, (k, v) :: kvs, .cons hk _ t => by
    have r := keys_read (h := h) t
    have hk' : keyIs k e.key = true := hk
    rw [List.map_cons, List.map_cons]
    rcases keyIs_shape hk' with ⟨i, tt, ek, ev⟩ | ⟨s, tt, ek, ev⟩
    · rw [ev]
      have ek' : k = Sum.inl i := ek
      subst ek'
      exact txtL_cons (txt_int i tt) r
    · rw [ev]
      have ek' : k = Sum.inr s := ek
      subst ek'
      exact txtL_cons (txt_str s tt) r
theorem vals_read {P : Program} {w : World} : ∀ {es : List DictEntry} {kvs : List (Key × Value)}, Pairs (mixKind P w) es kvs → es.map (·.val) = kvs.map (·.2)
  | _, _, .nil => rfl
  | e :: es, (k, v) :: kvs, .cons _ hv t => by
    rw [List.map_cons, List.map_cons, vals_read t, hv]
theorem kv_vals : ∀ {ks : List Key} {vs : List V} {us : List (Key × Value)}, ks.length = vs.length → KV (ks.zip vs) us → us.map (·.1) = ks ∧ Vals vs (us.map (·.2))
  | [], [], us, _, h => by
    cases h
    exact ⟨rfl, .nil⟩
  | [], _ :: _, _, e, _ => by cases e
  | _ :: _, [], _, e, _ => by cases e
  | k :: ks, v :: vs, us, e, h => by
    rw [List.zip_cons_cons] at h
    cases h with
    | @cons a b l1 l2 hd tl =>
      obtain ⟨h1, h2⟩ := hd
      obtain ⟨q1, q2⟩ := kv_vals (Nat.succ.inj e) tl
      exact ⟨by rw [List.map_cons, q1]; exact congrArg (· :: ks) h1.symm, .cons h2 q2⟩

section
variable {X : Cx} {pins : List (Addr × Obj)} {σ : St} {H : Hp} {s : Shared} {F : Hp} {ρ : List Addr}
mutual
theorem Rel.reads (I : Inv X pins σ H s) (hf : ∀ a o, F a = some o → H a = some o) : ∀ (x : IV) {v : V} {u : Value} {d : PyData}, Rel (gx X) F ρ x v → RelV v u → toPy x = some d →
    Txt X.prog X.w s.heap u d
  | .non, v, u, d, h, r, e => by
    simp only [toPy, Option.some.injEq] at e
    subst e
    rw [relNon h] at r
    cases r
    exact txt_non
  | .bl b, v, u, d, h, r, e => by
    simp only [toPy, Option.some.injEq] at e
    subst e
    rw [relBl h] at r
    cases r
    exact txt_bool b
  | .int i, v, u, d, h, r, e => by
    simp only [toPy, Option.some.injEq] at e
    subst e
    rw [relInt h] at r
    obtain ⟨t, rfl⟩ := r
    exact txt_int i t
  | .str i, v, u, d, h, r, e => by
    simp only [toPy, Option.some.injEq] at e
    subst e
    rw [relStr h] at r
    obtain ⟨t, rfl⟩ := r
    exact txt_str i t
  | .tup xs, v, u, d, h, r, e => by
    simp only [toPy, Option.map_eq_some_iff] at e
    obtain ⟨ds, e1, rfl⟩ := e
    simp only [Rel] at h
    obtain ⟨a, vs, rfl, h1, h2⟩ := h
    cases r
    obtain ⟨its, rv, ⟨o, ho, hc, n, hd⟩, _⟩ := I.tuple (sqT_mono hf h1)
    exact txt_tup ho hc hd (RelL.reads I hf xs h2 rv e1)
  | .lst xs, v, u, d, h, r, e => by
    simp only [toPy, Option.map_eq_some_iff] at e
    obtain ⟨ds, e1, rfl⟩ := e
    simp only [Rel] at h
    obtain ⟨a, vs, rfl, h1, h2⟩ := h
    cases r
    obtain ⟨its, rv, ⟨o, n, ho, hc, _, hd⟩, _⟩ := I.list (.inl (.inl (hf _ _ h1)))
    exact txt_lst ho hc hd (RelL.reads I hf xs h2 rv e1)
  | .rol xs, v, u, d, h, r, e => by
    simp only [toPy, Option.map_eq_some_iff] at e
    obtain ⟨ds, e1, rfl⟩ := e
    simp only [Rel] at h
    obtain ⟨a, vs, rfl, h1, h2⟩ := h
    cases r
    obtain ⟨its, rv, ⟨o, n, ho, hc, _, hd⟩, _⟩ := I.list (sqL_mono hf h1)
    exact txt_lst ho hc hd (RelL.reads I hf xs h2 rv e1)
  | .dct ks xs, v, u, d, h, r, e => by
    simp only [toPy, Option.map_eq_some_iff] at e
    obtain ⟨ds, e1, rfl⟩ := e
    simp only [Rel] at h
    obtain ⟨a, vs, rfl, hl, h1, h2⟩ := h
    cases r
    obtain ⟨fo, h1⟩ := h1
    obtain ⟨_, hsys, us, kv, o, es, ep, ho, hx, hd, _, hp, _⟩ := (I.hok a _ (hf _ _ h1)).2
    obtain ⟨q1, q2⟩ := kv_vals hl kv
    have hr := RelL.reads I hf xs h2 q2 e1
    have l1 := h2.len
    have l2 : ds.length = xs.length := by
      have := toPyL_len xs e1
      exact this
    have ek := keys_read (h := s.heap) hp
    have ev := vals_read hp
    have e2 : (us.map fun p => keyPy p.1) = ((ks.map keyPy).zip ds).map (·.1) := by
      rw [show (us.map fun p => keyPy p.1) = (us.map (·.1)).map keyPy by rw [List.map_map]; rfl, q1, List.map_fst_zip]
      rw [List.length_map]; omega
    have e3 : ((ks.map keyPy).zip ds).map (·.2) = ds := by
      rw [List.map_snd_zip]
      rw [List.length_map]; omega
    rw [e2] at ek
    have hr' : TxtL X.prog X.w s.heap (es.toList.map (·.val)) (((ks.map keyPy).zip ds).map (·.2)) := by rw [ev, e3]; exact hr
    have hcl : o.cls = .type "dict" := hx.1
    exact txt_dct ho hcl hd hsys ek hr'
  | .ty _, _, _, _, _, _, e => by simp only [toPy] at e; cases e
  | .glb _, _, _, _, _, _, e => by simp only [toPy] at e; cases e
  | .cell _, _, _, _, _, _, e => by simp only [toPy] at e; cases e
  | .obj _ _ _, _, _, _, _, _, e => by simp only [toPy] at e; cases e
theorem RelL.reads (I : Inv X pins σ H s) (hf : ∀ a o, F a = some o → H a = some o) : ∀ (xs : List IV) {vs : List V} {us : List Value} {ds : List PyData}, RelL (gx X) F ρ xs vs → Vals vs us → toPyL xs = some ds →
    TxtL X.prog X.w s.heap us ds
  | [], vs, us, ds, h, r, e => by
    simp only [toPyL, Option.some.injEq] at e
    subst e
    simp only [RelL] at h
    subst h
    cases r
    exact txtL_nil
  | x :: xs, vs, us, ds, h, r, e => by
    simp only [RelL] at h
    obtain ⟨v, rr, rfl, h1, h2⟩ := h
    cases r with
    | cons r1 r2 =>
      simp only [toPyL] at e
      split at e
      · rename_i d ds' e1 e2
        cases e
        exact txtL_cons (Rel.reads I hf x h1 r1 e1) (RelL.reads I hf xs h2 r2 e2)
      · cases e
theorem toPyL_len : ∀ (xs : List IV) {ds : List PyData}, toPyL xs = some ds → ds.length = xs.length
  | [], ds, e => by simp only [toPyL, Option.some.injEq] at e; subst e; rfl
  | x :: xs, ds, e => by
    simp only [toPyL] at e
    split at e
    · rename_i d ds' e1 e2
      cases e
      rw [List.length_cons, List.length_cons, toPyL_len xs e2]
    · cases e
end
end

section
variable {X : Cx}
/-- x == y of plain data without dicts; of flat ones; of any sequence and an empty one -/
def cEqG (x y : IV) : Option Bool := match toPy x, toPy y with
  | some d, some e => if SeqAt.shaped d = true ∧ SeqAt.shaped e = true then some (PyData.eqv d e) else none
  | _, _ => none
def cEqD (x y : IV) : Option Bool := match x, y with
  | .int i, .int j => some (decide (i = j))
  | .str a, .str b => some (decide (a = b))
  | .tup xs, .tup [] => some xs.isEmpty
  | .lst xs, .lst [] => some xs.isEmpty
  | .rol xs, .lst [] => some xs.isEmpty
  | x, y => cEqG x y
theorem cEqG_some {x y : IV} {b : Bool} (h : cEqG x y = some b) : ∃ d e, toPy x = some d ∧ toPy y = some e ∧ SeqAt.shaped d = true ∧ SeqAt.shaped e = true ∧ b = PyData.eqv d e := by
  unfold cEqG at h
  split at h
  · rename_i d e h1 h2
    split at h
    · rename_i hh
      cases h
      exact ⟨d, e, h1, h2, hh.1, hh.2, rfl⟩
    · cases h
  · cases h
theorem relTup {g : Gx} {F : Hp} {ρ : List Addr} {xs : List IV} {x : V} (h : Rel g F ρ (.tup xs) x) : ∃ a vs, x = .ref a ∧ SqT g.K F a vs ∧ RelL g F ρ xs vs := by simpa only [Rel] using h
theorem relLst {g : Gx} {F : Hp} {ρ : List Addr} {xs : List IV} {x : V} (h : Rel g F ρ (.lst xs) x) : ∃ a vs, x = .ref a ∧ SqL g.K F a vs ∧ RelL g F ρ xs vs := by
  simp only [Rel] at h
  obtain ⟨a, vs, e, h1, h2⟩ := h
  exact ⟨a, vs, e, .inl (.inl h1), h2⟩
theorem relRol {g : Gx} {F : Hp} {ρ : List Addr} {xs : List IV} {x : V} (h : Rel g F ρ (.rol xs) x) : ∃ a vs, x = .ref a ∧ SqL g.K F a vs ∧ RelL g F ρ xs vs := by simpa only [Rel] using h
def cEq (x y : IV) : Option IV := (cEqD x y).map .bl
def cNe (x y : IV) : Option IV := (cEqD x y).map fun b => .bl (!b)
theorem str_eqv (a b : Str) : PyData.eqv (.str a) (.str b) = decide (a = b) := by
  show (a == b) = _
  by_cases e : a = b
  · subst e; simp
  · simp [e]
section
variable {pins : List (Addr × Obj)} {σ : St} {H : Hp} {s : Shared} {F : Hp} {ρ : List Addr}
theorem eq_same (I : Inv X pins σ H s) (hf : ∀ a o, F a = some o → H a = some o) (hu : X.A.units + 64 < cLine) {xi yi : IV} {x y : V} {v u : Value} {b : Bool} (hx : Rel (gx X) F ρ xi x) (hy : Rel (gx X) F ρ yi y) (rx : RelV x v) (ry : RelV y u) (h : cEqD xi yi = some b) :
    SeqAt.RcAt X.A s v u b ∧ SeqAt.RcNeAt X.A s v u (!b) := by
  have gen : ∀ {b}, cEqG xi yi = some b → SeqAt.RcAt X.A s v u b ∧ SeqAt.RcNeAt X.A s v u (!b) := fun {b} h => by
    obtain ⟨d, e, h1, h2, s1, s2, rfl⟩ := cEqG_some h
    obtain ⟨as, r1⟩ := (Rel.reads I hf xi hx rx h1).rd
    obtain ⟨bs, r2⟩ := (Rel.reads I hf yi hy ry h2).rd
    exact ⟨fun prog w E Q q => SeqAt.compareEq_shaped r1 r2 s1 s2 hu q, fun prog w E Q q => SeqAt.compareNe_shaped r1 r2 s1 s2 hu q⟩
  have lists : ∀ {a b : Addr} {vs : List V} {xs : List IV}, SqL X.K H a vs → SqL X.K H b [] → xs.length = vs.length → SeqAt.RcAt X.A s (.ref a) (.ref b) xs.isEmpty ∧ SeqAt.RcNeAt X.A s (.ref a) (.ref b) (!xs.isEmpty) := fun {a b vs xs} h1 h2 hl => by
    obtain ⟨its, r1, p1, _⟩ := I.list h1
    obtain ⟨its2, r2, p2, _⟩ := I.list h2
    cases r2
    have l1 := r1.length
    cases xs with
    | nil =>
      have e0 : its = [] := List.length_eq_zero_iff.mp (by rw [← l1]; exact hl.symm)
      subst e0
      exact ⟨SeqAt.RcAt.lists (e := fun _ => true) p1.isList p2.isList rfl (by omega) (fun j h => absurd h (by simp)), SeqAt.RcNeAt.lists (e := fun _ => true) p1.isList p2.isList rfl (by omega) (fun j h => absurd h (by simp))⟩
    | cons z zs =>
      have hne : ((its.toArray.size != ([] : List Value).toArray.size) = true) := by
        cases its with
        | nil =>
          rw [← hl] at l1
          simp at l1
        | cons q qs => simp
      exact ⟨SeqAt.RcAt.lists_lengths p1.isList p2.isList hne (by omega), SeqAt.RcNeAt.lists_lengths p1.isList p2.isList hne (by omega)⟩
  unfold cEqD at h
  split at h
  · rename_i i j
    cases h
    rw [relInt hx] at rx
    rw [relInt hy] at ry
    obtain ⟨t, rfl⟩ := rx
    obtain ⟨t', rfl⟩ := ry
    have e : decide (i = j) = (i == j) := by rw [Bool.beq_eq_decide_eq]
    rw [e]
    exact ⟨SeqAt.RcAt.int_int i t j t', SeqAt.RcNeAt.int_int i t j t'⟩
  · rename_i a b
    cases h
    rw [relStr hx] at rx
    rw [relStr hy] at ry
    obtain ⟨t, rfl⟩ := rx
    obtain ⟨t', rfl⟩ := ry
    have e : decide (a = b) = (a == b) := by
      by_cases e : a = b
      · subst e; simp
      · simp [e]
    rw [e]
    exact ⟨SeqAt.RcAt.str_str a t b t', SeqAt.RcNeAt.str_str a t b t'⟩
  · rename_i xs
    cases h
    obtain ⟨a, vs, rfl, h1, h2⟩ := relTup hx
    obtain ⟨a2, vs2, rfl, h3, h4⟩ := relTup hy
    cases rx
    cases ry
    simp only [RelL] at h4
    subst h4
    obtain ⟨its, r1, p1, _⟩ := I.tuple (sqT_mono hf h1)
    obtain ⟨its2, r2, p2, _⟩ := I.tuple (sqT_mono hf h3)
    cases r2
    have l1 := r1.length
    have l2 := h2.len
    have e : xs.isEmpty = ((List.range (min its.toArray.size ([] : List Value).toArray.size)).all (fun _ => true) && its.toArray.size == ([] : List Value).toArray.size) := by
      cases xs with
      | nil =>
        have e0 : its = [] := List.length_eq_zero_iff.mp (by rw [← l1, ← l2]; rfl)
        subst e0
        rfl
      | cons z zs =>
        cases its with
        | nil => rw [← l2] at l1; simp at l1
        | cons q qs => simp
    rw [e]
    exact ⟨SeqAt.RcAt.tuples p1 p2 (by omega) (fun j _ h => absurd h (by simp)), SeqAt.RcNeAt.tuples p1 p2 (by omega) (fun j _ h => absurd h (by simp))⟩
  · rename_i xs
    cases h
    obtain ⟨a, vs, rfl, h1, h2⟩ := relLst hx
    obtain ⟨a2, vs2, rfl, h3, h4⟩ := relLst hy
    cases rx
    cases ry
    simp only [RelL] at h4
    subst h4
    exact lists (sqL_mono hf h1) (sqL_mono hf h3) h2.len
  · rename_i xs
    cases h
    obtain ⟨a, vs, rfl, h1, h2⟩ := relRol hx
    obtain ⟨a2, vs2, rfl, h3, h4⟩ := relLst hy
    cases rx
    cases ry
    simp only [RelL] at h4
    subst h4
    exact lists (sqL_mono hf h1) (sqL_mono hf h3) h2.len
  · exact gen h
end
theorem oj_eq (hu : X.A.units + 64 < cLine) : OpR X (compareOp .Eq) (rJ (gx X) cEq) := by
  intro pins s σ H x y v u Q I rx ry h
  obtain ⟨F, ρ, cs, xi, yi, z, hs, hx, hy, hf, q⟩ := h
  unfold cEq at hf
  obtain ⟨b, hb, rfl⟩ := Option.map_eq_some_iff.mp hf
  exact (eq_same I hs.fz hu hx hy rx ry hb).1 _ _ _ _ ⟨.bl _, H, I, rfl, q F ρ H _ StpU.refl hs (by simp only [Rel])⟩
theorem oj_ne (hu : X.A.units + 64 < cLine) : OpR X (compareOp .NotEq) (rJ (gx X) cNe) := by
  intro pins s σ H x y v u Q I rx ry h
  obtain ⟨F, ρ, cs, xi, yi, z, hs, hx, hy, hf, q⟩ := h
  unfold cNe at hf
  obtain ⟨b, hb, rfl⟩ := Option.map_eq_some_iff.mp hf
  exact (eq_same I hs.fz hu hx hy rx ry hb).2 _ _ _ _ ⟨.bl _, H, I, rfl, q F ρ H _ StpU.refl hs (by simp only [Rel])⟩

/-- repr of plain data -/
def reprOf (x : IV) : Option IV := match toPy x with
  | some d => if d.showable = true ∧ d.depth ≤ 60 ∧ d.shown.length ≤ lim then some (.str d.shown) else none
  | none => none
theorem repr_any {prog : Program} {w : World} {A : Around} {E : Value → Shared → Prop} {s : Shared} {Q : Value → Shared → Prop} {v : Value} {d : PyData} (r : Txt prog w s.heap v d) (hs : d.showable = true)
    (hg : A.guards = some []) (hu : A.units + 64 < cLine) (hd : d.depth ≤ 60) (hsz : d.shown.length ≤ sizeLine)
    (hQ : ∀ h' u tk, (∀ b o, s.heap.get? b = some o → h'.get? b = some o) → Q (.str d.shown u) { s with heap := h', toks := tk }) : wpAny (model prog w) A (call (.builtin "repr") [v]) Q E s :=
  r.top hs hsz A E s Q rfl hg (by omega) hQ
end
end SL

set_option Elab.async false
set_option linter.all false
set_option autoImplicit false
set_option maxRecDepth 100000
set_option maxHeartbeats 4000000
/-! SLTest: tests, and, or, not, is, in, chains, conditional expressions, subscripts, slices, displays. -/
namespace SL
open PySem PySem.Spec L2
open PyProof.Rows hiding St

def isB : IV → Option Bool
  | .bl b => some b
  | _ => none
theorem isB_some {x : IV} {b : Bool} (h : isB x = some b) : x = .bl b := by
  cases x <;> simp only [isB] at h <;> first | cases h; rfl | cases h
def mB (m : M IV) : M Bool := m.bind fun x => M.opt (isB x)
/-- a value's truth -/
def truI : IV → Option Bool
  | .non => some false
  | .bl b => some b
  | .int i => some (i != 0)
  | .str s => if s.length ≤ lim then some ((s.length : Int) != 0) else none
  | .lst xs => some (!xs.isEmpty)
  | .rol xs => some (!xs.isEmpty)
  | .tup xs => some (!xs.isEmpty)
  | _ => none
def mT (m : M IV) : M Bool := m.bind fun x => M.opt (truI x)
def mAnd (a b : M Bool) : M Bool := a.bind fun x => if x = true then b else M.pure false
def mOr (a b : M Bool) : M Bool := a.bind fun x => if x = true then M.pure true else b
def mNot (a : M Bool) : M Bool := a.bind fun x => M.pure (!x)
/-- values -/
def eAnd (a b : M IV) : M IV := (mB a).bind fun x => if x = true then b else M.pure (.bl false)
def eOr (a b : M IV) : M IV := (mB a).bind fun x => if x = true then M.pure (.bl true) else b
def eNot (a : M IV) : M IV := (mB a).bind fun x => M.pure (.bl (!x))
def eIf (t : M Bool) (a b : M IV) : M IV := t.bind fun x => if x = true then a else b
def eChain (f f' : IV → IV → Option IV) (ma mb mc : M IV) : M IV := ma.bind fun x => mb.bind fun y => (mB (M.opt (f x y))).bind fun k => if k = true then mc.bind fun z => M.opt (f' y z) else M.pure (.bl false)

section
variable {X : Cx} {n : Nat} {W : WX} {a b c e : Expr} {ma mb mc m : M IV} {tA tB tC : M Bool} {pos : Pos} {g : Gx}

theorem mB_run {σ : St} {H : Hp} {Q : Bool → Hp → Prop} (h : tG g n W RB (mB m) σ H Q) : tG g n W (Rel g) m σ H fun x H1 => ∃ k, x = .bl k ∧ Q k H1 := by
  obtain ⟨F, ρ, cs, σi, hs, hl, hp⟩ := h
  refine go hs hl hp fun v H1 F1 ρ1 cs1 x st1 hs1 hl1 r1 hp1 => ?_
  obtain ⟨z, q, hq⟩ := pst_opt (o := isB x) hp1
  rw [isB_some q] at r1
  exact ⟨z, relBl r1, hq F1 ρ1 H1 z StpU.refl hs1 rfl⟩
theorem jt_val (h : JE X n W e m) (he : ∀ whole, isTrue e X.env whole = (do let v ← whole; standAt e.pos; holding [v] (truthy v)) := by intro _; rfl) : JT X n W e (mB m) :=
  pt_imp (pt_val h he) fun σ H Q q => mB_run q
theorem e2_run {f : IV → IV → Option IV} {σ : St} {H : Hp} {Q : VK} (h : tG g n W (Rel g) (e2 f ma mb) σ H Q) : tOp (rJ g f) (tG g n W (Rel g) ma) (tG g n W (Rel g) mb) σ H Q := by
  obtain ⟨F, ρ, cs, σi, hs, hl, hp⟩ := h
  refine go hs hl hp fun x H1 F1 ρ1 cs1 xi st1 hs1 hl1 rx hp1 => ?_
  refine go hs1 hl1 hp1 fun y H2 F2 ρ2 cs2 yi st2 hs2 hl2 ry hp2 => ?_
  obtain ⟨z, q, hq⟩ := pst_opt (o := f xi yi) hp2
  exact ⟨F2, ρ2, cs2, xi, yi, z, hs2, rx.stp st2, ry, q, hq⟩
theorem tOp_mono {f : IV → IV → Option IV} {σ : St} {H : Hp} {Q Q' : VK} (h : tG g n W (Rel g) (e2 f ma mb) σ H Q) (hq : ∀ v H', Q v H' → Q' v H') : tG g n W (Rel g) (e2 f ma mb) σ H Q' := h.mono hq
theorem jt_cmp {op : CmpOp} {f : IV → IV → Option IV} (ho : OpR X (compareOp op) (rJ (gx X) f)) (ha : JE X n W a ma) (hb : JE X n W b mb) (hm : behindInMarks op b = false) : JT X n W (.Compare a [op] [b] pos) (mB (e2 f ma mb)) :=
  pt_imp (pt_cmpR ho ha hb hm) fun σ H Q q => e2_run (mB_run q)
theorem zip_empty {α β : Type} {ks : List α} {vs : List β} (h : ks.length = vs.length) : (ks.zip vs).isEmpty = ks.isEmpty := by
  cases ks <;> cases vs <;> simp_all
theorem tru_rel {F : Hp} {ρ : List Addr} {H : Hp} (hf : ∀ a o, F a = some o → H a = some o) {x : IV} {v : V} {k : Bool} (r : Rel g F ρ x v) (h : truI x = some k) : TruV g.K v H k := by
  cases x with
  | non => rw [relNon r]; cases h; rfl
  | bl b => rw [relBl r]; cases h; rfl
  | int i => rw [relInt r]; cases h; rfl
  | str s =>
    rw [relStr r]
    simp only [truI] at h
    split at h
    · rename_i hz; cases h; exact ⟨lim_le hz, rfl⟩
    · cases h
  | tup xs =>
    simp only [Rel] at r
    obtain ⟨a, vs, rfl, h1, h2⟩ := r
    cases h
    exact .inr (.inl ⟨vs, sqT_mono hf h1, by have := h2.len; cases xs <;> cases vs <;> simp_all⟩)
  | lst xs =>
    simp only [Rel] at r
    obtain ⟨a, vs, rfl, h1, h2⟩ := r
    cases h
    exact .inl ⟨vs, .inl (.inl (hf _ _ h1)), by have := h2.len; cases xs <;> cases vs <;> simp_all⟩
  | rol xs =>
    simp only [Rel] at r
    obtain ⟨a, vs, rfl, h1, h2⟩ := r
    cases h
    exact .inl ⟨vs, sqL_mono hf h1, by have := h2.len; cases xs <;> cases vs <;> simp_all⟩
  | _ => cases h
end
section
variable {X : Cx} {n : Nat} {W : WX} {a b c e : Expr} {ma mb mc m : M IV} {tA tB tC : M Bool} {pos : Pos} {g : Gx} {rest : List Expr}
theorem jw_and1 (h : JT X n W a tA) : JW X n W (.BoolOp .And [a] pos) tA := pw_and1 h
theorem jw_or1 (h : JT X n W a tA) : JW X n W (.BoolOp .Or [a] pos) tA := pw_or1 h
theorem jw_and (h : JT X n W a tA) (h' : JW X n W (.BoolOp .And (b :: rest) pos) tB) : JW X n W (.BoolOp .And (a :: b :: rest) pos) (mAnd tA tB) := by
  refine pw_imp (pw_and h h') fun σ H Q q => ?_
  obtain ⟨F, ρ, cs, σi, hs, hl, hp⟩ := q
  refine go hs hl hp fun v H1 F1 ρ1 cs1 x st1 hs1 hl1 r1 hp1 => ?_
  have r1' : x = v := r1
  subst r1'
  cases x with
  | true => exact ⟨F1, ρ1, cs1, σi, hs1, hl1, hp1⟩
  | false => exact hp1 F1 ρ1 H1 _ StpU.refl hs1 rfl
theorem jw_or (h : JT X n W a tA) (h' : JW X n W (.BoolOp .Or (b :: rest) pos) tB) : JW X n W (.BoolOp .Or (a :: b :: rest) pos) (mOr tA tB) := by
  refine pw_imp (pw_or h h') fun σ H Q q => ?_
  obtain ⟨F, ρ, cs, σi, hs, hl, hp⟩ := q
  refine go hs hl hp fun v H1 F1 ρ1 cs1 x st1 hs1 hl1 r1 hp1 => ?_
  have r1' : x = v := r1
  subst r1'
  cases x with
  | false => exact ⟨F1, ρ1, cs1, σi, hs1, hl1, hp1⟩
  | true => exact hp1 F1 ρ1 H1 _ StpU.refl hs1 rfl
theorem jt_bool (h : JW X n W e tA) : JT X n W e tA := PW.pt h
theorem jt_not (h : JT X n W a tA) : JT X n W (.UnaryOp .Not a pos) (mNot tA) := by
  refine pt_imp (pt_not h) fun σ H Q q => ?_
  obtain ⟨F, ρ, cs, σi, hs, hl, hp⟩ := q
  refine go hs hl hp fun v H1 F1 ρ1 cs1 x st1 hs1 hl1 r1 hp1 => ?_
  have r1' : x = v := r1
  subst r1'
  exact hp1 F1 ρ1 H1 _ StpU.refl hs1 rfl
theorem jt_tru (h : JE X n W e m) (he : ∀ whole, isTrue e X.env whole = (do let v ← whole; standAt e.pos; holding [v] (truthy v)) := by intro _; rfl) : JT X n W e (mT m) := by
  refine pt_imp (pt_truth h he) fun σ H Q q => ?_
  obtain ⟨F, ρ, cs, σi, hs, hl, hp⟩ := q
  refine go hs hl hp fun v H1 F1 ρ1 cs1 x st1 hs1 hl1 r1 hp1 => ?_
  obtain ⟨k, hk, hq⟩ := pst_opt (o := truI x) hp1
  exact ⟨k, tru_rel hs1.fz r1 hk, hq F1 ρ1 H1 k StpU.refl hs1 rfl⟩
theorem je_one {op} (h : JE X n W a m) : JE X n W (.BoolOp op [a] pos) m := pe_one h
theorem je_and (ha : JE X n W a ma) (hb : JE X n W (.BoolOp .And (b :: rest) pos) mb) : JE X n W (.BoolOp .And (a :: b :: rest) pos) (eAnd ma mb) := by
  refine pe_imp (pe_and ha hb) fun σ H Q q => ?_
  obtain ⟨F, ρ, cs, σi, hs, hl, hp⟩ := q
  have h1 : tG (gx X) n W RB (mB ma) σ H (fun c H1 => if c = true then tG (gx X) n W (Rel (gx X)) mb σ H1 Q else Q (.bl false) H1) := go hs hl hp fun v H1 F1 ρ1 cs1 x st1 hs1 hl1 r1 hp1 => by
    have r1' : x = v := r1
    subst r1'
    cases x with
    | true => exact ⟨F1, ρ1, cs1, σi, hs1, hl1, hp1⟩
    | false => exact hp1 F1 ρ1 H1 _ StpU.refl hs1 (by simp only [Rel])
  exact mB_run h1
theorem je_or (ha : JE X n W a ma) (hb : JE X n W (.BoolOp .Or (b :: rest) pos) mb) : JE X n W (.BoolOp .Or (a :: b :: rest) pos) (eOr ma mb) := by
  refine pe_imp (pe_or ha hb) fun σ H Q q => ?_
  obtain ⟨F, ρ, cs, σi, hs, hl, hp⟩ := q
  have h1 : tG (gx X) n W RB (mB ma) σ H (fun c H1 => if c = true then Q (.bl true) H1 else tG (gx X) n W (Rel (gx X)) mb σ H1 Q) := go hs hl hp fun v H1 F1 ρ1 cs1 x st1 hs1 hl1 r1 hp1 => by
    have r1' : x = v := r1
    subst r1'
    cases x with
    | false => exact ⟨F1, ρ1, cs1, σi, hs1, hl1, hp1⟩
    | true => exact hp1 F1 ρ1 H1 _ StpU.refl hs1 (by simp only [Rel])
  exact mB_run h1
theorem je_not (ha : JE X n W a ma) : JE X n W (.UnaryOp .Not a pos) (eNot ma) := by
  refine pe_imp (pe_not ha) fun σ H Q q => ?_
  obtain ⟨F, ρ, cs, σi, hs, hl, hp⟩ := q
  have h1 : tG (gx X) n W RB (mB ma) σ H (fun c H1 => Q (.bl (!c)) H1) := go hs hl hp fun v H1 F1 ρ1 cs1 x st1 hs1 hl1 r1 hp1 => by
    have r1' : x = v := r1
    subst r1'
    exact hp1 F1 ρ1 H1 _ StpU.refl hs1 (by simp only [Rel])
  exact mB_run h1
theorem je_if (hc : JT X n W c tC) (ha : JE X n W a ma) (hb : JE X n W b mb) : JE X n W (.IfExp c a b pos) (eIf tC ma mb) := by
  refine pe_imp (pe_ifExp hc ha hb) fun σ H Q q => ?_
  obtain ⟨F, ρ, cs, σi, hs, hl, hp⟩ := q
  refine go hs hl hp fun v H1 F1 ρ1 cs1 x st1 hs1 hl1 r1 hp1 => ?_
  have r1' : x = v := r1
  subst r1'
  cases x with
  | true => exact ⟨F1, ρ1, cs1, σi, hs1, hl1, hp1⟩
  | false => exact ⟨F1, ρ1, cs1, σi, hs1, hl1, hp1⟩
theorem chain_run {f f' : IV → IV → Option IV} {σ : St} {H : Hp} {Q : VK} (h : tG g n W (Rel g) (eChain f f' ma mb mc) σ H Q) : tChain (rJ g f) (rJ g f') (tG g n W (Rel g) ma) (tG g n W (Rel g) mb) (tG g n W (Rel g) mc) σ H Q := by
  obtain ⟨F, ρ, cs, σi, hs, hl, hp⟩ := h
  refine go hs hl hp fun x H1 F1 ρ1 cs1 xi st1 hs1 hl1 rx hp1 => ?_
  refine go hs1 hl1 hp1 fun y H2 F2 ρ2 cs2 yi st2 hs2 hl2 ry hp2 => ?_
  have hp3 : Pst g W σ (Rel g) F2 ρ2 H2 (((mB (M.opt (f xi yi))) n σi cs2).then fun k cs' => (if k = true then mc.bind fun z => M.opt (f' yi z) else M.pure (.bl false)) n σi cs') Q := hp2
  cases e : f xi yi with
  | none => rw [e] at hp3; exact hp3.elim
  | some z =>
    rw [e] at hp3
    cases e2 : isB z with
    | none =>
      have : mB (M.opt (some z)) n σi cs2 = .stuck := by
        simp only [mB, M.bind, M.opt, Res.then, e2]
      rw [this] at hp3
      exact hp3.elim
    | some k =>
      have e3 := isB_some e2
      subst e3
      have hp4 : Pst g W σ (Rel g) F2 ρ2 H2 ((if k = true then mc.bind fun z => M.opt (f' yi z) else M.pure (.bl false)) n σi cs2) Q := hp3
      refine ⟨F2, ρ2, cs2, xi, yi, .bl k, hs2, rx.stp st2, ry, e, fun F3 ρ3 H3 v st3 hs3 r3 => ⟨k, relBl r3, ?_⟩⟩
      cases k with
      | false => exact hp4 F3 ρ3 H3 _ st3 hs3 (by simp only [Rel])
      | true =>
        have hp5 : Pst g W σ (Rel g) F3 ρ3 H3 ((mc n σi cs2).then fun z cs' => M.opt (f' yi z) n σi cs') Q := Pst.stp hp4 st3
        refine go hs3 (hl2.stp st3) hp5 fun w H4 F4 ρ4 cs4 wi st4 hs4 hl4 rw hp6 => ?_
        obtain ⟨z, q, hq⟩ := pst_opt (o := f' yi wi) hp6
        exact ⟨F4, ρ4, cs4, yi, wi, z, hs4, (ry.stp st3).stp st4, rw, q, hq⟩
theorem je_chain {op op' : CmpOp} {f f' : IV → IV → Option IV} (ho : OpR X (compareOp op) (rJ (gx X) f)) (ho' : OpR X (compareOp op') (rJ (gx X) f')) (ha : JE X n W a ma) (hb : JE X n W b mb) (hc : JE X n W c mc)
    (hm : lastMarks [op, op'] [b, c] = false := by with_unfolding_all rfl) : JE X n W (.Compare a [op, op'] [b, c] pos) (eChain f f' ma mb mc) := pe_imp (pe_chain ho ho' ha hb hc hm) fun σ H Q q => chain_run q
theorem jt_chain {op op' : CmpOp} {f f' : IV → IV → Option IV} (ho : OpR X (compareOp op) (rJ (gx X) f)) (ho' : OpR X (compareOp op') (rJ (gx X) f')) (ha : JE X n W a ma) (hb : JE X n W b mb) (hc : JE X n W c mc)
    (hm : lastMarks [op, op'] [b, c] = false := by with_unfolding_all rfl) : JT X n W (.Compare a [op, op'] [b, c] pos) (mB (eChain f f' ma mb mc)) := pt_imp (pt_chain ho ho' ha hb hc hm) fun σ H Q q => chain_run (mB_run q)

/-! ### is, in -/
def isNon : IV → Bool
  | .non => true
  | _ => false
theorem rel_non {F : Hp} {ρ : List Addr} {x : IV} {v : V} (r : Rel g F ρ x v) : decide (v = .non) = isNon x := by
  cases x with
  | non => rw [relNon r]; rfl
  | bl b => rw [relBl r]; rfl
  | int i => rw [relInt r]; rfl
  | str s => rw [relStr r]; rfl
  | ty s => rw [relTy r]; rfl
  | glb s =>
    simp only [Rel] at r
    obtain ⟨a, _, rfl⟩ := r
    rfl
  | tup xs =>
    simp only [Rel] at r
    obtain ⟨a, vs, rfl, _⟩ := r
    rfl
  | lst xs =>
    simp only [Rel] at r
    obtain ⟨a, vs, rfl, _⟩ := r
    rfl
  | rol xs =>
    simp only [Rel] at r
    obtain ⟨a, vs, rfl, _⟩ := r
    rfl
  | dct ks xs =>
    simp only [Rel] at r
    obtain ⟨a, vs, rfl, _⟩ := r
    rfl
  | cell k =>
    simp only [Rel] at r
    obtain ⟨a, rfl, _⟩ := r
    rfl
  | obj c fs xs =>
    simp only [Rel] at r
    obtain ⟨a, C, dx, vs, rfl, _⟩ := r
    rfl
def cIs : IV → IV → Option IV
  | x, .non => some (.bl (isNon x))
  | .bl a, .bl b => some (.bl (decide (a = b)))
  | _, _ => none
def cIsNot : IV → IV → Option IV
  | x, .non => some (.bl (!isNon x))
  | .bl a, .bl b => some (.bl (!decide (a = b)))
  | _, _ => none
theorem oj_is : OpR X (compareOp .Is) (rJ (gx X) cIs) := by
  intro pins s σ H x y v u Q I rx ry h
  obtain ⟨F, ρ, cs, xi, yi, z, hs, hx, hy, hf, q⟩ := h
  unfold cIs at hf
  split at hf
  · cases hf
    rw [relNon hy] at ry
    exact op_isN pins s σ H _ _ v u Q I rx ry ⟨rfl, q F ρ H _ StpU.refl hs (by rw [rel_non hx]; simp only [Rel])⟩
  · cases hf
    rw [relBl hy] at ry; rw [relBl hx] at rx
    exact op_isBl pins s σ H _ _ v u Q I rx ry ⟨_, _, rfl, rfl, q F ρ H _ StpU.refl hs (by simp only [Rel])⟩
  · cases hf
theorem oj_isNot : OpR X (compareOp .IsNot) (rJ (gx X) cIsNot) := by
  intro pins s σ H x y v u Q I rx ry h
  obtain ⟨F, ρ, cs, xi, yi, z, hs, hx, hy, hf, q⟩ := h
  unfold cIsNot at hf
  split at hf
  · cases hf
    rw [relNon hy] at ry
    exact op_notN pins s σ H _ _ v u Q I rx ry ⟨rfl, q F ρ H _ StpU.refl hs (by rw [rel_non hx]; simp only [Rel])⟩
  · cases hf
    rw [relBl hy] at ry; rw [relBl hx] at rx
    exact op_notBl pins s σ H _ _ v u Q I rx ry ⟨_, _, rfl, rfl, q F ρ H _ StpU.refl hs (by simp only [Rel])⟩
  · cases hf
def flatI : IV → Option V
  | .non => some .non
  | .bl b => some (.bl b)
  | .int i => some (.int i)
  | .str s => some (.str s)
  | _ => none
def flatL : List IV → Option (List V)
  | [] => some []
  | x :: xs => match flatI x, flatL xs with
    | some v, some vs => some (v :: vs)
    | _, _ => none
theorem flat_rel {F : Hp} {ρ : List Addr} {x : IV} {v w : V} (r : Rel g F ρ x v) (h : flatI x = some w) : v = w ∧ flatV v = true := by
  cases x with
  | non => rw [relNon r]; cases h; exact ⟨rfl, rfl⟩
  | bl b => rw [relBl r]; cases h; exact ⟨rfl, rfl⟩
  | int i => rw [relInt r]; cases h; exact ⟨rfl, rfl⟩
  | str s => rw [relStr r]; cases h; exact ⟨rfl, rfl⟩
  | _ => cases h
theorem flat_relL {F : Hp} {ρ : List Addr} : ∀ {xs : List IV} {vs ws : List V}, RelL g F ρ xs vs → flatL xs = some ws → vs = ws ∧ vs.all flatV = true
  | [], vs, ws, r, h => by
    simp only [RelL] at r
    subst r
    cases h
    exact ⟨rfl, rfl⟩
  | x :: xs, vs, ws, r, h => by
    simp only [RelL] at r
    obtain ⟨v, t, rfl, h1, h2⟩ := r
    simp only [flatL] at h
    split at h
    · rename_i w ws' e1 e2
      cases h
      obtain ⟨rfl, p1⟩ := flat_rel h1 e1
      obtain ⟨rfl, p2⟩ := flat_relL h2 e2
      exact ⟨rfl, by rw [List.all_cons, p1, p2]; rfl⟩
    · cases h
/-- x in y: one sign in a text; a flat value in a tuple or a list of flat values -/
def inI (x y : IV) : Option Bool := match y with
  | .str z => match x with
    | .str c => match c.cps.toList with
      | [k] => some (decide (k ∈ z.cps.toList))
      | _ => none
    | _ => none
  | .tup ys => match flatI x, flatL ys with
    | some v, some vs => some (inV v vs)
    | _, _ => none
  | .lst ys => match flatI x, flatL ys with
    | some v, some vs => some (inV v vs)
    | _, _ => none
  | _ => none
theorem inI_seq {F : Hp} {ρ : List Addr} {x : IV} {ys : List IV} {xv : V} {vs : List V} {b : Bool} (hx : Rel g F ρ x xv) (hy : RelL g F ρ ys vs) (h : (match flatI x, flatL ys with | some v, some vs => some (inV v vs) | _, _ => none) = some b) :
    flatV xv = true ∧ vs.all flatV = true ∧ b = inV xv vs := by
  split at h
  · rename_i v ws e1 e2
    cases h
    obtain ⟨rfl, p1⟩ := flat_rel hx e1
    obtain ⟨rfl, p2⟩ := flat_relL hy e2
    exact ⟨p1, p2, rfl⟩
  · cases h
theorem str_one {c : Str} {k : Nat} (h : c.cps.toList = [k]) : c = ⟨#[k]⟩ := by
  obtain ⟨a⟩ := c
  have : a = #[k] := by
    apply Array.toList_inj.mp
    exact h
  rw [this]
def cIn (x y : IV) : Option IV := (inI x y).map .bl
def cNotIn (x y : IV) : Option IV := (inI x y).map fun b => .bl (!b)
theorem oj_in : OpR X (compareOp .In) (rJ (gx X) cIn) := by
  intro pins s σ H x y v u Q I rx ry h
  obtain ⟨F, ρ, cs, xi, yi, z, hs, hx, hy, hf, q⟩ := h
  unfold cIn at hf
  obtain ⟨b, hb, rfl⟩ := Option.map_eq_some_iff.mp hf
  unfold inI at hb
  split at hb
  · split at hb
    · split at hb
      · rename_i c k e
        cases hb
        rw [relStr hy] at ry; rw [relStr hx, str_one e] at rx
        exact op_in_sign pins s σ H _ _ v u Q I rx ry ⟨k, _, rfl, rfl, q F ρ H _ StpU.refl hs (by simp only [Rel])⟩
      · cases hb
    · cases hb
  · simp only [Rel] at hy
    obtain ⟨a, vs, rfl, h1, h2⟩ := hy
    obtain ⟨p1, p2, rfl⟩ := inI_seq hx h2 hb
    exact op_in_seq pins s σ H _ _ v u Q I rx ry ⟨a, vs, rfl, .inr (sqT_mono hs.fz h1), p1, p2, q F ρ H _ StpU.refl hs (by simp only [Rel]; rfl)⟩
  · simp only [Rel] at hy
    obtain ⟨a, vs, rfl, h1, h2⟩ := hy
    obtain ⟨p1, p2, rfl⟩ := inI_seq hx h2 hb
    exact op_in_seq pins s σ H _ _ v u Q I rx ry ⟨a, vs, rfl, .inl (.inl (.inl (hs.fz _ _ h1))), p1, p2, q F ρ H _ StpU.refl hs (by simp only [Rel]; rfl)⟩
  · cases hb
theorem oj_notIn : OpR X (compareOp .NotIn) (rJ (gx X) cNotIn) := by
  intro pins s σ H x y v u Q I rx ry h
  obtain ⟨F, ρ, cs, xi, yi, z, hs, hx, hy, hf, q⟩ := h
  unfold cNotIn at hf
  obtain ⟨b, hb, rfl⟩ := Option.map_eq_some_iff.mp hf
  unfold inI at hb
  split at hb
  · split at hb
    · split at hb
      · rename_i c k e
        cases hb
        rw [relStr hy] at ry; rw [relStr hx, str_one e] at rx
        exact op_notIn_sign pins s σ H _ _ v u Q I rx ry ⟨k, _, rfl, rfl, q F ρ H _ StpU.refl hs (by simp only [Rel])⟩
      · cases hb
    · cases hb
  · simp only [Rel] at hy
    obtain ⟨a, vs, rfl, h1, h2⟩ := hy
    obtain ⟨p1, p2, rfl⟩ := inI_seq hx h2 hb
    exact op_notIn_seq pins s σ H _ _ v u Q I rx ry ⟨a, vs, rfl, .inr (sqT_mono hs.fz h1), p1, p2, q F ρ H _ StpU.refl hs (by simp only [Rel]; rfl)⟩
  · simp only [Rel] at hy
    obtain ⟨a, vs, rfl, h1, h2⟩ := hy
    obtain ⟨p1, p2, rfl⟩ := inI_seq hx h2 hb
    exact op_notIn_seq pins s σ H _ _ v u Q I rx ry ⟨a, vs, rfl, .inl (.inl (.inl (hs.fz _ _ h1))), p1, p2, q F ρ H _ StpU.refl hs (by simp only [Rel]; rfl)⟩
  · cases hb
end
end SL

set_option Elab.async false
set_option linter.all false
set_option autoImplicit false
set_option maxRecDepth 100000
set_option maxHeartbeats 4000000
/-! SLSub: arguments, displays, subscripts, slices, built-in functions. -/
namespace SL
open PySem PySem.Spec L2
open PyProof.Rows hiding St

def aNil : M (List IV) := M.pure []
def aCons (m : M IV) (r : M (List IV)) : M (List IV) := m.bind fun x => r.bind fun xs => M.pure (x :: xs)
def eTup (a : M (List IV)) : M IV := a.bind fun xs => M.opt (if xs.length ≤ lim then some (.tup xs) else none)
def eLst (a : M (List IV)) : M IV := a.bind fun xs => M.opt (if xs.length ≤ lim then some (.lst xs) else none)

/-- an operation on two values and what stands at the cells -/
def rJc (g : Gx) (f : List Cell → IV → IV → Option IV) : R2 := fun x y H Q => ∃ F ρ cs xi yi z, Sim g F ρ cs H ∧ Rel g F ρ xi x ∧ Rel g F ρ yi y ∧ f cs xi yi = some z ∧ ∀ F' ρ' H' v, Stp F ρ H F' ρ' H' → Sim g F' ρ' cs H' → Rel g F' ρ' z v → Q v H'
def eCells (f : List Cell → Option IV) : M IV := fun _ _ cs => match f cs with
  | some a => .ok a cs
  | none => .stuck
def e2c (f : List Cell → IV → IV → Option IV) (ma mb : M IV) : M IV := ma.bind fun x => mb.bind fun y => eCells fun cs => f cs x y
/-- x[i] -/
def ixI (cs : List Cell) (x y : IV) : Option IV := match y with
  | .int i => match x with
    | .tup xs => atI xs i
    | .lst xs => atI xs i
    | .rol xs => atI xs i
    | .str s => if s.length ≤ lim then (atI s.cps.toList i).map fun c => .str ⟨#[c]⟩ else none
    | .cell k => match cs[k]? with
      | some (.lst xs) => atI xs i
      | _ => none
    | _ => none
  | _ => none
/-- xs[lo:hi] -/
def cut {α : Type} (xs : List α) (lo hi : Option Int) : List α := (xs.drop (HT.sIx xs.length 0 lo)).take (HT.sIx xs.length xs.length hi - HT.sIx xs.length 0 lo)
def slI (x : IV) (lo hi : Option Int) : Option IV := match x with
  | .tup xs => some (.tup (cut xs lo hi))
  | .lst xs => some (.lst (cut xs lo hi))
  | .rol xs => some (.lst (cut xs lo hi))
  | .str s => if s.length ≤ lim then some (.str (cutS s lo hi)) else none
  | _ => none
def oNone : M (Option Int) := M.pure none
def asInt : IV → Option Int
  | .int i => some i
  | _ => none
def oSome (m : M IV) : M (Option Int) := m.bind fun x => M.opt ((asInt x).map some)
def eSl (m : M IV) (lo hi : M (Option Int)) : M IV := m.bind fun x => lo.bind fun l => hi.bind fun h => M.opt (slI x l h)
def eRevL (m : M IV) : M IV := m.bind fun x => M.opt (match x with
  | .lst xs => some (.lst xs.reverse)
  | .rol xs => some (.lst xs.reverse)
  | _ => none)

section
variable {X : Cx} {n : Nat} {W : WX} {a b c e : Expr} {es : List Expr} {ma mb mc m : M IV} {mr : M (List IV)} {pos : Pos} {g : Gx}
theorem ja_nil : JA X n W [] aNil := by
  refine pa_imp pa_nil fun σ H Q q => ?_
  obtain ⟨F, ρ, cs, σi, hs, hl, hp⟩ := q
  exact hp F ρ H [] StpU.refl hs RelL.nil
theorem ja_cons (h : JE X n W a m) (hr : JA X n W es mr) (hs : starEach (a :: es) X.env = (false, eval a X.env) :: starEach es X.env := by rfl) : JA X n W (a :: es) (aCons m mr) := by
  refine pa_imp (pa_cons h hr hs) fun σ H Q q => ?_
  obtain ⟨F, ρ, cs, σi, hs, hl, hp⟩ := q
  refine go hs hl hp fun v H1 F1 ρ1 cs1 x st1 hs1 hl1 r1 hp1 => ?_
  refine go hs1 hl1 hp1 fun vs H2 F2 ρ2 cs2 xs st2 hs2 hl2 r2 hp2 => ?_
  exact hp2 F2 ρ2 H2 _ StpU.refl hs2 (.cons (r1.stp st2) r2)
theorem je_tup {k} (h : JA X n W es mr) : JE X n W (.Tuple es k pos) (eTup mr) := by
  refine pe_imp (pe_tup h) fun σ H Q q => ?_
  obtain ⟨F, ρ, cs, σi, hs, hl, hp⟩ := q
  refine go hs hl hp fun vs H1 F1 ρ1 cs1 xs st1 hs1 hl1 r1 hp1 => ?_
  obtain ⟨z, hz, hq⟩ := pst_opt (o := if xs.length ≤ lim then some (IV.tup xs) else none) hp1
  split at hz
  · rename_i hle
    cases hz
    refine ⟨lim_le (by rw [← r1.len]; exact hle), fun p hp => ?_⟩
    obtain ⟨hs', st⟩ := hs1.new (o := .tup vs) hp
    exact hq _ _ _ _ st hs' (by simp only [Rel]; exact ⟨p, vs, rfl, .inl (.inl upd_same), r1.stp st⟩)
  · cases hz
theorem je_lst (h : JA X n W es mr) : JE X n W (.List es pos) (eLst mr) := by
  refine pe_imp (pe_lst h) fun σ H Q q => ?_
  obtain ⟨F, ρ, cs, σi, hs, hl, hp⟩ := q
  refine go hs hl hp fun vs H1 F1 ρ1 cs1 xs st1 hs1 hl1 r1 hp1 => ?_
  obtain ⟨z, hz, hq⟩ := pst_opt (o := if xs.length ≤ lim then some (IV.lst xs) else none) hp1
  split at hz
  · rename_i hle
    cases hz
    refine ⟨lim_le (by rw [← r1.len]; exact hle), fun p hp => ?_⟩
    obtain ⟨hs', st⟩ := hs1.new (o := .lst vs) hp
    exact hq _ _ _ _ st hs' (by simp only [Rel]; exact ⟨p, vs, rfl, upd_same, r1.stp st⟩)
  · cases hz

/-! ### subscripts -/
theorem atI_rel {F : Hp} {ρ : List Addr} {xs : List IV} {vs : List V} (r : RelL g F ρ xs vs) {i : Int} {x : IV} (h : atI xs i = some x) : ∃ v, atI vs i = some v ∧ Rel g F ρ x v := by
  unfold atI at h ⊢
  rw [← r.len]
  obtain ⟨j, h1, h2⟩ := Option.bind_eq_some_iff.mp h
  obtain ⟨v, e, r'⟩ := r.get h2
  exact ⟨v, by rw [h1]; exact e, r'⟩
theorem ij_ix : IxR X (rJc (gx X) ixI) := by
  intro value slice pins s σ H x y v u Q I rx ry h hsub
  obtain ⟨F, ρ, cs, xi, yi, z, hs, hx, hy, hf, q⟩ := h
  unfold ixI at hf
  split at hf
  · rename_i i
    rw [relInt hy] at ry
    have fin : ∀ {w : V}, Rel (gx X) F ρ z w → Q w H := fun {w} r => q F ρ H w StpU.refl hs r
    split at hf
    · simp only [Rel] at hx
      obtain ⟨a, vs, rfl, h1, h2⟩ := hx
      obtain ⟨w, hw, r⟩ := atI_rel h2 hf
      exact ix_tup value slice pins s σ H _ _ v u Q I rx ry ⟨a, vs, i, w, rfl, rfl, sqT_mono hs.fz h1, hw, fin r⟩ hsub
    · simp only [Rel] at hx
      obtain ⟨a, vs, rfl, h1, h2⟩ := hx
      obtain ⟨w, hw, r⟩ := atI_rel h2 hf
      exact ix_list value slice pins s σ H _ _ v u Q I rx ry ⟨a, vs, i, w, rfl, rfl, .inl (.inl (hs.fz _ _ h1)), hw, fin r⟩ hsub
    · simp only [Rel] at hx
      obtain ⟨a, vs, rfl, h1, h2⟩ := hx
      obtain ⟨w, hw, r⟩ := atI_rel h2 hf
      exact ix_list value slice pins s σ H _ _ v u Q I rx ry ⟨a, vs, i, w, rfl, rfl, sqL_mono hs.fz h1, hw, fin r⟩ hsub
    · split at hf
      · rename_i hz
        obtain ⟨c, hc, rfl⟩ := Option.map_eq_some_iff.mp hf
        rw [relStr hx] at rx
        exact ix_str value slice pins s σ H _ _ v u Q I rx ry ⟨_, i, c, rfl, rfl, lim_le hz, hc, fin (by simp only [Rel])⟩ hsub
      · cases hf
    · split at hf
      · rename_i k _ xs e
        simp only [Rel] at hx
        obtain ⟨a, rfl, h1⟩ := hx
        obtain ⟨vs, e2, h2⟩ := hs.ok k _ a e h1
        obtain ⟨w, hw, r⟩ := atI_rel h2 hf
        exact ix_list value slice pins s σ H _ _ v u Q I rx ry ⟨a, vs, i, w, rfl, rfl, .inl (.inl e2), hw, fin r⟩ hsub
      · cases hf
    · cases hf
  · cases hf
theorem pst_cells {σ : St} {σi : List SV} {F : Hp} {ρ : List Addr} {H : Hp} {cs : List Cell} {Q : VK} {f : List Cell → Option IV} (h : Pst g W σ (Rel g) F ρ H (eCells f n σi cs) Q) :
    ∃ z, f cs = some z ∧ ∀ F' ρ' H' v, Stp F ρ H F' ρ' H' → Sim g F' ρ' cs H' → Rel g F' ρ' z v → Q v H' := by
  unfold eCells at h
  cases e : f cs with
  | none => rw [e] at h; exact h.elim
  | some z => rw [e] at h; exact ⟨z, rfl, h⟩
theorem e2c_run {f : List Cell → IV → IV → Option IV} {σ : St} {H : Hp} {Q : VK} (h : tG g n W (Rel g) (e2c f ma mb) σ H Q) : tOp (rJc g f) (tG g n W (Rel g) ma) (tG g n W (Rel g) mb) σ H Q := by
  obtain ⟨F, ρ, cs, σi, hs, hl, hp⟩ := h
  refine go hs hl hp fun x H1 F1 ρ1 cs1 xi st1 hs1 hl1 rx hp1 => ?_
  refine go hs1 hl1 hp1 fun y H2 F2 ρ2 cs2 yi st2 hs2 hl2 ry hp2 => ?_
  obtain ⟨z, q, hq⟩ := pst_cells (f := fun cs => f cs xi yi) hp2
  exact ⟨F2, ρ2, cs2, xi, yi, z, hs2, rx.stp st2, ry, q, hq⟩
theorem je_ix (ha : JE X n W a ma) (hb : JE X n W b mb) (hs : PlainIx b := by exact fun _ _ => rfl) : JE X n W (.Subscript a b pos) (e2c ixI ma mb) := pe_imp (pe_ix ij_ix ha hb hs) fun σ H Q q => e2c_run q

/-! ### slices -/
abbrev RO : RR (Option Int) (Option Int) := fun _ _ a b => a = b
def JO (X : Cx) (n : Nat) (W : WX) (e : Option Expr) (m : M (Option Int)) : Prop := PO X e (tG (gx X) n W RO m)
theorem po_imp {X : Cx} {e : Option Expr} {t t' : TO} (h : PO X e t) (i : ∀ σ H Q, t' σ H Q → t σ H Q) : PO X e t' := ⟨fun pins s σ H Q I q => h.run pins s σ H Q I (i σ H Q q)⟩
theorem jo_none : JO X n W none oNone := po_imp po_none fun σ H Q q => by
  obtain ⟨F, ρ, cs, σi, hs, hl, hp⟩ := q
  exact hp F ρ H none StpU.refl hs rfl
theorem jo_some (h : JE X n W a m) : JO X n W (some a) (oSome m) := po_imp (po_some h) fun σ H Q q => by
  obtain ⟨F, ρ, cs, σi, hs, hl, hp⟩ := q
  refine go hs hl hp fun v H1 F1 ρ1 cs1 x st1 hs1 hl1 r1 hp1 => ?_
  obtain ⟨z, hz, hq⟩ := pst_opt (o := (asInt x).map some) hp1
  obtain ⟨i, hi, rfl⟩ := Option.map_eq_some_iff.mp hz
  cases x with
  | int j => cases hi; exact ⟨i, relInt r1, hq F1 ρ1 H1 _ StpU.refl hs1 rfl⟩
  | _ => cases hi
theorem cut_rel {F : Hp} {ρ : List Addr} {xs : List IV} {vs : List V} (r : RelL g F ρ xs vs) (lo hi : Option Int) : RelL g F ρ (cut xs lo hi) (cutV vs lo hi) := by
  unfold cut cutV
  rw [r.len]
  exact (r.drop _).take _
theorem cut_whole {α : Type} {xs : List α} {lo hi : Option Int} (h : HT.sIx xs.length 0 lo = 0 ∧ HT.sIx xs.length xs.length hi = xs.length) : cut xs lo hi = xs := by
  unfold cut
  rw [h.1, h.2, List.drop_zero, Nat.sub_zero, List.take_length]
def rSlJ (g : Gx) : V → Option Int → Option Int → Hp → VK → Prop := fun x lo hi H Q => ∃ F ρ cs xi z, Sim g F ρ cs H ∧ Rel g F ρ xi x ∧ slI xi lo hi = some z ∧ ∀ F' ρ' H' v, Stp F ρ H F' ρ' H' → Sim g F' ρ' cs H' → Rel g F' ρ' z v → Q v H'
theorem sj_sl : SlR X (rSlJ (gx X)) := by
  intro pins s σ H x v vl vu lo hi sl Q I rx hsl pl pu h
  obtain ⟨F, ρ, cs, xi, z, hs, hx, hf, q⟩ := h
  unfold slI at hf
  split at hf
  · rename_i xs
    cases hf
    simp only [Rel] at hx
    obtain ⟨a, vs, rfl, h1, h2⟩ := hx
    refine sl_tupA pins s σ H _ v vl vu lo hi sl Q I rx hsl pl pu ⟨a, vs, rfl, sqT_mono hs.fz h1, fun hw => ?_, fun _ p hp => ?_⟩
    · refine q F ρ H _ StpU.refl hs ?_
      rw [cut_whole (by rw [h2.len]; exact hw)]
      simp only [Rel]
      exact ⟨a, vs, rfl, h1, h2⟩
    · obtain ⟨hs', st⟩ := hs.new (o := .tup (cutV vs lo hi)) hp
      exact q _ _ _ _ st hs' (by simp only [Rel]; exact ⟨p, _, rfl, .inl (.inl upd_same), (cut_rel h2 lo hi).stp st⟩)
  · cases hf
    simp only [Rel] at hx
    obtain ⟨a, vs, rfl, h1, h2⟩ := hx
    refine sl_list pins s σ H _ v vl vu lo hi sl Q I rx hsl pl pu ⟨a, vs, rfl, .inl (.inl (hs.fz _ _ h1)), fun p hp => ?_⟩
    obtain ⟨hs', st⟩ := hs.new (o := .lst (cutV vs lo hi)) hp
    exact q _ _ _ _ st hs' (by simp only [Rel]; exact ⟨p, _, rfl, upd_same, (cut_rel h2 lo hi).stp st⟩)
  · cases hf
    simp only [Rel] at hx
    obtain ⟨a, vs, rfl, h1, h2⟩ := hx
    refine sl_list pins s σ H _ v vl vu lo hi sl Q I rx hsl pl pu ⟨a, vs, rfl, sqL_mono hs.fz h1, fun p hp => ?_⟩
    obtain ⟨hs', st⟩ := hs.new (o := .lst (cutV vs lo hi)) hp
    exact q _ _ _ _ st hs' (by simp only [Rel]; exact ⟨p, _, rfl, upd_same, (cut_rel h2 lo hi).stp st⟩)
  · split at hf
    · rename_i hz
      cases hf
      rw [relStr hx] at rx
      exact sl_str pins s σ H _ v vl vu lo hi sl Q I rx hsl pl pu ⟨_, rfl, lim_le hz, q F ρ H _ StpU.refl hs (by simp only [Rel])⟩
    · cases hf
  · cases hf
theorem je_sl {lo hi : Option Expr} {ml mh : M (Option Int)} {p2 : Pos} (ha : JE X n W a ma) (hl : JO X n W lo ml) (hh : JO X n W hi mh) : JE X n W (.Subscript a (.Slice lo hi none p2) pos) (eSl ma ml mh) := by
  refine pe_imp (pe_slice sj_sl ha hl hh) fun σ H Q q => ?_
  obtain ⟨F, ρ, cs, σi, hs, hl, hp⟩ := q
  refine go hs hl hp fun v H1 F1 ρ1 cs1 x st1 hs1 hl1 r1 hp1 => ?_
  refine go hs1 hl1 hp1 fun l H2 F2 ρ2 cs2 li st2 hs2 hl2 r2 hp2 => ?_
  refine go hs2 hl2 hp2 fun u H3 F3 ρ3 cs3 ui st3 hs3 hl3 r3 hp3 => ?_
  have r2' : li = l := r2
  have r3' : ui = u := r3
  subst r2' r3'
  obtain ⟨z, hz, hq⟩ := pst_opt (o := slI x li ui) hp3
  exact ⟨F3, ρ3, cs3, x, z, hs3, (r1.stp st2).stp st3, hz, hq⟩
theorem je_revL {k : Nat} {p1 p2 p3 : Pos} (ha : JE X n W a ma) : JE X n W (.Subscript a (.Slice none none (some (.UnaryOp .USub (.Constant (.int 1) k p1) p2)) p3) pos) (eRevL ma) := by
  refine pe_imp (pe_revL ha) fun σ H Q q => ?_
  obtain ⟨F, ρ, cs, σi, hs, hl, hp⟩ := q
  refine go hs hl hp fun v H1 F1 ρ1 cs1 x st1 hs1 hl1 r1 hp1 => ?_
  obtain ⟨z, hz, hq⟩ := pst_opt (o := match x with | .lst xs => some (IV.lst xs.reverse) | .rol xs => some (.lst xs.reverse) | _ => none) hp1
  cases x with
  | lst xs =>
    cases hz
    simp only [Rel] at r1
    obtain ⟨a, vs, rfl, h1, h2⟩ := r1
    refine ⟨a, vs, rfl, .inl (.inl (hs1.fz _ _ h1)), fun p hp => ?_⟩
    obtain ⟨hs', st⟩ := hs1.new (o := .lst vs.reverse) hp
    exact hq _ _ _ _ st hs' (by simp only [Rel]; exact ⟨p, _, rfl, upd_same, h2.reverse.stp st⟩)
  | rol xs =>
    cases hz
    simp only [Rel] at r1
    obtain ⟨a, vs, rfl, h1, h2⟩ := r1
    refine ⟨a, vs, rfl, sqL_mono hs1.fz h1, fun p hp => ?_⟩
    obtain ⟨hs', st⟩ := hs1.new (o := .lst vs.reverse) hp
    exact hq _ _ _ _ st hs' (by simp only [Rel]; exact ⟨p, _, rfl, upd_same, h2.reverse.stp st⟩)
  | _ => cases hz

/-! ### built-in functions by name -/
/-- a call of a known callee by values -/
def rCJ (g : Gx) (f : List Cell → List IV → Option IV) : List V → Hp → VK → Prop := fun vs H Q => ∃ F ρ cs xs z, Sim g F ρ cs H ∧ RelL g F ρ xs vs ∧ f cs xs = some z ∧ ∀ F' ρ' H' v, Stp F ρ H F' ρ' H' → Sim g F' ρ' cs H' → Rel g F' ρ' z v → Q v H'
def eCall (f : List Cell → List IV → Option IV) (a : M (List IV)) : M IV := a.bind fun xs => eCells fun cs => f cs xs
theorem eCall_run {f : List Cell → List IV → Option IV} {σ : St} {H : Hp} {Q : VK} (h : tG g n W (Rel g) (eCall f mr) σ H Q) : tCB (rCJ g f) (tG g n W (RelL g) mr) σ H Q := by
  obtain ⟨F, ρ, cs, σi, hs, hl, hp⟩ := h
  refine go hs hl hp fun vs H1 F1 ρ1 cs1 xs st1 hs1 hl1 r1 hp1 => ?_
  obtain ⟨z, hz, hq⟩ := pst_cells (f := fun cs => f cs xs) hp1
  exact ⟨F1, ρ1, cs1, xs, z, hs1, r1, hz, hq⟩
theorem je_callB {x : Str} {p : Pos} {id : String} {f : List Cell → List IV → Option IV} (hc : CallR X (.builtin id) (rCJ (gx X) f)) (hm : X.mg x = none) (hv : bootBuiltins x = some (.builtin id)) (ha : JA X n W (a :: es) mr) (hg : Gl X x := by rfl) (hn : x ≠ "__name__" := by decide)
    (hdb : (x == ("__debug__" : Str)) = false := by decide) (he : starEach (a :: es) X.env = (false, eval a X.env) :: starEach es X.env := by rfl) (hpl : (backTo pos (starEach es X.env)).any (·.1) = false := by rfl) : JE X n W (.Call (.Name x p) (a :: es) [] pos) (eCall f mr) :=
  pe_imp (pe_callB hc hg hm hv ha hn hdb he hpl) fun σ H Q q => eCall_run q
theorem je_callTy {x : Str} {p : Pos} {T : String} {f : List Cell → List IV → Option IV} (hc : CallR X (.type T) (rCJ (gx X) f)) (hm : X.mg x = none) (hv : bootBuiltins x = some (.type T)) (ha : JA X n W (a :: es) mr) (hg : Gl X x := by rfl) (hn : x ≠ "__name__" := by decide)
    (hdb : (x == ("__debug__" : Str)) = false := by decide) (he : starEach (a :: es) X.env = (false, eval a X.env) :: starEach es X.env := by rfl) (hpl : (backTo pos (starEach es X.env)).any (·.1) = false := by rfl) : JE X n W (.Call (.Name x p) (a :: es) [] pos) (eCall f mr) :=
  pe_imp (pe_callTy hc hg hm hv ha hn hdb he hpl) fun σ H Q q => eCall_run q
theorem relL1 {F : Hp} {ρ : List Addr} {x : IV} {vs : List V} (h : RelL g F ρ [x] vs) : ∃ v, vs = [v] ∧ Rel g F ρ x v := by
  simp only [RelL] at h
  obtain ⟨v, r, rfl, h1, rfl⟩ := h
  exact ⟨v, rfl, h1⟩
theorem relL2 {F : Hp} {ρ : List Addr} {x y : IV} {vs : List V} (h : RelL g F ρ [x, y] vs) : ∃ v w, vs = [v, w] ∧ Rel g F ρ x v ∧ Rel g F ρ y w := by
  simp only [RelL] at h
  obtain ⟨v, r, rfl, h1, w, r2, rfl, h2, rfl⟩ := h
  exact ⟨v, w, rfl, h1, h2⟩
def fLen : List Cell → List IV → Option IV
  | _, [.str s] => if s.length ≤ lim then some (.int s.length) else none
  | _, [.tup xs] => some (.int xs.length)
  | _, [.lst xs] => some (.int xs.length)
  | _, [.rol xs] => some (.int xs.length)
  | _, [.dct ks xs] => some (.int ks.length)
  | cs, [.cell k] => match cs[k]? with
    | some (.lst xs) => some (.int xs.length)
    | _ => none
  | _, _ => none
theorem call_lenRd : CallR X (.builtin "len") (fun xs H Q => ∃ a kvs, xs = [V.ref a] ∧ Rd H a (.dK kvs) ∧ Q (.int kvs.length) H) := by
  intro pins s σ H xs us Q I r h
  obtain ⟨a, kvs, rfl, ha, q⟩ := h
  obtain ⟨u, rfl, ru⟩ := vals1 r
  obtain rfl : u = Value.ref a := ru
  exact d_len I ha fun t s' I' => ⟨.int kvs.length, H, I', ⟨t, rfl⟩, q⟩
theorem cj_len : CallR X (.builtin "len") (rCJ (gx X) fLen) := by
  intro pins s σ H vs us Q I r h
  obtain ⟨F, ρ, cs, xs, z, hs, hx, hf, q⟩ := h
  have fin : ∀ i : Int, z = .int i → Q (.int i) H := fun i e => q F ρ H _ StpU.refl hs (by rw [e]; simp only [Rel])
  unfold fLen at hf
  split at hf
  · split at hf
    · rename_i hz
      cases hf
      obtain ⟨v, rfl, h1⟩ := relL1 hx
      rw [relStr h1] at r
      exact call_len_str pins s σ H _ us Q I r ⟨_, rfl, lim_le hz, fin _ rfl⟩
    · cases hf
  · cases hf
    obtain ⟨v, rfl, h1⟩ := relL1 hx
    simp only [Rel] at h1
    obtain ⟨a, ws, rfl, h1, h2⟩ := h1
    exact call_len_seq pins s σ H _ us Q I r ⟨a, ws, rfl, .inr (sqT_mono hs.fz h1), fin _ (by rw [h2.len])⟩
  · cases hf
    obtain ⟨v, rfl, h1⟩ := relL1 hx
    simp only [Rel] at h1
    obtain ⟨a, ws, rfl, h1, h2⟩ := h1
    exact call_len_seq pins s σ H _ us Q I r ⟨a, ws, rfl, .inl (.inl (.inl (hs.fz _ _ h1))), fin _ (by rw [h2.len])⟩
  · cases hf
    obtain ⟨v, rfl, h1⟩ := relL1 hx
    simp only [Rel] at h1
    obtain ⟨a, ws, rfl, h1, h2⟩ := h1
    exact call_len_seq pins s σ H _ us Q I r ⟨a, ws, rfl, .inl (sqL_mono hs.fz h1), fin _ (by rw [h2.len])⟩
  · cases hf
    obtain ⟨v, rfl, h1⟩ := relL1 hx
    simp only [Rel] at h1
    obtain ⟨a, ws, rfl, hl, h1, h2⟩ := h1
    obtain ⟨fo, h1⟩ := h1
    refine call_lenRd pins s σ H _ us Q I r ⟨a, _, rfl, .inr ⟨fo, hs.fz _ _ h1⟩, fin _ ?_⟩
    rw [List.length_zip, hl]
    simp
  · split at hf
    · rename_i k _ ys e
      cases hf
      obtain ⟨v, rfl, h1⟩ := relL1 hx
      simp only [Rel] at h1
      obtain ⟨a, rfl, h1⟩ := h1
      obtain ⟨ws, e2, h2⟩ := hs.ok k _ a e h1
      exact call_len_seq pins s σ H _ us Q I r ⟨a, ws, rfl, .inl (.inl (.inl e2)), fin _ (by rw [h2.len])⟩
    · cases hf
  · cases hf
def fAbs : List Cell → List IV → Option IV
  | _, [.int i] => some (.int (if i < 0 then -i else i))
  | _, _ => none
theorem cj_abs : CallR X (.builtin "abs") (rCJ (gx X) fAbs) := by
  intro pins s σ H vs us Q I r h
  obtain ⟨F, ρ, cs, xs, z, hs, hx, hf, q⟩ := h
  unfold fAbs at hf
  split at hf
  · cases hf
    obtain ⟨v, rfl, h1⟩ := relL1 hx
    rw [relInt h1] at r
    exact call_abs pins s σ H _ us Q I r ⟨_, rfl, q F ρ H _ StpU.refl hs (by simp only [Rel])⟩
  · cases hf
def fMax2 : List Cell → List IV → Option IV
  | _, [.int i, .int j] => some (.int (if j > i then j else i))
  | _, _ => none
theorem cj_max2 (hc : X.calm = true) : CallR X (.builtin "max") (rCJ (gx X) fMax2) := by
  intro pins s σ H vs us Q I r h
  obtain ⟨F, ρ, cs, xs, z, hs, hx, hf, q⟩ := h
  unfold fMax2 at hf
  split at hf
  · cases hf
    obtain ⟨v, w, rfl, h1, h2⟩ := relL2 hx
    rw [relInt h1, relInt h2] at r
    exact call_max2 hc pins s σ H _ us Q I r ⟨_, _, rfl, q F ρ H _ StpU.refl hs (by simp only [Rel])⟩
  · cases hf
def fInt : List Cell → List IV → Option IV
  | _, [.int i] => some (.int i)
  | _, [.bl b] => some (.int (if b then 1 else 0))
  | _, _ => none
theorem cj_int : CallR X (.type "int") (rCJ (gx X) fInt) := by
  intro pins s σ H vs us Q I r h
  obtain ⟨F, ρ, cs, xs, z, hs, hx, hf, q⟩ := h
  unfold fInt at hf
  split at hf
  · cases hf
    obtain ⟨v, rfl, h1⟩ := relL1 hx
    rw [relInt h1] at r
    exact call_int1 pins s σ H _ us Q I r (.inl ⟨_, rfl, q F ρ H _ StpU.refl hs (by simp only [Rel])⟩)
  · cases hf
    obtain ⟨v, rfl, h1⟩ := relL1 hx
    rw [relBl h1] at r
    exact call_int1 pins s σ H _ us Q I r (.inr ⟨_, rfl, q F ρ H _ StpU.refl hs (by simp only [Rel])⟩)
  · cases hf
def fTuple : List Cell → List IV → Option IV
  | _, [.tup xs] => some (.tup xs)
  | _, [.lst xs] => some (.tup xs)
  | _, [.rol xs] => some (.tup xs)
  | _, _ => none
theorem cj_tuple : CallR X (.type "tuple") (rCJ (gx X) fTuple) := by
  intro pins s σ H vs us Q I r h
  obtain ⟨F, ρ, cs, xs, z, hs, hx, hf, q⟩ := h
  unfold fTuple at hf
  split at hf
  · cases hf
    obtain ⟨v, rfl, h1⟩ := relL1 hx
    have h1' := h1
    simp only [Rel] at h1
    obtain ⟨a, ws, rfl, h1, h2⟩ := h1
    exact call_tuple_of pins s σ H _ us Q I r ⟨a, ws, rfl, .inr ⟨sqT_mono hs.fz h1, q F ρ H _ StpU.refl hs h1'⟩⟩
  · cases hf
    obtain ⟨v, rfl, h1⟩ := relL1 hx
    simp only [Rel] at h1
    obtain ⟨a, ws, rfl, h1, h2⟩ := h1
    refine call_tuple_of pins s σ H _ us Q I r ⟨a, ws, rfl, .inl ⟨.inl (.inl (hs.fz _ _ h1)), fun p hp => ?_⟩⟩
    obtain ⟨hs', st⟩ := hs.new (o := .tup ws) hp
    exact q _ _ _ _ st hs' (by simp only [Rel]; exact ⟨p, _, rfl, .inl (.inl upd_same), h2.stp st⟩)
  · cases hf
    obtain ⟨v, rfl, h1⟩ := relL1 hx
    simp only [Rel] at h1
    obtain ⟨a, ws, rfl, h1, h2⟩ := h1
    refine call_tuple_of pins s σ H _ us Q I r ⟨a, ws, rfl, .inl ⟨sqL_mono hs.fz h1, fun p hp => ?_⟩⟩
    obtain ⟨hs', st⟩ := hs.new (o := .tup ws) hp
    exact q _ _ _ _ st hs' (by simp only [Rel]; exact ⟨p, _, rfl, .inl (.inl upd_same), h2.stp st⟩)
  · cases hf
def fList : List Cell → List IV → Option IV
  | _, [.tup xs] => some (.lst xs)
  | _, [.lst xs] => some (.lst xs)
  | _, [.rol xs] => some (.lst xs)
  | _, _ => none
theorem cj_list : CallR X (.type "list") (rCJ (gx X) fList) := by
  intro pins s σ H vs us Q I r h
  obtain ⟨F, ρ, cs, xs, z, hs, hx, hf, q⟩ := h
  unfold fList at hf
  split at hf
  · cases hf
    obtain ⟨v, rfl, h1⟩ := relL1 hx
    simp only [Rel] at h1
    obtain ⟨a, ws, rfl, h1, h2⟩ := h1
    refine call_list_of pins s σ H _ us Q I r ⟨a, ws, rfl, .inr (sqT_mono hs.fz h1), fun p hp => ?_⟩
    obtain ⟨hs', st⟩ := hs.new (o := .lst ws) hp
    exact q _ _ _ _ st hs' (by simp only [Rel]; exact ⟨p, _, rfl, upd_same, h2.stp st⟩)
  · cases hf
    obtain ⟨v, rfl, h1⟩ := relL1 hx
    simp only [Rel] at h1
    obtain ⟨a, ws, rfl, h1, h2⟩ := h1
    refine call_list_of pins s σ H _ us Q I r ⟨a, ws, rfl, .inl (.inl (.inl (hs.fz _ _ h1))), fun p hp => ?_⟩
    obtain ⟨hs', st⟩ := hs.new (o := .lst ws) hp
    exact q _ _ _ _ st hs' (by simp only [Rel]; exact ⟨p, _, rfl, upd_same, h2.stp st⟩)
  · cases hf
    obtain ⟨v, rfl, h1⟩ := relL1 hx
    simp only [Rel] at h1
    obtain ⟨a, ws, rfl, h1, h2⟩ := h1
    refine call_list_of pins s σ H _ us Q I r ⟨a, ws, rfl, .inl (sqL_mono hs.fz h1), fun p hp => ?_⟩
    obtain ⟨hs', st⟩ := hs.new (o := .lst ws) hp
    exact q _ _ _ _ st hs' (by simp only [Rel]; exact ⟨p, _, rfl, upd_same, h2.stp st⟩)
  · cases hf
def blsOf : List IV → Option (List Bool)
  | [] => some []
  | .bl b :: r => (blsOf r).map (b :: ·)
  | _ => none
theorem bls_rel {F : Hp} {ρ : List Addr} : ∀ {xs : List IV} {vs : List V} {bs : List Bool}, RelL g F ρ xs vs → blsOf xs = some bs → vs = bs.map V.bl
  | [], vs, bs, h, e => by
    simp only [RelL] at h
    simp only [blsOf, Option.some.injEq] at e
    subst h e
    rfl
  | x :: xs, vs, bs, h, e => by
    simp only [RelL] at h
    obtain ⟨v, r, rfl, h1, h2⟩ := h
    cases x with
    | bl b =>
      simp only [blsOf] at e
      obtain ⟨bs', e1, rfl⟩ := Option.map_eq_some_iff.mp e
      rw [relBl h1, bls_rel h2 e1]
      rfl
    | _ => simp only [blsOf] at e; cases e
def fAll : List Cell → List IV → Option IV
  | _, [.lst xs] => (blsOf xs).map fun bs => .bl (bs.all id)
  | _, _ => none
theorem cj_all (hc : X.calm = true) : CallR X (.builtin "all") (rCJ (gx X) fAll) := by
  intro pins s σ H vs us Q I r h
  obtain ⟨F, ρ, cs, xs, z, hs, hx, hf, q⟩ := h
  unfold fAll at hf
  split at hf
  · obtain ⟨bs, hb, rfl⟩ := Option.map_eq_some_iff.mp hf
    obtain ⟨v, rfl, h1⟩ := relL1 hx
    simp only [Rel] at h1
    obtain ⟨a, ws, rfl, h1, h2⟩ := h1
    have e := bls_rel h2 hb
    subst e
    exact cr_all hc pins s σ H _ us Q I r ⟨a, bs, rfl, .inl (.inl (hs.fz _ _ h1)), q F ρ H _ StpU.refl hs (by simp only [Rel])⟩
  · cases hf
def fRepr : List Cell → List IV → Option IV
  | _, [x] => reprOf x
  | _, _ => none
theorem cj_repr (hg : X.A.guards = some []) (hu : X.A.units + 64 < cLine) : CallR X (.builtin "repr") (rCJ (gx X) fRepr) := by
  intro pins s σ H vs us Q I r h
  obtain ⟨F, ρ, cs, xs, z, hs, hx, hf, q⟩ := h
  unfold fRepr at hf
  split at hf
  · rename_i x
    obtain ⟨v, rfl, h1⟩ := relL1 hx
    unfold reprOf at hf
    split at hf
    · rename_i d hd
      split at hf
      · rename_i hh
        obtain ⟨c1, c3, c4⟩ := hh
        cases hf
        cases r with
        | cons r1 r2 =>
          cases r2
          refine repr_any (Rel.reads I hs.fz x h1 r1 hd) c1 hg hu c3 (lim_le c4) fun h' u tk hk => ?_
          exact ⟨.str d.shown, H, I.kept hk, ⟨_, rfl⟩, q F ρ H _ StpU.refl hs (by simp only [Rel])⟩
      · cases hf
    · cases hf
  · cases hf
end
end SL

set_option Elab.async false
set_option linter.all false
set_option autoImplicit false
set_option maxRecDepth 100000
set_option maxHeartbeats 4000000
/-! SLCall: defs of the text by their mirrors; isinstance. -/
namespace SL
open PySem PySem.Spec L2
open PyProof.Rows hiding St

/-- what a call by values promises -/
def spM (g : Gx) (n : Nat) (fm : FM) (vs : List V) (H : Hp) (Q : VK) (E : XK) : Prop :=
  ∃ F ρ cs xs, Sim g F ρ cs H ∧ RelL g F ρ xs vs ∧ Pst g (fun cls d _ H' => E cls d H') [] (Rel g) F ρ H (fm n xs cs) Q
/-- the def at f does as its mirror fm -/
structure FnG (P : Program) (w : World) (K : PySem.W.Frag) (mg : Str → Option Value) (base : Heap) (n k : Nat) (f : Addr) (fd : FuncData) (ps : List Str) (fm : FM) : Prop where
  run : ∀ (A : Around) (outer : List Env) (s : Shared) (H : Hp) (args : Args) (us : List Value) (vs : List V) (Q : VK) (E : XK), Room k A → A.guards = some [] → Env0 P w K mg base A outer s H → BindsTo s fd args (ps.zip us) → Vals vs us → vs.length = ps.length →
    spM (gK K mg) n fm vs H Q E → codeAny (model P w) A (.call (.ref f) args) (CR (L2.CX P w) outer P w H s Q E) s
/-- the module's name x is such a def; dxs: what its defaults are -/
def DefG (P : Program) (w : World) (K : PySem.W.Frag) (mg : Str → Option Value) (base : Heap) (n k : Nat) (x : Str) (ps : List Str) (dxs : List IV) (fm : FM) : Prop :=
  ∃ f fd ds dvs, mg x = some (.ref f) ∧ PySem.W.keepIn K (.ref f) = true ∧ Binds K fd ps ds ∧ Vals dvs ds ∧ (∀ F ρ, RelL (gK K mg) F ρ dxs dvs) ∧ FnG P w K mg base n k f fd ps fm

def eFn (fm : FM) (np : Nat) (dxs : List IV) (a : M (List IV)) : M IV := a.bind fun xs => fun n _ cs => if (xs ++ dxs).length = np then fm n (xs ++ dxs) cs else .stuck
section
variable {X : Cx} {n k : Nat} {W : WX} {x : Str} {ps : List Str} {dxs : List IV} {fm : FM} {p pos : Pos} {e : Expr} {es : List Expr} {ma : M (List IV)}
theorem Pst.out {g : Gx} {W W' : WX} {σ σ' : St} {α β : Type} {R : RR α β} {F : Hp} {ρ : List Addr} {H : Hp} {r : Res α} {Q : β → Hp → Prop} (h : Pst g W σ R F ρ H r Q) (hw : ∀ cls d H', W cls d σ H' → W' cls d σ' H') : Pst g W' σ' R F ρ H r Q := by
  cases r with
  | ok x cs' => exact h
  | ex e cs' => exact fun F' ρ' H' cls d a b c => hw _ _ _ (h F' ρ' H' cls d a b c)
  | stuck => exact h
theorem fn_run {f : Addr} {fd : FuncData} {ds : List Value} {dvs : List V} (hb : Binds X.K fd ps ds) (hd : Vals dvs ds) (rd : ∀ F ρ, RelL (gx X) F ρ dxs dvs) (G : FnG X.prog X.w X.K X.mg X.base n k f fd ps fm) (hr : Room k X.A) (hgd : X.A.guards = some []) (tk : Takes X W)
    {pins : List (Addr × Obj)} {σ : St} {H : Hp} {s : Shared} {Q : VK} {us : List Value} {vs : List V} (I : Inv X pins σ H s) (r : Vals vs us)
    (h : ∃ F ρ cs xs, Sim (gx X) F ρ cs H ∧ RelL (gx X) F ρ xs vs ∧ (xs ++ dxs).length = ps.length ∧ Pst (gx X) W σ (Rel (gx X)) F ρ H (fm n (xs ++ dxs) cs) Q) :
    wpAny (model X.prog X.w) X.A (call (.ref f) us) (EP X pins σ Q) X.xe s := by
  obtain ⟨F, ρ, cs, xs, hs, rx, hl, hp⟩ := h
  have r2 : Vals (vs ++ dvs) (us ++ ds) := r.append hd
  have rx2 := rx.append (rd F ρ)
  have hl2 : (vs ++ dvs).length = ps.length := by rw [← rx2.len]; exact hl
  have hl3 : (us ++ ds).length = ps.length := by rw [← r2.length]; exact hl2
  refine wpAny_call (codeAny_mono (G.run X.A X.stack s H ⟨us, []⟩ (us ++ ds) (vs ++ dvs) Q (WE W σ) hr hgd I.env0 (hb s us I.kIn hl3) r2 hl2 ⟨F, ρ, cs, xs ++ dxs, hs, rx2, hp.out fun _ _ _ z => z⟩) fun r s' hq => ?_)
  cases r with
  | error e => exact passAt tk σ pins H s e s' I hq
  | ok fl =>
    cases fl with
    | ret u => exact I.after hq
    | next => exact False.elim hq
    | brk => exact False.elim hq
    | cont => exact False.elim hq
theorem eFn_run {g : Gx} {np : Nat} {σ : St} {H : Hp} {Q : VK} (h : tG g n W (Rel g) (eFn fm np dxs ma) σ H Q) :
    tG g n W (RelL g) ma σ H fun vs H1 => ∃ F ρ cs xs, Sim g F ρ cs H1 ∧ RelL g F ρ xs vs ∧ (xs ++ dxs).length = np ∧ Pst g W σ (Rel g) F ρ H1 (fm n (xs ++ dxs) cs) Q := by
  obtain ⟨F, ρ, cs, σi, hs, hl, hp⟩ := h
  refine go hs hl hp fun vs H1 F1 ρ1 cs1 xs st1 hs1 hl1 r1 hp1 => ?_
  replace hp1 : Pst g W σ (Rel g) F1 ρ1 H1 (if (xs ++ dxs).length = np then fm n (xs ++ dxs) cs1 else .stuck) Q := hp1
  by_cases hn : (xs ++ dxs).length = np
  · rw [if_pos hn] at hp1
    exact ⟨F1, ρ1, cs1, xs, hs1, r1, hn, hp1⟩
  · rw [if_neg hn] at hp1
    exact hp1.elim
theorem je_call {np : Nat} (D : DefG X.prog X.w X.K X.mg X.base n k x ps dxs fm) (hr : Room k X.A) (hgd : X.A.guards = some []) (tk : Takes X W) (ha : JA X n W (e :: es) ma) (hg : Gl X x := by rfl) (hdb : (x == ("__debug__" : Str)) = false := by decide)
    (he : starEach (e :: es) X.env = (false, eval e X.env) :: starEach es X.env := by rfl) (hpl : (backTo pos (starEach es X.env)).any (·.1) = false := by rfl) (hnp : ps.length = np := by rfl) : JE X n W (.Call (.Name x p) (e :: es) [] pos) (eFn fm np dxs ma) := by
  subst hnp
  obtain ⟨f, fd, ds, dvs, hm, hk, hb, hd, rd, G⟩ := D
  refine ⟨fun pins s σ H Q I h => ?_⟩
  refine wpAny_Call_Name_kw (ld_glob I hg hm ?_ hdb)
  exact PySem.W.callWith_K (h₀ := X.base) I.ok.mod.kin hk (thn (ha.run pos pins s σ H _ I (eFn_run h)) fun us s1 ⟨vs, H1, I1, r, q⟩ => ⟨I1.kIn, fn_run hb hd rd G hr hgd tk I1 r q⟩) he hpl
theorem je_call0 {np : Nat} (D : DefG X.prog X.w X.K X.mg X.base n k x ps dxs fm) (hr : Room k X.A) (hgd : X.A.guards = some []) (tk : Takes X W) (hg : Gl X x := by rfl) (hdb : (x == ("__debug__" : Str)) = false := by decide) (hnp : ps.length = np := by rfl) : JE X n W (.Call (.Name x p) [] [] pos) (eFn fm np dxs aNil) := by
  subst hnp
  obtain ⟨f, fd, ds, dvs, hm, hk, hb, hd, rd, G⟩ := D
  refine ⟨fun pins s σ H Q I h => ?_⟩
  refine wpAny_Call_Name_kw (ld_glob I hg hm ?_ hdb)
  obtain ⟨F, ρ, cs, σi, hs, hl, hp⟩ := h
  have hp1 : Pst (gx X) W σ (Rel (gx X)) F ρ H (if ([] ++ dxs).length = ps.length then fm n ([] ++ dxs) cs else .stuck) Q := hp
  by_cases hn : ([] ++ dxs).length = ps.length
  · rw [if_pos hn] at hp1
    exact PySem.W.callWith_K0 I.kIn hk (fn_run hb hd rd G hr hgd tk I .nil ⟨F, ρ, cs, [], hs, .nil, hn, hp1⟩)
  · rw [if_neg hn] at hp1
    exact hp1.elim
end

/-! ### isinstance -/
def tyI (cs : List Cell) : IV → Option String
  | .non => some "NoneType"
  | .bl _ => some "bool"
  | .int _ => some "int"
  | .str _ => some "str"
  | .tup _ => some "tuple"
  | .lst _ => some "list"
  | .rol _ => some "list"
  | .dct _ _ => some "dict"
  | .cell k => match cs[k]? with
    | some (.lst _) => some "list"
    | some (.dct _ _) => some "dict"
    | _ => none
  | _ => none
def isiTab (a b : String) : Option Bool := match a, b with
  | "NoneType", "int" => some false | "bool", "int" => some true | "int", "int" => some true | "str", "int" => some false | "tuple", "int" => some false | "list", "int" => some false | "dict", "int" => some false
  | "NoneType", "bool" => some false | "bool", "bool" => some true | "int", "bool" => some false | "str", "bool" => some false | "tuple", "bool" => some false | "list", "bool" => some false | "dict", "bool" => some false
  | "NoneType", "str" => some false | "bool", "str" => some false | "int", "str" => some false | "str", "str" => some true | "tuple", "str" => some false | "list", "str" => some false | "dict", "str" => some false
  | "NoneType", "tuple" => some false | "bool", "tuple" => some false | "int", "tuple" => some false | "str", "tuple" => some false | "tuple", "tuple" => some true | "list", "tuple" => some false | "dict", "tuple" => some false
  | "NoneType", "list" => some false | "bool", "list" => some false | "int", "list" => some false | "str", "list" => some false | "tuple", "list" => some false | "list", "list" => some true | "dict", "list" => some false
  | "NoneType", "dict" => some false | "bool", "dict" => some false | "int", "dict" => some false | "str", "dict" => some false | "tuple", "dict" => some false | "list", "dict" => some false | "dict", "dict" => some true
  | _, _ => none
theorem isiTab_ok {K : PySem.W.Frag} {a b : String} {r : Bool} (h : isiTab a b = some r) : PySem.W.kitOne K (.type a) (.type b) = some r := by
  refine kit_ty ?_
  unfold isiTab at h
  split at h <;> first | (cases h; done) | (cases h; decide +kernel)
theorem tyI_rel {g : Gx} {F : Hp} {ρ : List Addr} {cs : List Cell} {H : Hp} (hs : Sim g F ρ cs H) {x : IV} {v : V} {T : String} (r : Rel g F ρ x v) (h : tyI cs x = some T) : TyX g.K H v (.type T) := by
  unfold tyI at h
  split at h
  · cases h; rw [relNon r]; exact .base .non
  · cases h; rw [relBl r]; exact .base (.bl _)
  · cases h; rw [relInt r]; exact .base (.int _)
  · cases h; rw [relStr r]; exact .base (.str _)
  · cases h
    simp only [Rel] at r
    obtain ⟨a, vs, rfl, h1, _⟩ := r
    rcases sqT_mono hs.fz h1 with (h | ⟨o, h⟩) | ⟨o, its, n, hk, hc, _⟩
    · exact .base (.tup h)
    · exact .fTuple h
    · exact .kTuple hk hc
  · cases h
    simp only [Rel] at r
    obtain ⟨a, vs, rfl, h1, _⟩ := r
    exact .base (.lst (hs.fz _ _ h1))
  · cases h
    simp only [Rel] at r
    obtain ⟨a, vs, rfl, h1, _⟩ := r
    rcases sqL_mono hs.fz h1 with (h | ⟨o, h⟩) | ⟨o, its, n, hk, hc, _⟩
    · exact .base (.lst h)
    · exact .base (.frz h)
    · exact .kList hk hc
  · cases h
    simp only [Rel] at r
    obtain ⟨a, vs, rfl, _, h1, _⟩ := r
    obtain ⟨fo, h1⟩ := h1
    exact .fDict (hs.fz _ _ h1)
  · rename_i k
    simp only [Rel] at r
    obtain ⟨a, rfl, h1⟩ := r
    split at h
    · rename_i xs e
      cases h
      obtain ⟨ws, e2, _⟩ := hs.ok k _ a e h1
      exact .base (.lst e2)
    · rename_i ks xs e
      cases h
      obtain ⟨ws, e2, _⟩ := hs.ok k _ a e h1
      exact .base (.dK e2)
    · cases h
  · cases h
def fIsi : List Cell → List IV → Option IV
  | cs, [x, .ty T] => match tyI cs x with
    | some t => (isiTab t T).map .bl
    | none => none
  | _, _ => none
section
variable {X : Cx}
theorem cj_isi : CallR X (.builtin "isinstance") (rCJ (gx X) fIsi) := by
  intro pins s σ H vs us Q I r h
  obtain ⟨F, ρ, cs, xs, z, hs, hx, hf, q⟩ := h
  unfold fIsi at hf
  split at hf
  · rename_i x T
    split at hf
    · rename_i t ht
      obtain ⟨b, hb, rfl⟩ := Option.map_eq_some_iff.mp hf
      obtain ⟨v, w, rfl, h1, h2⟩ := relL2 hx
      have e := relTy h2
      subst e
      exact call_isi pins s σ H _ us Q I r ⟨v, _, _, _, b, rfl, .ty T, tyI_rel hs h1 ht, isiTab_ok hb, q F ρ H _ StpU.refl hs (by simp only [Rel])⟩
    · cases hf
  · cases hf
end
end SL

set_option Elab.async false
set_option linter.all false
set_option autoImplicit false
set_option maxRecDepth 100000
set_option maxHeartbeats 4000000
/-! SLStmt: statements. -/
namespace SL
open PySem PySem.Spec L2
open PyProof.Rows hiding St

section
variable {g : Gx} {n : Nat} {W : WX} {U U' : Addr → Prop} {F F' : Hp} {ρ ρ' : List Addr} {H H' : Hp} {σ : St} {σi : List SV} {cs : List Cell} {D D' : Ends}
/-- what a statement's mirror promises -/
def PstS (g : Gx) (W : WX) (U : Addr → Prop) (F : Hp) (ρ : List Addr) (H : Hp) (r : SR) (D : Ends) : Prop :=
  match r with
  | .next σi' cs' => ∀ F' ρ' H' σ', StpU U F ρ H F' ρ' H' → Sim g F' ρ' cs' H' → Slts g F' ρ' H' σi' σ' → (∀ x, Own σi' σ' x → U x ∨ H x = none) → D.nx σ' H'
  | .brk σi' cs' => ∀ F' ρ' H' σ', StpU U F ρ H F' ρ' H' → Sim g F' ρ' cs' H' → Slts g F' ρ' H' σi' σ' → (∀ x, Own σi' σ' x → U x ∨ H x = none) → D.bk σ' H'
  | .cnt σi' cs' => ∀ F' ρ' H' σ', StpU U F ρ H F' ρ' H' → Sim g F' ρ' cs' H' → Slts g F' ρ' H' σi' σ' → (∀ x, Own σi' σ' x → U x ∨ H x = none) → D.ct σ' H'
  | .ret x cs' => ∀ F' ρ' H' v, StpU U F ρ H F' ρ' H' → Sim g F' ρ' cs' H' → Rel g F' ρ' x v → D.rt v H'
  | .ex e σi' cs' => ∀ F' ρ' H' σ' cls d, StpU U F ρ H F' ρ' H' → Sim g F' ρ' cs' H' → Slts g F' ρ' H' σi' σ' → (∀ x, Own σi' σ' x → U x ∨ H x = none) → RelEx g F' ρ' e cls d → W cls d σ' H'
  | .stuck => False
def tS (g : Gx) (n : Nat) (W : WX) (m : SM) : TS := fun D σ H => ∃ F ρ cs σi, Sim g F ρ cs H ∧ Slts g F ρ H σi σ ∧ PstS g W (Own σi σ) F ρ H (m n σi cs) D
theorem own_down {U U' : Addr → Prop} (t : StpU U F ρ H F' ρ' H') (hu : ∀ x, U' x → U x ∨ H x = none) {x : Addr} (h : U' x ∨ H' x = none) : U x ∨ H x = none := by
  rcases h with z | z
  · exact hu x z
  · right
    cases e : H x with
    | none => rfl
    | some o => exact absurd z (t.dm x (by rw [e]; intro z; cases z))
theorem PstS.stp {r : SR} (h : PstS g W U F ρ H r D) (t : StpU U F ρ H F' ρ' H') (hu : ∀ x, U' x → U x ∨ H x = none) : PstS g W U' F' ρ' H' r D := by
  cases r with
  | next σi' cs' => exact fun F2 ρ2 H2 σ2 a b c d => h F2 ρ2 H2 σ2 (t.trans a hu) b c fun x o => own_down t hu (d x o)
  | brk σi' cs' => exact fun F2 ρ2 H2 σ2 a b c d => h F2 ρ2 H2 σ2 (t.trans a hu) b c fun x o => own_down t hu (d x o)
  | cnt σi' cs' => exact fun F2 ρ2 H2 σ2 a b c d => h F2 ρ2 H2 σ2 (t.trans a hu) b c fun x o => own_down t hu (d x o)
  | ret x cs' => exact fun F2 ρ2 H2 v a b c => h F2 ρ2 H2 v (t.trans a hu) b c
  | ex e σi' cs' => exact fun F2 ρ2 H2 σ2 cls d a b c o r => h F2 ρ2 H2 σ2 cls d (t.trans a hu) b c (fun x z => own_down t hu (o x z)) r
  | stuck => exact h
/-- a statement follows an expression -/
def thenS {α : Type} (r : Res α) (σi : List SV) (k : α → List Cell → SR) : SR :=
  match r with
  | .ok a cs => k a cs
  | .ex e cs => .ex e σi cs
  | .stuck => .stuck
theorem goS {α β : Type} {R : RR α β} {m : M α} {k : α → List Cell → SR} {Q : β → Hp → Prop} (hs : Sim g F ρ cs H) (hl : Slts g F ρ H σi σ) (hp : PstS g W (Own σi σ) F ρ H (thenS (m n σi cs) σi k) D)
    (h : ∀ v H' F' ρ' cs' x, Stp F ρ H F' ρ' H' → Sim g F' ρ' cs' H' → Slts g F' ρ' H' σi σ → R F' ρ' x v → PstS g W (Own σi σ) F' ρ' H' (k x cs') D → Q v H') : tG g n W R m σ H Q := by
  refine ⟨F, ρ, cs, σi, hs, hl, ?_⟩
  cases e : m n σi cs with
  | ok x cs' =>
    rw [e] at hp
    intro F' ρ' H' v st sm r
    exact h v H' F' ρ' cs' x st sm (hl.stp st) r (PstS.stp hp st.u fun x z => .inl z)
  | ex ee cs' =>
    rw [e] at hp
    exact fun F' ρ' H' cls d st sm r => hp F' ρ' H' σ cls d st.u sm (hl.stp st) (fun x z => .inl z) r
  | stuck =>
    rw [e] at hp
    exact hp
theorem PstS.nextH {σi' : List SV} {cs' : List Cell} (h : PstS g W U F ρ H (.next σi' cs') D) {F' ρ' H' σ'} (t : StpU U F ρ H F' ρ' H') (s : Sim g F' ρ' cs' H') (l : Slts g F' ρ' H' σi' σ') (o : ∀ x, Own σi' σ' x → U x ∨ H x = none) : D.nx σ' H' := h F' ρ' H' σ' t s l o
end

def JS (X : Cx) (n : Nat) (W : WX) (st : Stmt) (m : SM) : Prop := PS X st (tS (gx X) n W m)
def JB (X : Cx) (n : Nat) (W : WX) (st : List Stmt) (m : SM) : Prop := PSs X st (tS (gx X) n W m)

def sNext : SM := fun _ σ cs => .next σ cs
def sSeq (a b : SM) : SM := fun n σ cs => match a n σ cs with
  | .next σ' cs' => b n σ' cs'
  | r => r
def sDrop (m : M IV) : SM := fun n σ cs => thenS (m n σ cs) σ fun _ cs' => .next σ cs'
def sRet (m : M IV) : SM := fun n σ cs => thenS (m n σ cs) σ fun x cs' => .ret x cs'
def sRetN : SM := fun _ _ cs => .ret .non cs
def sBrk : SM := fun _ σ cs => .brk σ cs
def sCnt : SM := fun _ σ cs => .cnt σ cs
def sIf (c : M Bool) (a b : SM) : SM := fun n σ cs => thenS (c n σ cs) σ fun k cs' => if k = true then a n σ cs' else b n σ cs'
def sSet (i : Nat) (m : M IV) : SM := fun n σ cs => thenS (m n σ cs) σ fun x cs' => if i < σ.length then .next (σ.set i (.v x)) cs' else .stuck
def sOwn (i : Nat) (a : M (List IV)) : SM := fun n σ cs => thenS (a n σ cs) σ fun xs cs' => if i < σ.length ∧ xs.length ≤ lim then .next (σ.set i (.own xs)) cs' else .stuck
def sApp (i : Nat) (m : M IV) : SM := fun n σ cs => match σ[i]? with
  | some (.own xs) => thenS (m n σ cs) σ fun x cs' => if xs.length < lim then .next (σ.set i (.own (xs ++ [x]))) cs' else .stuck
  | _ => .stuck
/-- the slot's list is handed out from now on -/
def sFrz (i : Nat) (b : SM) : SM := fun n σ cs => match σ[i]? with
  | some (.own xs) => b n (σ.set i (.v (.lst xs))) cs
  | _ => .stuck
/-- the slot's list may be changed by others from now on -/
def sCell (i : Nat) (b : SM) : SM := fun n σ cs => match σ[i]? with
  | some (.own xs) => b n (σ.set i (.v (.cell cs.length))) (cs ++ [.lst xs])
  | _ => .stuck
def setAt (xs : List IV) (i : Int) (x : IV) : Option (List IV) := match ixN xs.length i with
  | some j => some (xs.set j x)
  | none => none
/-- o[i] = e -/
def sSetIx (mo mi m : M IV) : SM := fun n σ cs => thenS (m n σ cs) σ fun x cs1 => thenS (mo n σ cs1) σ fun o cs2 => thenS (mi n σ cs2) σ fun i cs3 => match o, i with
  | .cell k, .int j => match cs3[k]? with
    | some (.lst xs) => match setAt xs j x with
      | some ys => .next σ (cs3.set k (.lst ys))
      | none => .stuck
    | _ => .stuck
  | _, _ => .stuck
/-- o.append(e), o a cell -/
def sAppC (mo m : M IV) : SM := fun n σ cs => thenS (mo n σ cs) σ fun o cs1 => match o with
  | .cell k => match cs1[k]? with
    | some (.lst _) => thenS (m n σ cs1) σ fun x cs2 => match cs2[k]? with
      | some (.lst xs) => if xs.length < lim then .next σ (cs2.set k (.lst (xs ++ [x]))) else .stuck
      | _ => .stuck
    | _ => .stuck
  | _ => .stuck

section
variable {g : Gx} {F F' : Hp} {ρ ρ' : List Addr} {H H' : Hp} {σ : St} {σi : List SV} {cs : List Cell}
theorem Slts.set {i : Nat} {x : IV} {v : V} (hl : Slts g F ρ H σi σ) (r : Rel g F ρ x v) : Slts g F ρ H (σi.set i (.v x)) (σ.set i (some v)) := by
  refine ⟨by rw [List.length_set, List.length_set, hl.len], fun j s e => ?_, fun j k xs ys a e1 e2 h1 h2 => ?_⟩
  · by_cases hj : i = j
    · subst hj
      by_cases hi : i < σi.length
      · rw [List.getElem?_set_self hi] at e
        cases e
        exact ⟨v, by rw [List.getElem?_set_self (by rw [← hl.len]; exact hi)], r⟩
      · rw [List.getElem?_eq_none (by rw [List.length_set]; omega)] at e
        cases e
    · rw [List.getElem?_set_ne hj] at e ⊢
      exact hl.at_ j s e
  · by_cases hj : i = j
    · subst hj
      by_cases hi : i < σi.length
      · rw [List.getElem?_set_self hi] at e1; cases e1
      · rw [List.getElem?_eq_none (by rw [List.length_set]; omega)] at e1
        cases e1
    · by_cases hk : i = k
      · subst hk
        by_cases hi : i < σi.length
        · rw [List.getElem?_set_self hi] at e2; cases e2
        · rw [List.getElem?_eq_none (by rw [List.length_set]; omega)] at e2
          cases e2
      · rw [List.getElem?_set_ne hj] at e1 h1
        rw [List.getElem?_set_ne hk] at e2 h2
        exact hl.ow j k xs ys a e1 e2 h1 h2
theorem own_set {i : Nat} {x : IV} {w : Option V} {a : Addr} (h : Own (σi.set i (.v x)) (σ.set i w) a) : Own σi σ a := by
  obtain ⟨j, xs, e1, e2⟩ := h
  by_cases hj : i = j
  · subst hj
    by_cases hi : i < σi.length
    · rw [List.getElem?_set_self hi] at e1; cases e1
    · rw [List.getElem?_eq_none (by rw [List.length_set]; omega)] at e1
      cases e1
  · rw [List.getElem?_set_ne hj] at e1 e2
    exact ⟨j, xs, e1, e2⟩
/-- a new object of the frame's own -/
theorem Sim.lay {p : Addr} {o : HO} (hs : Sim g F ρ cs H) (hp : H p = none) : Sim g F ρ cs (upd H p o) ∧ Stp F ρ H F ρ (upd H p o) ∧ F p = none ∧ p ∉ ρ := by
  have fp : F p = none := by
    cases e : F p with
    | none => rfl
    | some u => rw [hs.fz p u e] at hp; cases hp
  have np : ∀ a ∈ ρ, a ≠ p := fun a ha z => hs.av a ha (by rw [z]; exact hp)
  refine ⟨⟨fun a u h => ?_, hs.len, hs.nd, fun a ha => ?_, hs.lv, fun n c a h1 h2 => ?_, tabs_upd hs.tb (by rw [hp]; exact NoX.none), fun a ha => by rw [upd_ne (np a ha)]; exact hs.nx a ha, hs.ft⟩, ⟨fun _ _ h => h, fun a h h' => absurd h' h, ⟨[], by simp⟩, fun a h h' => absurd h h', fun a u h _ _ _ => upd_none hp h, fun a h => ?_⟩, fp, fun z => np p z rfl⟩
  · rw [upd_ne (fun z => by rw [z, fp] at h; cases h)]
    exact hs.fz a u h
  · rw [upd_ne (np a ha)]
    exact hs.av a ha
  · rw [upd_ne (np a (List.mem_of_getElem? h2))]
    exact hs.ok n c a h1 h2
  · by_cases e : a = p
    · rw [e, upd_same]; intro z; cases z
    · rw [upd_ne e]; exact h
theorem Slts.setOwn {i : Nat} {xs : List IV} {vs : List V} {p : Addr} (hl : Slts g F ρ H σi σ) (hs : Sim g F ρ cs H) (hp : H p = some (.lst vs)) (hf : F p = none) (hr : p ∉ ρ) (hn : ∀ j ys, j ≠ i → σi[j]? = some (.own ys) → σ[j]? ≠ some (some (.ref p))) (r : RelL g F ρ xs vs) :
    Slts g F ρ H (σi.set i (.own xs)) (σ.set i (some (.ref p))) := by
  refine ⟨by rw [List.length_set, List.length_set, hl.len], fun j s e => ?_, fun j k ys zs a e1 e2 h1 h2 => ?_⟩
  · by_cases hj : i = j
    · subst hj
      by_cases hi : i < σi.length
      · rw [List.getElem?_set_self hi] at e
        cases e
        exact ⟨p, vs, by rw [List.getElem?_set_self (by rw [← hl.len]; exact hi)], hp, hf, hr, r⟩
      · rw [List.getElem?_eq_none (by rw [List.length_set]; omega)] at e
        cases e
    · rw [List.getElem?_set_ne hj] at e ⊢
      exact hl.at_ j s e
  · have hi : ∀ {j ys}, (σi.set i (.own xs))[j]? = some (.own ys) → i = j → i < σi.length := fun {j ys} e z => by
      subst z
      by_cases hi : i < σi.length
      · exact hi
      · rw [List.getElem?_eq_none (by rw [List.length_set]; omega)] at e
        cases e
    by_cases hj : i = j
    · by_cases hk : i = k
      · rw [← hj, ← hk]
      · have h := hi e1 hj
        subst hj
        rw [List.getElem?_set_self (by rw [← hl.len]; exact h)] at h1
        cases h1
        rw [List.getElem?_set_ne hk] at e2 h2
        exact absurd h2 (hn k zs (Ne.symm hk) e2)
    · by_cases hk : i = k
      · have h := hi e2 hk
        subst hk
        rw [List.getElem?_set_self (by rw [← hl.len]; exact h)] at h2
        cases h2
        rw [List.getElem?_set_ne hj] at e1 h1
        exact absurd h1 (hn j ys (Ne.symm hj) e1)
      · rw [List.getElem?_set_ne hj] at e1 h1
        rw [List.getElem?_set_ne hk] at e2 h2
        exact hl.ow j k ys zs a e1 e2 h1 h2
theorem own_setOwn {i : Nat} {xs : List IV} {p a : Addr} (h : Own (σi.set i (.own xs)) (σ.set i (some (.ref p))) a) (he : σi.length = σ.length) : Own σi σ a ∨ a = p := by
  obtain ⟨j, ys, e1, e2⟩ := h
  by_cases hj : i = j
  · subst hj
    by_cases hi : i < σi.length
    · rw [List.getElem?_set_self (by rw [← he]; exact hi)] at e2
      cases e2
      exact .inr rfl
    · rw [List.getElem?_eq_none (by rw [List.length_set]; omega)] at e1
      cases e1
  · rw [List.getElem?_set_ne hj] at e1 e2
    exact .inl ⟨j, ys, e1, e2⟩
/-- an own list is written -/
theorem Slts.wr {i : Nat} {xs ys : List IV} {p : Addr} {vs : List V} (hl : Slts g F ρ H σi σ) (hs : Sim g F ρ cs H) (hi : σi[i]? = some (.own xs)) (hp : σ[i]? = some (some (.ref p))) (r : RelL g F ρ ys vs) :
    Sim g F ρ cs (upd H p (.lst vs)) ∧ StpU (Own σi σ) F ρ H F ρ (upd H p (.lst vs)) ∧ Slts g F ρ (upd H p (.lst vs)) (σi.set i (.own ys)) σ ∧ ∀ a, Own (σi.set i (.own ys)) σ a → Own σi σ a := by
  obtain ⟨p', ws, e, h1, h2, h3, _⟩ := hl.at_ i _ hi
  rw [hp] at e
  cases e
  have np : ∀ a ∈ ρ, a ≠ p := fun a ha z => h3 (by rw [← z]; exact ha)
  have hlt : i < σi.length := (List.getElem?_eq_some_iff.mp hi).1
  have hse : σ = σ.set i (some (.ref p)) := by
    apply List.ext_getElem? 
    intro j
    by_cases hj : i = j
    · subst hj
      rw [List.getElem?_set_self (by rw [← hl.len]; exact hlt), hp]
    · rw [List.getElem?_set_ne hj]
  refine ⟨⟨fun a u h => ?_, hs.len, hs.nd, fun a ha => ?_, hs.lv, fun n c a e1 e2 => ?_, tabs_upd hs.tb (by rw [h1]; exact NoX.lst), fun a ha => by rw [upd_ne (np a ha)]; exact hs.nx a ha, hs.ft⟩, ⟨fun _ _ h => h, fun a h h' => absurd h' h, ⟨[], by simp⟩, fun a h h' => absurd h h', fun a u h _ _ hu => ?_, fun a h => ?_⟩, ⟨by rw [List.length_set, hl.len], fun j s e => ?_, fun j k us ws a e1 e2 q1 q2 => ?_⟩, fun a ⟨j, us, e1, e2⟩ => ?_⟩
  · rw [upd_ne (fun z => by rw [z, h2] at h; cases h)]
    exact hs.fz a u h
  · rw [upd_ne (np a ha)]
    exact hs.av a ha
  · rw [upd_ne (np a (List.mem_of_getElem? e2))]
    exact hs.ok n c a e1 e2
  · rw [upd_ne (fun z => hu ⟨i, xs, hi, by rw [z]; exact hp⟩)]
    exact h
  · by_cases e : a = p
    · rw [e, upd_same]; intro z; cases z
    · rw [upd_ne e]; exact h
  · by_cases hj : i = j
    · subst hj
      rw [List.getElem?_set_self hlt] at e
      cases e
      exact ⟨p, vs, hp, upd_same, h2, h3, r⟩
    · rw [List.getElem?_set_ne hj] at e
      have q := hl.at_ j s e
      cases s with
      | un => trivial
      | exn e a cls d => exact q
      | v x => exact q
      | own us =>
        obtain ⟨a, ws', e', q1, q2, q3, q4⟩ := q
        refine ⟨a, ws', e', ?_, q2, q3, q4⟩
        rw [upd_ne (fun z => hj (hl.ow i j _ _ p hi e hp (by rw [e', z])))]
        exact q1
  · have key : ∀ {j : Nat} {us : List IV}, (σi.set i (SV.own ys))[j]? = some (SV.own us) → ∃ us', σi[j]? = some (SV.own us') := fun {j us} e => by
      by_cases hj : i = j
      · subst hj; exact ⟨_, hi⟩
      · rw [List.getElem?_set_ne hj] at e; exact ⟨_, e⟩
    obtain ⟨_, k1⟩ := key e1
    obtain ⟨_, k2⟩ := key e2
    exact hl.ow j k _ _ a k1 k2 q1 q2
  · by_cases hj : i = j
    · subst hj
      exact ⟨i, xs, hi, e2⟩
    · rw [List.getElem?_set_ne hj] at e1
      exact ⟨j, us, e1, e2⟩
/-- a cell is written -/
theorem Sim.cell {k : Nat} {a : Addr} {c : Cell} {o : HO} {c0 : Cell} (hs : Sim g F ρ cs H) (hc0 : cs[k]? = some c0) (hl0 : c0 ≠ .dead) (ha : ρ[k]? = some a) (r : RelC g F ρ c (some o)) (hx : NoX (some o)) : Sim g F ρ (cs.set k c) (upd H a o) ∧ Stp F ρ H F ρ (upd H a o) := by
  have ma : a ∈ ρ := List.mem_of_getElem? ha
  have a1 := hs.lv k c0 a hc0 ha hl0
  refine ⟨⟨fun b u h => ?_, by rw [List.length_set]; exact hs.len, hs.nd, fun b hb => ?_, fun n d b e1 e2 e3 => ?_, fun n d b e1 e2 => ?_, tabs_upd hs.tb (hs.nx a ma), fun b hb => ?_, hs.ft⟩, ⟨fun _ _ h => h, fun b h h' => absurd h' h, ⟨[], by simp⟩, fun b h h' => absurd h h', fun b u h _ hb _ => ?_, fun b h => ?_⟩⟩
  · rw [upd_ne (fun z => by rw [z, a1] at h; cases h)]
    exact hs.fz b u h
  · by_cases e : b = a
    · rw [e, upd_same]; intro z; cases z
    · rw [upd_ne e]; exact hs.av b hb
  · by_cases hn : k = n
    · subst hn
      rw [ha] at e2
      cases e2
      exact a1
    · rw [List.getElem?_set_ne hn] at e1
      exact hs.lv n d b e1 e2 e3
  · by_cases hn : k = n
    · subst hn
      rw [ha] at e2
      cases e2
      rw [List.getElem?_set_self (by rw [← hs.len]; exact (List.getElem?_eq_some_iff.mp ha).1)] at e1
      cases e1
      rw [upd_same]
      exact r
    · rw [List.getElem?_set_ne hn] at e1
      rw [upd_ne (fun z => hn ?_)]
      · exact hs.ok n d b e1 e2
      · subst z
        have h1 := (List.getElem?_eq_some_iff.mp ha)
        have h2 := (List.getElem?_eq_some_iff.mp e2)
        exact (List.getElem_inj hs.nd).mp (h1.2.trans h2.2.symm)
  · by_cases e : b = a
    · rw [e, upd_same]; exact hx
    · rw [upd_ne e]; exact hs.nx b hb
  · rw [upd_ne (fun z => hb (by rw [z]; exact ma))]
    exact h
  · by_cases e : b = a
    · rw [e, upd_same]; intro z; cases z
    · rw [upd_ne e]; exact h
end

section
variable {X : Cx} {n : Nat} {W : WX} {a b c e : Expr} {st : Stmt} {es : List Expr} {rest sa sb : List Stmt} {m ma mb mo mi : M IV} {mc : M Bool} {mr : M (List IV)} {s1 s2 : SM} {pos p px : Pos} {x : Str} {i : Nat}
theorem jb_nil : JB X n W [] sNext := by
  refine pss_imp pss_nil fun D σ H h => ?_
  obtain ⟨F, ρ, cs, σi, hs, hl, hp⟩ := h
  exact hp.nextH StpU.refl hs hl fun x z => .inl z
theorem jb_cons (h1 : JS X n W st s1) (h2 : JB X n W rest s2) : JB X n W (st :: rest) (sSeq s1 s2) := by
  refine pss_imp (pss_cons h1 h2) fun D σ H h => ?_
  obtain ⟨F, ρ, cs, σi, hs, hl, hp⟩ := h
  refine ⟨F, ρ, cs, σi, hs, hl, ?_⟩
  unfold sSeq at hp
  cases e : s1 n σi cs with
  | next σi' cs' =>
    rw [e] at hp
    exact fun F' ρ' H' σ' t sm l o => ⟨F', ρ', cs', σi', sm, l, PstS.stp hp t o⟩
  | brk σi' cs' => rw [e] at hp; exact hp
  | cnt σi' cs' => rw [e] at hp; exact hp
  | ret y cs' => rw [e] at hp; exact hp
  | ex y σi' cs' => rw [e] at hp; exact hp
  | stuck => rw [e] at hp; exact hp
theorem jb_one (h1 : JS X n W st s1) : JB X n W [st] s1 := pss_one h1
theorem js_pass : JS X n W (.Pass pos) sNext := by
  refine ps_imp ps_pass fun D σ H h => ?_
  obtain ⟨F, ρ, cs, σi, hs, hl, hp⟩ := h
  exact hp.nextH StpU.refl hs hl fun x z => .inl z
theorem js_doc {j p2} : JS X n W (.Expr (.Constant (.str x) j pos) p2) sNext := by
  refine ps_imp ps_doc fun D σ H h => ?_
  obtain ⟨F, ρ, cs, σi, hs, hl, hp⟩ := h
  exact hp.nextH StpU.refl hs hl fun x z => .inl z
theorem js_brk : JS X n W (.Break pos) sBrk := by
  refine ps_imp ps_break fun D σ H h => ?_
  obtain ⟨F, ρ, cs, σi, hs, hl, hp⟩ := h
  exact hp F ρ H σ StpU.refl hs hl fun x z => .inl z
theorem js_cnt : JS X n W (.Continue pos) sCnt := by
  refine ps_imp ps_continue fun D σ H h => ?_
  obtain ⟨F, ρ, cs, σi, hs, hl, hp⟩ := h
  exact hp F ρ H σ StpU.refl hs hl fun x z => .inl z
theorem js_expr (h : JE X n W e m) (hs : swapsWith e none pos.line X.env = pure false := by rfl) : JS X n W (.Expr e pos) (sDrop m) := by
  refine ps_imp (ps_expr h hs) fun D σ H h => ?_
  obtain ⟨F, ρ, cs, σi, hs, hl, hp⟩ := h
  exact goS hs hl hp fun v H1 F1 ρ1 cs1 x st1 hs1 hl1 r1 hp1 => hp1.nextH StpU.refl hs1 hl1 fun x z => .inl z
theorem js_ret (h : JE X n W e m) : JS X n W (.Return (some e) pos) (sRet m) := by
  refine ps_imp (ps_ret h) fun D σ H h => ?_
  obtain ⟨F, ρ, cs, σi, hs, hl, hp⟩ := h
  exact goS hs hl hp fun v H1 F1 ρ1 cs1 x st1 hs1 hl1 r1 hp1 => hp1 F1 ρ1 H1 v StpU.refl hs1 r1
theorem js_retN : JS X n W (.Return none pos) sRetN := by
  refine ps_imp ps_retN fun D σ H h => ?_
  obtain ⟨F, ρ, cs, σi, hs, hl, hp⟩ := h
  exact hp F ρ H .non StpU.refl hs (by simp only [Rel])
theorem js_if (hc : JT X n W c mc) (ha : JB X n W sa s1) (hb : JB X n W sb s2) : JS X n W (.If c sa sb pos) (sIf mc s1 s2) := by
  refine ps_imp (ps_if hc ha hb) fun D σ H h => ?_
  obtain ⟨F, ρ, cs, σi, hs, hl, hp⟩ := h
  refine goS hs hl hp fun v H1 F1 ρ1 cs1 x st1 hs1 hl1 r1 hp1 => ?_
  have r1' : x = v := r1
  subst r1'
  cases x with
  | true => exact ⟨F1, ρ1, cs1, σi, hs1, hl1, hp1⟩
  | false => exact ⟨F1, ρ1, cs1, σi, hs1, hl1, hp1⟩
theorem sSet_run {g : Gx} {σ : St} {H : Hp} {D : Ends} (h : tS g n W (sSet i m) D σ H) : tAsg (tG g n W (Rel g) m) (gName i) D σ H := by
  obtain ⟨F, ρ, cs, σi, hs, hl, hp⟩ := h
  refine goS hs hl hp fun v H1 F1 ρ1 cs1 x st1 hs1 hl1 r1 hp1 => ?_
  by_cases hi : i < σi.length
  · rw [if_pos hi] at hp1
    exact hp1.nextH StpU.refl hs1 (hl1.set r1) fun x z => .inl (own_set z)
  · rw [if_neg hi] at hp1
    exact hp1.elim
theorem js_set (hN : X.N.Nodup) (hi : X.N[i]? = some x) (hx : Loc X.env.scope x) (h : JE X n W e m) (hs : swapsWith e (some (.Name x px)) pos.line X.env = pure false := by rfl) (hf : X.fn x = true ∨ X.env.scope.names.lookup x = some .local := by first | exact .inl rfl | exact .inr rfl | assumption) :
    JS X n W (.Assign [.Name x px] e pos) (sSet i m) := ps_imp (ps_set hN hi hx h hs hf) fun D σ H h => sSet_run h
/-- x = [e, ..] -/
theorem js_own (hN : X.N.Nodup) (hi : X.N[i]? = some x) (hx : Loc X.env.scope x) (h : JA X n W es mr) (hs : swapsWith (.List es p) (some (.Name x px)) pos.line X.env = pure false := by rfl) (hf : X.fn x = true ∨ X.env.scope.names.lookup x = some .local := by first | exact .inl rfl | exact .inr rfl | assumption) :
    JS X n W (.Assign [.Name x px] (.List es p) pos) (sOwn i mr) := by
  refine ps_imp (ps_set hN hi hx (pe_lst h) hs hf) fun D σ H h => ?_
  obtain ⟨F, ρ, cs, σi, hs, hl, hp⟩ := h
  refine goS hs hl hp fun vs H1 F1 ρ1 cs1 xs st1 hs1 hl1 r1 hp1 => ?_
  by_cases hi : i < σi.length ∧ xs.length ≤ lim
  · rw [if_pos hi] at hp1
    refine ⟨by rw [← r1.len]; exact lim_le hi.2, fun q hq => ?_⟩
    obtain ⟨hs2, st2, f2, n2⟩ := hs1.lay (o := .lst vs) hq
    have hl2 := hl1.stp st2
    refine hp1.nextH st2.u hs2 (hl2.setOwn hs2 upd_same f2 n2 (fun j ys hj e1 e2 => ?_) r1) fun y z => ?_
    · obtain ⟨b, ws, e3, e4, _⟩ := hl1.at_ j _ e1
      rw [e2] at e3
      cases e3
      rw [hq] at e4
      cases e4
    · rcases own_setOwn z hl1.len with z | z
      · exact .inl z
      · right; rw [z]; exact hq
  · rw [if_neg hi] at hp1
    exact hp1.elim
/-- x.append(e), x the frame's own -/
theorem js_app {ap cp np : Pos} (hN : X.N[i]? = some x) (hv : Vis X.env.scope x) (h : JE X n W e m) (hd : (x == ("__debug__" : Str)) = false := by decide) (hcd : (x == ("__classdict__" : Str)) = false := by decide)
    (hbase : attributeBase (.Name x np) "append" X.env (eval (.Name x np) X.env) = eval (.Name x np) X.env := by rfl)
    (hfew : ((backTo cp (starEach [e] X.env)).all (fun x => !x.1) && (backToKw cp (keywordEach [] X.env)).all (fun x => x.1.isSome)
      && decide (([e] : List Expr).length + ([] : List Keyword).length + (if ([] : List Keyword).isEmpty then 0 else 1) < 30)) = true := by rfl)
    (hline : (ap.endLine == cp.line) = true := by rfl) (hs : starEach [e] X.env = (false, eval e X.env) :: starEach [] X.env := by rfl) (hplain : (backTo cp (starEach [] X.env)).any (·.1) = false := by rfl)
    (hsw : swapsWith (.Call (.Attribute (.Name x np) "append" ap) [e] [] cp) none pos.line X.env = pure false := by rfl) : JS X n W (.Expr (.Call (.Attribute (.Name x np) "append" ap) [e] [] cp) pos) (sApp i m) := by
  refine ps_imp (ps_expr (pe_bm PySem.F.plainAttrs_list PySem.F.slot_list_append PySem.F.type_list_append mt_append (pe_var hN hv hd hcd) (pa_cons h pa_nil hs) hbase hfew hline hs hplain) hsw) fun D σ H h => ?_
  obtain ⟨F, ρ, cs, σi, hs, hl, hp⟩ := h
  unfold sApp at hp
  split at hp
  · rename_i xs q
    obtain ⟨a, vs, e1, e2, e3, e4, e5⟩ := hl.at_ i _ q
    refine ⟨.ref a, e1, .inl ⟨rfl, vs, .inl (.inl e2)⟩, ?_⟩
    refine goS hs hl hp fun v H1 F1 ρ1 cs1 y st1 hs1 hl1 r1 hp1 => ?_
    obtain ⟨a', vs', e1', e2', e3', e4', e5'⟩ := hl1.at_ i _ q
    rw [e1] at e1'
    cases e1'
    by_cases hz : xs.length < lim
    · rw [if_pos hz] at hp1
      obtain ⟨k1, k2, k3, k4⟩ := hl1.wr hs1 q e1 (e5'.append (.cons r1 .nil))
      exact ⟨a, vs', v, rfl, rfl, e2', by rw [← e5'.len]; exact Nat.lt_of_lt_of_le hz (by decide), hp1.nextH k2 k1 k3 fun z hz => .inl (k4 z hz)⟩
    · rw [if_neg hz] at hp1
      exact hp1.elim
  · exact hp.elim
end
end SL

set_option Elab.async false
set_option linter.all false
set_option autoImplicit false
set_option maxRecDepth 100000
set_option maxHeartbeats 4000000
/-! SLStmt2: own lists handed out, cells, op=, pairs. -/
namespace SL
open PySem PySem.Spec L2
open PyProof.Rows hiding St
section
variable {g : Gx} {F F' : Hp} {ρ ρ' : List Addr} {H H' : Hp} {σ : St} {σi : List SV} {cs : List Cell}
theorem Slts.frz {i : Nat} {xs : List IV} (hl : Slts g F ρ H σi σ) (hs : Sim g F ρ cs H) (hi : σi[i]? = some (.own xs)) :
    ∃ a vs, Sim g (upd F a (.lst vs)) ρ cs H ∧ StpU (Own σi σ) F ρ H (upd F a (.lst vs)) ρ H ∧ Slts g (upd F a (.lst vs)) ρ H (σi.set i (.v (.lst xs))) σ ∧ (∀ b, Own (σi.set i (.v (.lst xs))) σ b → Own σi σ b) ∧ σ[i]? = some (some (.ref a)) := by
  obtain ⟨a, vs, e, h1, h2, h3, r⟩ := hl.at_ i _ hi
  have hlt : i < σi.length := (List.getElem?_eq_some_iff.mp hi).1
  have fm : ∀ b u, F b = some u → upd F a (.lst vs) b = some u := fun b u h => upd_none h2 h
  have st : StpU (Own σi σ) F ρ H (upd F a (.lst vs)) ρ H := by
    refine ⟨fm, fun b h h' => ?_, ⟨[], by simp⟩, fun b h h' => absurd h h', fun b u h _ _ _ => h, fun _ h => h⟩
    by_cases z : b = a
    · right; left; exact ⟨i, xs, hi, by rw [z]; exact e⟩
    · rw [upd_ne z] at h; exact absurd h' h
  refine ⟨a, vs, ⟨fun b u h => ?_, hs.len, hs.nd, hs.av, fun n c b e1 e2 e3 => ?_, fun n c b e1 e2 => ?_, hs.tb, hs.nx, ft_upd hs.ft (fun _ z => by cases z)⟩, st, ⟨by rw [List.length_set, hl.len], fun j s e' => ?_, fun j k us ws b e1 e2 q1 q2 => ?_⟩, fun b ⟨j, us, e1, e2⟩ => ?_, e⟩
  · by_cases z : b = a
    · subst z
      rw [upd_same] at h
      rw [h1, h]
    · rw [upd_ne z] at h; exact hs.fz b u h
  · rw [upd_ne (fun z => h3 (by rw [← z]; exact List.mem_of_getElem? e2))]
    exact hs.lv n c b e1 e2 e3
  · exact (hs.ok n c b e1 e2).mono fm ⟨[], by simp⟩
  · by_cases hj : i = j
    · subst hj
      rw [List.getElem?_set_self hlt] at e'
      cases e'
      exact ⟨.ref a, e, by simp only [Rel]; exact ⟨a, vs, rfl, upd_same, r.stp st⟩⟩
    · rw [List.getElem?_set_ne hj] at e'
      have q := hl.at_ j s e'
      cases s with
      | un => trivial
      | exn e a cls d => exact ⟨q.1, q.2.mono st.fz st.rp⟩
      | v x =>
        obtain ⟨v, q1, q2⟩ := q
        exact ⟨v, q1, q2.stp st⟩
      | own us =>
        obtain ⟨b, ws', q0, q1, q2, q3, q4⟩ := q
        refine ⟨b, ws', q0, q1, ?_, q3, q4.stp st⟩
        rw [upd_ne (fun z => hj (hl.ow i j _ _ a hi e' e (by rw [q0, z])))]
        exact q2
  · have key : ∀ {j : Nat} {us : List IV}, (σi.set i (SV.v (.lst xs)))[j]? = some (SV.own us) → σi[j]? = some (SV.own us) := fun {j us} e => by
      by_cases hj : i = j
      · subst hj; rw [List.getElem?_set_self hlt] at e; cases e
      · rw [List.getElem?_set_ne hj] at e; exact e
    exact hl.ow j k _ _ b (key e1) (key e2) q1 q2
  · by_cases hj : i = j
    · subst hj; rw [List.getElem?_set_self hlt] at e1; cases e1
    · rw [List.getElem?_set_ne hj] at e1
      exact ⟨j, us, e1, e2⟩
theorem Slts.cel {i : Nat} {xs : List IV} (hl : Slts g F ρ H σi σ) (hs : Sim g F ρ cs H) (hi : σi[i]? = some (.own xs)) :
    ∃ a, Sim g F (ρ ++ [a]) (cs ++ [.lst xs]) H ∧ StpU (Own σi σ) F ρ H F (ρ ++ [a]) H ∧ Slts g F (ρ ++ [a]) H (σi.set i (.v (.cell cs.length))) σ ∧ (∀ b, Own (σi.set i (.v (.cell cs.length))) σ b → Own σi σ b) := by
  obtain ⟨a, vs, e, h1, h2, h3, r⟩ := hl.at_ i _ hi
  have hlt : i < σi.length := (List.getElem?_eq_some_iff.mp hi).1
  have st : StpU (Own σi σ) F ρ H F (ρ ++ [a]) H := by
    refine ⟨fun _ _ h => h, fun b h h' => absurd h' h, ⟨[a], rfl⟩, fun b h h' => ?_, fun b u h _ _ _ => h, fun _ h => h⟩
    right
    rcases List.mem_append.mp h with z | z
    · exact absurd z h'
    · rw [List.mem_singleton] at z
      exact ⟨i, xs, hi, by rw [z]; exact e⟩
  refine ⟨a, ⟨hs.fz, by rw [List.length_append, List.length_append, hs.len]; rfl, ?_, fun b hb => ?_, fun n c b e1 e2 e3 => ?_, fun n c b e1 e2 => ?_, hs.tb, fun b hb => (List.mem_append.mp hb).elim (hs.nx b) fun z => by rw [List.mem_singleton.mp z, h1]; exact NoX.lst, hs.ft⟩, st, ⟨by rw [List.length_set, hl.len], fun j s e' => ?_, fun j k us ws b e1 e2 q1 q2 => ?_⟩, fun b ⟨j, us, e1, e2⟩ => ?_⟩
  · exact List.nodup_append.mpr ⟨hs.nd, by simp, fun b hb c hc z => by
      rw [List.mem_singleton] at hc
      exact h3 (by rw [← hc, ← z]; exact hb)⟩
  · rcases List.mem_append.mp hb with z | z
    · exact hs.av b z
    · rw [List.mem_singleton] at z
      rw [z]
      rw [h1]; intro z; cases z
  · by_cases hn : n < cs.length
    · rw [List.getElem?_append_left hn] at e1
      rw [List.getElem?_append_left (by rw [hs.len]; exact hn)] at e2
      exact hs.lv n c b e1 e2 e3
    · rw [List.getElem?_append_right (by rw [hs.len]; omega)] at e2
      have hn0 : n - ρ.length = 0 := by
        have := (List.getElem?_eq_some_iff.mp e2).1
        simp at this; omega
      rw [hn0] at e2
      cases e2
      exact h2
  · by_cases hn : n < cs.length
    · rw [List.getElem?_append_left hn] at e1
      rw [List.getElem?_append_left (by rw [hs.len]; exact hn)] at e2
      exact (hs.ok n c b e1 e2).mono (fun _ _ h => h) ⟨[a], rfl⟩
    · rw [List.getElem?_append_right (by omega)] at e1
      rw [List.getElem?_append_right (by rw [hs.len]; omega)] at e2
      have hn0 : n - cs.length = 0 := by
        have := (List.getElem?_eq_some_iff.mp e1).1
        simp at this
        omega
      rw [hn0] at e1
      rw [hs.len, hn0] at e2
      cases e1
      cases e2
      exact ⟨vs, h1, r.stp st⟩
  · by_cases hj : i = j
    · subst hj
      rw [List.getElem?_set_self hlt] at e'
      cases e'
      have q : (ρ ++ [a])[cs.length]? = some a := by
        rw [List.getElem?_append_right (by rw [hs.len]; exact Nat.le_refl _), hs.len, Nat.sub_self]
        rfl
      exact ⟨.ref a, e, by simp only [Rel]; exact ⟨a, rfl, q⟩⟩
    · rw [List.getElem?_set_ne hj] at e'
      have q := hl.at_ j s e'
      cases s with
      | un => trivial
      | exn e a cls d => exact ⟨q.1, q.2.mono st.fz st.rp⟩
      | v x =>
        obtain ⟨v, q1, q2⟩ := q
        exact ⟨v, q1, q2.stp st⟩
      | own us =>
        obtain ⟨b, ws', q0, q1, q2, q3, q4⟩ := q
        refine ⟨b, ws', q0, q1, q2, fun z => ?_, q4.stp st⟩
        rcases List.mem_append.mp z with z | z
        · exact q3 z
        · rw [List.mem_singleton] at z
          exact hj (hl.ow i j _ _ a hi e' e (by rw [q0, z]))
  · have key : ∀ {j : Nat} {us : List IV}, (σi.set i (SV.v (.cell cs.length)))[j]? = some (SV.own us) → σi[j]? = some (SV.own us) := fun {j us} e => by
      by_cases hj : i = j
      · subst hj; rw [List.getElem?_set_self hlt] at e; cases e
      · rw [List.getElem?_set_ne hj] at e; exact e
    exact hl.ow j k _ _ b (key e1) (key e2) q1 q2
  · by_cases hj : i = j
    · subst hj; rw [List.getElem?_set_self hlt] at e1; cases e1
    · rw [List.getElem?_set_ne hj] at e1
      exact ⟨j, us, e1, e2⟩
end

def sPar (i j : Nat) (ma mb : M IV) : SM := fun n σ cs => thenS (ma n σ cs) σ fun x cs1 => thenS (mb n σ cs1) σ fun y cs2 => if i < σ.length ∧ j < σ.length then .next ((σ.set i (.v x)).set j (.v y)) cs2 else .stuck
def sAug (i : Nat) (f : IV → IV → Option IV) (m : M IV) : SM := fun n σ cs => match σ[i]? with
  | some (.v x) => thenS (m n σ cs) σ fun y cs1 => match f x y with
    | some z => .next (σ.set i (.v z)) cs1
    | none => .stuck
  | _ => .stuck

section
variable {X : Cx} {n : Nat} {W : WX} {a b c e o ie : Expr} {st : Stmt} {es : List Expr} {rest sa sb : List Stmt} {m ma mb mo mi : M IV} {mc : M Bool} {mr : M (List IV)} {s1 s2 sm : SM} {pos p px py pt : Pos} {x y : Str} {i j : Nat}
theorem tS_frz {g : Gx} {D : Ends} {σ : St} {H : Hp} (h : tS g n W (sFrz i sm) D σ H) : tS g n W sm D σ H := by
  obtain ⟨F, ρ, cs, σi, hs, hl, hp⟩ := h
  unfold sFrz at hp
  split at hp
  · rename_i xs q
    obtain ⟨a, vs, k1, k2, k3, k4, _⟩ := hl.frz hs q
    exact ⟨_, _, cs, _, k1, k3, PstS.stp hp k2 fun b z => .inl (k4 b z)⟩
  · exact hp.elim
theorem tS_cell {g : Gx} {D : Ends} {σ : St} {H : Hp} (h : tS g n W (sCell i sm) D σ H) : tS g n W sm D σ H := by
  obtain ⟨F, ρ, cs, σi, hs, hl, hp⟩ := h
  unfold sCell at hp
  split at hp
  · rename_i xs q
    obtain ⟨a, k1, k2, k3, k4⟩ := hl.cel hs q
    exact ⟨_, _, _, _, k1, k3, PstS.stp hp k2 fun b z => .inl (k4 b z)⟩
  · exact hp.elim
theorem jb_frz (h : JB X n W sa sm) : JB X n W sa (sFrz i sm) := pss_imp h fun D σ H h => tS_frz h
theorem jb_cell (h : JB X n W sa sm) : JB X n W sa (sCell i sm) := pss_imp h fun D σ H h => tS_cell h
theorem js_frz (h : JS X n W st sm) : JS X n W st (sFrz i sm) := ps_imp h fun D σ H h => tS_frz h
theorem js_cell (h : JS X n W st sm) : JS X n W st (sCell i sm) := ps_imp h fun D σ H h => tS_cell h

/-- o[i] = e -/
theorem js_setIx (h : JE X n W e m) (ho : JE X n W o mo) (hi : JE X n W ie mi)
    (ha : ∀ v, assign (.Subscript o ie p) X.env v = (do
      let ov ← holding [v] (eval o X.env)
      let iv ← holding [v, ov] (eval ie X.env)
      standAt p
      holding [v, ov, iv] (setItem ov iv v)
      release [v, ov, iv] []) := by intro _; rfl) (hs : swapsWithSole [.Subscript o ie p] e pos.line X.env = pure false := by rfl) (hw : swappedStores [.Subscript o ie p] e X.env = pure none := by rfl)
    (h1 : (assignEach [.Subscript o ie p] X.env).map (·.2) = [assign (.Subscript o ie p) X.env] := by rfl) : JS X n W (.Assign [.Subscript o ie p] e pos) (sSetIx mo mi m) := by
  refine ps_imp (ps_asg h (pg_sub ho hi set_list ha) hs hw h1) fun D σ H h => ?_
  obtain ⟨F, ρ, cs, σi, hs, hl, hp⟩ := h
  refine goS hs hl hp fun v H1 F1 ρ1 cs1 xi st1 hs1 hl1 r1 hp1 => ?_
  refine goS hs1 hl1 hp1 fun ov H2 F2 ρ2 cs2 oi st2 hs2 hl2 r2 hp2 => ?_
  refine goS hs2 hl2 hp2 fun iv H3 F3 ρ3 cs3 ii st3 hs3 hl3 r3 hp3 => ?_
  have r1' := (r1.stp st2).stp st3
  have r2' := r2.stp st3
  split at hp3
  · rename_i k j
    split at hp3
    · rename_i xs q
      simp only [Rel] at r2'
      obtain ⟨pa, rfl, hk⟩ := r2'
      obtain ⟨vs, e1, e2⟩ := hs3.ok k _ pa q hk
      unfold setAt at hp3
      split at hp3
      · rename_i ys e3
        split at e3
        · rename_i jj e4
          cases e3
          obtain ⟨c1, c2⟩ := hs3.cell (c := .lst (xs.set jj xi)) (o := .lst (vs.set jj v)) q (by intro z; cases z) hk ⟨_, rfl, e2.set r1' jj⟩ NoX.lst
          exact ⟨pa, vs, j, jj, rfl, relInt r3, e1, by rw [← e2.len]; exact e4, hp3.nextH c2.u c1 (hl3.stp c2) fun x z => .inl z⟩
        · cases e3
      · exact hp3.elim
    · exact hp3.elim
  · exact hp3.elim
theorem js_appC {ap cp : Pos} (ho : JE X n W o mo) (h : JE X n W e m)
    (hbase : attributeBase o "append" X.env (eval o X.env) = eval o X.env := by rfl)
    (hfew : ((backTo cp (starEach [e] X.env)).all (fun x => !x.1) && (backToKw cp (keywordEach [] X.env)).all (fun x => x.1.isSome)
      && decide (([e] : List Expr).length + ([] : List Keyword).length + (if ([] : List Keyword).isEmpty then 0 else 1) < 30)) = true := by rfl)
    (hline : (ap.endLine == cp.line) = true := by rfl) (hs : starEach [e] X.env = (false, eval e X.env) :: starEach [] X.env := by rfl) (hplain : (backTo cp (starEach [] X.env)).any (·.1) = false := by rfl)
    (hsw : swapsWith (.Call (.Attribute o "append" ap) [e] [] cp) none pos.line X.env = pure false := by rfl) : JS X n W (.Expr (.Call (.Attribute o "append" ap) [e] [] cp) pos) (sAppC mo m) := by
  refine ps_imp (ps_expr (pe_bm PySem.F.plainAttrs_list PySem.F.slot_list_append PySem.F.type_list_append mt_append ho (pa_cons h pa_nil hs) hbase hfew hline hs hplain) hsw) fun D σ H h => ?_
  obtain ⟨F, ρ, cs, σi, hs, hl, hp⟩ := h
  refine goS hs hl hp fun ov H1 F1 ρ1 cs1 oi st1 hs1 hl1 r1 hp1 => ?_
  split at hp1
  · rename_i k
    simp only [Rel] at r1
    obtain ⟨a, rfl, hk⟩ := r1
    split at hp1
    · rename_i xs q
      obtain ⟨vs, e1, e2⟩ := hs1.ok k _ a q hk
      refine ⟨.inl ⟨rfl, vs, .inl (.inl e1)⟩, ?_⟩
      refine goS hs1 hl1 hp1 fun v H2 F2 ρ2 cs2 y st2 hs2 hl2 r2 hp2 => ?_
      split at hp2
      · rename_i ys q2
        have hk2 : ρ2[k]? = some a := by
          obtain ⟨t, e⟩ := st2.rp
          rw [e, List.getElem?_append_left (List.getElem?_eq_some_iff.mp hk).1]
          exact hk
        obtain ⟨ws, e3, e4⟩ := hs2.ok k _ a q2 hk2
        split at hp2
        · rename_i hz
          obtain ⟨c1, c2⟩ := hs2.cell (c := .lst (ys ++ [y])) (o := .lst (ws ++ [v])) q2 (by intro z; cases z) hk2 ⟨_, rfl, e4.append (.cons r2 .nil)⟩ NoX.lst
          exact ⟨a, ws, v, rfl, rfl, e3, by rw [← e4.len]; exact Nat.lt_of_lt_of_le hz (by decide), hp2.nextH c2.u c1 (hl2.stp c2) fun x z => .inl z⟩
        · exact hp2.elim
      · exact hp2.elim
    · exact hp1.elim
  · exact hp1.elim
theorem js_par {kt k2 : Nat} {pt2 : Pos} (hc : X.calm = true) (hN : X.N.Nodup) (hi : X.N[i]? = some x) (hj : X.N[j]? = some y) (hij : i ≠ j) (hx : X.env.scope.names.lookup x = some .local) (hy : X.env.scope.names.lookup y = some .local) (ha : JE X n W a ma) (hb : JE X n W b mb)
    (hw : swappedStores [.Tuple [.Name x px, .Name y py] kt pt] (.Tuple [a, b] k2 pt2) X.env = pure (some [x, y])) (hs : swapsWithSole [.Tuple [.Name x px, .Name y py] kt pt] (.Tuple [a, b] k2 pt2) pos.line X.env = pure false := by rfl)
    (h1 : starEach [a, b] X.env = (false, eval a X.env) :: starEach [b] X.env := by rfl) (h2 : starEach [b] X.env = (false, eval b X.env) :: starEach [] X.env := by rfl) :
    JS X n W (.Assign [.Tuple [.Name x px, .Name y py] kt pt] (.Tuple [a, b] k2 pt2) pos) (sPar i j ma mb) := by
  refine ps_imp (ps_par hc hN hi hj hij hx hy (pa_cons ha (pa_cons hb pa_nil h2) h1) hw hs) fun D σ H h => ?_
  obtain ⟨F, ρ, cs, σi, hs, hl, hp⟩ := h
  refine goS hs hl hp fun v H1 F1 ρ1 cs1 xi st1 hs1 hl1 r1 hp1 => ?_
  refine goS hs1 hl1 hp1 fun w H2 F2 ρ2 cs2 yi st2 hs2 hl2 r2 hp2 => ?_
  split at hp2
  · exact ⟨v, w, rfl, hp2.nextH StpU.refl hs2 ((hl2.set (r1.stp st2)).set r2) fun x z => .inl (own_set (own_set z))⟩
  · exact hp2.elim
theorem js_aug {op : Operator} {f : IV → IV → Option IV} (ho : OpR X (inplaceOp op) (rJ (gx X) f)) (hN : X.N.Nodup) (hi : X.N[i]? = some x) (hx : Loc X.env.scope x) (h : JE X n W e m) (hf : X.fn x = true ∨ X.env.scope.names.lookup x = some .local := by first | exact .inl rfl | exact .inr rfl | assumption) :
    JS X n W (.AugAssign (.Name x px) op e pos) (sAug i f m) := by
  refine ps_imp (ps_aug (ti := rJ (gx X) f) hN hi hx h (fun pins s σ H x y v u Q I r1 r2 h => ho pins s σ H x y v u Q I r1 r2 h) hf) fun D σ H h => ?_
  obtain ⟨F, ρ, cs, σi, hs, hl, hp⟩ := h
  unfold sAug at hp
  split at hp
  · rename_i xi q
    obtain ⟨v, e1, rx⟩ := hl.at_ i _ q
    refine ⟨v, e1, ?_⟩
    refine goS hs hl hp fun w H1 F1 ρ1 cs1 yi st1 hs1 hl1 r1 hp1 => ?_
    cases hz : f xi yi with
    | none => rw [hz] at hp1; exact hp1.elim
    | some z =>
      rw [hz] at hp1
      exact ⟨F1, ρ1, cs1, xi, yi, z, hs1, rx.stp st1, r1, hz, fun F' ρ' H' v st2 hs2 r2 => hp1.nextH st2.u hs2 ((hl1.stp st2).set r2) fun x z => .inl (own_set z)⟩
  · exact hp.elim
end
end SL

set_option Elab.async false
set_option linter.all false
set_option autoImplicit false
set_option maxRecDepth 100000
set_option maxHeartbeats 4000000
/-! SLLoop: targets, iterators, for, while. -/
namespace SL
open PySem PySem.Spec L2
open PyProof.Rows hiding St

/-! ### targets -/
abbrev GM := IV → List SV → Option (List SV)
abbrev GMs := List IV → List SV → Option (List SV)
/-- but at ix nothing is another -/
def SameB (ix : List Nat) (σ σ' : St) : Prop := σ'.length = σ.length ∧ ∀ j, j ∉ ix → σ'[j]? = σ[j]?
def tGm (g : Gx) (ix : List Nat) (gm : GM) : TG := fun v σ H Q => ∃ F ρ cs σi x σi', Sim g F ρ cs H ∧ Slts g F ρ H σi σ ∧ Rel g F ρ x v ∧ gm x σi = some σi' ∧ ∀ σ', Slts g F ρ H σi' σ' → (∀ a, Own σi' σ' a → Own σi σ a) → SameB ix σ σ' → Q σ' H
def tGms (g : Gx) (ix : List Nat) (gm : GMs) : TGs := fun vs σ H Q => ∃ F ρ cs σi xs σi', Sim g F ρ cs H ∧ Slts g F ρ H σi σ ∧ RelL g F ρ xs vs ∧ gm xs σi = some σi' ∧ ∀ σ', Slts g F ρ H σi' σ' → (∀ a, Own σi' σ' a → Own σi σ a) → SameB ix σ σ' → Q σ' H
def JG (X : Cx) (tg : Expr) (ix : List Nat) (gm : GM) : Prop := PG X tg (tGm (gx X) ix gm)
def JGs (X : Cx) (tg : List Expr) (ix : List Nat) (gm : GMs) : Prop := PGs X tg (tGms (gx X) ix gm)
def gmN (i : Nat) : GM := fun x σ => if i < σ.length then some (σ.set i (.v x)) else none
def gmNil : GMs := fun xs σ => match xs with
  | [] => some σ
  | _ => none
def gmCons (a : GM) (b : GMs) : GMs := fun xs σ => match xs with
  | x :: r => (a x σ).bind fun σ' => b r σ'
  | [] => none
def gmTup (k : Nat) (b : GMs) : GM := fun x σ => match x with
  | .tup xs => if xs.length = k then b xs σ else none
  | _ => none
theorem pg_imp {X : Cx} {e : Expr} {t t' : TG} (h : PG X e t) (i : ∀ v σ H Q, t' v σ H Q → t v σ H Q) : PG X e t' := ⟨fun pins s σ H v u Q I r q => h.run pins s σ H v u Q I r (i v σ H Q q)⟩
theorem pgs_imp {X : Cx} {e : List Expr} {t t' : TGs} (h : PGs X e t) (i : ∀ v σ H Q, t' v σ H Q → t v σ H Q) : PGs X e t' := ⟨fun pins s σ H v u Q I r q => h.run pins s σ H v u Q I r (i v σ H Q q)⟩
section
variable {X : Cx} {tg e : Expr} {ts : List Expr} {gm : GM} {gms : GMs} {pos : Pos} {i k : Nat} {x : Str}
theorem jg_n (hN : X.N.Nodup) (hi : X.N[i]? = some x) (hx : Loc X.env.scope x) (hf : X.fn x = true ∨ X.env.scope.names.lookup x = some .local := by first | exact .inl rfl | exact .inr rfl | assumption) : JG X (.Name x pos) [i] (gmN i) := by
  refine pg_imp (pg_name hN hi hx hf) fun v σ H Q h => ?_
  obtain ⟨F, ρ, cs, σi, y, σi', hs, hl, r, e, q⟩ := h
  unfold gmN at e
  split at e
  · cases e
    exact q _ (hl.set r) (fun a z => own_set z) ⟨by rw [List.length_set], fun j hj => List.getElem?_set_ne fun z => hj (by rw [z]; exact List.mem_singleton.mpr rfl)⟩
  · cases e
theorem jgs_nil : JGs X [] [] gmNil := by
  refine pgs_imp pgs_nil fun v σ H Q h => ?_
  obtain ⟨F, ρ, cs, σi, xs, σi', hs, hl, r, e, q⟩ := h
  cases xs with
  | nil =>
    simp only [RelL] at r
    cases e
    exact ⟨r, q σ hl (fun a z => z) ⟨rfl, fun _ _ => rfl⟩⟩
  | cons y ys => cases e
theorem jgs_cons {ix ixs : List Nat} (h1 : JG X tg ix gm) (h2 : JGs X ts ixs gms) (hs : (assignEach (tg :: ts) X.env).map (·.2) = assign tg X.env :: (assignEach ts X.env).map (·.2) := by rfl) : JGs X (tg :: ts) (ix ++ ixs) (gmCons gm gms) := by
  refine pgs_imp (pgs_cons h1 h2 hs) fun v σ H Q h => ?_
  obtain ⟨F, ρ, cs, σi, xs, σi', hs, hl, r, e, q⟩ := h
  cases xs with
  | nil => cases e
  | cons y ys =>
    simp only [RelL] at r
    obtain ⟨w, ws, rfl, r1, r2⟩ := r
    simp only [gmCons] at e
    cases e1 : gm y σi with
    | none => rw [e1] at e; cases e
    | some σ1 =>
      rw [e1] at e
      exact ⟨w, ws, rfl, F, ρ, cs, σi, y, σ1, hs, hl, r1, e1, fun σ' l1 o1 s1 => ⟨F, ρ, cs, σ1, ys, σi', hs, l1, r2, e, fun σ2 l2 o2 s2 => q σ2 l2 (fun a z => o1 a (o2 a z)) ⟨s2.1.trans s1.1, fun j hj => (s2.2 j fun z => hj (List.mem_append_right _ z)).trans (s1.2 j fun z => hj (List.mem_append_left _ z))⟩⟩⟩
theorem jg_tup {k2 : Nat} {ix : List Nat} (hc : X.calm = true) (h : JGs X ts ix gms) (hn : (assignEach ts X.env).length = k := by rfl) (hst : (assignEach ts X.env).findIdx? (·.1) = none := by rfl) : JG X (.Tuple ts k2 pos) ix (gmTup k gms) := by
  refine pg_imp (pg_tup hc h hn hst) fun v σ H Q h => ?_
  obtain ⟨F, ρ, cs, σi, x, σi', hs, hl, r, e, q⟩ := h
  unfold gmTup at e
  split at e
  · split at e
    · rename_i xs hk
      simp only [Rel] at r
      obtain ⟨a, vs, rfl, h1, h2⟩ := r
      exact ⟨a, vs, rfl, sqT_mono hs.fz h1, by rw [← h2.len]; exact hk, F, ρ, cs, σi, xs, σi', hs, hl, h2, e, q⟩
    · cases e
  · cases e
/-- target = e -/
def sAsg (gm : GM) (m : M IV) : SM := fun n σ cs => thenS (m n σ cs) σ fun x cs1 => match gm x σ with
  | some σ' => .next σ' cs1
  | none => .stuck
theorem js_asg {n : Nat} {W : WX} {m : M IV} {ix : List Nat} (h : JE X n W e m) (hg : JG X tg ix gm) (hs : swapsWithSole [tg] e pos.line X.env = pure false := by rfl) (hw : swappedStores [tg] e X.env = pure none := by rfl)
    (h1 : (assignEach [tg] X.env).map (·.2) = [assign tg X.env] := by rfl) : JS X n W (.Assign [tg] e pos) (sAsg gm m) := by
  refine ps_imp (ps_asg h hg hs hw h1) fun D σ H h => ?_
  obtain ⟨F, ρ, cs, σi, hs, hl, hp⟩ := h
  refine goS hs hl hp fun v H1 F1 ρ1 cs1 x st1 hs1 hl1 r1 hp1 => ?_
  cases e : gm x σi with
  | none => rw [e] at hp1; exact hp1.elim
  | some σi' =>
    rw [e] at hp1
    exact ⟨F1, ρ1, cs1, σi, x, σi', hs1, hl1, r1, e, fun σ' l o _ => hp1.nextH StpU.refl hs1 l fun a z => .inl (o a z)⟩
end

/-! ### what is walked -/
/-- the iterator J gives the items xs, whatever comes to pass meanwhile -/
def RI (g : Gx) : RR (List IV) It := fun F ρ xs J => ∀ F' ρ' cs' H', (∀ a o, F a = some o → F' a = some o) → (∃ t, ρ' = ρ ++ t) → Sim g F' ρ' cs' H' →
  (∀ (i : Nat) (x : IV), xs[i]? = some x → J.go i H' ∧ ∀ v H'', J.yld i H' v H'' → ∃ F'', Stp F' ρ' H' F'' ρ' H'' ∧ Sim g F'' ρ' cs' H'' ∧ Rel g F'' ρ' x v) ∧ J.stop xs.length H'
def JI (X : Cx) (n : Nat) (W : WX) (tg iter : Expr) (m : M (List IV)) : Prop := PI X tg iter (tG (gx X) n W (RI (gx X)) m)
/-- what is walked, as a function of the value -/
def seqI : IV → Option (List IV)
  | .lst xs => some xs
  | .rol xs => some xs
  | .tup xs => some xs
  | .str s => if s.length ≤ lim then some (s.cps.toList.map fun c => .str ⟨#[c]⟩) else none
  | _ => none
def mIt (m : M IV) : M (List IV) := m.bind fun x => M.opt (seqI x)
def enI (xs : List IV) (k : Nat) : List IV := match xs with
  | [] => []
  | x :: r => .tup [.int k, x] :: enI r (k + 1)
def lstI : IV → Option (List IV)
  | .lst xs => some xs
  | .rol xs => some xs
  | _ => none
def mEn (a : M (List IV)) : M (List IV) := a.bind fun xs => M.opt (match xs with
  | [x] => (lstI x).map fun ys => enI ys 0
  | _ => none)
def rgI (lo : Int) : Nat → List IV
  | 0 => []
  | n + 1 => .int lo :: rgI (lo + 1) n
def mRg1 (a : M (List IV)) : M (List IV) := a.bind fun xs => M.opt (match xs with
  | [.int j] => if -(2 ^ 62) ≤ j ∧ j < 2 ^ 62 then some (rgI 0 j.toNat) else none
  | _ => none)
def mRg2 (a : M (List IV)) : M (List IV) := a.bind fun xs => M.opt (match xs with
  | [.int i, .int j] => if -(2 ^ 62) ≤ i ∧ i < 2 ^ 62 ∧ -(2 ^ 62) ≤ j ∧ j < 2 ^ 62 then some (rgI i (j - i).toNat) else none
  | _ => none)
theorem rgI_len (lo : Int) : ∀ n : Nat, (rgI lo n).length = n
  | 0 => rfl
  | n + 1 => by rw [rgI, List.length_cons, rgI_len _ n]
theorem rgI_get : ∀ (n : Nat) (lo : Int) (i : Nat) (x : IV), (rgI lo n)[i]? = some x → i < n ∧ x = .int (lo + i)
  | 0, lo, i, x, h => by simp [rgI] at h
  | n + 1, lo, 0, x, h => by
    simp only [rgI, List.getElem?_cons_zero, Option.some.injEq] at h
    exact ⟨Nat.succ_pos n, by rw [← h]; simp⟩
  | n + 1, lo, i + 1, x, h => by
    simp only [rgI, List.getElem?_cons_succ] at h
    obtain ⟨h1, h2⟩ := rgI_get n (lo + 1) i x h
    refine ⟨Nat.succ_lt_succ h1, ?_⟩
    rw [h2]
    congr 1
    omega
theorem enI_len : ∀ (xs : List IV) (k : Nat), (enI xs k).length = xs.length
  | [], _ => rfl
  | x :: xs, k => by rw [enI, List.length_cons, List.length_cons, enI_len xs]
theorem enI_get : ∀ (xs : List IV) (k i : Nat) (y : IV), (enI xs k)[i]? = some y → ∃ x, xs[i]? = some x ∧ y = .tup [.int ((k + i : Nat) : Int), x]
  | [], k, i, y, h => by simp [enI] at h
  | x :: xs, k, 0, y, h => by
    simp only [enI, List.getElem?_cons_zero, Option.some.injEq] at h
    exact ⟨x, rfl, h.symm⟩
  | x :: xs, k, i + 1, y, h => by
    simp only [enI, List.getElem?_cons_succ] at h
    obtain ⟨z, h1, h2⟩ := enI_get xs (k + 1) i y h
    refine ⟨z, by simpa using h1, ?_⟩
    rw [h2]
    congr 3
    omega
theorem pi_imp {X : Cx} {tg e : Expr} {t t' : TI} (h : PI X tg e t) (i : ∀ σ H R, t' σ H R → t σ H R) : PI X tg e t' := ⟨fun pins s σ H R I q => h.run pins s σ H R I (i σ H R q)⟩
section
variable {X : Cx} {n : Nat} {W : WX} {tg e a b : Expr} {m : M IV} {ma : M (List IV)} {p pos : Pos} {g : Gx} {F : Hp} {ρ : List Addr}
theorem ri_lst {xs : List IV} {vs : List V} {ad : Addr} (h : SqL g.K F ad vs) (r : RelL g F ρ xs vs) : RI g F ρ xs (Itl g.K ad) := by
  intro F' ρ' cs' H' hf hr hs
  have hq : SqL g.K H' ad vs := sqL_mono (fun a o e => hs.fz a o (hf a o e)) h
  have r' := r.mono hf hr
  refine ⟨fun i x e => ?_, ⟨vs, hq, by rw [r.len]; exact Nat.le_refl _⟩⟩
  obtain ⟨v, e1, r1⟩ := r'.get e
  refine ⟨⟨vs, v, hq, e1⟩, fun v' H'' y => ?_⟩
  obtain ⟨rfl, y⟩ := y
  have := y vs hq
  rw [e1] at this
  cases this
  exact ⟨F', StpU.refl, hs, r1⟩
theorem ri_tup {xs : List IV} {vs : List V} {ad : Addr} (h : SqT g.K F ad vs) (r : RelL g F ρ xs vs) : RI g F ρ xs (Itt g.K ad) := by
  intro F' ρ' cs' H' hf hr hs
  have hq : SqT g.K H' ad vs := sqT_mono (fun a o e => hs.fz a o (hf a o e)) h
  have r' := r.mono hf hr
  refine ⟨fun i x e => ?_, ⟨vs, hq, by rw [r.len]; exact Nat.le_refl _⟩⟩
  obtain ⟨v, e1, r1⟩ := r'.get e
  refine ⟨⟨vs, v, hq, e1⟩, fun v' H'' y => ?_⟩
  obtain ⟨rfl, y⟩ := y
  have := y vs hq
  rw [e1] at this
  cases this
  exact ⟨F', StpU.refl, hs, r1⟩
theorem ri_str {s : Str} : RI g F ρ (s.cps.toList.map fun c => .str ⟨#[c]⟩) (Its s) := by
  intro F' ρ' cs' H' hf hr hs
  refine ⟨fun i x e => ?_, ?_⟩
  · rw [List.getElem?_map] at e
    obtain ⟨c, e1, rfl⟩ := Option.map_eq_some_iff.mp e
    have e2 : s.cps[i]? = some c := by simpa using e1
    refine ⟨?_, fun v H'' y => ?_⟩
    · show i < s.cps.size
      exact (Array.getElem?_eq_some_iff.mp e2).1
    · obtain ⟨rfl, c', e3, rfl⟩ := y
      rw [e2] at e3
      cases e3
      exact ⟨F', StpU.refl, hs, by simp only [Rel]⟩
  · show s.cps.size ≤ _
    simp
theorem ri_rg {lo : Int} {k : Nat} : RI g F ρ (rgI lo k) (Itr lo k) := by
  intro F' ρ' cs' H' hf hr hs
  refine ⟨fun i x e => ?_, by rw [rgI_len]; exact Nat.le_refl k⟩
  obtain ⟨h1, rfl⟩ := rgI_get _ _ _ _ e
  refine ⟨h1, fun v H'' y => ?_⟩
  obtain ⟨rfl, rfl⟩ := y
  exact ⟨F', StpU.refl, hs, by simp only [Rel]⟩
theorem ri_en {xs : List IV} {vs : List V} {ad : Addr} (h : SqL g.K F ad vs) (r : RelL g F ρ xs vs) : RI g F ρ (enI xs 0) (Ite g.K ad) := by
  intro F' ρ' cs' H' hf hr hs
  have hq : SqL g.K H' ad vs := sqL_mono (fun a o e => hs.fz a o (hf a o e)) h
  have r' := r.mono hf hr
  refine ⟨fun i y e => ?_, ⟨vs, hq, by rw [enI_len, r.len]; exact Nat.le_refl _⟩⟩
  obtain ⟨x, e0, rfl⟩ := enI_get _ _ _ _ e
  obtain ⟨v, e1, r1⟩ := r'.get e0
  refine ⟨⟨vs, v, hq, e1⟩, fun v' H'' yy => ?_⟩
  obtain ⟨T, w, rfl, hT, rfl, y⟩ := yy
  have := y vs hq
  rw [e1] at this
  cases this
  obtain ⟨hs', st⟩ := hs.new (o := .tup [.int (i : Nat), v]) hT
  refine ⟨_, st, hs', ?_⟩
  simp only [Rel]
  refine ⟨T, _, rfl, .inl (.inl upd_same), .cons (by simp only [Rel, Nat.zero_add]) (.cons (r1.stp st) .nil)⟩
/-- over a list, a tuple, a text -/
theorem ji_of (h : JE X n W e m) : JI X n W tg e (mIt m) := by
  refine ⟨fun pins s σ H R I q => ?_⟩
  obtain ⟨F, ρ, cs, σi, hs, hl, hp⟩ := q
  cases em : m n σi cs with
  | stuck =>
    have : mIt m n σi cs = .stuck := by show (m n σi cs).then _ = _; rw [em]; rfl
    rw [this] at hp
    exact hp.elim
  | ex ee cs' =>
    have e2 : mIt m n σi cs = .ex ee cs' := by show (m n σi cs).then _ = _; rw [em]; rfl
    rw [e2] at hp
    exact (pi_tup h).run pins s σ H R I ⟨F, ρ, cs, σi, hs, hl, by rw [em]; exact hp⟩
  | ok x cs' =>
    have e2 : mIt m n σi cs = M.opt (seqI x) n σi cs' := by show (m n σi cs).then _ = _; rw [em]; rfl
    rw [e2] at hp
    cases x with
    | lst xs =>
      refine (pi_list h).run pins s σ H R I ⟨F, ρ, cs, σi, hs, hl, ?_⟩
      rw [em]
      intro F' ρ' H' v st sm r
      simp only [Rel] at r
      obtain ⟨a, vs, rfl, h1, h2⟩ := r
      have hq : SqL X.K F' a vs := .inl (.inl h1)
      refine ⟨a, rfl, ⟨vs, sqL_mono sm.fz hq⟩, hp F' ρ' H' _ st sm (ri_lst hq h2)⟩
    | rol xs =>
      refine (pi_list h).run pins s σ H R I ⟨F, ρ, cs, σi, hs, hl, ?_⟩
      rw [em]
      intro F' ρ' H' v st sm r
      simp only [Rel] at r
      obtain ⟨a, vs, rfl, hq, h2⟩ := r
      refine ⟨a, rfl, ⟨vs, sqL_mono sm.fz hq⟩, hp F' ρ' H' _ st sm (ri_lst hq h2)⟩
    | tup xs =>
      refine (pi_tup h).run pins s σ H R I ⟨F, ρ, cs, σi, hs, hl, ?_⟩
      rw [em]
      intro F' ρ' H' v st sm r
      simp only [Rel] at r
      obtain ⟨a, vs, rfl, h1, h2⟩ := r
      exact ⟨a, rfl, ⟨vs, sqT_mono sm.fz h1⟩, hp F' ρ' H' _ st sm (ri_tup h1 h2)⟩
    | str y =>
      have e3 : seqI (.str y) = if y.length ≤ lim then some (y.cps.toList.map fun c => IV.str ⟨#[c]⟩) else none := rfl
      rw [e3] at hp
      by_cases hz : y.length ≤ lim
      · rw [if_pos hz] at hp
        refine (pi_str h).run pins s σ H R I ⟨F, ρ, cs, σi, hs, hl, ?_⟩
        rw [em]
        intro F' ρ' H' v st sm r
        rw [relStr r]
        exact ⟨y, rfl, hp F' ρ' H' _ st sm ri_str⟩
      · rw [if_neg hz] at hp
        exact hp.elim
    | _ => exact hp.elim
theorem ji_rg1 (ha : JA X n W [a] ma) (hm : X.mg "range" = none) (hg : Gl X "range" := by rfl) (hs : starEach [a] X.env = [(false, eval a X.env)] := by rfl) : JI X n W tg (.Call (.Name "range" p) [a] [] pos) (mRg1 ma) := by
  refine pi_imp (pi_range1 hg hm ha hs) fun σ H R q => ?_
  obtain ⟨F, ρ, cs, σi, hs, hl, hp⟩ := q
  refine go hs hl hp fun vs H1 F1 ρ1 cs1 xs st1 hs1 hl1 r1 hp1 => ?_
  obtain ⟨ys, hy, q⟩ := pst_opt hp1
  split at hy
  · split at hy
    · rename_i j hz
      cases hy
      obtain ⟨v, rfl, r2⟩ := relL1 r1
      rw [relInt r2]
      exact ⟨j, rfl, hz.1, hz.2, q F1 ρ1 H1 _ StpU.refl hs1 ri_rg⟩
    · cases hy
  · cases hy
theorem ji_rg2 (ha : JA X n W [a, b] ma) (hm : X.mg "range" = none) (hg : Gl X "range" := by rfl) (hs : starEach [a, b] X.env = [(false, eval a X.env), (false, eval b X.env)] := by rfl) (hs2 : starEach [b] X.env = [(false, eval b X.env)] := by rfl) :
    JI X n W tg (.Call (.Name "range" p) [a, b] [] pos) (mRg2 ma) := by
  refine pi_imp (pi_range2 hg hm ha hs hs2) fun σ H R q => ?_
  obtain ⟨F, ρ, cs, σi, hs, hl, hp⟩ := q
  refine go hs hl hp fun vs H1 F1 ρ1 cs1 xs st1 hs1 hl1 r1 hp1 => ?_
  obtain ⟨ys, hy, q⟩ := pst_opt hp1
  split at hy
  · split at hy
    · rename_i i j hz
      cases hy
      obtain ⟨v, w, rfl, r2, r3⟩ := relL2 r1
      rw [relInt r2, relInt r3]
      exact ⟨i, j, rfl, hz, q F1 ρ1 H1 _ StpU.refl hs1 ri_rg⟩
    · cases hy
  · cases hy
theorem ji_en {elts : List Expr} {kk : Nat} {tpos : Pos} (ha : JA X n W [e] ma) (hm : X.mg "enumerate" = none) (hg : Gl X "enumerate" := by rfl) (hs : starEach [e] X.env = [(false, eval e X.env)] := by rfl) :
    JI X n W (.Tuple elts kk tpos) (.Call (.Name "enumerate" p) [e] [] pos) (mEn ma) := by
  refine pi_imp (pi_enum hg hm ha hs) fun σ H R q => ?_
  obtain ⟨F, ρ, cs, σi, hs, hl, hp⟩ := q
  refine go hs hl hp fun vs H1 F1 ρ1 cs1 xs st1 hs1 hl1 r1 hp1 => ?_
  obtain ⟨ys, hy, q⟩ := pst_opt hp1
  split at hy
  · rename_i x
    obtain ⟨zs, hz, rfl⟩ := Option.map_eq_some_iff.mp hy
    obtain ⟨v, rfl, r2⟩ := relL1 r1
    have key : ∃ a vs, v = .ref a ∧ SqL X.K F1 a vs ∧ RelL (gx X) F1 ρ1 zs vs := by
      cases x with
      | lst xs =>
        cases hz
        simp only [Rel] at r2
        obtain ⟨a, vs, rfl, h1, h2⟩ := r2
        exact ⟨a, vs, rfl, .inl (.inl h1), h2⟩
      | rol xs =>
        cases hz
        simp only [Rel] at r2
        obtain ⟨a, vs, rfl, h1, h2⟩ := r2
        exact ⟨a, vs, rfl, h1, h2⟩
      | _ => cases hz
    obtain ⟨a, vs, rfl, h1, h2⟩ := key
    exact ⟨a, vs, rfl, sqL_mono hs1.fz h1, q F1 ρ1 H1 _ StpU.refl hs1 (ri_en h1 h2)⟩
  · cases hy
end

/-! ### for, while -/
def forL (gm : GM) (b : SM) (n : Nat) : List IV → List SV → List Cell → SR
  | [], σ, cs => .next σ cs
  | x :: r, σ, cs => match gm x σ with
    | some σ1 => match b n σ1 cs with
      | .next σ2 cs2 => forL gm b n r σ2 cs2
      | .cnt σ2 cs2 => forL gm b n r σ2 cs2
      | .brk σ2 cs2 => .next σ2 cs2
      | .ret x cs2 => .ret x cs2
      | .ex e σ2 cs2 => .ex e σ2 cs2
      | .stuck => .stuck
    | none => .stuck
def sFor (mi : M (List IV)) (gm : GM) (b : SM) : SM := fun n σ cs => thenS (mi n σ cs) σ fun xs cs1 => forL gm b n xs σ cs1
def whL (c : M Bool) (b : SM) (n : Nat) : Nat → List SV → List Cell → SR
  | 0, _, _ => .stuck
  | k + 1, σ, cs => thenS (c n σ cs) σ fun t cs1 => match t with
    | false => .next σ cs1
    | true => match b n σ cs1 with
      | .next σ2 cs2 => whL c b n k σ2 cs2
      | .cnt σ2 cs2 => whL c b n k σ2 cs2
      | .brk σ2 cs2 => .next σ2 cs2
      | .ret x cs2 => .ret x cs2
      | .ex e σ2 cs2 => .ex e σ2 cs2
      | .stuck => .stuck
def sWh (c : M Bool) (b : SM) : SM := fun n σ cs => whL c b n n σ cs
section
variable {X : Cx} {n : Nat} {W : WX} {tg iter c : Expr} {body : List Stmt} {mi : M (List IV)} {gm : GM} {sb : SM} {mc : M Bool} {pos : Pos}
theorem js_for {ix : List Nat} (hp : PassesOwn (model X.prog X.w) X.A X.env X.xe) (hc : X.calm = true) (hi : JI X n W tg iter mi) (hg : JG X tg ix gm) (hb : JB X n W body sb) (hs : ∀ x, foldedSetIterable iter X.env x = pure x := by intro _; rfl) : JS X n W (.For tg iter body [] pos) (sFor mi gm sb) := by
  refine ps_imp (ps_for hp hc hi hg hb hs) fun D σ H h => ?_
  obtain ⟨F, ρ, cs, σi, hs, hl, hp⟩ := h
  refine goS hs hl hp fun J H1 F1 ρ1 cs1 xs st1 hs1 hl1 r1 hp1 => ?_
  refine ⟨fun i m σ H => m = xs.length - i ∧ i ≤ xs.length ∧ ∃ F ρ cs σi, (∀ a o, F1 a = some o → F a = some o) ∧ (∃ t, ρ = ρ1 ++ t) ∧ Sim (gx X) F ρ cs H ∧ Slts (gx X) F ρ H σi σ ∧ PstS (gx X) W (Own σi σ) F ρ H (forL gm sb n (xs.drop i) σi cs) D,
    ⟨xs.length, by simp, Nat.zero_le _, F1, ρ1, cs1, σi, fun _ _ h => h, ⟨[], by simp⟩, hs1, hl1, hp1⟩, ?_⟩
  rintro i m σ2 H2 ⟨rfl, hi, F2, ρ2, cs2, σi2, hf, hr, hs2, hl2, hp2⟩
  obtain ⟨k1, k2⟩ := r1 F2 ρ2 cs2 H2 hf hr hs2
  by_cases hlt : i < xs.length
  · right
    have ei : xs[i]? = some xs[i] := List.getElem?_eq_getElem hlt
    obtain ⟨g1, g2⟩ := k1 i _ ei
    rw [List.drop_eq_getElem_cons hlt] at hp2
    refine ⟨g1, fun σ' H' => i < xs.length ∧ ∃ F ρ cs σi, (∀ a o, F1 a = some o → F a = some o) ∧ (∃ t, ρ = ρ1 ++ t) ∧ Sim (gx X) F ρ cs H' ∧ Slts (gx X) F ρ H' σi σ' ∧ PstS (gx X) W (Own σi σ') F ρ H' (forL gm sb n (xs.drop (i + 1)) σi cs) D,
      fun σ' H' ⟨hlt, q⟩ => ⟨xs.length - (i + 1), by omega, rfl, hlt, q⟩, fun v H3 y => ?_⟩
    obtain ⟨F3, st3, hs3, r3⟩ := g2 v H3 y
    have hl3 := hl2.stp st3
    unfold forL at hp2
    cases eg : gm xs[i] σi2 with
    | none => rw [eg] at hp2; exact hp2.elim
    | some σi3 =>
      rw [eg] at hp2
      simp only at hp2
      refine ⟨F3, ρ2, cs2, σi2, _, σi3, hs3, hl3, r3, eg, fun σ3 l3 o3 _ => ?_⟩
      have hp3 : PstS (gx X) W (Own σi3 σ3) F3 ρ2 H3 _ D := PstS.stp hp2 st3.u (fun x z => .inl (o3 x z))
      refine ⟨F3, ρ2, cs2, σi3, hs3, l3, ?_⟩
      have tail : ∀ {F' ρ' H' σ' σi' cs'}, StpU (Own σi3 σ3) F3 ρ2 H3 F' ρ' H' → Sim (gx X) F' ρ' cs' H' → Slts (gx X) F' ρ' H' σi' σ' → (∀ x, Own σi' σ' x → Own σi3 σ3 x ∨ H3 x = none) → PstS (gx X) W (Own σi3 σ3) F3 ρ2 H3 (forL gm sb n (xs.drop (i + 1)) σi' cs') D →
          i < xs.length ∧ ∃ F ρ cs σi, (∀ a o, F1 a = some o → F a = some o) ∧ (∃ t, ρ = ρ1 ++ t) ∧ Sim (gx X) F ρ cs H' ∧ Slts (gx X) F ρ H' σi σ' ∧ PstS (gx X) W (Own σi σ') F ρ H' (forL gm sb n (xs.drop (i + 1)) σi cs) D := by
        intro F' ρ' H' σ' σi' cs' t s l o q
        refine ⟨hlt, F', ρ', cs', σi', fun a u e => t.fz a u (st3.fz a u (hf a u e)), ?_, s, l, PstS.stp q t o⟩
        obtain ⟨t1, rfl⟩ := hr
        obtain ⟨t2, rfl⟩ := t.rp
        exact ⟨t1 ++ t2, by rw [List.append_assoc]⟩
      cases eb : sb n σi3 cs2 with
      | next σi4 cs4 =>
        rw [eb] at hp3
        exact fun F' ρ' H' σ' t s l o => tail t s l o hp3
      | cnt σi4 cs4 =>
        rw [eb] at hp3
        exact fun F' ρ' H' σ' t s l o => tail t s l o hp3
      | brk σi4 cs4 => rw [eb] at hp3; exact hp3
      | ret y cs4 => rw [eb] at hp3; exact hp3
      | ex y σi4 cs4 => rw [eb] at hp3; exact hp3
      | stuck => rw [eb] at hp3; exact hp3
  · left
    have hi2 : i = xs.length := by omega
    subst hi2
    rw [List.drop_length] at hp2
    exact ⟨k2, hp2.nextH StpU.refl hs2 hl2 fun x z => .inl z⟩
theorem js_while (hp : PassesOwn (model X.prog X.w) X.A X.env X.xe) (hc : JT X n W c mc) (hb : JB X n W body sb) : JS X n W (.While c body [] pos) (sWh mc sb) := by
  refine ps_imp (ps_while hp hc hb) fun D σ H h => ?_
  obtain ⟨F, ρ, cs, σi, hs, hl, hp⟩ := h
  refine ⟨fun m σ H => ∃ F ρ cs σi, Sim (gx X) F ρ cs H ∧ Slts (gx X) F ρ H σi σ ∧ PstS (gx X) W (Own σi σ) F ρ H (whL mc sb n m σi cs) D, ⟨n, F, ρ, cs, σi, hs, hl, hp⟩, ?_⟩
  rintro m σ1 H1 ⟨F1, ρ1, cs1, σi1, hs1, hl1, hp1⟩
  cases m with
  | zero => exact hp1.elim
  | succ k =>
    refine goS hs1 hl1 hp1 fun t H2 F2 ρ2 cs2 tt st2 hs2 hl2 r2 hp2 => ?_
    have r2' : tt = t := r2
    subst r2'
    cases tt with
    | false =>
      rw [if_neg Bool.false_ne_true]
      exact hp2.nextH StpU.refl hs2 hl2 fun x z => .inl z
    | true =>
      rw [if_pos rfl]
      refine ⟨fun σ H => ∃ F ρ cs σi, Sim (gx X) F ρ cs H ∧ Slts (gx X) F ρ H σi σ ∧ PstS (gx X) W (Own σi σ) F ρ H (whL mc sb n k σi cs) D, fun σ' H' q => ⟨k, Nat.lt_succ_self k, q⟩, ?_⟩
      refine ⟨F2, ρ2, cs2, σi1, hs2, hl2, ?_⟩
      simp only at hp2
      cases eb : sb n σi1 cs2 with
      | next σi4 cs4 =>
        rw [eb] at hp2
        exact fun F' ρ' H' σ' t s l o => ⟨F', ρ', cs4, σi4, s, l, PstS.stp hp2 t o⟩
      | cnt σi4 cs4 =>
        rw [eb] at hp2
        exact fun F' ρ' H' σ' t s l o => ⟨F', ρ', cs4, σi4, s, l, PstS.stp hp2 t o⟩
      | brk σi4 cs4 => rw [eb] at hp2; exact hp2
      | ret y cs4 => rw [eb] at hp2; exact hp2
      | ex y σi4 cs4 => rw [eb] at hp2; exact hp2
      | stuck => rw [eb] at hp2; exact hp2
end
end SL

set_option Elab.async false
set_option linter.all false
set_option autoImplicit false
set_option maxRecDepth 100000
set_option maxHeartbeats 4000000
/-! SLComp: list comprehensions. -/
namespace SL
open PySem PySem.Spec L2
open PyProof.Rows hiding St
def wipeI (σ : List SV) : List Nat → List SV
  | [] => σ
  | v :: vs => (wipeI σ vs).set v .un
def cmpL (gm : GM) (mt : M Bool) (me : M IV) (n : Nat) (σ : List SV) : List IV → List IV → List Cell → Res (List IV)
  | [], acc, cs => .ok acc cs
  | x :: r, acc, cs => match gm x σ with
    | none => .stuck
    | some σ1 => match mt n σ1 cs with
      | .ok true cs1 => match me n σ1 cs1 with
        | .ok y cs2 => if acc.length < lim then cmpL gm mt me n σ r (acc ++ [y]) cs2 else .stuck
        | _ => .stuck
      | .ok false cs1 => cmpL gm mt me n σ r acc cs1
      | _ => .stuck
/-- [e for target in .. if ..] -/
def eLc (mi : M (List IV)) (gm : GM) (mt : M Bool) (me : M IV) (vs : List Nat) : M IV := mi.bind fun xs n σ cs => (cmpL gm mt me n (wipeI σ vs) xs [] cs).then fun ys cs' => .ok (.lst ys) cs'
theorem wipe_out {σ : St} {j : Nat} : ∀ {vs : List Nat}, j ∉ vs → (wipe σ vs)[j]? = σ[j]?
  | [], _ => rfl
  | v :: vs, h => by
    unfold wipe
    rw [List.getElem?_set_ne (fun z => h (by rw [z]; exact List.mem_cons_self))]
    exact wipe_out fun z => h (List.mem_cons_of_mem _ z)
theorem wipe_in {σ : St} {j : Nat} : ∀ {vs : List Nat}, j ∈ vs → j < σ.length → (wipe σ vs)[j]? = some none
  | [], h, _ => by simp at h
  | v :: vs, h, hl => by
    unfold wipe
    by_cases e : v = j
    · subst e
      rw [List.getElem?_set_self (by rw [wipe_length]; exact hl)]
    · rw [List.getElem?_set_ne e]
      exact wipe_in ((List.mem_cons.mp h).resolve_left (Ne.symm e)) hl
theorem wipe_same {σ σ' : St} {vs ix : List Nat} (h : SameB ix (wipe σ vs) σ') (hi : ∀ j ∈ ix, j ∈ vs) : wipe σ' vs = wipe σ vs := by
  have hl : σ'.length = σ.length := h.1.trans (wipe_length σ vs)
  apply List.ext_getElem?
  intro j
  by_cases hj : j ∈ vs
  · by_cases hlt : j < σ.length
    · rw [wipe_in hj (by rw [hl]; exact hlt), wipe_in hj hlt]
    · rw [List.getElem?_eq_none (by rw [wipe_length]; omega), List.getElem?_eq_none (by rw [wipe_length]; omega)]
  · rw [wipe_out hj]
    exact h.2 j fun z => hj (hi j z)
section
variable {g : Gx} {F F' : Hp} {ρ ρ' : List Addr} {H H' : Hp} {σ : St} {σi : List SV} {cs : List Cell}
theorem wipeI_out {j : Nat} : ∀ {vs : List Nat}, j ∉ vs → (wipeI σi vs)[j]? = σi[j]?
  | [], _ => rfl
  | v :: vs, h => by
    unfold wipeI
    rw [List.getElem?_set_ne (fun z => h (by rw [z]; exact List.mem_cons_self))]
    exact wipeI_out fun z => h (List.mem_cons_of_mem _ z)
theorem wipeI_length (σ : List SV) : ∀ vs : List Nat, (wipeI σ vs).length = σ.length
  | [] => rfl
  | v :: vs => by unfold wipeI; rw [List.length_set, wipeI_length σ vs]
theorem wipeI_in {j : Nat} {s : SV} : ∀ {vs : List Nat}, j ∈ vs → (wipeI σi vs)[j]? = some s → s = .un
  | [], h, _ => by simp at h
  | v :: vs, h, e => by
    unfold wipeI at e
    by_cases z : v = j
    · subst z
      by_cases hl : v < (wipeI σi vs).length
      · rw [List.getElem?_set_self hl] at e
        exact (Option.some.inj e).symm
      · rw [List.getElem?_eq_none (by rw [List.length_set]; omega)] at e
        cases e
    · rw [List.getElem?_set_ne z] at e
      exact wipeI_in ((List.mem_cons.mp h).resolve_left (Ne.symm z)) e
theorem Slts.wipe (hl : Slts g F ρ H σi σ) (vs : List Nat) : Slts g F ρ H (wipeI σi vs) (L2.wipe σ vs) ∧ ∀ a, Own (wipeI σi vs) (L2.wipe σ vs) a → Own σi σ a := by
  have key : ∀ {j : Nat} {us : List IV}, (wipeI σi vs)[j]? = some (SV.own us) → j ∉ vs ∧ σi[j]? = some (SV.own us) := fun {j us} e => by
    have hj : j ∉ vs := fun z => by cases wipeI_in z e
    exact ⟨hj, by rw [wipeI_out hj] at e; exact e⟩
  refine ⟨⟨by rw [wipeI_length, wipe_length, hl.len], fun j s e => ?_, fun j k xs ys a e1 e2 h1 h2 => ?_⟩, fun a ⟨j, xs, e1, e2⟩ => ?_⟩
  · by_cases hj : j ∈ vs
    · rw [wipeI_in hj e]
      trivial
    · rw [wipeI_out hj] at e
      rw [wipe_out hj]
      exact hl.at_ j s e
  · obtain ⟨n1, k1⟩ := key e1
    obtain ⟨n2, k2⟩ := key e2
    rw [wipe_out n1] at h1
    rw [wipe_out n2] at h2
    exact hl.ow j k xs ys a k1 k2 h1 h2
  · obtain ⟨n1, k1⟩ := key e1
    rw [wipe_out n1] at e2
    exact ⟨j, xs, k1, e2⟩
/-- a list that is being built at D -/
structure Dk (F : Hp) (ρ : List Addr) (H : Hp) (D : Addr) (vs : List V) : Prop where
  at_ : H D = some (.lst vs)
  nf : F D = none
  nr : D ∉ ρ
theorem Dk.stp {D : Addr} {vs : List V} (d : Dk F ρ H D vs) (t : Stp F ρ H F' ρ' H') : Dk F' ρ' H' D vs := by
  refine ⟨t.fr D _ d.at_ (fun ps z => by cases z) d.nr (fun z => z), ?_, fun z => ?_⟩
  · cases q : F' D with
    | none => rfl
    | some o =>
      rcases t.fn D (by rw [q]; intro z; cases z) d.nf with z | z | z
      · rw [d.at_] at z; cases z
      · exact z.elim
      · exact absurd z d.nr
  · rcases t.rn D z d.nr with q | q
    · rw [d.at_] at q; cases q
    · exact q
theorem Dk.wr {D : Addr} {vs ws : List V} (d : Dk F ρ H D vs) (hs : Sim g F ρ cs H) : Sim g F ρ cs (upd H D (.lst ws)) ∧ StpU (fun a => a = D) F ρ H F ρ (upd H D (.lst ws)) ∧ Dk F ρ (upd H D (.lst ws)) D ws := by
  have np : ∀ a ∈ ρ, a ≠ D := fun a ha z => d.nr (by rw [← z]; exact ha)
  refine ⟨⟨fun a u h => ?_, hs.len, hs.nd, fun a ha => ?_, hs.lv, fun n c a e1 e2 => ?_, tabs_upd hs.tb (by rw [d.at_]; exact NoX.lst), fun a ha => by rw [upd_ne (np a ha)]; exact hs.nx a ha, hs.ft⟩, ⟨fun _ _ h => h, fun a h h' => absurd h' h, ⟨[], by simp⟩, fun a h h' => absurd h h', fun a u h _ _ hu => ?_, fun a h => ?_⟩, ⟨upd_same, d.nf, d.nr⟩⟩
  · rw [upd_ne (fun z => by rw [z, d.nf] at h; cases h)]
    exact hs.fz a u h
  · rw [upd_ne (np a ha)]
    exact hs.av a ha
  · rw [upd_ne (np a (List.mem_of_getElem? e2))]
    exact hs.ok n c a e1 e2
  · rw [upd_ne hu]
    exact h
  · by_cases e : a = D
    · rw [e, upd_same]; intro z; cases z
    · rw [upd_ne e]; exact h
theorem Slts.wrD {D : Addr} {ws : List V} (hl : Slts g F ρ H σi σ) (hn : ∀ (j : Nat) (xs : List IV), σi[j]? = some (SV.own xs) → σ[j]? ≠ some (some (.ref D))) : Slts g F ρ (upd H D (.lst ws)) σi σ := by
  refine ⟨hl.len, fun j s e => ?_, hl.ow⟩
  have q := hl.at_ j s e
  cases s with
  | un => trivial
  | exn e a cls d => exact q
  | v x => exact q
  | own us =>
    obtain ⟨a, ws', e', q1, q2, q3, q4⟩ := q
    refine ⟨a, ws', e', ?_, q2, q3, q4⟩
    rw [upd_ne (fun z => hn j us e (by rw [e', z]))]
    exact q1
end
def JTs (X : Cx) (n : Nat) (W : WX) (e : List Expr) (m : M Bool) : Prop := PTs X e (tG (gx X) n W RB m)
abbrev W0 : WX := fun _ _ _ _ => False
section
variable {X : Cx} {n : Nat} {W : WX} {tg iter elt : Expr} {ifs : List Expr} {mi : M (List IV)} {gm : GM} {mt : M Bool} {me : M IV} {pos : Pos} {scope : Scope} {own : List (Str × Nat)} {ix : List Nat}
theorem jts_nil : JTs X n W [] (M.pure true) := by
  refine ⟨fun pins s σ H Q I h => ?_⟩
  obtain ⟨F, ρ, cs, σi, hs, hl, hp⟩ := h
  exact pts_nil.run pins s σ H Q I (hp F ρ H true StpU.refl hs rfl)
theorem jts_one {c : Expr} (h : JT X n W c mt) : JTs X n W [c] mt := pts_one h
theorem lc_run {g : Gx} {σ : St} {H : Hp} {Q : VK} (hix : ∀ j ∈ ix, j ∈ own.map (·.2)) (h : tG g n W (Rel g) (eLc mi gm mt me (own.map (·.2))) σ H Q) : tLc (tG g n W (RI g) mi) (tGm g ix gm) (tG g n W0 RB mt) (tG g n W0 (Rel g) me) (own.map (·.2)) σ H Q := by
  obtain ⟨F, ρ, cs, σi, hs, hl, hp⟩ := h
  refine go hs hl hp fun J H1 F1 ρ1 cs1 xs st1 hs1 hl1 r1 hp1 D hD => ?_
  generalize hvs : own.map (·.2) = vs at hp1 hix ⊢
  replace hp1 : Pst g W σ (Rel g) F1 ρ1 H1 ((cmpL gm mt me n (wipeI σi vs) xs [] cs1).then fun ys cs' => .ok (.lst ys) cs') Q := hp1
  obtain ⟨r0, hr0⟩ : ∃ r0, cmpL gm mt me n (wipeI σi vs) xs [] cs1 = r0 := ⟨_, rfl⟩
  rw [hr0] at hp1
  obtain ⟨hs2, st2, f2, n2⟩ := hs1.lay (o := .lst []) hD
  have hl2 := hl1.stp st2
  have hnD : ∀ (j : Nat) (xs : List IV), σi[j]? = some (SV.own xs) → σ[j]? ≠ some (some (.ref D)) := fun j ys e1 e2 => by
    obtain ⟨b, ws, e3, e4, _⟩ := hl1.at_ j _ e1
    rw [e2] at e3
    cases e3
    rw [hD] at e4
    cases e4
  refine ⟨fun i m H => m = xs.length - i ∧ i ≤ xs.length ∧ ∃ F ρ cs acc accv, StpU (fun a => a = D) F1 ρ1 (upd H1 D (.lst [])) F ρ H ∧ Sim g F ρ cs H ∧ Slts g F ρ H σi σ ∧ Dk F ρ H D accv ∧ RelL g F ρ acc accv ∧
      cmpL gm mt me n (wipeI σi vs) (xs.drop i) acc cs = r0, ⟨xs.length, by simp, Nat.zero_le _, F1, ρ1, cs1, [], [], StpU.refl, hs2, hl2, ⟨upd_same, f2, n2⟩, .nil, hr0⟩, ?_⟩
  rintro i m H3 ⟨rfl, hi3, F3, ρ3, cs3, acc, accv, st3, hs3, hl3, dk3, ra3, e3⟩
  have hf : ∀ a o, F1 a = some o → F3 a = some o := st3.fz
  obtain ⟨k1, k2⟩ := r1 F3 ρ3 cs3 H3 hf st3.rp hs3
  by_cases hlt : i < xs.length
  · right
    have ei : xs[i]? = some xs[i] := List.getElem?_eq_getElem hlt
    obtain ⟨g1, g2⟩ := k1 i _ ei
    rw [List.drop_eq_getElem_cons hlt] at e3
    refine ⟨g1, fun H' => i < xs.length ∧ ∃ F ρ cs acc accv, StpU (fun a => a = D) F1 ρ1 (upd H1 D (.lst [])) F ρ H' ∧ Sim g F ρ cs H' ∧ Slts g F ρ H' σi σ ∧ Dk F ρ H' D accv ∧ RelL g F ρ acc accv ∧
      cmpL gm mt me n (wipeI σi vs) (xs.drop (i + 1)) acc cs = r0, fun H' ⟨h, q⟩ => ⟨xs.length - (i + 1), by omega, rfl, h, q⟩, fun v H4 y => ?_⟩
    obtain ⟨F4, st4, hs4, r4⟩ := g2 v H4 y
    have hl4 := hl3.stp st4
    have dk4 := dk3.stp st4
    have ra4 := ra3.stp st4
    obtain ⟨hw4, ow4⟩ := hl4.wipe vs
    have bad : ∀ {r : Res (List IV)}, r = r0 → r = .stuck → False := fun {r} e1 e2 => by
      rw [← e1, e2] at hp1
      exact hp1
    unfold cmpL at e3
    cases eg : gm xs[i] (wipeI σi vs) with
    | none => rw [eg] at e3; exact (bad e3 rfl).elim
    | some σ5 =>
      rw [eg] at e3
      simp only at e3
      refine ⟨F4, ρ3, cs3, wipeI σi vs, _, σ5, hs4, hw4, r4, eg, fun σ' l5 o5 s5 => ⟨wipe_same s5 hix, ?_⟩⟩
      refine ⟨F4, ρ3, cs3, σ5, hs4, l5, ?_⟩
      cases et : mt n σ5 cs3 with
      | stuck => rw [et] at e3; exact (bad e3 rfl).elim
      | ex _ _ => rw [et] at e3; exact (bad e3 rfl).elim
      | ok b cs5 =>
        rw [et] at e3
        intro F6 ρ6 H6 b' st6 hs6 rb
        have rb' : b = b' := rb
        subst rb'
        have hl6 := hl4.stp st6
        have dk6 := dk4.stp st6
        have ra6 := ra4.stp st6
        have tt6 : StpU (fun a => a = D) F1 ρ1 (upd H1 D (.lst [])) F6 ρ6 H6 := StpU.trans (StpU.trans st3 st4 (fun x z => z.elim)) st6 (fun x z => z.elim)
        cases b with
        | false =>
          rw [if_neg Bool.false_ne_true]
          exact ⟨hlt, F6, ρ6, cs5, acc, accv, tt6, hs6, hl6, dk6, ra6, e3⟩
        | true =>
          rw [if_pos rfl]
          simp only at e3
          refine ⟨F6, ρ6, cs5, σ5, hs6, l5.stp st6, ?_⟩
          cases ee : me n σ5 cs5 with
          | stuck => rw [ee] at e3; exact (bad e3 rfl).elim
          | ex _ _ => rw [ee] at e3; exact (bad e3 rfl).elim
          | ok z cs7 =>
            rw [ee] at e3
            intro F7 ρ7 H7 w st7 hs7 r7
            have hl7 := hl6.stp st7
            have dk7 := dk6.stp st7
            have ra7 := ra6.stp st7
            have tt7 := StpU.trans tt6 st7 (fun x z => z.elim)
            simp only at e3
            by_cases hz : acc.length < lim
            · rw [if_pos hz] at e3
              obtain ⟨w1, w2, w3⟩ := dk7.wr hs7 (ws := accv ++ [w])
              exact ⟨accv, dk7.at_, by rw [← ra7.len]; exact Nat.lt_of_lt_of_le hz (by decide), hlt, F7, ρ7, cs7, acc ++ [z], accv ++ [w], StpU.trans tt7 w2 (fun x z => .inl z), w1, hl7.wrD hnD, w3, ra7.append (.cons r7 .nil), e3⟩
            · rw [if_neg hz] at e3
              exact (bad e3 rfl).elim
  · left
    have hi2 : i = xs.length := by omega
    subst hi2
    rw [List.drop_length] at e3
    refine ⟨k2, ?_⟩
    have hp2 : Pst g W σ (Rel g) F1 ρ1 H1 (r0.then fun ys cs' => .ok (.lst ys) cs') Q := hp1
    rw [show r0 = .ok acc cs3 from e3.symm] at hp2
    have fm : ∀ b u, F3 b = some u → upd F3 D (.lst accv) b = some u := fun b u h => upd_none dk3.nf h
    have t1 : StpU (fun a => a = D) F1 ρ1 H1 (upd F3 D (.lst accv)) ρ3 H3 := by
      have t2 : StpU (fun a => a = D) F3 ρ3 H3 (upd F3 D (.lst accv)) ρ3 H3 := ⟨fm, fun b h h' => by
        by_cases z : b = D
        · right; exact .inl z
        · rw [upd_ne z] at h; exact absurd h' h, ⟨[], by simp⟩, fun b h h' => absurd h h', fun b u h _ _ _ => h, fun _ h => h⟩
      exact StpU.trans (StpU.trans st2.u st3 (fun x z => .inl z)) t2 (fun x z => .inl z)
    have t3 : Stp F1 ρ1 H1 (upd F3 D (.lst accv)) ρ3 H3 := by
      refine ⟨t1.fz, fun a h h' => ?_, t1.rp, fun a h h' => ?_, fun a u h nt hr _ => t1.fr a u h nt hr (fun z => ?_), t1.dm⟩
      · rcases t1.fn a h h' with z | z | z
        · exact .inl z
        · left; rw [z]; exact hD
        · exact .inr (.inr z)
      · rcases t1.rn a h h' with z | z
        · exact .inl z
        · left; rw [z]; exact hD
      · rw [z, hD] at h; cases h
    have hs9 : Sim g (upd F3 D (.lst accv)) ρ3 cs3 H3 := by
      refine ⟨fun b u h => ?_, hs3.len, hs3.nd, hs3.av, fun n c b e1 e2 e3 => ?_, fun n c b e1 e2 => (hs3.ok n c b e1 e2).mono fm ⟨[], by simp⟩, hs3.tb, hs3.nx, ft_upd hs3.ft (fun _ z => by cases z)⟩
      · by_cases z : b = D
        · subst z
          rw [upd_same] at h
          rw [dk3.at_, h]
        · rw [upd_ne z] at h; exact hs3.fz b u h
      · rw [upd_ne (fun z => dk3.nr (by rw [← z]; exact List.mem_of_getElem? e2))]
        exact hs3.lv n c b e1 e2 e3
    refine hp2 _ ρ3 H3 _ t3 hs9 ?_
    simp only [Rel]
    exact ⟨D, accv, rfl, upd_same, ra3.mono fm ⟨[], by simp⟩⟩
theorem je_lc (hc : X.calm = true) (hN : X.N.Nodup) (hi : JI X n W tg iter mi) (ok : BlkOk X.N X.env.scope scope own) (hix : ∀ j ∈ ix, j ∈ own.map (·.2))
    (hg : ∀ (s : Shared) (H : Hp) (C : Addr) (cl : List (Str × Addr)) (fp : List Addr), JG (X.blk s H scope (compEnvC scope cl C X.env) fp) tg ix gm) (ht : ∀ (s : Shared) (H : Hp) (C : Addr) (cl : List (Str × Addr)) (fp : List Addr), JTs (X.blk s H scope (compEnvC scope cl C X.env) fp) n W0 ifs mt)
    (he : ∀ (s : Shared) (H : Hp) (C : Addr) (cl : List (Str × Addr)) (fp : List Addr), JE (X.blk s H scope (compEnvC scope cl C X.env) fp) n W0 elt me) (hs : ∀ x, foldedSetIterable iter X.env x = pure x := by intro _; rfl) :
    JE X n W (.ListComp elt [⟨tg, iter, ifs, 0⟩] scope pos) (eLc mi gm mt me (own.map (·.2))) := by
  refine pe_imp (pe_lc (own := own) (g := tGm (gx X) ix gm) (tt := tG (gx X) n W0 RB mt) (te := tG (gx X) n W0 (Rel (gx X)) me) hc hN hi ok (fun s H C cl fp => hg s H C cl fp) (fun s H C cl fp => ht s H C cl fp) (fun s H C cl fp => he s H C cl fp) hs) fun σ H Q h => lc_run hix h
theorem js_setLc {i : Nat} {y : Str} {py spos : Pos} (hy : X.N[i]? = some y) (hyl : X.env.scope.names.lookup y = some .local) (hsw : swapsWith (.ListComp elt [⟨tg, iter, ifs, 0⟩] scope pos) (some (.Name y py)) spos.line X.env = pure true) (hc : X.calm = true) (hN : X.N.Nodup) (hi : JI X n W tg iter mi) (ok : BlkOk X.N X.env.scope scope own) (hix : ∀ j ∈ ix, j ∈ own.map (·.2))
    (hg : ∀ (s : Shared) (H : Hp) (C : Addr) (cl : List (Str × Addr)) (fp : List Addr), JG (X.blk s H scope (compEnvC scope cl C X.env) fp) tg ix gm) (ht : ∀ (s : Shared) (H : Hp) (C : Addr) (cl : List (Str × Addr)) (fp : List Addr), JTs (X.blk s H scope (compEnvC scope cl C X.env) fp) n W0 ifs mt)
    (he : ∀ (s : Shared) (H : Hp) (C : Addr) (cl : List (Str × Addr)) (fp : List Addr), JE (X.blk s H scope (compEnvC scope cl C X.env) fp) n W0 elt me) (hs : ∀ x, foldedSetIterable iter X.env x = pure x := by intro _; rfl) :
    JS X n W (.Assign [.Name y py] (.ListComp elt [⟨tg, iter, ifs, 0⟩] scope pos) spos) (sSet i (eLc mi gm mt me (own.map (·.2)))) := by
  refine ps_imp (ps_setLc (own := own) (g := tGm (gx X) ix gm) (tt := tG (gx X) n W0 RB mt) (te := tG (gx X) n W0 (Rel (gx X)) me) hc hN hy hyl hsw hi ok (fun s H C cl fp => hg s H C cl fp) (fun s H C cl fp => ht s H C cl fp) (fun s H C cl fp => he s H C cl fp) hs) fun D σ H h => lc_run hix (sSet_run h)
end
end SL

set_option Elab.async false
set_option linter.all false
set_option autoImplicit false
set_option maxRecDepth 100000
set_option maxHeartbeats 4000000
/-! SLFn: a def by its body; the law's end. -/
namespace SL
open PySem PySem.Spec L2
open PyProof.Rows hiding St
def startI (k : Nat) (xs : List IV) : List SV := xs.map SV.v ++ List.replicate (k - xs.length) SV.un
/-- a def's mirror, by its body's -/
def fnM (k : Nat) (b : SM) : FM := fun n xs cs => match b n (startI k xs) cs with
  | .next _ cs' => .ok .non cs'
  | .ret x cs' => .ok x cs'
  | .ex e _ cs' => .ex e cs'
  | _ => .stuck
section
variable {P : Program} {w : World} {K : PySem.W.Frag} {mg : Str → Option Value} {base : Heap} {n k : Nat}
theorem start_rel {g : Gx} {F : Hp} {ρ : List Addr} {H : Hp} : ∀ (N : List Str) {xs : List IV} {vs : List V}, RelL g F ρ xs vs → Slts g F ρ H (startI N.length xs) (L2.start N vs) := by
  intro N xs vs r
  have hl := r.len
  refine ⟨by unfold startI L2.start; simp [hl], fun i s e => ?_, fun i j ys zs a e => ?_⟩
  · unfold startI at e
    by_cases hi : i < xs.length
    · rw [List.getElem?_append_left (by simpa using hi), List.getElem?_map] at e
      obtain ⟨x, e1, rfl⟩ := Option.map_eq_some_iff.mp e
      obtain ⟨v, e2, r2⟩ := r.get e1
      refine ⟨v, ?_, r2⟩
      unfold L2.start
      rw [List.getElem?_append_left (by rw [List.length_map, ← hl]; exact hi), List.getElem?_map, e2]
      rfl
    · rw [List.getElem?_append_right (by simpa using hi), List.getElem?_replicate] at e
      split at e
      · cases e; trivial
      · cases e
  · unfold startI at e
    by_cases hi : i < xs.length
    · rw [List.getElem?_append_left (by simpa using hi), List.getElem?_map] at e
      obtain ⟨x, e1, e2⟩ := Option.map_eq_some_iff.mp e
      cases e2
    · rw [List.getElem?_append_right (by simpa using hi), List.getElem?_replicate] at e
      split at e <;> cases e
theorem start_own {N : List Str} {xs : List IV} {vs : List V} {a : Addr} (h : Own (startI N.length xs) (L2.start N vs) a) : False := by
  obtain ⟨i, ys, e, _⟩ := h
  unfold startI at e
  by_cases hi : i < xs.length
  · rw [List.getElem?_append_left (by simpa using hi), List.getElem?_map] at e
    obtain ⟨x, e1, e2⟩ := Option.map_eq_some_iff.mp e
    cases e2
  · rw [List.getElem?_append_right (by simpa using hi), List.getElem?_replicate] at e
    split at e <;> cases e
/-- a body's mirror tells what the def gives -/
theorem body_run {g : Gx} {N : List Str} {bm : SM} {vs : List V} {H : Hp} {Q : VK} {E : XK} (h : spM g n (fnM N.length bm) vs H Q E) : tS g n (fun cls d _ H' => E cls d H') bm { nx := fun _ H' => Q .non H', rt := Q } (L2.start N vs) H := by
  obtain ⟨F, ρ, cs, xs, hs, r, hp⟩ := h
  refine ⟨F, ρ, cs, _, hs, start_rel N r, ?_⟩
  have t0 : ∀ {F' ρ' H'}, StpU (Own (startI N.length xs) (L2.start N vs)) F ρ H F' ρ' H' → Stp F ρ H F' ρ' H' := fun {F' ρ' H'} t =>
    ⟨t.fz, fun a h h' => (t.fn a h h').imp id fun z => z.elim (fun z => (start_own z).elim) .inr, t.rp, fun a h h' => (t.rn a h h').elim .inl fun z => (start_own z).elim, fun a o h nt hr _ => t.fr a o h nt hr fun z => start_own z, t.dm⟩
  unfold fnM at hp
  cases e : bm n (startI N.length xs) cs with
  | next σ' cs' =>
    rw [e] at hp
    exact fun F' ρ' H' σ' t s l o => hp F' ρ' H' .non (t0 t) s (by simp only [Rel])
  | ret x cs' =>
    rw [e] at hp
    exact fun F' ρ' H' v t s r => hp F' ρ' H' v (t0 t) s r
  | ex y σ' cs' =>
    rw [e] at hp
    exact fun F' ρ' H' σ' cls d t s l o r => hp F' ρ' H' cls d (t0 t) s r
  | brk σ' cs' => rw [e] at hp; exact hp.elim
  | cnt σ' cs' => rw [e] at hp; exact hp.elim
  | stuck => rw [e] at hp; exact hp.elim
/-- the context of a def's body -/
abbrev bX (P : Program) (w : World) (K : PySem.W.Frag) (mg : Str → Option Value) (base : Heap) (N : List Str) (qual : Str) (scope : Scope) (f : Addr) (cd : Value) (A : Around) (outer : List Env) (s : Shared) (H : Hp) (E : XK) : Cx := cxOf (L2.CX P w) P w K mg base N qual scope f cd A outer s H E
abbrev bW (E : XK) : WX := fun cls d _ H => E cls d H
theorem tk_b {N : List Str} {qual : Str} {scope : Scope} {f : Addr} {cd : Value} {A : Around} {outer : List Env} {s : Shared} {H : Hp} {E : XK} : Takes (bX P w K mg base N qual scope f cd A outer s H E) (bW E) := takes_of rfl rfl rfl rfl
theorem ps_b {N : List Str} {qual : Str} {scope : Scope} {f : Addr} {cd : Value} {A : Around} {outer : List Env} {s : Shared} {H : Hp} {E : XK} : PassesOwn (model P w) (bX P w K mg base N qual scope f cd A outer s H E).A (bX P w K mg base N qual scope f cd A outer s H E).env (bX P w K mg base N qual scope f cd A outer s H E).xe := passes_of rfl
/-- what a body is to be shown -/
def BodyG (P : Program) (w : World) (K : PySem.W.Frag) (mg : Str → Option Value) (base : Heap) (n k : Nat) (N : List Str) (qual : Str) (scope : Scope) (body : List Stmt) (bm : SM) : Prop :=
  ∀ (f : Addr) (cd : Value) (A : Around) (outer : List Env) (s : Shared) (H : Hp) (E : XK), Room k (bX P w K mg base N qual scope f cd A outer s H E).A → (bX P w K mg base N qual scope f cd A outer s H E).A.guards = some [] → JB (bX P w K mg base N qual scope f cd A outer s H E) n (bW E) body bm
theorem fnG_of {f : Addr} {name qual : Str} {params : Arguments} {body : List Stmt} {scope : Scope} {dV kV doc pm cdv ct oc : Value} {an od : Option Addr} {osl : Array (Option Value)} {N ps : List Str} {bm : SM}
    (lk : K.lookup f = some ⟨oc, od, .func (PySem.W.fnOf name qual params body scope dV kV doc pm an cdv ct), osl⟩) (hcd : PySem.W.codeIn K cdv qual = true) (S : FnScope N ps scope) (hb : BodyG P w K mg base n k N qual scope body bm) :
    FnG P w K mg base n (k + 1) f (PySem.W.fnOf name qual params body scope dV kV doc pm an cdv ct) ps (fnM N.length bm) := by
  refine ⟨fun A outer s H args us vs Q E hr hgd e0 hbd r hl hsp => ?_⟩
  refine LamX.run_ofS lk hcd S hr e0 hbd r hl fun hr' => ?_
  exact ⟨_, hb f cdv A outer s H E hr' (by exact hgd), body_run hsp⟩
/-- a def of the module, found in the written part -/
theorem defG_of {h : Heap} {x : Str} {f : Addr} {st : Stmt} {kV doc pm cdv ct oc : Value} {an od : Option Addr} {osl : Array (Option Value)} {N ps : List Str} {bm : SM} (X : K.In h) (G : h.Ns mainGlobals mg)
    (a1 : PySem.W.nsIn K mainGlobals x = some (some (.ref f))) (lk : K.lookup f = some ⟨oc, od, .func (PySem.W.fnOf x x (defArgs st) (defBody st) (defScope st) .none kV doc pm an cdv ct), osl⟩) (hcd : PySem.W.codeIn K cdv x = true) (kp : PySem.W.keepIn K (.ref f) = true)
    (S : FnScope N ps (defScope st)) (hbd : ∀ us : List Value, us.length = ps.length → bindArgs (PySem.W.fnOf x x (defArgs st) (defBody st) (defScope st) .none kV doc pm an cdv ct) ⟨us, []⟩ = pure (ps.zip us)) (hb : BodyG P w K mg base n k N x (defScope st) (defBody st) bm) :
    DefG P w K mg base n (k + 1) x ps [] (fnM N.length bm) :=
  ⟨f, _, [], [], PySem.W.mg_of X G a1, kp, Binds.all hbd, .nil, fun _ _ => .nil, fnG_of lk hcd S hb⟩
end

/-- a def that makes lambdas: its code object is c -/
def BodyL (P : Program) (w : World) (K : PySem.W.Frag) (mg : Str → Option Value) (base : Heap) (n k : Nat) (N : List Str) (qual : Str) (scope : Scope) (body : List Stmt) (bm : SM) (c : Addr) : Prop :=
  ∀ (f : Addr) (A : Around) (outer : List Env) (s : Shared) (H : Hp) (E : XK), Room k (bX P w K mg base N qual scope f (.ref c) A outer s H E).A → (bX P w K mg base N qual scope f (.ref c) A outer s H E).A.guards = some [] → JB (bX P w K mg base N qual scope f (.ref c) A outer s H E) n (bW E) body bm
section
variable {P : Program} {w : World} {K : PySem.W.Frag} {mg : Str → Option Value} {base : Heap} {n k : Nat}
theorem fnG_ofL {f c : Addr} {name qual : Str} {params : Arguments} {body : List Stmt} {scope : Scope} {dV kV doc pm ct oc : Value} {an od : Option Addr} {osl : Array (Option Value)} {N ps : List Str} {bm : SM}
    (lk : K.lookup f = some ⟨oc, od, .func (PySem.W.fnOf name qual params body scope dV kV doc pm an (.ref c) ct), osl⟩) (hcd : PySem.W.codeIn K (.ref c) qual = true) (S : FnScope N ps scope) (hb : BodyL P w K mg base n k N qual scope body bm c) :
    FnG P w K mg base n (k + 1) f (PySem.W.fnOf name qual params body scope dV kV doc pm an (.ref c) ct) ps (fnM N.length bm) := by
  refine ⟨fun A outer s H args us vs Q E hr hgd e0 hbd r hl hsp => ?_⟩
  refine LamX.run_ofS lk hcd S hr e0 hbd r hl fun hr' => ?_
  exact ⟨_, hb f A outer s H E hr' (by exact hgd), body_run hsp⟩
theorem defG_ofL {h : Heap} {x : Str} {f c : Addr} {st : Stmt} {kV doc pm ct oc : Value} {an od : Option Addr} {osl : Array (Option Value)} {N ps : List Str} {bm : SM} (X : K.In h) (G : h.Ns mainGlobals mg)
    (a1 : PySem.W.nsIn K mainGlobals x = some (some (.ref f))) (lk : K.lookup f = some ⟨oc, od, .func (PySem.W.fnOf x x (defArgs st) (defBody st) (defScope st) .none kV doc pm an (.ref c) ct), osl⟩) (hcd : PySem.W.codeIn K (.ref c) x = true) (kp : PySem.W.keepIn K (.ref f) = true)
    (S : FnScope N ps (defScope st)) (hbd : ∀ us : List Value, us.length = ps.length → bindArgs (PySem.W.fnOf x x (defArgs st) (defBody st) (defScope st) .none kV doc pm an (.ref c) ct) ⟨us, []⟩ = pure (ps.zip us)) (hb : BodyL P w K mg base n k N x (defScope st) (defBody st) bm c) :
    DefG P w K mg base n (k + 1) x ps [] (fnM N.length bm) :=
  ⟨f, _, [], [], PySem.W.mg_of X G a1, kp, Binds.all hbd, .nil, fun _ _ => .nil, fnG_ofL lk hcd S hb⟩
end

/-! ### the law's end -/
/-- what is known of the tables at the start -/
structure TabsOk (K : PySem.W.Frag) (h : Heap) : Prop where
  mt : ∀ p ∈ lamT K, h.get? p.1 = some { cls := .none, data := .fields #[] }
  nk : ∀ p ∈ lamT K, K.lookup p.1 = none
  cd : ∀ p ∈ lamT K, ∃ c, PySem.W.CodeHd h c p.1
/-- what a lambda's making asks of the ground -/
def TabsB (K : PySem.W.Frag) (mg : Str → Option Value) (base : Heap) : Prop := ∀ p ∈ lamT K, base.BuiltinsAt mg p.1 ∧ mainGlobals ≠ p.1
theorem endG {P : Program} {w : World} {K : PySem.W.Frag} {mg mb : Str → Option Value} {k : Nat} {fa a : Addr} {fd : FuncData} {x : Str} {fm : FM} {s₁ : Shared} {vs : List Value} {ns : List Int} {n : Nat} {cs' : List Cell}
    (KX : K.In s₁.heap) (hns : s₁.heap.Ns mainGlobals mg) (hb : s₁.heap.Ns builtinsNs mb) (hbb : ∀ x : Str, x ≠ "__name__" → mb x = bootBuiltins x) (hlim : s₁.heap.NoLimit) (hg : s₁.gens = #[]) (hT : TabsOk K s₁.heap)
    (hbm : ∃ (bm : Addr) (ob : Obj), mg "__builtins__" = some (.ref bm) ∧ bm ≠ builtinsNs ∧ s₁.heap.get? bm = some ob ∧ ob.cls = .type "module" ∧ ob.dict = some builtinsNs ∧ ob.data = .plain)
    (ha : s₁.heap.get? a = some { cls := .type "list", data := .seq vs.toArray }) (hi : IntsAre vs ns) (hl : ns.length ≤ sizeLine) (hr : Room k callerA) (hbind : ∀ (s : Shared) (u : Value), BindsTo s fd ⟨[u], []⟩ [(x, u)])
    (hm : fm n [.rol (ns.map IV.int)] [] = .ok (.bl true) cs') (G : ∀ base : Heap, K.In base → base.Ns mainGlobals mg → TabsB K mg base → FnG P w K mg base n k fa fd [x] fm) :
    codeAny (model P w) callerA (.call (.ref fa) ⟨[.ref a], []⟩) (fun r s' => r = .ok (.ret (.bool true)) ∧ OldK s₁.heap s'.heap ∧ s'.os = s₁.os ∧ AllBare s'.gens) s₁ := by
  have rv := vals_ints hi
  have lenV := hi.length
  have isTb : ∀ b ∈ (lamT K).map (·.1), s₁.heap.get? b = some { cls := .none, data := .fields #[] } := fun b hb => by
    obtain ⟨p, hp, rfl⟩ := List.mem_map.mp hb
    exact hT.mt p hp
  have aT : a ∉ (lamT K).map (·.1) := fun z => by
    have q := isTb a z
    rw [ha] at q
    cases q
  -- the script and the tables, known to the object
  obtain ⟨H, F0, hF0, hF1, hH, hHT, hK, hS⟩ : ∃ H F0 : Hp, (∀ b o, F0 b = some o → H b = some o) ∧ (∀ b ps, F0 b ≠ some (.tbl ps)) ∧ (∀ b u, H b = some u → (b = a ∧ u = .frz { cls := .type "list", data := .seq vs.toArray } (.lst (ns.map V.int))) ∨ (b ∈ (lamT K).map (·.1) ∧ u = .tbl #[])) ∧ (∀ b ∈ (lamT K).map (·.1), H b = some (.tbl #[])) ∧ (H a ≠ none → K.lookup a = none) ∧ SqL K F0 a (ns.map V.int) := by
    cases hk : K.lookup a with
    | some o =>
      have e := KX a o hk
      rw [ha] at e
      cases e
      refine ⟨fun b => if b ∈ (lamT K).map (·.1) then some (.tbl #[]) else none, fun _ => none, fun b o z => (by cases z), fun b ps z => (by cases z), fun b u z => ?_, fun b hb => if_pos hb, fun z => absurd (if_neg aT) z, Or.inr ⟨_, vs.toArray, _, hk, rfl, rfl, rfl, by rw [List.size_toArray, lenV]; exact hl, by simpa using rv⟩⟩
      by_cases hb : b ∈ (lamT K).map (·.1)
      · exact .inr ⟨hb, (Option.some.inj ((if_pos hb).symm.trans z)).symm⟩
      · exact absurd ((if_neg hb).symm.trans z) (by intro z; cases z)
    | none =>
      refine ⟨fun b => if b = a then some (.frz { cls := .type "list", data := .seq vs.toArray } (.lst (ns.map V.int))) else if b ∈ (lamT K).map (·.1) then some (.tbl #[]) else none, fun b => if b = a then some (.frz { cls := .type "list", data := .seq vs.toArray } (.lst (ns.map V.int))) else none, fun b o z => ?_, fun b ps z => ?_, fun b u z => ?_, fun b hb => ?_, fun _ => rfl, .inl (.inr ⟨_, if_pos rfl⟩)⟩
      · by_cases hb : b = a
        · exact (if_pos hb).trans ((if_pos hb).symm.trans z)
        · exact absurd ((if_neg hb).symm.trans z) (by intro z; cases z)
      · by_cases hb : b = a
        · exact absurd ((if_pos hb).symm.trans z) (by intro z; cases z)
        · exact absurd ((if_neg hb).symm.trans z) (by intro z; cases z)
      · by_cases hb : b = a
        · exact .inl ⟨hb, (Option.some.inj ((if_pos hb).symm.trans z)).symm⟩
        · have z1 := (if_neg hb).symm.trans z
          by_cases hb2 : b ∈ (lamT K).map (·.1)
          · exact .inr ⟨hb2, (Option.some.inj ((if_pos hb2).symm.trans z1)).symm⟩
          · exact absurd ((if_neg hb2).symm.trans z1) (by intro z; cases z)
      · exact (if_neg (fun z => aT (by rw [← z]; exact hb))).trans (if_pos hb)
  have hok : HOk P w H s₁.heap := fun b u e => by
    rcases hH b u e with ⟨rfl, rfl⟩ | ⟨hb, rfl⟩
    · exact ⟨ha, by rw [List.length_map]; exact hl, vs, _, rv, ha⟩
    · exact isTb b hb
  have up : ∀ {b : Addr} {o : Obj}, s₁.heap.get? b = some o → H b = none → (hidT s₁.heap H).get? b = some o := fun e z => hidT_get e z
  have free : ∀ {b : Addr} {o : Obj}, s₁.heap.get? b = some o → (∀ vs n, o.data ≠ .seq vs n) → o.data ≠ .fields #[] → H b = none := fun {b o} e d1 d2 => by
    cases q : H b with
    | none => rfl
    | some u =>
      rcases hH b u q with ⟨rfl, _⟩ | ⟨hb, _⟩
      · rw [ha] at e
        cases e
        exact absurd rfl (d1 _ _)
      · rw [isTb b hb] at e
        cases e
        exact absurd rfl d2
  have noList : ∀ {b : Addr} {o : Obj} {es : Array DictEntry} {ep : Nat}, s₁.heap.get? b = some o → o.data = .dict es ep → H b = none := fun {b o es ep} e d =>
    free e (fun vs n z => by rw [d] at z; cases z) (fun z => by rw [d] at z; cases z)
  have nsUp : ∀ {b : Addr} {m : Str → Option Value}, s₁.heap.Ns b m → (hidT s₁.heap H).Ns b m := fun {b m} ⟨o, es, ep, e, d, r⟩ => ⟨o, es, ep, up e (noList e d), d, r⟩
  have KB : K.In (hidT s₁.heap H) := fun b o e => up (KX b o e) (by
    cases q : H b with
    | none => rfl
    | some u =>
      rcases hH b u q with ⟨rfl, _⟩ | ⟨hb, _⟩
      · rw [hK (by rw [q]; intro z; cases z)] at e
        cases e
      · obtain ⟨p, hp, rfl⟩ := List.mem_map.mp hb
        rw [hT.nk p hp] at e
        cases e)
  have TB : TabsB K mg (hidT s₁.heap H) := fun p hp => by
    have hTp := hT.mt p hp
    refine ⟨?_, fun z => ?_⟩
    · obtain ⟨bm, ob, b1, b2, b3, b4, b5, b6⟩ := hbm
      have nG : bm ≠ mainGlobals := fun q => by
        obtain ⟨o, es, ep, e, hd, _⟩ := hns
        rw [q, e] at b3
        cases b3
        rw [hd] at b6
        cases b6
      have nP : bm ≠ p.1 := fun q => by
        rw [q, hTp] at b3
        cases b3
        cases b6
      exact ⟨bm, ob, b1, b2, nG, nP, up b3 (free b3 (fun vs n z => by rw [b6] at z; cases z) (fun z => by rw [b6] at z; cases z)), b4, b5, b6⟩
    · obtain ⟨o, es, ep, e, hd, _⟩ := hns
      rw [z, hTp] at e
      cases e
      cases hd
  have e0 : Env0 P w K mg (hidT s₁.heap H) callerA [] s₁ H :=
    { frames := rfl
      mod := ⟨KB, nsUp hns, ⟨mb, nsUp hb, hbb⟩, let ⟨mc, h1, h2⟩ := hlim; ⟨mc, nsUp h1, h2⟩⟩
      bs := fun b o e => of_hidT e
      bsz := Nat.le_of_eq (hidT_size _ _)
      funs := trivial
      frf := fun b hb => absurd (show b ∈ ([] : List Addr) from hb) (by simp)
      hok := hok
      bare := .of_eq hg }
  have sim : Sim (gK K mg) F0 [] [] H := ⟨hF0, rfl, List.nodup_nil, fun a h => absurd h (by simp), fun n c a h => absurd h (by simp), fun n c a h => absurd h (by simp), fun p hp => LamX.TabS.nil (hHT p.1 (List.mem_map.mpr ⟨p, hp, rfl⟩)), fun a h => absurd h (by simp), hF1⟩
  have ri : ∀ ns : List Int, RelL (gK K mg) F0 [] (ns.map IV.int) (ns.map V.int) := fun ns => by
    induction ns with
    | nil => exact .nil
    | cons z r ih => exact .cons (by simp only [Rel]) ih
  have sp : spM (gK K mg) n fm [.ref a] H (fun v _ => v = .bl true) (fun _ _ _ => False) := by
    refine ⟨F0, [], [], [.rol (ns.map IV.int)], sim, .cons (by simp only [Rel]; exact ⟨a, _, rfl, hS, ri ns⟩) .nil, ?_⟩
    rw [hm]
    exact fun F' ρ' H' v _ _ r => relBl r
  refine codeAny_mono ((G _ KB (nsUp hns) TB).run callerA [] s₁ H ⟨[.ref a], []⟩ [.ref a] [.ref a] _ _ hr rfl e0 (hbind s₁ (.ref a)) (.cons rfl .nil) rfl sp) fun r s' h => ?_
  cases r with
  | error e =>
    obtain ⟨_, _, _, _, _, _, _, _, _, _, _, _, z⟩ := h
    exact z.elim
  | ok fl =>
    cases fl with
    | next => exact False.elim h
    | brk => exact False.elim h
    | cont => exact False.elim h
    | ret u =>
      obtain ⟨v, H', os, bare, un, hok', r', q⟩ := h
      have q' : v = .bl true := q
      subst q'
      obtain rfl : u = Value.bool true := r'
      have same : ∀ b o, b ∉ (lamT K).map (·.1) → s₁.heap.get? b = some o → s'.heap.get? b = some o := fun b o nb e => by
        cases q : H b with
        | none => exact un.keep b o e q (by intro z; exact absurd (show b ∈ ([] : List Addr) from z) (by simp)) (by simp)
        | some u =>
          rcases hH b u q with ⟨_, rfl⟩ | ⟨hb, _⟩
          · have z2 := un.frzs b _ _ q
            obtain ⟨e1, _⟩ := hok b _ q
            obtain ⟨e2, _⟩ := hok' b _ z2
            rw [e] at e1
            cases e1
            exact e2
          · exact absurd hb nb
      have more : ∀ p ∈ lamT K, ∃ ps : Array Value, s'.heap.get? p.1 = some { cls := .none, data := .fields ps } := fun p hp => by
        obtain ⟨ps, z⟩ := un.tbls p.1 #[] (hHT p.1 (List.mem_map.mpr ⟨p, hp, rfl⟩))
        exact ⟨_, hok' p.1 _ z⟩
      refine ⟨rfl, ⟨fun b o e => ?_, fun b o e => ?_⟩, os, bare⟩
      · by_cases hb : b ∈ (lamT K).map (·.1)
        · obtain ⟨p, hp, rfl⟩ := List.mem_map.mp hb
          obtain ⟨ps, hm⟩ := more p hp
          obtain ⟨c, hc⟩ := hT.cd p hp
          rw [hT.mt p hp] at e
          cases e
          exact .inr (.inl ⟨(hc.tab (hT.mt p hp)).isCodeTable, rfl, #[], ps, rfl, by rw [Array.empty_append]; exact hm⟩)
        · exact .inl (same b o hb e)
      · by_cases hb : b ∈ (lamT K).map (·.1)
        · obtain ⟨p, hp, rfl⟩ := List.mem_map.mp hb
          obtain ⟨ps, hm⟩ := more p hp
          exact ⟨_, hm⟩
        · exact ⟨o, same b o hb e⟩
/-- a table of a def of the top -/
theorem tabsOk_of {p : Program} {loose : List Str} {mean : ExcName → Option Value} {mg mb : Str → Option Value} {K : PySem.W.Frag} {h : Heap} (T : Top p loose mean mg mb h) (X : K.In h) (hr : ∀ x ∈ lamNames, ((recsOf p).find? (fun e => e.name == x)).isSome = true)
    (hn : ∀ x ∈ lamNames, ∃ c P, PySem.W.tabIn K x = some (c, P) ∧ K.lookup P = none) : TabsOk K h := by
  have key : ∀ q ∈ lamT K, ∃ x c, x ∈ lamNames ∧ PySem.W.tabIn K x = some (c, q.1) ∧ K.lookup q.1 = none := fun q hq => by
    obtain ⟨x, hx, e⟩ := List.mem_filterMap.mp hq
    obtain ⟨c, P, e1, e2⟩ := hn x hx
    rw [e1] at e
    simp only [Option.map_some, Option.some.injEq] at e
    rw [← e]
    exact ⟨x, c, hx, e1, e2⟩
  have tab : ∀ q ∈ lamT K, (∃ c, PySem.W.CodeHd h c q.1) ∧ h.get? q.1 = some { cls := .none, data := .fields #[] } := fun q hq => by
    obtain ⟨x, c, hx, e1, _⟩ := key q hq
    obtain ⟨d, hd⟩ := Option.isSome_iff_exists.mp (hr x hx)
    obtain ⟨h1, h2⟩ := PySem.W.tab_of T X hd e1
    exact ⟨⟨c, h1⟩, h2⟩
  exact ⟨fun q hq => (tab q hq).2, fun q hq => by obtain ⟨_, _, _, _, e⟩ := key q hq; exact e, fun q hq => (tab q hq).1⟩
theorem walkG {l : PySem.W.OpenLaw} {n k : Nat} {q : Program} {loose : List Str} {XP : (Str → Option Value) → Heap → Prop} {YP : World → Heap → Prop} {d : DefRec} {K : Params → PySem.W.Frag} {x : Str}
    (hn : l.most = some n) (hn2 : n ≤ sizeLine) (hdf : d.params.defaults = []) (hr : Room k callerA) (hY : ∀ (w : World) (h : Heap), YP w h → (K w.params).In h) (hq : ∀ x ∈ lamNames, ((recsOf q).find? (fun e => e.name == x)).isSome = true)
    (F : ∀ (w : World) (mg : Str → Option Value) (fa : Addr) (h : Heap), (K w.params).In h → h.Ns mainGlobals mg → mg d.name = some (.ref fa) → (∀ x ∈ lamNames, ∃ c P, PySem.W.tabIn (K w.params) x = some (c, P) ∧ (K w.params).lookup P = none) ∧
      ∃ (fd : FuncData) (fm : FM), (∀ (s : Shared) (u : Value), BindsTo s fd ⟨[u], []⟩ [(x, u)]) ∧ (∀ ns : List Int, ns.length ≤ n → (∀ z ∈ ns, Builtin.Int.intBits z ≤ 1048576) → ∃ fuel cs', fm fuel [.rol (ns.map IV.int)] [] = .ok (.bl true) cs') ∧
        ∀ (fuel : Nat) (base : Heap), (K w.params).In base → base.Ns mainGlobals mg → TabsB (K w.params) mg base → FnG l.prog w (K w.params) mg base fuel k fa fd [x] fm) :
    PySem.W.WalkO q loose XP YP l.row.toRowW d [] (fun f vs => PySem.call f vs) := by
  refine Att.attach_callB hn hdf fun w s₀ s₁ mg mb fa o pm cd doc a vs ns G Y ho hd hcd hmg hobj hints hlen hbits hg => ?_
  have KX := hY w _ Y
  obtain ⟨ht, fd, fm, hb, hm, hF⟩ := F w mg fa _ KX G.T.g hmg
  obtain ⟨fuel, cs', e⟩ := hm ns hlen hbits
  exact endG KX G.T.g G.T.b G.T.builtins G.T.nolimit hg (tabsOk_of G.T KX hq ht) G.T.bmain hobj hints (Nat.le_trans hlen hn2) hr hb e (hF fuel)
end SL

set_option Elab.async false
set_option linter.all false
set_option autoImplicit false
set_option maxRecDepth 100000
set_option maxHeartbeats 4000000
/-! SLMatch: match; dicts that stand still. -/
namespace SL
open PySem PySem.Spec L2
open PyProof.Rows hiding St
/-! ### match -/
def JC (X : Cx) (n : Nat) (W : WX) (cases : List MatchCase) (k : IV → SM) : Prop :=
  ∀ (pins : List (Addr × Obj)) (s : Shared) (σ : St) (H : Hp) (D : Ends) (v : V) (u : Value) (first : Bool), Inv X pins σ H s → RelV v u → (∃ F ρ cs σi x, Sim (gx X) F ρ cs H ∧ Slts (gx X) F ρ H σi σ ∧ Rel (gx X) F ρ x v ∧ PstS (gx X) W (Own σi σ) F ρ H (k x n σi cs) D) →
    wpAny (model X.prog X.w) X.A (matchCases cases X.env u first) (SP X pins D) X.xe s
def kNil : IV → SM := fun _ => sNext
def kVal (c : IV) (b : SM) (r : IV → SM) : IV → SM := fun x n σ cs => match cEq x c with
  | some (.bl true) => b n σ cs
  | some (.bl false) => r x n σ cs
  | _ => .stuck
def kAny (b : SM) : IV → SM := fun _ => b
def sMatch (m : M IV) (k : IV → SM) : SM := fun n σ cs => thenS (m n σ cs) σ fun x cs' => k x n σ cs'
section
variable {X : Cx} {n : Nat} {W : WX} {e : Expr} {body : List Stmt} {rest : List MatchCase} {m : M IV} {sb : SM} {k : IV → SM} {pos p p2 : Pos} {c : IV}
theorem jc_nil : JC X n W [] kNil := by
  intro pins s σ H D v u first I r h
  obtain ⟨F, ρ, cs, σi, x, hs, hl, rx, hp⟩ := h
  exact wpAny_matchCases_nil ⟨σ, H, I, hp.nextH StpU.refl hs hl fun x z => .inl z⟩
theorem jc_any (hb : JB X n W body sb) : JC X n W (⟨.MatchAs none none p, none, body⟩ :: rest) (kAny sb) := by
  intro pins s σ H D v u first I r h
  obtain ⟨F, ρ, cs, σi, x, hs, hl, rx, hp⟩ := h
  refine wpAny_matchCases_cons (wpAny_matchPattern_Capture ?_)
  show wpAny _ _ (assignInOrder [] []) _ _ s
  exact wpAny_assignInOrder_none (hb.run pins s σ H D I ⟨F, ρ, cs, σi, hs, hl, hp⟩)
theorem jc_val (hu : X.A.units + 64 < cLine) (he : JE X n W e (M.pure c)) (hb : JB X n W body sb) (hr : JC X n W rest k) : JC X n W (⟨.MatchValue e p, none, body⟩ :: rest) (kVal c sb k) := by
  intro pins s σ H D v u first I r h
  obtain ⟨F, ρ, cs, σi, x, hs, hl, rx, hp⟩ := h
  unfold kVal at hp
  have key : ∃ b, cEq x c = some (.bl b) := by
    split at hp
    · exact ⟨true, by assumption⟩
    · exact ⟨false, by assumption⟩
    · exact hp.elim
  obtain ⟨b, hb2⟩ := key
  rw [hb2] at hp
  refine wpAny_matchCases_cons (wpAny_matchPattern_Value (thn (he.run pins s σ H (fun y H1 => rJ (gx X) cEq v y H1 fun z H2 => z = .bl b ∧ ∃ F' ρ', StpU (Own σi σ) F ρ H F' ρ' H2 ∧ Sim (gx X) F' ρ' cs H2 ∧ Slts (gx X) F' ρ' H2 σi σ ∧ Rel (gx X) F' ρ' x v) I ⟨F, ρ, cs, σi, hs, hl, ?_⟩) fun w s1 ⟨y, H1, I1, ry, q1⟩ => ?_))
  · intro F1 ρ1 H1 y st1 hs1 r1
    refine ⟨F1, ρ1, cs, x, c, .bl b, hs1, rx.stp st1, r1, hb2, fun F2 ρ2 H2 z st2 hs2 r2 => ⟨relBl r2, F2, ρ2, (st1.tr st2).u, hs2, (hl.stp st1).stp st2, (rx.stp st1).stp st2⟩⟩
  · refine thn (oj_eq hu pins s1 σ H1 v y u w _ I1 r ry q1) fun cv s2 ⟨z, H2, I2, rz, ez, F2, ρ2, st2, hs2, hl2, rx2⟩ => ?_
    subst ez
    obtain rfl : cv = Value.bool b := rz
    refine wpAny_truthy_bool ?_
    cases b with
    | true =>
      show wpAny _ _ (assignInOrder [] []) _ _ s2
      exact wpAny_assignInOrder_none (hb.run pins s2 σ H2 D I2 ⟨F2, ρ2, cs, σi, hs2, hl2, PstS.stp hp st2 fun x z => .inl z⟩)
    | false => exact hr pins s2 σ H2 D v u false I2 r ⟨F2, ρ2, cs, σi, x, hs2, hl2, rx2, PstS.stp hp st2 fun x z => .inl z⟩
theorem js_match {cases : List MatchCase} (he : JE X n W e m) (hc : JC X n W cases k) : JS X n W (.Match e cases pos) (sMatch m k) := by
  refine ⟨fun pins s σ H D I h => ?_⟩
  obtain ⟨F, ρ, cs, σi, hs, hl, hp⟩ := h
  refine wpAny_Match (thn (he.run pins s σ H (fun v H1 => ∃ F1 ρ1 cs1 σi1 x, Sim (gx X) F1 ρ1 cs1 H1 ∧ Slts (gx X) F1 ρ1 H1 σi1 σ ∧ Rel (gx X) F1 ρ1 x v ∧ PstS (gx X) W (Own σi1 σ) F1 ρ1 H1 (k x n σi1 cs1) D) I ?_) fun u s1 ⟨v, H1, I1, r1, q1⟩ => hc pins s1 σ H1 D v u true I1 r1 q1)
  exact goS hs hl hp fun v H1 F1 ρ1 cs1 x st1 hs1 hl1 r1 hp1 => ⟨F1, ρ1, cs1, σi, x, hs1, hl1, r1, hp1⟩
end

/-! ### dicts that stand still -/
def keyI : IV → Option Key
  | .int i => some (.inl i)
  | .str s => some (.inr s)
  | _ => none
def putG {α : Type} (kvs : List (Key × α)) (k : Key) (v : α) : List (Key × α) :=
  if (kvs.any fun kv => decide (kv.1 = k)) = true then kvs.map (fun kv => if kv.1 = k then (kv.1, v) else kv) else kvs ++ [(k, v)]
def valG {α : Type} (kvs : List (Key × α)) (k : Key) : Option α := (kvs.find? fun kv => decide (kv.1 = k)).map (·.2)
def mergeG {α : Type} (kvs more : List (Key × α)) : List (Key × α) := more.foldl (fun acc kv => putG acc kv.1 kv.2) kvs
def prsI : List (IV × IV) → Option (List (Key × IV))
  | [] => some []
  | (k, x) :: r => match keyI k, prsI r with
    | some k, some r => some ((k, x) :: r)
    | _, _ => none
def dctI (kvs : List (Key × IV)) : IV := .dct (kvs.map (·.1)) (kvs.map (·.2))
/-- pairs, key by key the same -/
def RelK (g : Gx) (F : Hp) (ρ : List Addr) (a : List (Key × IV)) (b : List (Key × V)) : Prop := a.map (·.1) = b.map (·.1) ∧ RelL g F ρ (a.map (·.2)) (b.map (·.2))
section
variable {g : Gx} {F F' : Hp} {ρ ρ' : List Addr} {H H' : Hp}
theorem RelK.stp {U : Addr → Prop} {a : List (Key × IV)} {b : List (Key × V)} (r : RelK g F ρ a b) (t : StpU U F ρ H F' ρ' H') : RelK g F' ρ' a b := ⟨r.1, r.2.stp t⟩
theorem RelK.nil : RelK g F ρ [] [] := ⟨rfl, .nil⟩
theorem RelK.cons {k : Key} {x : IV} {v : V} {a : List (Key × IV)} {b : List (Key × V)} (r1 : Rel g F ρ x v) (r : RelK g F ρ a b) : RelK g F ρ ((k, x) :: a) ((k, v) :: b) := ⟨by simp [r.1], .cons r1 r.2⟩
theorem RelK.ind {P : List (Key × IV) → List (Key × V) → Prop} (h0 : P [] []) (h1 : ∀ k x v a b, Rel g F ρ x v → RelK g F ρ a b → P a b → P ((k, x) :: a) ((k, v) :: b)) : ∀ {a : List (Key × IV)} {b : List (Key × V)}, RelK g F ρ a b → P a b
  | [], b, r => by
    have := r.1
    cases b with
    | nil => exact h0
    | cons p b => simp at this
  | (k, x) :: a, b, r => by
    obtain ⟨e, rl⟩ := r
    cases b with
    | nil => simp at e
    | cons p b =>
      obtain ⟨k2, v⟩ := p
      simp only [List.map_cons, List.cons.injEq] at e
      obtain ⟨rfl, e⟩ := e
      simp only [List.map_cons, RelL] at rl
      obtain ⟨v', r', e2, r1, r2⟩ := rl
      cases e2
      exact h1 _ _ _ _ _ r1 ⟨e, r2⟩ (RelK.ind h0 h1 ⟨e, r2⟩)
theorem RelK.app {a c : List (Key × IV)} {b d : List (Key × V)} (r : RelK g F ρ a b) (r' : RelK g F ρ c d) : RelK g F ρ (a ++ c) (b ++ d) := by
  refine RelK.ind (P := fun a b => RelK g F ρ (a ++ c) (b ++ d)) r' (fun k x v a b r1 _ ih => ?_) r
  exact RelK.cons r1 ih
theorem RelK.any {a : List (Key × IV)} {b : List (Key × V)} (k : Key) (r : RelK g F ρ a b) : (a.any fun kv => decide (kv.1 = k)) = b.any fun kv => decide (kv.1 = k) := by
  refine RelK.ind (P := fun a b => (a.any fun kv => decide (kv.1 = k)) = b.any fun kv => decide (kv.1 = k)) rfl (fun k2 x v a b r1 _ ih => ?_) r
  rw [List.any_cons, List.any_cons, ih]
theorem RelK.put {a : List (Key × IV)} {b : List (Key × V)} {k : Key} {x : IV} {v : V} (r : RelK g F ρ a b) (rx : Rel g F ρ x v) : RelK g F ρ (putG a k x) (putK b k v) := by
  unfold putG putK
  rw [r.any k]
  split
  · refine RelK.ind (P := fun a b => RelK g F ρ (a.map fun kv => if kv.1 = k then (kv.1, x) else kv) (b.map fun kv => if kv.1 = k then (kv.1, v) else kv)) .nil (fun k2 y w a b r1 _ ih => ?_) r
    rw [List.map_cons, List.map_cons]
    by_cases e : k2 = k
    · rw [if_pos e, if_pos e]
      exact .cons rx ih
    · rw [if_neg e, if_neg e]
      exact .cons r1 ih
  · exact r.app (.cons rx .nil)
theorem RelK.merge {a : List (Key × IV)} {b : List (Key × V)} (r : RelK g F ρ a b) : ∀ {c : List (Key × IV)} {d : List (Key × V)}, RelK g F ρ c d → RelK g F ρ (mergeG c a) (mergeK d b) := by
  refine RelK.ind (P := fun a b => ∀ {c d}, RelK g F ρ c d → RelK g F ρ (mergeG c a) (mergeK d b)) (fun h => h) (fun k x v a b r1 _ ih c d h => ?_) r
  exact ih (h.put r1)
theorem RelK.val {a : List (Key × IV)} {b : List (Key × V)} {k : Key} (r : RelK g F ρ a b) : (∃ x v, valG a k = some x ∧ valV b k = some v ∧ Rel g F ρ x v) ∨ (valG a k = none ∧ valV b k = none) := by
  refine RelK.ind (P := fun a b => (∃ x v, valG a k = some x ∧ valV b k = some v ∧ Rel g F ρ x v) ∨ (valG a k = none ∧ valV b k = none)) (.inr ⟨rfl, rfl⟩) (fun k2 x v a b r1 _ ih => ?_) r
  by_cases e : k2 = k
  · left
    exact ⟨x, v, by simp [valG, e], by simp [valV, e], r1⟩
  · rcases ih with ⟨y, w, h1, h2, h3⟩ | ⟨h1, h2⟩
    · left
      refine ⟨y, w, ?_, ?_, h3⟩
      · rw [← h1]; simp [valG, e]
      · rw [← h2]; simp [valV, e]
    · right
      refine ⟨?_, ?_⟩
      · rw [← h1]; simp [valG, e]
      · rw [← h2]; simp [valV, e]
theorem keyI_rel {x : IV} {v : V} {k : Key} (r : Rel g F ρ x v) (h : keyI x = some k) : v = kV k := by
  cases x with
  | int i => cases h; rw [relInt r]; rfl
  | str s => cases h; rw [relStr r]; rfl
  | _ => cases h
theorem zip_maps {α β : Type} : ∀ l : List (α × β), (l.map (·.1)).zip (l.map (·.2)) = l
  | [] => rfl
  | p :: l => by rw [List.map_cons, List.map_cons, List.zip_cons_cons, zip_maps l]
theorem dct_rel {a : Addr} {kvs : List (Key × IV)} {ws : List (Key × V)} (h : ∃ o, F a = some (.frz o (.dK ws))) (r : RelK g F ρ kvs ws) : Rel g F ρ (dctI kvs) (.ref a) := by
  unfold dctI
  simp only [Rel]
  refine ⟨a, ws.map (·.2), rfl, by rw [List.length_map, List.length_map]; have := congrArg List.length r.1; simpa using this, ?_, r.2⟩
  unfold DctR
  rw [r.1, zip_maps]
  exact h
theorem rel_dct {ks : List Key} {xs : List IV} {v : V} (r : Rel g F ρ (.dct ks xs) v) : ∃ a ws o, v = .ref a ∧ F a = some (.frz o (.dK ws)) ∧ RelK g F ρ (ks.zip xs) ws := by
  simp only [Rel] at r
  obtain ⟨a, vs, rfl, hl, ⟨fo, h1⟩, h2⟩ := r
  have e := h2.len
  refine ⟨a, ks.zip vs, fo, rfl, h1, ?_, ?_⟩
  · rw [List.map_fst_zip (by omega), List.map_fst_zip (by omega)]
  · rw [List.map_snd_zip (by omega), List.map_snd_zip (by omega)]
    exact h2
end
abbrev MPs := List (M IV × M IV)
def mPrs : MPs → M (List (IV × IV))
  | [] => M.pure []
  | (a, b) :: r => a.bind fun x => b.bind fun y => (mPrs r).bind fun ps => M.pure ((x, y) :: ps)
def eDis (ps : MPs) : M IV := (mPrs ps).bind fun ps => M.opt (match prsI ps with
  | some kvs => if kvs.length ≤ 15 then some (dctI (mergeG [] kvs)) else none
  | none => none)
def JPs (X : Cx) (n : Nat) (W : WX) (pos : Pos) (ks : List (Option Expr)) (vs : List Expr) (ps : MPs) : Prop := PPs X pos ks vs (ps.map fun p => (tG (gx X) n W (Rel (gx X)) p.1, tG (gx X) n W (Rel (gx X)) p.2))
def RPs (g : Gx) : RR (List (IV × IV)) (List (V × V)) := fun F ρ a b => RelL g F ρ (a.map (·.1)) (b.map (·.1)) ∧ RelL g F ρ (a.map (·.2)) (b.map (·.2))
section
variable {X : Cx} {n : Nat} {W : WX} {a b e o f : Expr} {ks : List (Option Expr)} {vs : List Expr} {ma mb mo mf m : M IV} {ps : MPs} {pos : Pos}
theorem jps_nil : JPs X n W pos [] [] [] := pps_nil
theorem jps_cons (ha : JE X n W a ma) (hb : JE X n W b mb) (hr : JPs X n W pos ks vs ps) : JPs X n W pos (some a :: ks) (b :: vs) ((ma, mb) :: ps) := pps_cons ha hb hr
theorem prs_run {g : Gx} {σ : St} : ∀ (ps : MPs) {H : Hp} {Q : List (V × V) → Hp → Prop}, tG g n W (RPs g) (mPrs ps) σ H Q → tPairs (ps.map fun p => (tG g n W (Rel g) p.1, tG g n W (Rel g) p.2)) σ H Q
  | [], H, Q, h => by
    obtain ⟨F, ρ, cs, σi, hs, hl, hp⟩ := h
    exact hp F ρ H [] StpU.refl hs ⟨.nil, .nil⟩
  | (a, b) :: r, H, Q, h => by
    obtain ⟨F, ρ, cs, σi, hs, hl, hp⟩ := h
    refine go hs hl hp fun x H1 F1 ρ1 cs1 xi st1 hs1 hl1 r1 hp1 => ?_
    refine go hs1 hl1 hp1 fun y H2 F2 ρ2 cs2 yi st2 hs2 hl2 r2 hp2 => ?_
    refine prs_run r ?_
    refine go hs2 hl2 hp2 fun qs H3 F3 ρ3 cs3 qi st3 hs3 hl3 r3 hp3 => ?_
    exact hp3 F3 ρ3 H3 _ StpU.refl hs3 ⟨.cons ((r1.stp st2).stp st3) r3.1, .cons (r2.stp st3) r3.2⟩
theorem prsI_rel {g : Gx} {F : Hp} {ρ : List Addr} : ∀ {qi : List (IV × IV)} {qs : List (V × V)} {kvs : List (Key × IV)}, RPs g F ρ qi qs → prsI qi = some kvs → ∃ ws : List (Key × V), qs = ws.map (fun kv => (kV kv.1, kv.2)) ∧ RelK g F ρ kvs ws
  | [], qs, kvs, r, h => by
    cases h
    have := r.1.len
    cases qs with
    | nil => exact ⟨[], rfl, .nil⟩
    | cons p q => simp at this
  | (k, x) :: qi, qs, kvs, r, h => by
    simp only [prsI] at h
    split at h
    · rename_i k' r' e1 e2
      cases h
      cases qs with
      | nil => have := r.1.len; simp at this
      | cons p q =>
        obtain ⟨kv, v⟩ := p
        obtain ⟨r1, r2⟩ := r
        simp only [List.map_cons, RelL] at r1 r2
        obtain ⟨_, _, e3, q1, q2⟩ := r1
        obtain ⟨_, _, e4, q3, q4⟩ := r2
        cases e3
        cases e4
        obtain ⟨ws, rfl, rk⟩ := prsI_rel (qi := qi) ⟨q2, q4⟩ e2
        have := keyI_rel q1 e1
        subst this
        exact ⟨(k', v) :: ws, rfl, .cons q3 rk⟩
    · cases h
/-- what e made stands still from now on, if wished -/
theorem pe_frzd {t : TE} (h : PE X e t) : PE X e (fun σ H Q => t σ H fun v H1 => Q v H1 ∨ ∃ d u, H1 d = some u ∧ Mut (some u) ∧ ∀ od, Q v (upd H1 d (.frz od u))) := by
  refine ⟨fun pins s σ H Q I q => thn (h.run pins s σ H _ I q) fun u s1 ⟨v, H1, I1, r, q1⟩ => ?_⟩
  rcases q1 with q1 | ⟨d, o, h1, mu, q1⟩
  · exact ⟨v, H1, I1, r, q1⟩
  · obtain ⟨od, I2⟩ := I1.lock h1 mu
    exact ⟨v, _, I2, r, q1 od⟩
theorem je_dis (h : JPs X n W pos ks vs ps) (hall : ks.all (·.isSome) = true := by rfl) (hl : ks.length = vs.length := by rfl) (h0 : ks ≠ [] := by simp) (h15 : ks.length ≤ 15 := by decide) : JE X n W (.Dict ks vs pos) (eDis ps) := by
  refine pe_imp (pe_frzd (pe_disp h hall hl h0 h15)) fun σ H Q q => ?_
  obtain ⟨F, ρ, cs, σi, hs, hl, hp⟩ := q
  intro p hp0
  obtain ⟨hs1, st1, f1, n1⟩ := hs.lay (o := .dK []) hp0
  refine prs_run ps ?_
  refine ⟨F, ρ, cs, σi, hs1, hl.stp st1, ?_⟩
  have hp1 : Pst (gx X) W σ (Rel (gx X)) F ρ H ((mPrs ps n σi cs).then fun qs cs' => M.opt (match prsI qs with
    | some kvs => if kvs.length ≤ 15 then some (dctI (mergeG [] kvs)) else none
    | none => none) n σi cs') Q := hp
  cases e : mPrs ps n σi cs with
  | stuck => rw [e] at hp1; exact hp1.elim
  | ex y cs' =>
    rw [e] at hp1
    exact fun F' ρ' H' cls d st sm r => hp1 F' ρ' H' cls d (st1.tr st) sm r
  | ok qi cs2 =>
    rw [e] at hp1
    intro F2 ρ2 H2 qs st2 hs2 r2
    obtain ⟨z, hz, q⟩ := pst_opt (n := n) (σi := σi) (o := match prsI qi with
      | some kvs => if kvs.length ≤ 15 then some (dctI (mergeG [] kvs)) else none
      | none => none) hp1
    have dk : H2 p = some (.dK []) ∧ F2 p = none ∧ p ∉ ρ2 := by
      have h2 := st2.fr p _ upd_same (fun ps z => by cases z) n1 (fun z => z)
      refine ⟨h2, ?_, fun z => ?_⟩
      · cases q : F2 p with
        | none => rfl
        | some o =>
          rcases st2.fn p (by rw [q]; intro z; cases z) f1 with z | z | z
          · rw [upd_same] at z; cases z
          · exact z.elim
          · exact absurd z n1
      · rcases st2.rn p z n1 with q | q
        · rw [upd_same] at q; cases q
        · exact q
    split at hz
    · rename_i kvs hk
      split at hz
      · rename_i h15
        cases hz
        obtain ⟨ws, rfl, rk⟩ := prsI_rel r2 hk
        refine ⟨dk.1, ws, rfl, by have := congrArg List.length rk.1; simp at this; omega, .inr ⟨p, _, upd_same, True.intro, fun od => ?_⟩⟩
        rw [upd_upd]
        have t12 := st1.tr st2
        have fm : ∀ b u, F2 b = some u → upd F2 p (.frz od (.dK (mergeK [] ws))) b = some u := fun b u h => upd_none dk.2.1 h
        refine q (upd F2 p (.frz od (.dK (mergeK [] ws)))) ρ2 (upd H2 p (.frz od (.dK (mergeK [] ws)))) _ ⟨fun a o h => fm a o (t12.fz a o h), fun a h h' => ?_, t12.rp, t12.rn, fun a o h nt hr hu => ?_, fun a h => ?_⟩ ⟨fun b u h => ?_, hs2.len, hs2.nd, fun b hb => ?_, fun n c b e1 e2 e3 => by rw [upd_ne (fun z => dk.2.2 (by rw [← z]; exact List.mem_of_getElem? e2))]; exact hs2.lv n c b e1 e2 e3, fun n c b e1 e2 => ?_, tabs_upd hs2.tb (by rw [dk.1]; exact NoX.dK), fun b hb => by rw [upd_ne (fun z => dk.2.2 (by rw [← z]; exact hb))]; exact hs2.nx b hb, ft_upd hs2.ft (fun _ z => by cases z)⟩ ?_
        · by_cases z : a = p
          · left; rw [z]; exact hp0
          · rw [upd_ne z] at h
            exact t12.fn a h h'
        · rw [upd_ne (fun z => by rw [z, hp0] at h; cases h)]
          exact t12.fr a o h nt hr hu
        · by_cases z : a = p
          · rw [z, upd_same]; intro y; cases y
          · rw [upd_ne z]; exact t12.dm a h
        · by_cases z : b = p
          · subst z; rw [upd_same] at h ⊢; exact h
          · rw [upd_ne z] at h ⊢; exact hs2.fz b u h
        · rw [upd_ne (fun z => dk.2.2 (by rw [← z]; exact hb))]
          exact hs2.av b hb
        · rw [upd_ne (fun z => dk.2.2 (by rw [← z]; exact List.mem_of_getElem? e2))]
          exact (hs2.ok n c b e1 e2).mono fm ⟨[], by simp⟩
        · refine dct_rel ⟨od, upd_same⟩ ?_
          have rk2 : RelK (gx X) (upd F2 p (.frz od (.dK (mergeK [] ws)))) ρ2 kvs ws := ⟨rk.1, rk.2.mono fm ⟨[], by simp⟩⟩
          exact rk2.merge .nil
      · cases hz
    · cases hz
/-- {} -/
theorem je_dis0 : JE X n W (.Dict [] [] pos) (M.pure (.dct [] [])) := by
  refine pe_imp (pe_frzd pe_dnewK) fun σ H Q q => ?_
  obtain ⟨F, ρ, cs, σi, hs, hl, hp⟩ := q
  intro p hp0
  refine .inr ⟨p, _, upd_same, True.intro, fun od => ?_⟩
  rw [upd_upd]
  obtain ⟨hs', st⟩ := hs.new (o := .frz od (.dK [])) hp0
  exact hp _ ρ _ _ st hs' (dct_rel (kvs := []) ⟨od, upd_same⟩ .nil)
def dgetI (x y : IV) : Option (Option IV) := match x with
  | .dct ks xs => (keyI y).map fun k => valG (ks.zip xs) k
  | _ => none
def isDct : IV → Bool
  | .dct _ _ => true
  | _ => false
def eGet1 (mo m : M IV) : M IV := mo.bind fun x => if isDct x = true then m.bind fun y => M.opt ((dgetI x y).map fun r => r.getD .non) else fun _ _ _ => .stuck
def eGet2 (mo m mf : M IV) : M IV := mo.bind fun x => if isDct x = true then m.bind fun y => mf.bind fun z => M.opt ((dgetI x y).map fun r => r.getD z) else fun _ _ _ => .stuck
theorem dget_rel {g : Gx} {F : Hp} {ρ : List Addr} {cs : List Cell} {H : Hp} {a : Addr} {ws : List (Key × V)} {ks : List Key} {xs : List IV} {y : IV} {v : V} {r : Option IV} (hs : Sim g F ρ cs H) {fo : Obj} (h : F a = some (.frz fo (.dK ws))) (rk : RelK g F ρ (ks.zip xs) ws) (ry : Rel g F ρ y v) (e : dgetI (.dct ks xs) y = some r) :
    ∃ o, DGet H a v o ∧ ((∃ x w, r = some x ∧ o = some w ∧ Rel g F ρ x w) ∨ (r = none ∧ o = none)) := by
  obtain ⟨k, e1, rfl⟩ := Option.map_eq_some_iff.mp e
  have := keyI_rel ry e1
  subst this
  refine ⟨valV ws k, .inl ⟨ws, k, .inr ⟨fo, hs.fz _ _ h⟩, rfl, rfl⟩, ?_⟩
  rcases rk.val (k := k) with ⟨x, w, h1, h2, h3⟩ | ⟨h1, h2⟩
  · exact .inl ⟨x, w, h1, h2, h3⟩
  · exact .inr ⟨h1, h2⟩
theorem je_get1 {ap cp : Pos} (hu : X.A.units + 1 < cLine) (ho : JE X n W o mo) (he : JE X n W e m) (m1 : M1 X o "get" ap e cp := by exact ⟨rfl, rfl, rfl, rfl⟩) : JE X n W (.Call (.Attribute o "get" ap) [e] [] cp) (eGet1 mo m) := by
  refine pe_imp (pe_dget1 hu ho he m1) fun σ H Q q => ?_
  obtain ⟨F, ρ, cs, σi, hs, hl, hp⟩ := q
  refine go hs hl hp fun x H1 F1 ρ1 cs1 xi st1 hs1 hl1 r1 hp1 => ?_
  cases xi with
  | dct ks xs =>
    obtain ⟨a, ws, fo, rfl, h1, rk⟩ := rel_dct r1
    replace hp1 : Pst (gx X) W σ (Rel (gx X)) F1 ρ1 H1 ((m n σi cs1).then fun y cs2 => M.opt ((dgetI (.dct ks xs) y).map fun r => r.getD .non) n σi cs2) Q := hp1
    refine ⟨a, rfl, .inl ⟨ws, .inr ⟨fo, hs1.fz _ _ h1⟩⟩, ?_⟩
    refine go hs1 hl1 hp1 fun y H2 F2 ρ2 cs2 yi st2 hs2 hl2 r2 hp2 => ?_
    obtain ⟨z, hz, q⟩ := pst_opt hp2
    obtain ⟨r, e, rfl⟩ := Option.map_eq_some_iff.mp hz
    obtain ⟨o, d, k⟩ := dget_rel hs2 (st2.fz _ _ h1) (rk.stp st2) r2 e
    refine ⟨o, d, ?_⟩
    rcases k with ⟨x, w, rfl, rfl, rx⟩ | ⟨rfl, rfl⟩
    · exact q F2 ρ2 H2 _ StpU.refl hs2 rx
    · exact q F2 ρ2 H2 _ StpU.refl hs2 (by simp only [Option.getD, Rel])
  | _ => exact hp1.elim
theorem je_get2 {ap cp : Pos} (hu : X.A.units + 1 < cLine) (ho : JE X n W o mo) (he : JE X n W e m) (hf : JE X n W f mf) (m2 : M2 X o "get" ap e f cp := by exact ⟨rfl, rfl, rfl, rfl⟩) : JE X n W (.Call (.Attribute o "get" ap) [e, f] [] cp) (eGet2 mo m mf) := by
  refine pe_imp (pe_dget2 hu ho he hf m2) fun σ H Q q => ?_
  obtain ⟨F, ρ, cs, σi, hs, hl, hp⟩ := q
  refine go hs hl hp fun x H1 F1 ρ1 cs1 xi st1 hs1 hl1 r1 hp1 => ?_
  cases xi with
  | dct ks xs =>
    obtain ⟨a, ws, fo, rfl, h1, rk⟩ := rel_dct r1
    replace hp1 : Pst (gx X) W σ (Rel (gx X)) F1 ρ1 H1 ((m n σi cs1).then fun y cs2 => (mf n σi cs2).then fun z cs3 => M.opt ((dgetI (.dct ks xs) y).map fun r => r.getD z) n σi cs3) Q := hp1
    refine ⟨a, rfl, .inl ⟨ws, .inr ⟨fo, hs1.fz _ _ h1⟩⟩, ?_⟩
    refine go hs1 hl1 hp1 fun y H2 F2 ρ2 cs2 yi st2 hs2 hl2 r2 hp2 => ?_
    refine go hs2 hl2 hp2 fun zv H3 F3 ρ3 cs3 zi st3 hs3 hl3 r3 hp3 => ?_
    obtain ⟨z, hz, q⟩ := pst_opt hp3
    obtain ⟨r, e, rfl⟩ := Option.map_eq_some_iff.mp hz
    obtain ⟨o, d, k⟩ := dget_rel hs3 (st3.fz _ _ (st2.fz _ _ h1)) ((rk.stp st2).stp st3) (r2.stp st3) e
    refine ⟨o, d, ?_⟩
    rcases k with ⟨x, w, rfl, rfl, rx⟩ | ⟨rfl, rfl⟩
    · exact q F3 ρ3 H3 _ StpU.refl hs3 rx
    · exact q F3 ρ3 H3 _ StpU.refl hs3 r3
  | _ => exact hp1.elim
end
end SL

set_option Elab.async false
set_option linter.all false
set_option autoImplicit false
set_option maxRecDepth 100000
set_option maxHeartbeats 4000000
/-! SLMore: turned round; written dicts; comprehensions stored. -/
namespace SL
open PySem PySem.Spec L2
open PyProof.Rows hiding St
section
variable {prog : Program} {w : World} {A : Around} {E : Value → Shared → Prop} {s : Shared}
theorem adjRev (n : Nat) : Builtin.Slice.sliceAdjust none none (-1) (n : Int) = ((n : Int) - 1, -1) := by
  unfold Builtin.Slice.sliceAdjust
  simp
theorem plcRev (n : Nat) : Builtin.Slice.slicePlaces ((n : Int) - 1) (-1) (-1) = n := by
  unfold Builtin.Slice.slicePlaces
  have h1 : ¬ ((-1 : Int) > 0) := by omega
  rw [if_neg h1]
  by_cases h : ((n : Int) - 1) > -1
  · rw [if_pos h]
    have e : ((n : Int) - 1 - -1 - 1) / (- -1) = (n : Int) - 1 := by
      rw [show (- -1 : Int) = 1 from rfl, Int.ediv_one]
      omega
    rw [e]
    omega
  · rw [if_neg h]
    have : n = 0 := by omega
    rw [this]
    rfl
theorem pickRev (xs : Array Value) : ((List.range xs.size).filterMap fun (k : Nat) => xs[((xs.size : Int) - 1 + (k : Int) * -1).toNat]?).toArray = xs.toList.reverse.toArray := by
  congr 1
  apply List.ext_getElem?
  intro i
  have e : (List.range xs.size).filterMap (fun (k : Nat) => xs[((xs.size : Int) - 1 + (k : Int) * -1).toNat]?) = (List.range xs.size).map fun k => xs.toList.getD (xs.size - 1 - k) .none := by
    have : ∀ l : List Nat, (∀ k ∈ l, k < xs.size) → l.filterMap (fun (k : Nat) => xs[((xs.size : Int) - 1 + (k : Int) * -1).toNat]?) = l.map fun k => xs.toList.getD (xs.size - 1 - k) .none := by
      intro l
      induction l with
      | nil => intro _; rfl
      | cons k l ih =>
        intro h
        have hk := h k List.mem_cons_self
        have hi : ((xs.size : Int) - 1 + (k : Int) * -1).toNat = xs.size - 1 - k := by omega
        have hlt : xs.size - 1 - k < xs.size := by omega
        rw [List.filterMap_cons, hi, Array.getElem?_eq_getElem hlt, List.map_cons, ih fun j hj => h j (List.mem_cons_of_mem _ hj)]
        simp [List.getD, hlt]
    exact this _ fun k hk => List.mem_range.mp hk
  rw [e, List.getElem?_map]
  by_cases hi : i < xs.size
  · rw [List.getElem?_range hi, List.getElem?_reverse (by simpa using hi)]
    simp [List.getD, show xs.size - 1 - i < xs.size by omega]
  · rw [List.getElem?_eq_none (by simpa using hi), List.getElem?_eq_none (by simpa using hi)]
    rfl
theorem item_tup_rev {t sl : Addr} {items : Array Value} {u : Tok} {Q : Value → Shared → Prop} (ht : IsTup s.heap t items) (hs : s.heap.IsSliceOf sl .none .none (.int (-1) u))
    (h : Q (.ref s.heap.objs.size) { s with heap := s.heap.push { cls := .type "tuple", data := .seq items.toList.reverse.toArray } }) (hsz : items.size ≤ sizeLine) : wpAny (model prog w) A (getItem (.ref t) (.ref sl)) Q E s := by
  have hok : sizeOk (.seq items.toList.reverse.toArray) := by
    show items.toList.reverse.toArray.size ≤ sizeLine
    rw [List.size_toArray, List.length_reverse, Array.length_toList]
    exact hsz
  obtain ⟨os, hos, hcs, hds⟩ := id hs
  have hTs : s.TypeIs (.ref sl) "slice" := ⟨os, hos, hcs⟩
  unfold getItem
  try with_reducible refine wpAny_holding ?_
  first | refine wpAny_bind (wpAny_pure ?_) | skip
  refine wpAny_bind (wpAny_sequenceKey ht.typeIs (by decide) ?_)
  refine wpAny_bind (wpAny_callSpecial?_slot (name := Str.ofString "__getitem__") ht.typeIs PyProof.Rows.slot_tuple_getitem
    (wpAny_call_entry PyProof.Rows.slot_tuple_getitem ht.typeIs entry_tuple_getitem ?_ (args_tuple_getitem _ _)))
  show wpAny _ _ (Builtin.Tuple.tupleItemsOf (.ref t) >>= _) _ _ s
  refine wpAny_bind (tupleItemsOf_ ht ?_)
  refine wpAny_bind (wpAny_typeOf hTs ?_)
  rw [if_pos (by decide)]
  unfold Builtin.Slice.sliceApplied Builtin.Slice.sliceFields
  refine wpAny_bind (wpAny_bind (wpAny_bind (wpAny_field hos hds (x := .none) rfl (wpAny_bind (wpAny_field hos hds (x := .none) rfl (wpAny_bind (wpAny_field hos hds (x := .int (-1) u) rfl (wpAny_pure ?_))))))))
  refine wpAny_bind (slicePart_int ?_)
  show wpAny _ _ (if ((-1 : Int) == 0) = true then _ else _) _ _ s
  rw [if_neg (by decide)]
  refine wpAny_bind (slicePart_none (wpAny_bind (slicePart_none (wpAny_bind (wpAny_pure ?_)))))
  show wpAny _ _ (match Builtin.Slice.sliceAdjust none none (-1) (items.size : Int) with | (lo, hi) => pure (lo, (-1 : Int), Builtin.Slice.slicePlaces lo hi (-1))) _ _ s
  rw [adjRev]
  show wpAny _ _ (pure ((items.size : Int) - 1, (-1 : Int), Builtin.Slice.slicePlaces ((items.size : Int) - 1) (-1) (-1))) _ _ s
  rw [plcRev]
  refine wpAny_pure ?_
  show wpAny _ _ (if ((((items.size : Int) - 1) == 0 && (-1 : Int) == 1 && items.size == items.size) = true) then _ else _) _ _ s
  rw [if_neg (by simp), pickRev]
  first
    | exact wpAny_bind (m := Builtin.Tuple.tupleExact _) (wpAny_newObj_type (wpAny_pure ⟨_, rfl, wpAny_pure h⟩) hok)
    | exact wpAny_bind (m := Builtin.Tuple.tupleExact _) (wpAny_newObj_type (wpAny_bind (wpAny_pure (wpAny_pure ⟨_, rfl, wpAny_pure h⟩))) hok)
    | exact wpAny_bind (wpAny_bind (m := Builtin.Tuple.tupleExact _) (wpAny_newObj_type (wpAny_pure (wpAny_pure ⟨_, rfl, wpAny_pure h⟩)) hok))
    | exact wpAny_bind (wpAny_bind (m := Builtin.Tuple.tupleExact _) (wpAny_newObj_type (wpAny_pure ⟨_, rfl, wpAny_pure h⟩) hok))
end
def revI : IV → Option IV
  | .lst xs => some (.lst xs.reverse)
  | .rol xs => some (.lst xs.reverse)
  | .tup xs => some (.tup xs.reverse)
  | _ => none
def eRev (m : M IV) : M IV := m.bind fun x => M.opt (revI x)
section
variable {X : Cx} {n : Nat} {W : WX} {e : Expr} {m : M IV} {pos : Pos}
/-- t[::-1], t a tuple -/
def tRevT (K : PySem.W.Frag) (te : TE) : TE := fun σ H Q => te σ H fun x H1 => ∃ a xs, x = .ref a ∧ SqT K H1 a xs ∧ ∀ p, H1 p = none → Q (.ref p) (upd H1 p (.tup xs.reverse))
theorem pe_revT {te : TE} {k : Nat} {p1 p2 p3 : Pos} (he : PE X e te) : PE X (.Subscript e (.Slice none none (some (.UnaryOp .USub (.Constant (.int 1) k p1) p2)) p3) pos) (tRevT X.K te) := by
  refine ⟨fun pins s σ H Q I h => ?_⟩
  refine Subscript_ (thn (he.run pins s σ H _ I h) fun v s1 ⟨x, H1, I1, r1, a, xs, ex, hx, q⟩ => ?_)
  subst ex
  cases r1
  have hst : PO X (some (.UnaryOp .USub (.Constant (.int 1) k p1) p2)) (tPart (tUn (rU fun i => .int (-i)) (tC (.int 1)))) := po_some (pe_un un_neg pe_int)
  refine wpAny_Slice (thn (po_none.run pins s1 σ H1 (fun o H2 => o = none ∧ H2 = H1) I1 ⟨rfl, rfl⟩) fun vl s2 ⟨l, H2, I2, pl, el, e2⟩ => ?_)
  subst el e2
  refine thn (po_none.run pins s2 σ H2 (fun o H3 => o = none ∧ H3 = H2) I2 ⟨rfl, rfl⟩) fun vu s3 ⟨u, H3, I3, pu, eu, e3⟩ => ?_
  subst eu e3
  refine thn (hst.run pins s3 σ H3 (fun o H4 => o = some (-1) ∧ H4 = H3) I3 ⟨1, rfl, -1, rfl, rfl, rfl⟩) fun vs s4 ⟨o, H4, I4, ps, eo, e4⟩ => ?_
  subst eo e4
  have I5 : Inv X pins σ H4 { s4 with heap := s4.heap.push { cls := .type "slice", data := .fields #[vl, vu, vs] } } := I4.kept (t' := s4.toks) fun b ob q => Heap.get?_push_of_some _ q
  obtain ⟨its, r, ht, hz⟩ := I5.tuple hx
  cases pl
  cases pu
  cases ps with
  | int i t =>
    refine tail_any (ops := [.ref a, .ref s4.heap.objs.size]) ht.typeIs (PyProof.Rows.slot_tuple_getitem.lookup) ?_ (by with_unfolding_all rfl)
    refine item_tup_rev ht (Heap.IsSliceOf.new _ _ _ _) ?_ (by rw [List.size_toArray, ← r.length]; exact hz)
    refine ⟨.ref _, _, I5.laid (t' := s4.toks) (o := .tup xs.reverse) (fun b ob q => Heap.get?_push_of_some _ q) (Nat.le_refl _) ?_, rfl, q _ (I5.hok.fresh (Nat.le_refl _))⟩
    exact ⟨by rw [List.length_reverse]; exact hz, _, r.reverse, _, Heap.get?_push_size _ rfl, rfl, _, rfl⟩
theorem je_rev {k : Nat} {p1 p2 p3 : Pos} (he : JE X n W e m) : JE X n W (.Subscript e (.Slice none none (some (.UnaryOp .USub (.Constant (.int 1) k p1) p2)) p3) pos) (eRev m) := by
  refine ⟨fun pins s σ H Q I q => ?_⟩
  obtain ⟨F, ρ, cs, σi, hs, hl, hp⟩ := q
  have hp0 : Pst (gx X) W σ (Rel (gx X)) F ρ H ((m n σi cs).then fun x cs' => M.opt (revI x) n σi cs') Q := hp
  cases em : m n σi cs with
  | stuck => rw [em] at hp0; exact hp0.elim
  | ex ee cs' =>
    rw [em] at hp0
    exact (pe_revT he).run pins s σ H Q I ⟨F, ρ, cs, σi, hs, hl, by rw [em]; exact hp0⟩
  | ok x cs' =>
    rw [em] at hp0
    cases x with
    | lst xs =>
      refine (pe_revL he).run pins s σ H Q I ⟨F, ρ, cs, σi, hs, hl, ?_⟩
      rw [em]
      intro F' ρ' H' v st sm r
      simp only [Rel] at r
      obtain ⟨a, vs, rfl, h1, h2⟩ := r
      refine ⟨a, vs, rfl, .inl (.inl (sm.fz _ _ h1)), fun p hpn => ?_⟩
      obtain ⟨hs', st'⟩ := sm.new (o := .lst vs.reverse) hpn
      exact hp0 _ _ _ _ (st.tr st') hs' (by simp only [Rel]; exact ⟨p, _, rfl, upd_same, h2.reverse.stp st'⟩)
    | rol xs =>
      refine (pe_revL he).run pins s σ H Q I ⟨F, ρ, cs, σi, hs, hl, ?_⟩
      rw [em]
      intro F' ρ' H' v st sm r
      simp only [Rel] at r
      obtain ⟨a, vs, rfl, h1, h2⟩ := r
      refine ⟨a, vs, rfl, sqL_mono sm.fz h1, fun p hpn => ?_⟩
      obtain ⟨hs', st'⟩ := sm.new (o := .lst vs.reverse) hpn
      exact hp0 _ _ _ _ (st.tr st') hs' (by simp only [Rel]; exact ⟨p, _, rfl, upd_same, h2.reverse.stp st'⟩)
    | tup xs =>
      refine (pe_revT he).run pins s σ H Q I ⟨F, ρ, cs, σi, hs, hl, ?_⟩
      rw [em]
      intro F' ρ' H' v st sm r
      simp only [Rel] at r
      obtain ⟨a, vs, rfl, h1, h2⟩ := r
      refine ⟨a, vs, rfl, sqT_mono sm.fz h1, fun p hpn => ?_⟩
      obtain ⟨hs', st'⟩ := sm.new (o := .tup vs.reverse) hpn
      exact hp0 _ _ _ _ (st.tr st') hs' (by simp only [Rel]; exact ⟨p, _, rfl, .inl (.inl upd_same), h2.reverse.stp st'⟩)
    | _ => exact hp0.elim
def eNeg (m : M IV) : M IV := m.bind fun x => M.opt (match x with
  | .int i => some (.int (-i))
  | _ => none)
theorem je_neg {p : Pos} (he : JE X n W e m) : JE X n W (.UnaryOp .USub e p) (eNeg m) := by
  refine pe_imp (pe_un un_neg he) fun σ H Q q => ?_
  obtain ⟨F, ρ, cs, σi, hs, hl, hp⟩ := q
  refine go hs hl hp fun v H1 F1 ρ1 cs1 x st1 hs1 hl1 r1 hp1 => ?_
  obtain ⟨z, hz, q⟩ := pst_opt hp1
  split at hz
  · cases hz
    exact ⟨_, relInt r1, q F1 ρ1 H1 _ StpU.refl hs1 (by simp only [Rel])⟩
  · cases hz
/-! ### written dicts with text keys -/
def tabV (tab : List (Str × IV)) (z : Str) : Option IV := match tab with
  | [] => none
  | (k, x) :: r => if k = z then some x else tabV r z
/-- the dict at d, and what it holds -/
structure KTab (K : PySem.W.Frag) (w : World) (d : Addr) (tab : List (Str × IV)) : Prop where
  ex : ∃ es n, KDict K w d es n
  val : ∀ z, ∃ r, PySem.W.nsIn K d z = some r ∧ ((tabV tab z = none ∧ r = none) ∨ ∃ x u v, tabV tab z = some x ∧ r = some u ∧ RelV v u ∧ ∀ (g : Gx) F ρ, Rel g F ρ x v)
def eKget (tab : List (Str × IV)) (m : M IV) : M IV := m.bind fun y => M.opt (match y with
  | .str z => some ((tabV tab z).getD .non)
  | _ => none)
def valEq : Value → IV → Prop
  | u, .int i => ∃ t, u = .int i t
  | u, .str s => ∃ t, u = .str s t
  | u, .bl b => u = .bool b
  | u, .non => u = .none
  | _, _ => False
theorem valEq_rel {u : Value} {x : IV} (h : valEq u x) : ∃ v, RelV v u ∧ ∀ (g : Gx) F ρ, Rel g F ρ x v := by
  cases x with
  | int i => exact ⟨.int i, h, fun _ _ _ => by simp only [Rel]⟩
  | str i => exact ⟨.str i, h, fun _ _ _ => by simp only [Rel]⟩
  | bl b => exact ⟨.bl b, h, fun _ _ _ => by simp only [Rel]⟩
  | non => exact ⟨.non, h, fun _ _ _ => by simp only [Rel]⟩
  | _ => exact h.elim
/-- entry by entry -/
def tabEq : List DictEntry → List (Str × IV) → Prop
  | [], [] => True
  | e :: r, (k, x) :: t => (∃ tk, e.key = .str k tk) ∧ valEq e.val x ∧ tabEq r t
  | _, _ => False
theorem ktab_of {K : PySem.W.Frag} {w : World} {d : Addr} {es : List DictEntry} {nn : Nat} {tab : List (Str × IV)} (h1 : K.lookup d = some ⟨.type "dict", none, .dict es.toArray nn, #[]⟩) (h2 : PySem.W.KeysLit w.params es) (h3 : (d == sysModules) = false) (h4 : tabEq es tab) : KTab K w d tab := by
  refine ⟨⟨es.toArray, nn, h1, by simpa using h2, h3⟩, fun z => ?_⟩
  have hn : PySem.W.nsIn K d z = (match es.find? (·.key.isStr z) with
      | some e => some (some e.val)
      | none => if es.any (·.refKey) then none else some none) := by
    unfold PySem.W.nsIn
    rw [h1] <;> rfl
  have hr : ∀ (es : List DictEntry) (tab : List (Str × IV)), tabEq es tab → es.any (·.refKey) = false := by
    intro es
    induction es with
    | nil => intro _ _; rfl
    | cons e r ih =>
      intro tab h
      cases tab with
      | nil => exact h.elim
      | cons p t =>
        obtain ⟨⟨tk, h1⟩, h2, h3⟩ := h
        rw [List.any_cons, ih t h3]
        simp [DictEntry.refKey, h1]
  rw [hn]
  have key : ∀ (es : List DictEntry) (tab : List (Str × IV)), tabEq es tab → (tabV tab z = none ∧ es.find? (·.key.isStr z) = none) ∨ ∃ x e v, tabV tab z = some x ∧ es.find? (·.key.isStr z) = some e ∧ RelV v e.val ∧ ∀ (g : Gx) F ρ, Rel g F ρ x v := by
    intro es
    induction es with
    | nil =>
      intro tab h
      cases tab with
      | nil => exact .inl ⟨rfl, rfl⟩
      | cons p t => exact h.elim
    | cons e r ih =>
      intro tab h
      cases tab with
      | nil => exact h.elim
      | cons p t =>
        obtain ⟨k, x⟩ := p
        obtain ⟨⟨tk, h1⟩, h2, h3⟩ := h
        by_cases hk : k = z
        · right
          obtain ⟨v, rv, rr⟩ := valEq_rel h2
          refine ⟨x, e, v, by simp [tabV, hk], ?_, rv, rr⟩
          rw [List.find?_cons, h1]
          simp [Value.isStr, hk]
        · have e1 : (e.key.isStr z) = false := by rw [h1]; simp [Value.isStr, hk]
          rw [List.find?_cons, e1]
          have e2 : tabV ((k, x) :: t) z = tabV t z := by simp [tabV, hk]
          rw [e2]
          exact ih t h3
  rcases key es tab h4 with ⟨a, b⟩ | ⟨x, e, v, a, b, c, dd⟩
  · refine ⟨none, ?_, .inl ⟨a, rfl⟩⟩
    rw [b]
    simp [hr es tab h4]
  · refine ⟨some e.val, ?_, .inr ⟨x, _, v, a, rfl, c, dd⟩⟩
    rw [b]
theorem je_kget {x : Str} {d : Addr} {tab : List (Str × IV)} {ap cp np : Pos} (T : KTab X.K X.w d tab) (hm : X.mg x = some (.ref d)) (he : JE X n W e m) (m1 : M1 X (.Name x np) "get" ap e cp := by exact ⟨rfl, rfl, rfl, rfl⟩) (hg : Gl X x := by rfl) (hd : (x == ("__debug__" : Str)) = false := by decide) :
    JE X n W (.Call (.Attribute (.Name x np) "get" ap) [e] [] cp) (eKget tab m) := by
  obtain ⟨⟨es, nn, D⟩, val⟩ := T
  refine ⟨fun pins s σ H Q I h => ?_⟩
  refine wpAny_Call_method m1.base m1.few m1.line PySem.F.plainAttrs_dict PySem.F.slot_dict_get PySem.F.type_dict_get (thn ((pe_glob (v := .ref d) hg hm rfl hd).run pins s σ H (fun v H1 => v = .ref d ∧ H1 = H) I ⟨rfl, rfl⟩) fun u s1 ⟨y, H1, I1, rx, ey, eH⟩ => ?_)
  subst ey
  rw [eH] at I1
  obtain rfl : u = Value.ref d := rx
  refine ⟨kd_type D I1, fun b q => ?_, ?_⟩
  · cases q
    exact ⟨_, I1.kIn _ _ D.at_, rfl⟩
  rw [m1.trees]
  have h' : tG (gx X) n W (Rel (gx X)) m σ H fun y H2 => ∃ z x, y = .str z ∧ (tabV tab z).getD .non = x ∧ ∃ F ρ cs, Sim (gx X) F ρ cs H2 ∧ ∀ v, (∀ (g : Gx) F ρ, Rel g F ρ x v) → Q v H2 := by
    obtain ⟨F, ρ, cs, σi, hs, hl, hp⟩ := h
    refine go hs hl hp fun v H1 F1 ρ1 cs1 yi st1 hs1 hl1 r1 hp1 => ?_
    obtain ⟨z, hz, q⟩ := pst_opt hp1
    split at hz
    · rename_i z'
      cases hz
      exact ⟨z', _, relStr r1, rfl, F1, ρ1, cs1, hs1, fun v hv => q F1 ρ1 H1 v StpU.refl hs1 (hv _ _ _)⟩
    · cases hz
  refine Calls.callWith_builtin rfl (Calls.evalArgs_plain (Calls.spliced_cons (thn (he.run pins s1 σ H _ I1 h') fun iv s2 ⟨y, H2, I2, ry, z, xx, ez, ex, F2, ρ2, cs2, hs2, q⟩ => Calls.spliced_nil ?_)))
  subst ez
  obtain ⟨t, rfl⟩ := (show ∃ t, iv = Value.str z t from ry)
  have hm' := PySem.W.mapOf_K (prog := X.prog) (w := X.w) I2.kIn D.at_ D.lit
  obtain ⟨r, e1, e2⟩ := val z
  refine call_meetsIn PySem.F.slot_dict_get (kd_type D I2) PySem.F.entry_dict_get (PySem.F.args_dict_get_2 _ _) (meets_dict_get (strKind X.prog X.w) d (strKind_is X.prog X.w z t) D.low) ⟨_, hm', ?_⟩
  show EP X pins σ Q ((findBy Value.isStrOf es z).getD .none) _
  rw [PySem.W.find_K D.at_ e1]
  rcases e2 with ⟨a, rfl⟩ | ⟨x', u, v, a, rfl, rv, rr⟩
  · refine ⟨.non, H2, I2.tok _, rfl, q _ ?_⟩
    rw [← ex, a]
    intro g F ρ
    simp only [Option.getD, Rel]
  · refine ⟨v, H2, I2.tok _, rv, q _ ?_⟩
    rw [← ex, a]
    exact rr
end
end SL

set_option Elab.async false
set_option linter.all false
set_option autoImplicit false
set_option maxRecDepth 100000
/-! SLBoot: the built-in names. -/
namespace SL
open PySem PySem.Spec L2
open PyProof.Rows hiding St
theorem un1 {k : Nat} {A : Around} (r : Room k A) : A.units + 1 < cLine := by have := r.un; omega
theorem bt_len : bootBuiltins "len" = some (.builtin "len") := by first | rfl | decide +kernel
theorem bt_abs : bootBuiltins "abs" = some (.builtin "abs") := by first | rfl | decide +kernel
theorem bt_max : bootBuiltins "max" = some (.builtin "max") := by first | rfl | decide +kernel
theorem bt_min : bootBuiltins "min" = some (.builtin "min") := by first | rfl | decide +kernel
theorem bt_all : bootBuiltins "all" = some (.builtin "all") := by first | rfl | decide +kernel
theorem bt_any : bootBuiltins "any" = some (.builtin "any") := by first | rfl | decide +kernel
theorem bt_repr : bootBuiltins "repr" = some (.builtin "repr") := by first | rfl | decide +kernel
theorem bt_sorted : bootBuiltins "sorted" = some (.builtin "sorted") := by first | rfl | decide +kernel
theorem bt_sum : bootBuiltins "sum" = some (.builtin "sum") := by first | rfl | decide +kernel
theorem bt_isinstance : bootBuiltins "isinstance" = some (.builtin "isinstance") := by first | rfl | decide +kernel
theorem bt_issubclass : bootBuiltins "issubclass" = some (.builtin "issubclass") := by first | rfl | decide +kernel
theorem bt_getattr : bootBuiltins "getattr" = some (.builtin "getattr") := by first | rfl | decide +kernel
theorem bt_int : bootBuiltins "int" = some (.type "int") := by first | rfl | decide +kernel
theorem bt_bool : bootBuiltins "bool" = some (.type "bool") := by first | rfl | decide +kernel
theorem bt_str : bootBuiltins "str" = some (.type "str") := by first | rfl | decide +kernel
theorem bt_tuple : bootBuiltins "tuple" = some (.type "tuple") := by first | rfl | decide +kernel
theorem bt_list : bootBuiltins "list" = some (.type "list") := by first | rfl | decide +kernel
theorem bt_dict : bootBuiltins "dict" = some (.type "dict") := by first | rfl | decide +kernel
theorem bt_set : bootBuiltins "set" = some (.type "set") := by first | rfl | decide +kernel
theorem bt_type : bootBuiltins "type" = some (.type "type") := by first | rfl | decide +kernel
/-- a written tuple of flat values -/
def seqEq : List Value → List IV → Prop
  | [], [] => True
  | u :: us, x :: xs => valEq u x ∧ seqEq us xs
  | _, _ => False
theorem seqEq_rel : ∀ {us : List Value} {xs : List IV}, seqEq us xs → ∃ vs, Vals vs us ∧ ∀ (g : Gx) F ρ, RelL g F ρ xs vs
  | [], [], _ => ⟨[], .nil, fun _ _ _ => .nil⟩
  | u :: us, x :: xs, h => by
    obtain ⟨v, r, q⟩ := valEq_rel h.1
    obtain ⟨vs, rs, qs⟩ := seqEq_rel h.2
    exact ⟨v :: vs, .cons r rs, fun g F ρ => .cons (q g F ρ) (qs g F ρ)⟩
  | [], _ :: _, h => h.elim
  | _ :: _, [], h => h.elim
theorem seqEq_len : ∀ {us : List Value} {xs : List IV}, seqEq us xs → us.length = xs.length
  | [], [], _ => rfl
  | u :: us, x :: xs, h => by rw [List.length_cons, List.length_cons, seqEq_len h.2]
  | [], _ :: _, h => h.elim
  | _ :: _, [], h => h.elim
theorem ktup_of {K : PySem.W.Frag} {mg : Str → Option Value} {a : Addr} {dd : Option Addr} {us : List Value} {nn : Nat} {sl : Array (Option Value)} {xs : List IV} (h : K.lookup a = some ⟨.type "tuple", dd, .seq us.toArray nn, sl⟩) (e : seqEq us xs) (hz : xs.length ≤ lim) :
    ∃ vs, SqT K (fun _ => none) a vs ∧ RelL (gK K mg) (fun _ => none) [] xs vs := by
  obtain ⟨vs, r, q⟩ := seqEq_rel e
  exact ⟨vs, .inr ⟨_, us.toArray, nn, h, rfl, rfl, by rw [List.size_toArray, seqEq_len e]; exact lim_le hz, by simpa using r⟩, q _ _ _⟩
end SL

set_option Elab.async false
set_option linter.all false
set_option autoImplicit false
set_option maxRecDepth 100000
/-! SLSimp: how a mirror is worked out. -/
namespace SL
open PySem PySem.Spec L2
open PyProof.Rows hiding St
section
variable {α β : Type} {n : Nat} {σ : List SV} {cs cs' : List Cell} {a : α} {e : Exn}
set_option checkBinderAnnotations false in
def Res.th (r : Res α) [k : α → List Cell → Res β] : Res β := r.then k
set_option checkBinderAnnotations false in
def thS (r : Res α) (σ : List SV) [k : α → List Cell → SR] : SR := thenS r σ k
set_option checkBinderAnnotations false in
def SR.seq (r : SR) [k : List SV → List Cell → SR] : SR := match r with
  | .next σ cs => k σ cs
  | .ret x cs => .ret x cs
  | .brk σ cs => .brk σ cs
  | .cnt σ cs => .cnt σ cs
  | .ex e σ cs => .ex e σ cs
  | .stuck => .stuck
def SR.fin (r : SR) : Res IV := match r with
  | .next _ cs => .ok .non cs
  | .ret x cs => .ok x cs
  | .ex e _ cs => .ex e cs
  | _ => .stuck
@[simp] theorem then_ok {k : α → List Cell → Res β} : (Res.ok a cs).th (k := k) = k a cs := id rfl
@[simp] theorem then_ex {k : α → List Cell → Res β} : (Res.ex e cs : Res α).th (k := k) = .ex e cs := id rfl
@[simp] theorem then_stuck {k : α → List Cell → Res β} : (Res.stuck : Res α).th (k := k) = .stuck := id rfl
@[simp] theorem thenS_ok {k : α → List Cell → SR} : thS (Res.ok a cs) σ (k := k) = k a cs := id rfl
@[simp] theorem thenS_ex {k : α → List Cell → SR} : thS (Res.ex e cs : Res α) σ (k := k) = .ex e σ cs := id rfl
@[simp] theorem thenS_stuck {k : α → List Cell → SR} : thS (Res.stuck : Res α) σ (k := k) = .stuck := id rfl
@[simp] theorem seq_next {k : List SV → List Cell → SR} : (SR.next σ cs).seq (k := k) = k σ cs := id rfl
@[simp] theorem seq_ret {x : IV} {k : List SV → List Cell → SR} : (SR.ret x cs).seq (k := k) = .ret x cs := id rfl
@[simp] theorem seq_brk {k : List SV → List Cell → SR} : (SR.brk σ cs).seq (k := k) = .brk σ cs := id rfl
@[simp] theorem seq_cnt {k : List SV → List Cell → SR} : (SR.cnt σ cs).seq (k := k) = .cnt σ cs := id rfl
@[simp] theorem seq_ex {k : List SV → List Cell → SR} : (SR.ex e σ cs).seq (k := k) = .ex e σ cs := id rfl
@[simp] theorem seq_stuck {k : List SV → List Cell → SR} : SR.stuck.seq (k := k) = .stuck := id rfl
@[simp] theorem fin_next : (SR.next σ cs).fin = .ok .non cs := id rfl
@[simp] theorem fin_ret {x : IV} : (SR.ret x cs).fin = .ok x cs := id rfl
@[simp] theorem fin_ex : (SR.ex e σ cs).fin = .ex e cs := id rfl
@[simp] theorem fin_stuck : SR.stuck.fin = .stuck := id rfl
/-! expressions -/
@[simp] theorem ev_pure : (M.pure a : M α) n σ cs = .ok a cs := id rfl
@[simp] theorem ev_bind {m : M α} {k : α → M β} : M.bind m k n σ cs = (m n σ cs).th (k := fun a cs' => k a n σ cs') := id rfl
def optR (o : Option α) (cs : List Cell) : Res α := match o with
  | some a => .ok a cs
  | none => .stuck
@[simp] theorem optR_some : optR (some a) cs = .ok a cs := id rfl
@[simp] theorem optR_none : optR (none : Option α) cs = .stuck := id rfl
@[simp] theorem ev_opt {o : Option α} : (M.opt o : M α) n σ cs = optR o cs := by cases o <;> rfl
def getR (o : Option SV) (cs : List Cell) : Res IV := match o with
  | some (.v x) => .ok x cs
  | _ => .stuck
@[simp] theorem getR_v {x : IV} : getR (some (.v x)) cs = .ok x cs := id rfl
@[simp] theorem getR_un : getR (some .un) cs = .stuck := id rfl
@[simp] theorem getR_own {xs : List IV} : getR (some (.own xs)) cs = .stuck := id rfl
@[simp] theorem ev_v {i : Nat} : eV i n σ cs = getR σ[i]? cs := by
  unfold eV getR; rcases σ[i]? with _ | (_ | _ | _) <;> rfl
@[simp] theorem ev_e2 {f : IV → IV → Option IV} {ma mb : M IV} : e2 f ma mb n σ cs = (ma n σ cs).th (k := fun x cs1 => (mb n σ cs1).th (k := fun y cs2 => optR (f x y) cs2)) := by
  unfold e2; simp only [ev_bind, ev_opt]
@[simp] theorem ev_cells {f : List Cell → Option IV} : eCells f n σ cs = optR (f cs) cs := by
  unfold eCells optR; cases f cs <;> rfl
@[simp] theorem ev_e2c {f : List Cell → IV → IV → Option IV} {ma mb : M IV} : e2c f ma mb n σ cs = (ma n σ cs).th (k := fun x cs1 => (mb n σ cs1).th (k := fun y cs2 => optR (f cs2 x y) cs2)) := by
  unfold e2c; simp only [ev_bind, ev_cells]
@[simp] theorem ev_call {f : List Cell → List IV → Option IV} {m : M (List IV)} : eCall f m n σ cs = (m n σ cs).th (k := fun xs cs1 => optR (f cs1 xs) cs1) := by
  unfold eCall; simp only [ev_bind, ev_cells]
@[simp] theorem ev_mB {m : M IV} : mB m n σ cs = (m n σ cs).th (k := fun x cs1 => optR (isB x) cs1) := by
  unfold mB; simp only [ev_bind, ev_opt]
@[simp] theorem ev_mT {m : M IV} : mT m n σ cs = (m n σ cs).th (k := fun x cs1 => optR (truI x) cs1) := by
  unfold mT; simp only [ev_bind, ev_opt]
theorem ite_ap {c : Prop} [Decidable c] {m m' : M α} : (if c then m else m') n σ cs = if c then m n σ cs else m' n σ cs := by split <;> rfl
@[simp] theorem ev_and {x y : M Bool} : mAnd x y n σ cs = (x n σ cs).th (k := fun b cs1 => if b = true then y n σ cs1 else .ok false cs1) := by
  unfold mAnd; simp only [ev_bind, ite_ap, ev_pure]
@[simp] theorem ev_or {x y : M Bool} : mOr x y n σ cs = (x n σ cs).th (k := fun b cs1 => if b = true then .ok true cs1 else y n σ cs1) := by
  unfold mOr; simp only [ev_bind, ite_ap, ev_pure]
@[simp] theorem ev_not {x : M Bool} : mNot x n σ cs = (x n σ cs).th (k := fun b cs1 => .ok (!b) cs1) := by
  unfold mNot; simp only [ev_bind, ev_pure]
@[simp] theorem ev_eAnd {x y : M IV} : eAnd x y n σ cs = (mB x n σ cs).th (k := fun b cs1 => if b = true then y n σ cs1 else .ok (.bl false) cs1) := by
  unfold eAnd; simp only [ev_bind, ite_ap, ev_pure]
@[simp] theorem ev_eOr {x y : M IV} : eOr x y n σ cs = (mB x n σ cs).th (k := fun b cs1 => if b = true then .ok (.bl true) cs1 else y n σ cs1) := by
  unfold eOr; simp only [ev_bind, ite_ap, ev_pure]
@[simp] theorem ev_eNot {x : M IV} : eNot x n σ cs = (mB x n σ cs).th (k := fun b cs1 => .ok (.bl (!b)) cs1) := by
  unfold eNot; simp only [ev_bind, ev_pure]
@[simp] theorem ev_eIf {t : M Bool} {x y : M IV} : eIf t x y n σ cs = (t n σ cs).th (k := fun b cs1 => if b = true then x n σ cs1 else y n σ cs1) := by
  unfold eIf; simp only [ev_bind, ite_ap]
@[simp] theorem ev_chain {f f' : IV → IV → Option IV} {ma mb mc : M IV} : eChain f f' ma mb mc n σ cs = (ma n σ cs).th (k := fun x cs1 => (mb n σ cs1).th (k := fun y cs2 => (optR ((f x y).bind isB) cs2).th (k := fun b cs3 => if b = true then (mc n σ cs3).th (k := fun z cs4 => optR (f' y z) cs4) else .ok (.bl false) cs3))) := by
  unfold eChain
  simp only [ev_bind, ite_ap, ev_pure, ev_mB, ev_opt]
  congr 1; funext x cs1; congr 1; funext y cs2
  cases f x y <;> rfl
@[simp] theorem ev_aNil : aNil n σ cs = .ok [] cs := id rfl
@[simp] theorem ev_aCons {m : M IV} {r : M (List IV)} : aCons m r n σ cs = (m n σ cs).th (k := fun x cs1 => (r n σ cs1).th (k := fun xs cs2 => .ok (x :: xs) cs2)) := by
  unfold aCons; simp only [ev_bind, ev_pure]
@[simp] theorem ev_tup {m : M (List IV)} : eTup m n σ cs = (m n σ cs).th (k := fun xs cs1 => optR (if xs.length ≤ 1000000 then some (.tup xs) else none) cs1) := by
  unfold eTup; simp only [ev_bind, ev_opt]
@[simp] theorem ev_lst {m : M (List IV)} : eLst m n σ cs = (m n σ cs).th (k := fun xs cs1 => optR (if xs.length ≤ 1000000 then some (.lst xs) else none) cs1) := by
  unfold eLst; simp only [ev_bind, ev_opt]
@[simp] theorem ev_oNone : oNone n σ cs = .ok none cs := id rfl
@[simp] theorem ev_oSome {m : M IV} : oSome m n σ cs = (m n σ cs).th (k := fun x cs1 => optR ((asInt x).map some) cs1) := by
  unfold oSome; simp only [ev_bind, ev_opt]
@[simp] theorem ev_sl {m : M IV} {lo hi : M (Option Int)} : eSl m lo hi n σ cs = (m n σ cs).th (k := fun x cs1 => (lo n σ cs1).th (k := fun l cs2 => (hi n σ cs2).th (k := fun h cs3 => optR (slI x l h) cs3))) := by
  unfold eSl; simp only [ev_bind, ev_opt]
@[simp] theorem ev_rev {m : M IV} : eRev m n σ cs = (m n σ cs).th (k := fun x cs1 => optR (revI x) cs1) := by
  unfold eRev; simp only [ev_bind, ev_opt]
def negI (x : IV) : Option IV := match x with
  | .int i => some (.int (-i))
  | _ => none
@[simp] theorem negI_int {i : Int} : negI (.int i) = some (.int (-i)) := id rfl
@[simp] theorem ev_neg {m : M IV} : eNeg m n σ cs = (m n σ cs).th (k := fun x cs1 => optR (negI x) cs1) := by
  unfold eNeg; simp only [ev_bind, ev_opt]
  rfl
@[simp] theorem ev_fn {fm : FM} {np : Nat} {dxs : List IV} {m : M (List IV)} : eFn fm np dxs m n σ cs = (m n σ cs).th (k := fun xs cs1 => if (xs ++ dxs).length = np then fm n (xs ++ dxs) cs1 else .stuck) := id rfl
@[simp] theorem ev_lc {mi : M (List IV)} {gm : GM} {mt : M Bool} {me : M IV} {vs : List Nat} : eLc mi gm mt me vs n σ cs = (mi n σ cs).th (k := fun xs cs1 => (cmpL gm mt me n (wipeI σ vs) xs [] cs1).th (k := fun ys cs2 => .ok (.lst ys) cs2)) := id rfl
def kgI (tab : List (Str × IV)) (y : IV) : Option IV := match y with
  | .str z => some ((tabV tab z).getD .non)
  | _ => none
@[simp] theorem mIt_ev {m : M IV} : mIt m n σ cs = (m n σ cs).th (k := fun x cs1 => optR (seqI x) cs1) := by
  unfold mIt; simp only [ev_bind, ev_opt]

def enA (xs : List IV) : Option (List IV) := match xs with
  | [x] => (lstI x).map fun ys => enI ys 0
  | _ => none
@[simp] theorem enA_one {x : IV} : enA [x] = (lstI x).map fun ys => enI ys 0 := id rfl
@[simp] theorem ev_mEn {m : M (List IV)} : mEn m n σ cs = (m n σ cs).th (k := fun xs cs1 => optR (enA xs) cs1) := by
  unfold mEn; simp only [ev_bind, ev_opt]; rfl
def rg1A (xs : List IV) : Option (List IV) := match xs with
  | [.int j] => if -4611686018427387904 ≤ j ∧ j < 4611686018427387904 then some (rgI 0 j.toNat) else none
  | _ => none
@[simp] theorem rg1A_one {j : Int} : rg1A [.int j] = if -4611686018427387904 ≤ j ∧ j < 4611686018427387904 then some (rgI 0 j.toNat) else none := id rfl
@[simp] theorem ev_mRg1 {m : M (List IV)} : mRg1 m n σ cs = (m n σ cs).th (k := fun xs cs1 => optR (rg1A xs) cs1) := by
  unfold mRg1; simp only [ev_bind, ev_opt]; rfl
def rg2A (xs : List IV) : Option (List IV) := match xs with
  | [.int i, .int j] => if -4611686018427387904 ≤ i ∧ i < 4611686018427387904 ∧ -4611686018427387904 ≤ j ∧ j < 4611686018427387904 then some (rgI i (j - i).toNat) else none
  | _ => none
@[simp] theorem rg2A_two {i j : Int} : rg2A [.int i, .int j] = if -4611686018427387904 ≤ i ∧ i < 4611686018427387904 ∧ -4611686018427387904 ≤ j ∧ j < 4611686018427387904 then some (rgI i (j - i).toNat) else none := id rfl
@[simp] theorem ev_mRg2 {m : M (List IV)} : mRg2 m n σ cs = (m n σ cs).th (k := fun xs cs1 => optR (rg2A xs) cs1) := by
  unfold mRg2; simp only [ev_bind, ev_opt]; rfl
@[simp] theorem ev_get1 {mo m : M IV} : eGet1 mo m n σ cs = (mo n σ cs).th (k := fun x cs1 => if isDct x = true then (m n σ cs1).th (k := fun y cs2 => optR ((dgetI x y).map fun r => r.getD .non) cs2) else .stuck) := by
  unfold eGet1; simp only [ev_bind, ite_ap, ev_opt]
@[simp] theorem ev_get2 {mo m mf : M IV} : eGet2 mo m mf n σ cs = (mo n σ cs).th (k := fun x cs1 => if isDct x = true then (m n σ cs1).th (k := fun y cs2 => (mf n σ cs2).th (k := fun z cs3 => optR ((dgetI x y).map fun r => r.getD z) cs3)) else .stuck) := by
  unfold eGet2; simp only [ev_bind, ite_ap, ev_opt]
/-! statements -/
@[simp] theorem ev_sNext : sNext n σ cs = .next σ cs := id rfl
@[simp] theorem ev_sSeq {x y : SM} : sSeq x y n σ cs = (x n σ cs).seq (k := y n) := by
  unfold sSeq SR.seq; cases x n σ cs <;> rfl
@[simp] theorem ev_sDrop {m : M IV} : sDrop m n σ cs = thS (m n σ cs) σ (k := fun _ cs' => .next σ cs') := id rfl
@[simp] theorem ev_sRet {m : M IV} : sRet m n σ cs = thS (m n σ cs) σ (k := fun x cs' => .ret x cs') := id rfl
@[simp] theorem ev_sRetN : sRetN n σ cs = .ret .non cs := id rfl
@[simp] theorem ev_sBrk : sBrk n σ cs = .brk σ cs := id rfl
@[simp] theorem ev_sCnt : sCnt n σ cs = .cnt σ cs := id rfl
@[simp] theorem ev_sIf {c : M Bool} {x y : SM} : sIf c x y n σ cs = thS (c n σ cs) σ (k := fun k cs' => if k = true then x n σ cs' else y n σ cs') := id rfl
@[simp] theorem ev_sSet {i : Nat} {m : M IV} : sSet i m n σ cs = thS (m n σ cs) σ (k := fun x cs' => if i < σ.length then .next (σ.set i (.v x)) cs' else .stuck) := id rfl
@[simp] theorem ev_sOwn {i : Nat} {m : M (List IV)} : sOwn i m n σ cs = thS (m n σ cs) σ (k := fun xs cs' => if i < σ.length ∧ xs.length ≤ 1000000 then .next (σ.set i (.own xs)) cs' else .stuck) := id rfl
set_option checkBinderAnnotations false in
def ownR (o : Option SV) [k : List IV → SR] : SR := match o with
  | some (.own xs) => k xs
  | _ => .stuck
@[simp] theorem ownR_own {xs : List IV} {k : List IV → SR} : ownR (some (.own xs)) (k := k) = k xs := id rfl
@[simp] theorem ev_sApp {i : Nat} {m : M IV} : sApp i m n σ cs = ownR σ[i]? (k := fun xs => thS (m n σ cs) σ (k := fun x cs' => if xs.length < 1000000 then .next (σ.set i (.own (xs ++ [x]))) cs' else .stuck)) := id rfl
@[simp] theorem ev_sFrz {i : Nat} {b : SM} : sFrz i b n σ cs = ownR σ[i]? (k := fun xs => b n (σ.set i (.v (.lst xs))) cs) := id rfl
@[simp] theorem ev_sCell {i : Nat} {b : SM} : sCell i b n σ cs = ownR σ[i]? (k := fun xs => b n (σ.set i (.v (.cell cs.length))) (cs ++ [.lst xs])) := id rfl
def setR (σ : List SV) (cs : List Cell) (o i x : IV) : SR := match o, i with
  | .cell k, .int j => match cs[k]? with
    | some (.lst xs) => match setAt xs j x with
      | some ys => .next σ (cs.set k (.lst ys))
      | none => .stuck
    | _ => .stuck
  | _, _ => .stuck
@[simp] theorem ev_sSetIx {mo mi m : M IV} : sSetIx mo mi m n σ cs = thS (m n σ cs) σ (k := fun x cs1 => thS (mo n σ cs1) σ (k := fun o cs2 => thS (mi n σ cs2) σ (k := fun i cs3 => setR σ cs3 o i x))) := id rfl
@[simp] theorem ev_sPar {i j : Nat} {ma mb : M IV} : sPar i j ma mb n σ cs = thS (ma n σ cs) σ (k := fun x cs1 => thS (mb n σ cs1) σ (k := fun y cs2 => if i < σ.length ∧ j < σ.length then .next ((σ.set i (.v x)).set j (.v y)) cs2 else .stuck)) := id rfl
def nextO (o : Option (List SV)) (cs : List Cell) : SR := match o with
  | some σ => .next σ cs
  | none => .stuck
@[simp] theorem nextO_some : nextO (some σ) cs = .next σ cs := id rfl
@[simp] theorem ev_sAsg {gm : GM} {m : M IV} : sAsg gm m n σ cs = thS (m n σ cs) σ (k := fun x cs1 => nextO (gm x σ) cs1) := id rfl
set_option checkBinderAnnotations false in
def valR (o : Option SV) [k : IV → SR] : SR := match o with
  | some (.v x) => k x
  | _ => .stuck
@[simp] theorem valR_v {x : IV} {k : IV → SR} : valR (some (.v x)) (k := k) = k x := id rfl
def optN (o : Option IV) (σ : List SV) (i : Nat) (cs : List Cell) : SR := match o with
  | some z => .next (σ.set i (.v z)) cs
  | none => .stuck
@[simp] theorem optN_some {x : IV} {i : Nat} : optN (some x) σ i cs = .next (σ.set i (.v x)) cs := id rfl
@[simp] theorem ev_sAug {i : Nat} {f : IV → IV → Option IV} {m : M IV} : sAug i f m n σ cs = valR σ[i]? (k := fun x => thS (m n σ cs) σ (k := fun y cs1 => optN (f x y) σ i cs1)) := id rfl
@[simp] theorem ev_sFor {mi : M (List IV)} {gm : GM} {b : SM} : sFor mi gm b n σ cs = thS (mi n σ cs) σ (k := fun xs cs1 => forL gm b n xs σ cs1) := id rfl
@[simp] theorem ev_sMatch {m : M IV} {k : IV → SM} : sMatch m k n σ cs = thS (m n σ cs) σ (k := fun x cs' => k x n σ cs') := id rfl
@[simp] theorem ev_kNil {x : IV} : kNil x n σ cs = .next σ cs := id rfl
@[simp] theorem ev_kAny {b : SM} {x : IV} : kAny b x n σ cs = b n σ cs := id rfl
set_option checkBinderAnnotations false in
def caseR (o : Option Bool) [a : Unit → SR] [b : Unit → SR] : SR := match o with
  | some true => a ()
  | some false => b ()
  | none => .stuck
@[simp] theorem caseR_t {x y : Unit → SR} : caseR (some true) (a := x) (b := y) = x () := id rfl
@[simp] theorem caseR_f {x y : Unit → SR} : caseR (some false) (a := x) (b := y) = y () := id rfl
@[simp] theorem ev_kVal {c x : IV} {b : SM} {r : IV → SM} : kVal c b r x n σ cs = caseR (cEqD x c) (a := fun _ => b n σ cs) (b := fun _ => r x n σ cs) := by
  unfold kVal caseR cEq; rcases cEqD x c with _ | (_ | _) <;> rfl
@[simp] theorem ev_fnM {k : Nat} {b : SM} {xs : List IV} : fnM k b n xs cs = (b n (startI k xs) cs).fin := by
  unfold fnM SR.fin; cases b n (startI k xs) cs <;> rfl
@[simp] theorem ev_gmN {i : Nat} {x : IV} : gmN i x σ = if i < σ.length then some (σ.set i (.v x)) else none := id rfl
@[simp] theorem ev_gmTup {k : Nat} {b : GMs} {xs : List IV} : gmTup k b (.tup xs) σ = if xs.length = k then b xs σ else none := id rfl
@[simp] theorem ev_gmNil : gmNil [] σ = some σ := id rfl
@[simp] theorem ev_gmCons {g : GM} {b : GMs} {x : IV} {xs : List IV} : gmCons g b (x :: xs) σ = (g x σ).bind fun σ' => b xs σ' := id rfl
/-! loops -/
@[simp] theorem for_nil {gm : GM} {b : SM} : forL gm b n [] σ cs = .next σ cs := id rfl
theorem for_next {gm : GM} {b : SM} {x : IV} {xs : List IV} {σ1 σ2 : List SV} {cs2 : List Cell} (h : gm x σ = some σ1) (h2 : b n σ1 cs = .next σ2 cs2) : forL gm b n (x :: xs) σ cs = forL gm b n xs σ2 cs2 := by
  rw [forL, h]; dsimp only; rw [h2]
theorem for_cnt {gm : GM} {b : SM} {x : IV} {xs : List IV} {σ1 σ2 : List SV} {cs2 : List Cell} (h : gm x σ = some σ1) (h2 : b n σ1 cs = .cnt σ2 cs2) : forL gm b n (x :: xs) σ cs = forL gm b n xs σ2 cs2 := by
  rw [forL, h]; dsimp only; rw [h2]
theorem for_ret {gm : GM} {b : SM} {x v : IV} {xs : List IV} {σ1 : List SV} {cs2 : List Cell} (h : gm x σ = some σ1) (h2 : b n σ1 cs = .ret v cs2) : forL gm b n (x :: xs) σ cs = .ret v cs2 := by
  rw [forL, h]; dsimp only; rw [h2]
@[simp] theorem cmp_nil {gm : GM} {mt : M Bool} {me : M IV} {acc : List IV} : cmpL gm mt me n σ [] acc cs = .ok acc cs := id rfl
theorem cmp_yes {gm : GM} {mt : M Bool} {me : M IV} {x y : IV} {xs acc : List IV} {σ1 : List SV} {cs1 cs2 : List Cell} (h : gm x σ = some σ1) (h2 : mt n σ1 cs = .ok true cs1) (h3 : me n σ1 cs1 = .ok y cs2) (h4 : acc.length < lim) : cmpL gm mt me n σ (x :: xs) acc cs = cmpL gm mt me n σ xs (acc ++ [y]) cs2 := by
  rw [cmpL, h]; dsimp only; rw [h2]; dsimp only; rw [h3]; dsimp only; rw [if_pos h4]
theorem cmp_no {gm : GM} {mt : M Bool} {me : M IV} {x : IV} {xs acc : List IV} {σ1 : List SV} {cs1 : List Cell} (h : gm x σ = some σ1) (h2 : mt n σ1 cs = .ok false cs1) : cmpL gm mt me n σ (x :: xs) acc cs = cmpL gm mt me n σ xs acc cs1 := by
  rw [cmpL, h]; dsimp only; rw [h2]
end
/-! values -/
@[simp] theorem isB_bl {b : Bool} : isB (.bl b) = some b := id rfl
@[simp] theorem truI_bl {b : Bool} : truI (.bl b) = some b := id rfl
@[simp] theorem ceq_int {i j : Int} : cEq (.int i) (.int j) = some (.bl (decide (i = j))) := id rfl
@[simp] theorem cne_int {i j : Int} : cNe (.int i) (.int j) = some (.bl (!decide (i = j))) := id rfl
@[simp] theorem ceq_str {i j : Str} : cEq (.str i) (.str j) = some (.bl (decide (i = j))) := id rfl
@[simp] theorem cne_str {i j : Str} : cNe (.str i) (.str j) = some (.bl (!decide (i = j))) := id rfl
@[simp] theorem ceqd_str {i j : Str} : cEqD (.str i) (.str j) = some (decide (i = j)) := id rfl
@[simp] theorem ceqd_int {i j : Int} : cEqD (.int i) (.int j) = some (decide (i = j)) := id rfl
@[simp] theorem ceq_tup0 {xs : List IV} : cEq (.tup xs) (.tup []) = some (.bl xs.isEmpty) := by unfold cEq cEqD; cases xs <;> rfl
@[simp] theorem ceq_lst0 {xs : List IV} : cEq (.lst xs) (.lst []) = some (.bl xs.isEmpty) := by unfold cEq cEqD; cases xs <;> rfl
@[simp] theorem ceq_rol0 {xs : List IV} : cEq (.rol xs) (.lst []) = some (.bl xs.isEmpty) := by unfold cEq cEqD; cases xs <;> rfl
@[simp] theorem cne_tup0 {xs : List IV} : cNe (.tup xs) (.tup []) = some (.bl (!xs.isEmpty)) := by unfold cNe cEqD; cases xs <;> rfl
@[simp] theorem cne_lst0 {xs : List IV} : cNe (.lst xs) (.lst []) = some (.bl (!xs.isEmpty)) := by unfold cNe cEqD; cases xs <;> rfl
@[simp] theorem add_int {i j : Int} : bAdd (.int i) (.int j) = some (.int (i + j)) := id rfl
@[simp] theorem sub_int {i j : Int} : bSub (.int i) (.int j) = some (.int (i - j)) := id rfl
@[simp] theorem lt_int {i j : Int} : cLt (.int i) (.int j) = some (.bl (decide (i < j))) := id rfl
@[simp] theorem le_int {i j : Int} : cLe (.int i) (.int j) = some (.bl (decide (i ≤ j))) := id rfl
@[simp] theorem gt_int {i j : Int} : cGt (.int i) (.int j) = some (.bl (decide (j < i))) := id rfl
@[simp] theorem ge_int {i j : Int} : cGe (.int i) (.int j) = some (.bl (decide (j ≤ i))) := id rfl
theorem modN {i j : Int} (h : j ≠ 0) : bMod (.int i) (.int j) = some (.int (i.fmod j)) := if_pos h
theorem modI {i j : Int} (h : 0 < j) : bMod (.int i) (.int j) = some (.int (i % j)) := by
  rw [modN (by omega), Int.fmod_eq_emod_of_nonneg i (by omega)]
theorem log_le {n k : Nat} (h : n < 2 ^ k) (hk : 0 < k) : n.log2 < k := by
  by_cases h0 : n = 0
  · subst h0; simpa using hk
  · exact (Nat.log2_lt h0).mpr h
theorem fdivN {i j : Int} (h : j ≠ 0) {k : Nat} (h2 : j.natAbs < 2 ^ k) (h0 : 0 < k) (h3 : k < 9000) : bFdiv (.int i) (.int j) = some (.int (i.fdiv j)) := by
  refine if_pos ⟨h, ?_⟩
  have : j.natAbs.log2 < k := log_le h2 h0
  omega
theorem fdivI {i j : Int} (h : 0 < j) (h2 : j < 18446744073709551616) : bFdiv (.int i) (.int j) = some (.int (i / j)) := by
  rw [fdivN (by omega) (k := 64) (by omega) (by decide) (by decide), Int.fdiv_eq_ediv_of_nonneg i (by omega)]
theorem powI {i j : Int} (h : 0 ≤ j) (h2 : j ≤ 1000000) (h3 : i.natAbs < 18446744073709551616) : bPow (.int i) (.int j) = some (.int (i ^ j.toNat)) := if_pos ⟨h, h2, h3⟩
theorem mulI {i j : Int} (a b : Nat) (h : i.natAbs < 2 ^ a) (h2 : j.natAbs < 2 ^ b) (ha : 0 < a) (hb : 0 < b) (h3 : a + b < 1000000) : bMul (.int i) (.int j) = some (.int (i * j)) := by
  refine if_pos ?_
  have := log_le h ha
  have := log_le h2 hb
  omega
end SL

set_option Elab.async false
set_option linter.all false
set_option autoImplicit false
set_option maxRecDepth 100000
set_option maxHeartbeats 4000000
/-! SLNum: the numbers of a cell, and the draws. -/
namespace SL
open PySem PySem.Spec L2
open PyProof.Rows hiding St
def numB : SM := sIf (mAnd (mB (e2 cGe (eV 3) (e2 bPow (M.pure (.int 10)) (M.pure (.int 18))))) (mB (e2 cGt (eV 4) (M.pure (.int 0))))) (sSeq (sApp 5 (e2 bMod (eV 4) (e2c ixI (eV 2) (eV 6)))) (sSet 4 (e2 bFdiv (eV 4) (e2c ixI (eV 2) (eV 6))))) (sSeq (sSet 7 (e2 bMod (e2 bPow (e2 bAdd (e2 bAdd (e2 bMod (eV 3) (M.pure (.int 2147483629))) (e2 bMul (M.pure (.int 7919)) (eV 1))) (M.pure (.int 1))) (M.pure (.int 3))) (M.pure (.int 2147483647)))) (sSeq (sSet 7 (e2 bMod (e2 bMul (e2 bAdd (eV 7) (e2 bMul (M.pure (.int 104729)) (e2 bAdd (eV 6) (M.pure (.int 1))))) (e2 bAdd (eV 6) (M.pure (.int 3)))) (M.pure (.int 2147483629)))) (sSeq (sSet 7 (e2 bMod (e2 bMul (e2 bMod (e2 bPow (eV 7) (M.pure (.int 5))) (M.pure (.int 2147483647))) (M.pure (.int 48271))) (M.pure (.int 2147483629)))) (sApp 5 (e2 bMod (e2 bFdiv (eV 7) (M.pure (.int 16))) (e2c ixI (eV 2) (eV 6)))))))
def numM : SM := sSeq (sSet 3 (eCall fMax2 (aCons (eV 0) (aCons (e2 bSub (eNeg (M.pure (.int 1))) (eV 0)) (aNil))))) (sSeq (sSet 4 (eV 3)) (sSeq (sOwn 5 (aNil)) (sSeq (sFor (mRg1 (aCons (eCall fLen (aCons (eV 2) (aNil))) (aNil))) (gmN 6) numB) (sFrz 5 (sRet (eV 5))))))
def drawM : SM := sSeq (sSet 2 (e2c ixI (eV 0) (M.pure (.int 1)))) (sSeq (sSetIx (eV 0) (M.pure (.int 1)) (e2 bAdd (eV 2) (M.pure (.int 1)))) (sRet (eIf (mB (e2 cLt (eV 2) (eCall fLen (aCons (e2c ixI (eV 0) (M.pure (.int 0))) (aNil))))) (e2 bMod (eCall fInt (aCons (e2c ixI (e2c ixI (eV 0) (M.pure (.int 0))) (eV 2)) (aNil))) (eV 1)) (M.pure (.int 0)))))
def intL (zs : List Int) : List IV := zs.map IV.int
@[simp] theorem intL_len {zs : List Int} : (intL zs).length = zs.length := by simp [intL]
theorem intL_get {zs : List Int} {i : Nat} : (intL zs)[i]? = zs[i]?.map IV.int := by simp [intL]
theorem atN {α : Type} {xs : List α} {k : Nat} : atI xs (k : Int) = xs[k]? := by
  unfold atI ixN
  by_cases h : k < xs.length
  · have h1 : (0 : Int) ≤ (k : Int) ∧ (k : Int) < (xs.length : Int) := by omega
    simp [h]
  · rw [List.getElem?_eq_none (by omega)]
    simp
    omega
@[simp] theorem ixI_tup {cs : List Cell} {xs : List IV} {i : Int} : ixI cs (.tup xs) (.int i) = atI xs i := rfl
@[simp] theorem ixI_lst {cs : List Cell} {xs : List IV} {i : Int} : ixI cs (.lst xs) (.int i) = atI xs i := rfl
@[simp] theorem ixI_rol {cs : List Cell} {xs : List IV} {i : Int} : ixI cs (.rol xs) (.int i) = atI xs i := rfl
theorem ixI_cell {cs : List Cell} {xs : List IV} {k : Nat} {i : Int} (h : cs[k]? = some (.lst xs)) : ixI cs (.cell k) (.int i) = atI xs i := by
  show (match cs[k]? with | some (.lst xs) => atI xs i | _ => none) = _
  rw [h]
theorem pow3_lt {a : Int} (h0 : 0 ≤ a) (h : a < 18446744073709551616) : a.natAbs < 18446744073709551616 := by omega
/-- one turn of the loop -/
theorem numB_ok {n k : Nat} {cell salt whole left : Int} {zs ys : List Int} {o7 : SV} {cs : List Cell} (hk : k < zs.length) (hk2 : zs.length ≤ 10000) (hs : 0 ≤ salt) (hs2 : salt < 1000000) (hy : ys.length < 10000) (hz : ∀ z ∈ zs, 0 < z ∧ z < 18446744073709551616) :
    ∃ left' y o7', numB n [.v (.int cell), .v (.int salt), .v (.lst (intL zs)), .v (.int whole), .v (.int left), .own (intL ys), .v (.int k), o7] cs = .next [.v (.int cell), .v (.int salt), .v (.lst (intL zs)), .v (.int whole), .v (.int left'), .own (intL (ys ++ [y])), .v (.int k), o7'] cs ∧ 0 ≤ y ∧ y < zs.getD k 0 := by
  obtain ⟨z, ez⟩ : ∃ z, zs[k]? = some z := ⟨_, List.getElem?_eq_getElem hk⟩
  have hz1 := hz z (List.mem_of_getElem? ez)
  have ed : zs.getD k 0 = z := by simp [ez]
  have ei : atI (intL zs) (k : Int) = some (.int z) := by rw [atN, intL_get, ez]; rfl
  have hlen : ys.length < 1000000 := by omega
  have eap : ∀ y : Int, intL ys ++ [.int y] = intL (ys ++ [y]) := fun y => by simp [intL]
  unfold numB
  rw [ed]
  have hp18 : bPow (.int 10) (.int 18) = some (.int 1000000000000000000) := by rw [powI (by decide) (by decide) (by decide)]; rfl
  by_cases hb : (1000000000000000000 ≤ whole ∧ 0 < left)
  · refine ⟨left / z, left % z, o7, ?_, Int.emod_nonneg _ (by omega), Int.emod_lt_of_pos _ hz1.1⟩
    simp [hp18, hb.1, hb.2, ei, modI hz1.1, fdivI hz1.1 hz1.2, hlen, eap]
  · have hw0 : 0 ≤ whole % 2147483629 := Int.emod_nonneg _ (by decide)
    have hw1 : whole % 2147483629 < 2147483629 := Int.emod_lt_of_pos _ (by decide)
    have hk3 : (k : Int) < 10000 := by omega
    have hm1 : bMul (.int 7919) (.int salt) = some (.int (7919 * salt)) := mulI 64 64 (by decide) (by omega) (by decide) (by decide) (by decide)
    have hp1 : bPow (.int (whole % 2147483629 + 7919 * salt + 1)) (.int 3) = some (.int ((whole % 2147483629 + 7919 * salt + 1) ^ 3)) := powI (by decide) (by decide) (by omega)
    generalize ha : ((whole % 2147483629 + 7919 * salt + 1) ^ 3) % 2147483647 = a
    have ha0 : 0 ≤ a := by rw [← ha]; exact Int.emod_nonneg _ (by decide)
    have ha1 : a < 2147483647 := by rw [← ha]; exact Int.emod_lt_of_pos _ (by decide)
    have hm2 : bMul (.int 104729) (.int ((k : Int) + 1)) = some (.int (104729 * ((k : Int) + 1))) := mulI 64 64 (by decide) (by omega) (by decide) (by decide) (by decide)
    have hm3 : bMul (.int (a + 104729 * ((k : Int) + 1))) (.int ((k : Int) + 3)) = some (.int ((a + 104729 * ((k : Int) + 1)) * ((k : Int) + 3))) := mulI 64 64 (by omega) (by omega) (by decide) (by decide) (by decide)
    generalize hb2 : ((a + 104729 * ((k : Int) + 1)) * ((k : Int) + 3)) % 2147483629 = b
    have hb0 : 0 ≤ b := by rw [← hb2]; exact Int.emod_nonneg _ (by decide)
    have hb1 : b < 2147483629 := by rw [← hb2]; exact Int.emod_lt_of_pos _ (by decide)
    have hp2 : bPow (.int b) (.int 5) = some (.int (b ^ 5)) := powI (by decide) (by decide) (by omega)
    generalize hc2 : b ^ 5 % 2147483647 = c
    have hc0 : 0 ≤ c := by rw [← hc2]; exact Int.emod_nonneg _ (by decide)
    have hc1 : c < 2147483647 := by rw [← hc2]; exact Int.emod_lt_of_pos _ (by decide)
    have hm4 : bMul (.int c) (.int 48271) = some (.int (c * 48271)) := mulI 64 64 (by omega) (by decide) (by decide) (by decide) (by decide)
    have hd : ∀ x : Int, bMod (.int x) (.int 2147483629) = some (.int (x % 2147483629)) := fun x => modI (by decide)
    have hd2 : ∀ x : Int, bMod (.int x) (.int 2147483647) = some (.int (x % 2147483647)) := fun x => modI (by decide)
    have hd3 : ∀ x : Int, bFdiv (.int x) (.int 16) = some (.int (x / 16)) := fun x => fdivI (by decide) (by decide)
    have hif : ¬ (1000000000000000000 ≤ whole) ∨ ¬ (0 < left) := by omega
    refine ⟨left, c * 48271 % 2147483629 / 16 % z, .v (.int (c * 48271 % 2147483629)), ?_, Int.emod_nonneg _ (by omega), Int.emod_lt_of_pos _ hz1.1⟩
    rcases hif with hif | hif
    · simp [hp18, hif, ei, modI hz1.1, hlen, eap, hm1, hp1, hm2, hm3, hp2, hm4, hd, hd2, hd3, ha, hb2, hc2]
    · by_cases hw : 1000000000000000000 ≤ whole
      · simp [hp18, hw, hif, ei, modI hz1.1, hlen, eap, hm1, hp1, hm2, hm3, hp2, hm4, hd, hd2, hd3, ha, hb2, hc2]
      · simp [hp18, hw, ei, modI hz1.1, hlen, eap, hm1, hp1, hm2, hm3, hp2, hm4, hd, hd2, hd3, ha, hb2, hc2]
theorem numL_ok {n : Nat} {cell salt whole : Int} {zs : List Int} {cs : List Cell} (hk2 : zs.length ≤ 10000) (hs : 0 ≤ salt) (hs2 : salt < 1000000) (hz : ∀ z ∈ zs, 0 < z ∧ z < 18446744073709551616) :
    ∀ (m k : Nat) (left : Int) (ys : List Int) (o6 o7 : SV), k + m = zs.length → ys.length = k → (∀ (i : Nat) (y : Int), ys[i]? = some y → 0 ≤ y ∧ y < zs.getD i 0) →
    ∃ left' ys' o6' o7', forL (gmN 6) numB n (rgI k m) [.v (.int cell), .v (.int salt), .v (.lst (intL zs)), .v (.int whole), .v (.int left), .own (intL ys), o6, o7] cs = .next [.v (.int cell), .v (.int salt), .v (.lst (intL zs)), .v (.int whole), .v (.int left'), .own (intL ys'), o6', o7'] cs ∧ ys'.length = zs.length ∧ ∀ (i : Nat) (y : Int), ys'[i]? = some y → 0 ≤ y ∧ y < zs.getD i 0
  | 0, k, left, ys, o6, o7, e, e2, h => ⟨left, ys, o6, o7, rfl, by omega, h⟩
  | m + 1, k, left, ys, o6, o7, e, e2, h => by
    obtain ⟨l2, y, o7', h1, h2, h3⟩ := numB_ok (n := n) (k := k) (cell := cell) (whole := whole) (left := left) (o7 := o7) (cs := cs) (zs := zs) (ys := ys) (salt := salt) (by omega) hk2 hs hs2 (by omega) hz
    obtain ⟨l3, ys', p6, p7, q1, q2, q3⟩ := numL_ok (n := n) (cell := cell) (salt := salt) (whole := whole) (zs := zs) (cs := cs) hk2 hs hs2 hz m (k + 1) l2 (ys ++ [y]) (.v (.int k)) o7' (by omega) (by simp [e2]) (fun i w hw => by
      rcases Nat.lt_trichotomy i ys.length with hi | hi | hi
      · rw [List.getElem?_append_left hi] at hw; exact h i w hw
      · subst hi; rw [List.getElem?_append_right (by omega)] at hw; simp at hw; subst hw; rw [e2]; exact ⟨h2, h3⟩
      · rw [List.getElem?_eq_none (by simp; omega)] at hw; cases hw)
    refine ⟨l3, ys', p6, p7, ?_, q2, q3⟩
    rw [rgI, for_next (σ1 := [.v (.int cell), .v (.int salt), .v (.lst (intL zs)), .v (.int whole), .v (.int left), .own (intL ys), .v (.int k), o7]) rfl h1]
    exact q1
/-- the numbers of a cell -/
theorem num_ok {n : Nat} {cell salt : Int} {zs : List Int} {cs : List Cell} (hk2 : zs.length ≤ 10000) (hs : 0 ≤ salt) (hs2 : salt < 1000000) (hz : ∀ z ∈ zs, 0 < z ∧ z < 18446744073709551616) :
    ∃ ys : List Int, fnM 8 numM n [.int cell, .int salt, .lst (intL zs)] cs = .ok (.lst (intL ys)) cs ∧ ys.length = zs.length ∧ ∀ (i : Nat) (y : Int), ys[i]? = some y → 0 ≤ y ∧ y < zs.getD i 0 := by
  obtain ⟨whole, hw⟩ : ∃ whole : Int, fMax2 cs [.int cell, .int (-1 - cell)] = some (.int whole) := ⟨_, rfl⟩
  obtain ⟨l, ys, o6, o7, h1, h2, h3⟩ := numL_ok (n := n) (cell := cell) (salt := salt) (whole := whole) (zs := zs) (cs := cs) hk2 hs hs2 hz zs.length 0 whole [] .un .un (by omega) rfl (fun i y h => by simp at h)
  refine ⟨ys, ?_, h2, h3⟩
  have hl : fLen cs [.lst (intL zs)] = some (.int zs.length) := by show some (IV.int (intL zs).length) = _; rw [intL_len]
  have hr : (-4611686018427387904 : Int) ≤ (zs.length : Int) ∧ (zs.length : Int) < 4611686018427387904 := by omega
  have hn : ((zs.length : Nat) : Int).toNat = zs.length := by omega
  have h1' : forL (gmN 6) numB n (rgI 0 zs.length) [.v (.int cell), .v (.int salt), .v (.lst (intL zs)), .v (.int whole), .v (.int whole), .own [], .un, .un] cs = _ := h1
  unfold numM
  simp [startI, hw, hl, hr, hn, h1', List.replicate]
end SL

set_option Elab.async false
set_option linter.all false
set_option autoImplicit false
set_option maxRecDepth 100000
set_option maxHeartbeats 4000000
/-! SLLaw: what many laws ask alike: draws, texts of values, kinds. -/
namespace SL
open PySem PySem.Spec L2
open PyProof.Rows hiding St
/-! ### draws -/
/-- the cell k is a state of draws -/
def Good (c : Nat) (cs : List Cell) : Prop := ∃ (ys : List Int) (at_ : Nat), (∀ y ∈ ys, 0 ≤ y) ∧ cs[c]? = some (.lst [.lst (intL ys), .int at_])
theorem draw_ok {n c : Nat} {cs : List Cell} {many : Int} (hg : Good c cs) (hm : 0 < many) : ∃ r cs', fnM 3 drawM n [.cell c, .int many] cs = .ok (.int r) cs' ∧ Good c cs' ∧ cs'.length = cs.length ∧ 0 ≤ r ∧ r < many := by
  obtain ⟨ys, k, h0, hc⟩ := hg
  have e0 : ∀ i : Int, ixI cs (.cell c) (.int i) = atI [.lst (intL ys), .int k] i := fun i => ixI_cell hc
  have a0 : ∀ x y : IV, atI [x, y] 0 = some x := fun _ _ => rfl
  have a1 : ∀ x y : IV, atI [x, y] 1 = some y := fun _ _ => rfl
  have hlt : c < cs.length := by
    rcases Nat.lt_or_ge c cs.length with h | h
    · exact h
    · rw [List.getElem?_eq_none h] at hc; cases hc
  have hs : ∀ σ, setR σ cs (.cell c) (.int 1) (.int ((k : Int) + 1)) = .next σ (cs.set c (.lst [.lst (intL ys), .int ((k + 1 : Nat) : Int)])) := fun σ => by
    unfold setR; dsimp only; rw [hc]; rfl
  generalize hcs : cs.set c (.lst [.lst (intL ys), .int ((k + 1 : Nat) : Int)]) = cs' at hs
  have hc' : cs'[c]? = some (.lst [.lst (intL ys), .int ((k + 1 : Nat) : Int)]) := by rw [← hcs, List.getElem?_set_self hlt]
  have e0' : ∀ i : Int, ixI cs' (.cell c) (.int i) = atI [.lst (intL ys), .int ((k + 1 : Nat) : Int)] i := fun i => ixI_cell hc'
  have hl : fLen cs' [.lst (intL ys)] = some (.int ys.length) := by show some (IV.int (intL ys).length) = _; rw [intL_len]
  have hlen : cs'.length = cs.length := by rw [← hcs, List.length_set]
  have hg' : Good c cs' := ⟨ys, k + 1, h0, hc'⟩
  have hi : ∀ y : Int, fInt cs' [.int y] = some (.int y) := fun y => rfl
  by_cases hk : k < ys.length
  · obtain ⟨y, ey⟩ : ∃ y, ys[k]? = some y := ⟨_, List.getElem?_eq_getElem hk⟩
    have ei : atI (intL ys) (k : Int) = some (.int y) := by rw [atN, intL_get, ey]; rfl
    refine ⟨y % many, cs', ?_, hg', hlen, Int.emod_nonneg _ (by omega), Int.emod_lt_of_pos _ hm⟩
    unfold drawM
    simp [startI, e0, a0, a1, hs, e0', hl, hk, ei, hi, modI hm, List.replicate]
  · refine ⟨0, cs', ?_, hg', hlen, by omega, hm⟩
    unfold drawM
    simp [startI, e0, a0, a1, hs, e0', hl, hk, List.replicate]
theorem num_good {n : Nat} {cell salt : Int} {zs : List Int} {cs : List Cell} (hk2 : zs.length ≤ 10000) (hs : 0 ≤ salt) (hs2 : salt < 1000000) (hz : ∀ z ∈ zs, 0 < z ∧ z < 18446744073709551616) :
    ∃ ys : List Int, fnM 8 numM n [.int cell, .int salt, .lst (intL zs)] cs = .ok (.lst (intL ys)) cs ∧ ∀ cs', Good cs'.length (cs' ++ [.lst [.lst (intL ys), .int 0]]) := by
  obtain ⟨ys, h1, h2, h3⟩ := num_ok (n := n) (cell := cell) (salt := salt) (cs := cs) hk2 hs hs2 hz
  refine ⟨ys, h1, fun cs' => ⟨ys, 0, fun y hy => ?_, by simp⟩⟩
  obtain ⟨i, hi⟩ := List.getElem?_of_mem hy
  exact (h3 i y hi).1
/-! ### comprehensions over still cells -/
theorem cmp_pure {gm : GM} {mt : M Bool} {me : M IV} {n : Nat} {σ : List SV} {cs : List Cell} (p : IV → Bool) (g : IV → IV) : ∀ (xs acc : List IV), acc.length + xs.length ≤ 1000000 →
    (∀ x ∈ xs, ∃ σ1, gm x σ = some σ1 ∧ mt n σ1 cs = .ok (p x) cs ∧ (p x = true → me n σ1 cs = .ok (g x) cs)) → cmpL gm mt me n σ xs acc cs = .ok (acc ++ (xs.filter p).map g) cs
  | [], acc, hl, h => by simp
  | x :: xs, acc, hl, h => by
    obtain ⟨σ1, h1, h2, h3⟩ := h x (by simp)
    simp only [List.length_cons] at hl
    cases e : p x with
    | true =>
      rw [e] at h2
      rw [cmp_yes h1 h2 (h3 e) (by show _ < 1000000; omega), cmp_pure p g xs (acc ++ [g x]) (by simp; omega) (fun y hy => h y (by simp [hy]))]
      simp [e]
    | false =>
      rw [e] at h2
      rw [cmp_no h1 h2, cmp_pure p g xs acc (by omega) (fun y hy => h y (by simp [hy]))]
      simp [e]
theorem blsOf_map {α : Type} (f : α → Bool) : ∀ xs : List α, blsOf (xs.map fun x => .bl (f x)) = some (xs.map f)
  | [] => rfl
  | x :: xs => by simp only [List.map_cons, blsOf, blsOf_map f xs, Option.map_some]
/-- a loop that keeps I and goes through -/
theorem for_inv {gm : GM} {b : SM} {n : Nat} (I : List SV → List Cell → Prop) : ∀ (xs : List IV) (σ : List SV) (cs : List Cell), (∀ x ∈ xs, ∀ σ cs, I σ cs → ∃ σ1 σ2 cs2, gm x σ = some σ1 ∧ b n σ1 cs = .next σ2 cs2 ∧ I σ2 cs2) → I σ cs → ∃ σ' cs', forL gm b n xs σ cs = .next σ' cs' ∧ I σ' cs'
  | [], σ, cs, h, i => ⟨σ, cs, rfl, i⟩
  | x :: xs, σ, cs, h, i => by
    obtain ⟨σ1, σ2, cs2, h1, h2, h3⟩ := h x (by simp) σ cs i
    obtain ⟨σ', cs', e, k⟩ := for_inv I xs σ2 cs2 (fun y hy => h y (by simp [hy])) h3
    exact ⟨σ', cs', by rw [for_next h1 h2, e], k⟩
theorem enI_mem {x : IV} : ∀ {xs : List IV} {k : Nat}, x ∈ enI xs k → ∃ (i : Nat) (y : IV), i < k + xs.length ∧ k ≤ i ∧ y ∈ xs ∧ x = .tup [.int i, y]
  | [], k, h => by simp [enI] at h
  | a :: xs, k, h => by
    simp only [enI, List.mem_cons] at h
    rcases h with rfl | h
    · exact ⟨k, a, by simp, Nat.le_refl _, by simp, rfl⟩
    · obtain ⟨i, y, h1, h2, h3, h4⟩ := enI_mem h
      exact ⟨i, y, by simp; omega, by omega, by simp [h3], h4⟩
theorem atI_mem {α : Type} {xs : List α} {r : Int} (h0 : 0 ≤ r) (h : r < (xs.length : Int)) : ∃ y, y ∈ xs ∧ atI xs r = some y := by
  obtain ⟨k, rfl⟩ : ∃ k : Nat, r = k := ⟨r.toNat, by omega⟩
  have hk : k < xs.length := by omega
  exact ⟨xs[k], List.getElem_mem hk, by rw [atN, List.getElem?_eq_getElem hk]⟩
theorem cut_mem {xs : List IV} {lo hi : Option Int} {y : IV} (h : y ∈ cut xs lo hi) : y ∈ xs := List.mem_of_mem_drop (List.mem_of_mem_take h)
theorem cut_len {xs : List IV} {lo hi : Option Int} : (cut xs lo hi).length ≤ xs.length := by
  unfold cut; simp only [List.length_take, List.length_drop]; omega
theorem cut_top {xs : List IV} {j : Nat} : (cut xs none (some (j : Int))).length ≤ j := by
  unfold cut HT.sIx
  simp only [List.length_take, List.length_drop]
  split <;> omega
theorem rep_int {k : Nat} {z : Int} : repL k [IV.int z] = intL (List.replicate k z) := by
  unfold repL intL
  simp
/-- script[:j] + [z] * int(script == []) -/
theorem cells_ok {n : Nat} {σ : List SV} {cs : List Cell} {ns : List Int} {j : Nat} {z : Int} (hj : j ≤ 1000) (h0 : σ[0]? = some (.v (.rol (ns.map IV.int)))) :
    ∃ zs : List Int, e2 bAdd (eSl (eV 0) (oNone) (oSome (M.pure (.int (j : Int))))) (e2 bMul (eLst (aCons (M.pure (.int z)) (aNil))) (eCall fInt (aCons (e2 cEq (eV 0) (eLst (aNil))) (aNil)))) n σ cs = .ok (.lst (zs.map IV.int)) cs ∧ zs.length ≤ j + 1 := by
  obtain ⟨us, hu⟩ : ∃ us : List Int, cut (ns.map IV.int) none (some (j : Int)) = us.map IV.int := by
    unfold cut
    rw [← List.map_drop, ← List.map_take]
    exact ⟨_, rfl⟩
  have hl := cut_top (xs := ns.map IV.int) (j := j)
  rw [hu] at hl
  simp only [List.length_map] at hl
  have h1 : slI (.rol (ns.map IV.int)) none (some (j : Int)) = some (.lst (us.map IV.int)) := by rw [← hu]; rfl
  have h2 : ∀ b : Bool, fInt cs [.bl b] = some (.int (if b then 1 else 0)) := fun b => rfl
  have hasI : asInt (.int (j : Int)) = some (j : Int) := rfl
  cases hb : (ns.map IV.int).isEmpty with
  | true =>
    have h3 : bMul (.lst [.int z]) (.int 1) = some (.lst [.int z]) := rfl
    have h4 : bAdd (.lst (us.map IV.int)) (.lst [.int z]) = some (.lst ((us ++ [z]).map IV.int)) := by
      show (if _ then _ else _) = _
      rw [if_pos (by show _ ≤ 1000000; simp; omega)]
      simp
    refine ⟨us ++ [z], ?_, by simp; omega⟩
    rw [ev_e2, ev_sl, ev_v, h0]
    simp [hasI, h1, h0, hb, h2, h3, h4]
  | false =>
    have h3 : bMul (.lst [.int z]) (.int 0) = some (.lst []) := rfl
    have h4 : bAdd (.lst (us.map IV.int)) (.lst []) = some (.lst (us.map IV.int)) := by
      show (if _ then _ else _) = _
      rw [if_pos (by show _ ≤ 1000000; simp; omega)]
      simp
    refine ⟨us, ?_, by omega⟩
    rw [ev_e2, ev_sl, ev_v, h0]
    simp [hasI, h1, h0, hb, h2, h3, h4]
/-! ### kinds -/
def plainI : IV → Bool
  | .non | .bl _ | .int _ | .tup _ | .lst _ | .rol _ | .dct _ _ => true
  | .str s => decide (s.length ≤ 1000000)
  | _ => false
def knStr : IV → Bool
  | .str _ => true
  | _ => false
def knTup : IV → Bool
  | .tup _ => true
  | _ => false
def knInt : IV → Bool
  | .int _ => true
  | .bl _ => true
  | _ => false
def knBl : IV → Bool
  | .bl _ => true
  | _ => false
def knLst : IV → Bool
  | .lst _ => true
  | .rol _ => true
  | _ => false
def knDct : IV → Bool
  | .dct _ _ => true
  | _ => false
section
variable {cs : List Cell} {x : IV}
theorem isi_str (h : plainI x = true) : fIsi cs [x, .ty "str"] = some (.bl (knStr x)) := by cases x <;> first | rfl | cases h
theorem isi_tup (h : plainI x = true) : fIsi cs [x, .ty "tuple"] = some (.bl (knTup x)) := by cases x <;> first | rfl | cases h
theorem isi_int (h : plainI x = true) : fIsi cs [x, .ty "int"] = some (.bl (knInt x)) := by cases x <;> first | rfl | cases h
theorem isi_bool (h : plainI x = true) : fIsi cs [x, .ty "bool"] = some (.bl (knBl x)) := by cases x <;> first | rfl | cases h
theorem isi_lst (h : plainI x = true) : fIsi cs [x, .ty "list"] = some (.bl (knLst x)) := by cases x <;> first | rfl | cases h
theorem isi_dct (h : plainI x = true) : fIsi cs [x, .ty "dict"] = some (.bl (knDct x)) := by cases x <;> first | rfl | cases h
end
/-! ### repr -/
/-- x's text: k deep, b long at most; hd: with a dict perhaps; hl: with a list perhaps -/
structure RpD (d : PyData) (k b : Nat) (hd : Bool) : Prop where
  sh : d.showable = true
  lv : d.leavesShort 2000 = true
  bk : d.bulk ≤ b
  dp : d.depth ≤ k
  dc : d.hasDict = true → hd = true
def Rp (x : IV) (k b : Nat) (hd hl : Bool) : Prop := ∃ d, toPy x = some d ∧ RpD d k b hd ∧ (noLst x = false → hl = true)
structure RpDL (ds : List PyData) (k b : Nat) (hd : Bool) : Prop where
  sh : PyData.showableAll ds = true
  lv : PyData.leavesShortAll 2000 ds = true
  bk : PyData.bulkAll ds ≤ b
  dp : PyData.depthAll ds ≤ k
  dc : PyData.hasDictAll ds = true → hd = true
def RpL (xs : List IV) (k b : Nat) (hd hl : Bool) : Prop := ∃ ds, toPyL xs = some ds ∧ RpDL ds k b hd ∧ (noLstL xs = false → hl = true)
section
variable {x : IV} {xs : List IV} {k b b' : Nat} {hd hl : Bool}
theorem Rp.mono {k' b' : Nat} {hd' hl' : Bool} (h : Rp x k b hd hl) (h1 : k ≤ k') (h2 : b ≤ b') (h3 : hd = true → hd' = true) (h4 : hl = true → hl' = true) : Rp x k' b' hd' hl' := by
  obtain ⟨d, e, r, q⟩ := h
  exact ⟨d, e, ⟨r.sh, r.lv, Nat.le_trans r.bk h2, Nat.le_trans r.dp h1, fun z => h3 (r.dc z)⟩, fun z => h4 (q z)⟩
theorem rp_non : Rp .non k b hd hl := ⟨_, rfl, ⟨by simp only [PyData.showable], by simp only [PyData.leavesShort], by simp only [PyData.bulk]; omega, by simp only [PyData.depth]; omega, fun h => by simp only [PyData.hasDict] at h; cases h⟩, fun h => by simp only [noLst] at h; cases h⟩
theorem rp_bl {v : Bool} : Rp (.bl v) k b hd hl := ⟨_, rfl, ⟨by simp only [PyData.showable], by simp only [PyData.leavesShort], by simp only [PyData.bulk]; omega, by simp only [PyData.depth]; omega, fun h => by simp only [PyData.hasDict] at h; cases h⟩, fun h => by simp only [noLst] at h; cases h⟩
theorem strlen_of (x : String) : (Str.ofString x).length = x.length := PySem.ofString_length x
theorem rp_int {i : Int} (h : i.natAbs < 2 ^ 1900) : Rp (.int i) k b hd hl := by
  have hz : i.natAbs.log2 < 1900 := log_le h (by decide)
  refine ⟨_, rfl, ⟨by simp only [PyData.showable, decide_eq_true_eq]; omega, ?_, by simp only [PyData.bulk]; omega, by simp only [PyData.depth]; omega, fun h => by simp only [PyData.hasDict] at h; cases h⟩, fun h => by simp only [noLst] at h; cases h⟩
  have := int_text_length_le (k := 1900) (by decide) hz
  simp only [PyData.leavesShort, decide_eq_true_eq]
  show (Str.ofString (toString i)).length ≤ _
  rw [strlen_of]
  omega
theorem rp_str {s : Str} (h : s.cps.size ≤ b) (h2 : (s.cps.toList.all fun c => decide (c < 16 ^ 8)) = true) : Rp (.str s) k b hd hl := ⟨_, rfl, ⟨by simp only [PyData.showable], by simp only [PyData.leavesShort]; exact h2, by simp only [PyData.bulk]; exact h, by simp only [PyData.depth]; omega, fun h => by simp only [PyData.hasDict] at h; cases h⟩, fun h => by simp only [noLst] at h; cases h⟩
theorem rpl_nil : RpL [] k b hd hl := ⟨_, rfl, ⟨rfl, rfl, by simp only [PyData.bulkAll]; omega, by simp only [PyData.depthAll]; omega, fun h => by simp only [PyData.hasDictAll] at h; cases h⟩, fun h => by simp only [noLstL] at h; cases h⟩
theorem rpl_cons (h : Rp x k b hd hl) (t : RpL xs k b' hd hl) : RpL (x :: xs) k (b + 1 + b') hd hl := by
  obtain ⟨d, e, r, q⟩ := h
  obtain ⟨ds, e2, r2, q2⟩ := t
  refine ⟨d :: ds, by simp only [toPyL, e, e2], ⟨by simp only [PyData.showableAll, r.sh, r2.sh, Bool.and_self], by simp only [PyData.leavesShortAll, r.lv, r2.lv, Bool.and_self], ?_, ?_, ?_⟩, ?_⟩
  · have := r.bk; have := r2.bk
    simp only [PyData.bulkAll]; omega
  · have := r.dp; have := r2.dp
    simp only [PyData.depthAll]; omega
  · intro z
    simp only [PyData.hasDictAll, Bool.or_eq_true] at z
    rcases z with z | z
    · exact r.dc z
    · exact r2.dc z
  · intro z
    simp only [noLstL, Bool.and_eq_false_iff] at z
    rcases z with z | z
    · exact q z
    · exact q2 z
theorem rp_tup (h : RpL xs k b hd hl) : Rp (.tup xs) (k + 1) b hd hl := by
  obtain ⟨ds, e, r, q⟩ := h
  refine ⟨.tuple ds, by simp only [toPy, e, Option.map_some], ⟨by simp only [PyData.showable, r.sh], by simp only [PyData.leavesShort, r.lv], by simp only [PyData.bulk]; exact r.bk, by simp only [PyData.depth]; exact Nat.succ_le_succ r.dp, fun z => r.dc (by simpa only [PyData.hasDict] using z)⟩, fun z => q (by simpa only [noLst] using z)⟩
theorem rp_lst (h : RpL xs k b hd true) : Rp (.lst xs) (k + 1) b hd true := by
  obtain ⟨ds, e, r, q⟩ := h
  exact ⟨.list ds, by simp only [toPy, e, Option.map_some], ⟨by simp only [PyData.showable, r.sh], by simp only [PyData.leavesShort, r.lv], by simp only [PyData.bulk]; exact r.bk, by simp only [PyData.depth]; exact Nat.succ_le_succ r.dp, fun z => r.dc (by simpa only [PyData.hasDict] using z)⟩, fun z => rfl⟩
theorem rp_dct0 : Rp (.dct [] []) (k + 1) b true hl := by
  refine ⟨.dict [], rfl, ⟨by simp only [PyData.showable, PyData.showableKv], by simp only [PyData.leavesShort, PyData.leavesShortKv], by simp only [PyData.bulk, PyData.bulkKv]; omega, by simp only [PyData.depth, PyData.depthKv]; omega, fun _ => rfl⟩, fun h => by simp only [noLst, noLstL] at h; cases h⟩
theorem repr_ok (h : Rp x 60 400 hd hl) (e : (hd && hl) = false) : ∃ s : Str, reprOf x = some (.str s) := by
  obtain ⟨d, e1, r, q⟩ := h
  have h1 := PyData.shown_le_bulk 2000 (by decide) d r.lv
  have h2 : d.shown.length ≤ 1000000 := by have := r.bk; omega
  refine ⟨d.shown, ?_⟩
  unfold reprOf
  rw [e1]
  exact if_pos ⟨r.sh, r.dp, h2⟩
end
end SL

set_option Elab.async false
set_option linter.all false
set_option autoImplicit false
set_option maxRecDepth 100000
set_option maxHeartbeats 4000000
/-! SLKey: instances of own error classes whose __new__ is that of a class further up (KeyError has none of its own). -/
namespace PySem
namespace OwnKey
open PySem.W PySem.Calls PyProof.Rows PySem.HandSPX
section
variable {P : Program} {w : World} {A : Around} {h : Heap} {g : Array GenState} {dr : Drawn} {t : Nat} {os : OsState}
variable {nm qn : Str} {C N : Addr} {bs chain up : List Value} {hdct : Bool} {sn : List Str} {sub : List Value} {ab : Bool} {col : Option Bool} {dd : Option Addr} {k0 k1 k2 k3 k5 : Option Value} {O newId initId : String}
/-- what the chain must have for O's __new__ -/
structure Under (O : String) (chain : List Value) : Prop where
  own : chain.contains (.type O) = true
  attr : chain.contains (.type "AttributeError") = false
  name : chain.contains (.type "NameError") = false
theorem Under.withC (U : Under O chain) : (Value.ref C :: chain).contains (.type O) = true ∧ (Value.ref C :: chain).contains (.type "AttributeError") = false ∧ (Value.ref C :: chain).contains (.type "NameError") = false := by
  refine ⟨?_, ?_, ?_⟩
  · rw [List.contains_cons, U.own, Bool.or_true]
  · rw [List.contains_cons, U.attr]; rfl
  · rw [List.contains_cons, U.name]; rfl
theorem may_new (B : ExcBaseFacts O newId initId up) (U : Under O chain) {xs : List Value} {Q : Unit → Shared → Prop} {E : Value → Shared → Prop} (ho : h.get? C = some (excClassObj nm qn C N bs chain hdct sn sub ab col dd k0 k1 k2 k3 k5 newId)) (q : Q () ⟨h, g, dr, t, os⟩) :
    wpAny (model P w) A (checkBuiltinCall newId ⟨.ref C :: xs, []⟩) Q E ⟨h, g, dr, t, os⟩ := by
  have c1 := (U.withC (C := C)).1
  have ns := B.noStar
  simp only [checkBuiltinCall, B.newSplit, B.newRow, B.newKind]
  repeat (first
    | refine wpAny_loadPart_at ho ?_
    | (refine wpAny_isSubtype_exc ho ?_; rw [c1])
    | refine wpAny_madeBy_exc ho ?_
    | refine wpAny_staticBase_exc ho ?_
    | simp only [Bool.false_eq_true, bne_self_eq_false, if_false]
    | wp_step)
  exact q
theorem do_new (B : ExcBaseFacts O newId initId up) (U : Under O chain) {xs : List Value} {R : Result → Shared → Prop} (ho : h.get? C = some (excClassObj nm qn C N bs chain hdct sn sub ab col dd k0 k1 k2 k3 k5 newId)) (hx : xs.length ≤ sizeLine)
    (q : R (.ok (.ret (.ref (h.objs.size + 1)))) ⟨(h.push { cls := .type "tuple", data := .seq xs.toArray }).push { cls := .ref C, data := .fields #[.ref h.objs.size, .none, .none, .none, .bool false, .none] }, g, dr, t, os⟩) :
    codeAny (model P w) A (.builtin newId ⟨.ref C :: xs, []⟩) R ⟨h, g, dr, t, os⟩ := by
  obtain ⟨c1, c2, c3⟩ := U.withC (C := C)
  have e1 := B.ends
  refine codeAny_builtinAt B.entry ?_
  unfold Builtin.«BaseException.__new__»
  refine wpAt_bind ?_
  show wpAt _ _ _ (stack >>= _) _ _ _
  refine wpAt_bind (wpAt_stack fun _ _ => wpAt_of_wpAny ?_)
  wp_walk
  refine wpAt_of_wpAny ?_
  rw [B.owner]
  repeat (first
    | with_reducible refine wpAny_loadPart_at ho ?_
    | with_reducible refine wpAny_madeHere_exc B.canon ho ?_
    | (with_reducible refine wpAny_isSubtype_exc ho ?_; first | rw [c3] | rw [c2] | rw [c1])
    | wp_step)
  show R _ _
  rw [Heap.size_push]
  exact q
/-- C(xs..): a new one, then __init__ -/
theorem do_call (B : ExcBaseFacts O newId initId up) (U : Under O chain) {xs : List Value} {f : Addr} {R : Result → Shared → Prop} (ho : h.get? C = some (excClassObj nm qn C N bs chain hdct sn sub ab col dd k0 k1 k2 k3 k5 newId)) (hx : xs.length ≤ sizeLine)
    (li : Looks (model P w) h (typeLookup (.ref C) "__init__") (some (.ref f))) (lb : ∀ me, Looks (model P w) h (bindSpecial (.ref f) me) (.ref f, [me]))
    (q : codeAny (model P w) (A.under (.builtin "type.__call__" ⟨.ref C :: xs, []⟩)) (.call (.ref f) ⟨.ref (h.objs.size + 1) :: xs, []⟩) (InitBack (h.objs.size + 1) R) ⟨(h.push (kdv_tup xs)).push (excO C h.objs.size), g, dr, t, os⟩) :
    codeAny (model P w) A (.call (.ref C) ⟨xs, []⟩) R ⟨h, g, dr, t, os⟩ := by
  have f1 := tc_lookup
  have f2 := tc_bind (.ref C)
  have isT : (⟨h, g, dr, t, os⟩ : Shared).TypeIs (.ref C) "type" := ⟨_, ho, rfl⟩
  refine codeAny_of_tree ?_
  show wpAny _ _ (callAny (.ref C) _) _ _ _
  repeat (any_goals (first
    | assumption
    | with_reducible refine wpAny_loadPart_at ho ?_
    | wp_step))
  refine ⟨rfl, codeAny_call_builtin_at (Code.quiet_builtin _ (by decide +kernel)) entry_typeCall (wpAny_check_type_call_sub ho ?_)⟩
  repeat (first
    | with_reducible refine wpAny_madeBy_exc ho ?_
    | with_reducible refine wpAny_loadPart_at ho ?_
    | wp_step)
  refine codeAny_call_builtin_code (Code.quiet_builtin _ B.quiet) (may_new (xs := xs) B U ho (do_new (xs := xs) B U ho hx ?_))
  show wpAny _ _ _ _ _ _
  have kp : ∀ b o, h.get? b = some o → ((h.push (kdv_tup xs)).push (excO C h.objs.size)).get? b = some o := fun b o z => Heap.get?_push_of_some _ (Heap.get?_push_of_some _ z)
  have ho2 := kp _ _ ho
  have hn : ((h.push (kdv_tup xs)).push (excO C h.objs.size)).get? (h.objs.size + 1) = some { cls := .ref C, data := .fields #[.ref h.objs.size, .none, .none, .none, .bool false, .none] } := by heap_get
  have cC : (Value.ref C :: chain).contains (.ref C) = true := by simp
  unfold isInstance
  repeat (first
    | with_reducible refine wpAny_loadPart_at hn ?_
    | (with_reducible refine wpAny_isSubtype_exc ho2 ?_; rw [cC])
    | wp_step)
  show wpAny _ _ (typeLookup (.ref C) _) _ _ _
  refine (li.keeps kp).at (wpAny_holding (wpAny_bind (((lb (.ref (h.objs.size + 1))).keeps kp).at (wpAny_bind (wpAny_call (codeAny_mono q fun r s' z => ?_))))))
  cases r with
  | error e => exact z
  | ok fl =>
    cases fl with
    | ret v =>
      obtain ⟨rfl, z⟩ := z
      first
        | exact wpAny_pure (wpAny_pure z)
        | (wp_walk; exact z)
    | next => exact z.elim
    | brk => exact z.elim
    | cont => exact z.elim
end
end OwnKey
end PySem

set_option Elab.async false
set_option linter.all false
set_option autoImplicit false
set_option maxRecDepth 100000
set_option maxHeartbeats 4000000
/-! SLExc: own error classes with one field that their own __init__ stores: made, raised, read. -/
namespace PySem
namespace OwnEx
open PySem.W PySem.Calls PyProof.Rows PySem.HandSPX
open Builtin Builtin.ObjectAttr
/-- own classes, then the chain t -/
def refsT (t : List Value) : List Value → Bool
  | .ref _ :: r => refsT t r
  | l => l == t
theorem refsT_cases {t : List Value} : ∀ l : List Value, refsT t l = true → (∃ c r, l = .ref c :: r ∧ refsT t r = true) ∨ l = t
  | [], e => .inr (beq_iff_eq.mp e)
  | .ref c :: r, e => .inl ⟨c, r, rfl, e⟩
  | .none :: _, e => .inr (beq_iff_eq.mp e)
  | .ellipsis :: _, e => .inr (beq_iff_eq.mp e)
  | .notImplemented :: _, e => .inr (beq_iff_eq.mp e)
  | .bool _ :: _, e => .inr (beq_iff_eq.mp e)
  | .int _ _ :: _, e => .inr (beq_iff_eq.mp e)
  | .float _ _ :: _, e => .inr (beq_iff_eq.mp e)
  | .str _ _ :: _, e => .inr (beq_iff_eq.mp e)
  | .bytes _ _ :: _, e => .inr (beq_iff_eq.mp e)
  | .type _ :: _, e => .inr (beq_iff_eq.mp e)
  | .builtin _ :: _, e => .inr (beq_iff_eq.mp e)
theorem refsT_pass {B : String} {t : List Value} (SB : StoreFacts B t "object.__setattr__" "object") (me : Value) : ∀ l : List Value, refsT t l = true → refuseLoop me "__setattr__" l = pure ()
  | [], e => by
    rcases refsT_cases [] e with ⟨_, _, z, _⟩ | z
    · cases z
    · rw [z]; exact SB.passes me
  | a :: r, e => by
    rcases refsT_cases (a :: r) e with ⟨c, r', z, hr⟩ | z
    · cases z
      rw [refuseLoop_ref]
      exact refsT_pass SB me r hr
    · rw [z]; exact SB.passes me
theorem refsT_has {t : List Value} (Y : String) : ∀ l : List Value, refsT t l = true → l.contains (.type Y) = t.contains (.type Y)
  | [], e => by
    rcases refsT_cases [] e with ⟨_, _, z, _⟩ | z
    · cases z
    · rw [z]
  | a :: r, e => by
    rcases refsT_cases (a :: r) e with ⟨c, r', z, hr⟩ | z
    · cases z
      rw [List.contains_cons, refsT_has Y r hr]
      rfl
    · rw [z]
/-- an own class over the chain tl: called, it gives a new one to its __init__ -/
structure Makes (newId : String) (tl : List Value) : Prop where
  go : ∀ {P : Program} {w : World} {A : Around} {h : Heap} {g : Array GenState} {dr : Drawn} {t : Nat} {os : OsState} {nm qn : Str} {C N : Addr} {bs bm : List Value} {hdct : Bool} {sn : List Str} {sub : List Value} {ab : Bool} {col : Option Bool} {dd : Option Addr}
    {k0 k1 k2 k3 k5 : Option Value} {xs : List Value} {f : Addr} {R : Result → Shared → Prop}, refsT tl bm = true → h.get? C = some (excClassObj nm qn C N bs bm hdct sn sub ab col dd k0 k1 k2 k3 k5 newId) → xs.length ≤ sizeLine →
    W.Looks (model P w) h (typeLookup (.ref C) "__init__") (some (.ref f)) → (∀ me, W.Looks (model P w) h (bindSpecial (.ref f) me) (.ref f, [me])) →
    codeAny (model P w) (A.under (.builtin "type.__call__" ⟨.ref C :: xs, []⟩)) (.call (.ref f) ⟨.ref (h.objs.size + 1) :: xs, []⟩) (W.InitBack (h.objs.size + 1) R) ⟨(h.push (W.kdv_tup xs)).push (excO C h.objs.size), g, dr, t, os⟩ →
    codeAny (model P w) A (.call (.ref C) ⟨xs, []⟩) R ⟨h, g, dr, t, os⟩
theorem makes_of {B newId initId : String} {tl : List Value} (FB : ExcBaseFacts B newId initId tl) : Makes newId tl := ⟨fun hb ho hx li lb q => call_own FB (fun Y => refsT_has Y _ hb) ho li lb hx q⟩
theorem makes_up {O newId initId : String} {tl up : List Value} (B : ExcBaseFacts O newId initId up) (U : OwnKey.Under O tl) : Makes newId tl := ⟨fun hb ho hx li lb q =>
  OwnKey.do_call B ⟨(refsT_has _ _ hb).trans U.own, (refsT_has _ _ hb).trans U.attr, (refsT_has _ _ hb).trans U.name⟩ ho hx li lb q⟩
def chainKey : List Value := [.type "KeyError", .type "LookupError", .type "Exception", .type "BaseException", .type "object"]
theorem makes_KeyError : Makes "LookupError.__new__" [.type "KeyError", .type "LookupError", .type "Exception", .type "BaseException", .type "object"] := makes_up F.excBase_LookupError ⟨by decide +kernel, by decide +kernel, by decide +kernel⟩
theorem store_KeyError : StoreFacts "KeyError" [.type "KeyError", .type "LookupError", .type "Exception", .type "BaseException", .type "object"] "object.__setattr__" "object" := by
  refine ⟨by kernel_rfl, ?_, F.entry_object_sa, by decide +kernel, by decide +kernel, by decide +kernel, fun a b c => ?_, fun me => by kernel_rfl⟩
  · refine .of (owner := "object") (n := "__setattr__") ?_ (by decide +kernel) (by decide +kernel) (by decide +kernel) ?_ ?_
    · rw [typeLookup_type, builtinLookup_eq_fast]
      kernel_rfl
    · first
        | exact .inl (by decide +kernel)
        | exact .inr (by decide +kernel)
    · rw [isSubtype_type]
      kernel_rfl
  · unfold argsOk
    kernel_rfl
section
variable {prog : Program} {w : World} {A : Around} {E : Value → Shared → Prop} {R : Result → Shared → Prop} {hp : Heap} {g : Array GenState} {d : Drawn} {t : Nat} {os : OsState}
/-- self.fld = u, the first field of a new exception -/
theorem put_first {K : W.Frag} {B : String} {tl : List Value} {fld : Str} {k : Tok} {u : Value} {x C : Addr} {fv : Array Value} {cd : ClassData} (SB : StoreFacts B tl "object.__setattr__" "object")
    (KX : K.In hp) (hx : hp.get? x = some { cls := .ref C, data := .fields fv }) (hcd : W.clsIn K C = some cd) (hm : refsT tl cd.mro = true) (hh : cd.hasDict = true) (ha : W.findIn K (.ref C) fld = some none)
    (go : ∀ h' tk' dx, (∀ b o, b ≠ x → hp.get? b = some o → h'.get? b = some o) → hp.objs.size ≤ dx → dx ≠ x → h'.get? x = some { cls := .ref C, dict := some dx, data := .fields fv } →
      h'.Ns1 dx (fun y => if y = fld then some u else none) → R (.ok (.ret .none)) ⟨h', g, d, tk', os⟩) :
    codeAny (model prog w) A (.call (.builtin "object.__setattr__") ⟨[.ref x, .str fld k, u], []⟩) R ⟨hp, g, d, t, os⟩ := by
  have J : W.InstAt hp x { cls := .ref C, data := .fields fv } C none := ⟨hx, rfl, rfl, trivial⟩
  have SO := F.store_object
  have isO : cd.mro.contains (.type "object") = true := (refsT_has "object" _ hm).trans SB.hasOwner
  have ne : cd.mro.isEmpty = false := by
    cases e : cd.mro with
    | nil => rw [e] at isO; cases isO
    | cons _ _ => rfl
  have apart : x ≠ hp.objs.size := Nat.ne_of_lt (Heap.lt_size hx)
  have under : W.Looks (model prog w) hp (isInstance (.ref x) (.type "object")) true := J.type.andThen (W.looks_mroIn KX (by unfold W.mroIn; rw [hcd, Option.bind_some, if_neg (by rw [ne]; decide), isO]))
  refine codeAny_call_builtin SO.slot.plain SO.entry (@W.check_slot (model prog w) _ _ ⟨hp, g, d, t, os⟩ "object.__setattr__" "object" "__setattr__" (.ref x) [.str fld k, u] [] _ SO.kind SO.split under (SO.args (.ref x) (.str fld k) u) ?_)
  have lm : W.Looks (model prog w) hp (mroOf (.ref C)) cd.mro := (W.looks_clsIn KX hcd).andThen .now
  have lt : W.Looks (model prog w) hp (storeTaker? none) none := .now
  have lc : W.Looks (model prog w) hp (classData C) cd := W.looks_clsIn KX hcd
  rw [W.osa_eq, refuse_eq]
  refine wpAny_bind (wpAny_bind (J.type.at (wpAny_bind (lm.at ?_))))
  rw [refsT_pass SB _ _ hm]
  refine wpAny_pure (wpAny_bind (J.type.at (wpAny_bind ((W.looks_findIn KX ha).at (wpAny_bind (lt.at ?_))))))
  show wpAny _ _ (storeInOwnDict (.ref x) (.ref C) (.str fld k) fld u false) _ _ _
  obtain ⟨n1, n2, mro, n3, n4, hd, n5, n6, n7, n8, n9⟩ := cd
  dsimp only at hh
  subst hh
  unfold storeInOwnDict ownDictForStores
  repeat (first | with_reducible refine store_in_new ?_ ?_ | with_reducible refine wpAny_loadPart_at hx ?_ | with_reducible refine lc.at ?_ | wp_step)
  · exact ⟨_, #[], _, (Heap.get?_update_ne _ _ _ _ apart.symm).trans (Heap.get?_push_at rfl rfl), rfl, fun e he => absurd he (by simp), fun _ => rfl⟩
  · intro h' tk' hn' sb
    have hx1 : (hp.push { cls := .type "dict", data := .dict #[] }).get? x = some { cls := .ref C, data := .fields fv } := Heap.get?_push_of_some _ hx
    refine go h' tk' hp.objs.size (fun b o hb ho => ?_) (Nat.le_refl _) apart.symm ?_ hn'
    · exact (sb.2 b (Nat.ne_of_lt (Heap.lt_size ho))).trans ((Heap.get?_update_ne _ _ _ _ hb).trans (Heap.get?_push_of_some _ ho))
    · exact (sb.2 x apart).trans (Heap.get?_update_self _ hx1 rfl)
end
/-! ### the text of __init__ -/
def inA (fld : Str) (p1 p2 : Pos) : Arguments := { posonlyargs := [], args := [{ arg := "self", annotation := none, pos := p1 }, { arg := fld, annotation := none, pos := p2 }], vararg := none, kwonlyargs := [], kw_defaults := [], kwarg := none, defaults := [] }
def inB (fld : Str) (q1 q2 q3 q4 : Pos) : List Stmt := [.Assign [.Attribute (.Name "self" q1) fld q2] (.Name fld q3) q4]
def inS (fld : Str) : Scope := { kind := .function, names := [(PySem.Str.ofString "self", .local), (fld, .local)], isGenerator := false, isCoroutine := false, more := [] }
/-- what the written part says of the class cn, at C, with the one field fld, and of its __init__, at fI; tl: the chain of its built-in base -/
structure ExTxt (K : Frag) (mg : Str → Option Value) (cn fld iq : Str) (B newId initId : String) (tl : List Value) (C fI : Addr) : Prop where
  gC : mg cn = some (.ref C)
  cls : ∃ nm q N bs bm sn sub ab col dd k0 k1 k2 k3 k5, K.lookup C = some (excClassObj nm q C N bs bm true sn sub ab col dd k0 k1 k2 k3 k5 newId) ∧ refsT tl bm = true
  sa : findIn K (.ref C) "__setattr__" = some (some (.builtin "object.__setattr__"))
  ga : findIn K (.ref C) "__getattribute__" = some (some (.builtin "BaseException.__getattribute__"))
  gg : findIn K (.ref C) "__getattr__" = some none
  noN : findIn K (.ref C) fld = some none
  iC : findIn K (.ref C) "__init__" = some (some (.ref fI))
  tC : typeIn K (.ref fI) = some (.type "function")
  kC : keepIn K (.ref C) = true
  exC : subIn K (.ref C) (.type "BaseException") = some true
  tyC : typeIn K (.ref C) = some (.type "type")
  hdC : hasDictIn K C = true
  fn : ∃ (oc : Value) (od : Option Addr) (doc pm : Value) (an : Option Addr) (cdv ct : Value) (osl : Array (Option Value)) (p1 p2 q1 q2 q3 q4 : Pos),
    K.lookup fI = some ⟨oc, od, .func (fnOf "__init__" iq (inA fld p1 p2) (inB fld q1 q2 q3 q4) (inS fld) .none .none doc pm an cdv ct), osl⟩ ∧ codeIn K cdv iq = true ∧ ∀ a b : Value, bindArgs (fnOf "__init__" iq (inA fld p1 p2) (inB fld q1 q2 q3 q4) (inS fld) .none .none doc pm an cdv ct) ⟨[a, b], []⟩ = pure [(("self" : Str), a), (fld, b)]
  fs : fld ≠ "self" ∧ (fld == ("__debug__" : Str)) = false
theorem one_arg (v : Value) : [v].length ≤ sizeLine := by
  rw [sizeLine_eq]
  exact (by decide : 1 ≤ 16777216)
theorem ldN {M : Model} {s : Shared} {name : Str} {scope : Scope} {L a : Addr} {cd : Value} {m : Str → Option Value} {x : Str} {pos : Pos} {v : Value} {Q : Value → Shared → Prop} {A : Around} {E : Value → Shared → Prop} (hn : s.heap.Ns L m) (hv : m x = some v) (h : Q v s)
    (hk : scope.kind = .function) (hl : (envOfC name scope L a cd).kindOf x = some .local) (hd : (x == ("__debug__" : Str)) = false) :
    wpAny M A (eval (.Name x pos) (envOfC name scope L a cd)) Q E s := wpAny_Name (wpAny_loadName_local hk hl hn hv h) hd
/-- what __init__ leaves of a new exception at x -/
structure InEnd (h h' : Heap) (x C dx t1 : Addr) (fld : Str) (v : Value) : Prop where
  keep : ∀ b o, b ≠ x → h.get? b = some o → h'.get? b = some o
  obj : h'.get? x = some { cls := .ref C, dict := some dx, data := .fields #[.ref t1, .none, .none, .none, .bool false, .none] }
  dbig : h.objs.size ≤ dx
  dne : dx ≠ x
  ns : h'.Ns1 dx (fun y => if y = fld then some v else none)
/-- a made exception -/
structure ExMade (h h' : Heap) (e C d : Addr) (fld : Str) (v : Value) : Prop where
  keep : ∀ b o, h.get? b = some o → h'.get? b = some o
  new : h.objs.size ≤ e
  obj : ∃ oe vs, h'.get? e = some oe ∧ oe.cls = .ref C ∧ oe.dict = some d ∧ oe.data = .fields vs ∧ vs[1]? = some .none
  dbig : h.objs.size ≤ d
  dne : d ≠ e
  ns : h'.Ns1 d (fun y => if y = fld then some v else none)
section
variable {prog : Program} {w : World} {A : Around} {E : Value → Shared → Prop} {R : Result → Shared → Prop} {s : Shared} {K : Frag} {mg : Str → Option Value} {C fI : Addr} {cn fld iq : Str} {B newId initId : String} {tl : List Value}
theorem ex_init (SB : StoreFacts B tl "object.__setattr__" "object") (T : ExTxt K mg cn fld iq B newId initId tl C fI) {x t0 : Addr} {v : Value} (KX : K.In s.heap) (hlim : s.heap.NoLimit) (hx : s.heap.get? x = some (excO C t0)) (hroom : A.depth < recursionLimit)
    (go : ∀ h' tk dx, InEnd s.heap h' x C dx t0 fld v → R (.ok (.ret .none)) { s with heap := h', toks := tk }) :
    codeAny (model prog w) A (.call (.ref fI) ⟨[.ref x, v], []⟩) R s := by
  obtain ⟨oc, od, doc, pm, an, cdv, ct, osl, p1, p2, q1, q2, q3, q4, ho, hcd, hbd⟩ := T.fn
  obtain ⟨nm, q, N, bs, bm, sn, sub, ab, col, dd, k0, k1, k2, k3, k5, hC, hbm⟩ := T.cls
  obtain ⟨fs1, fs2⟩ := T.fs
  have hcl : clsIn K C = some { name := nm, bases := bs, mro := .ref C :: bm, ns := N, qualname := q, hasDict := true, slotNames := sn, subclasses := sub, abstract := ab, collection := col, hasDel := false } := by unfold clsIn; rw [hC] <;> rfl
  have lk1 : List.lookup ("self" : Str) (inS fld).names = some NameKind.local := rfl
  have lk2 : List.lookup fld (inS fld).names = some NameKind.local := by
    have e : (fld == (PySem.Str.ofString "self")) = false := by simpa using fs1
    show List.lookup fld [(PySem.Str.ofString "self", NameKind.local), (fld, NameKind.local)] = _
    simp [List.lookup, e]
  refine Att.call_fn (binds := [(("self" : Str), .ref x), (fld, v)]) KX hlim ho hcd hroom (BindsTo.of_eq (hbd _ _)) ?hloc (fun s₁ IC => ?_) rfl rfl rfl
  case hloc =>
    simp only [List.all_cons, List.all_nil, lk1, lk2]
    rfl
  obtain ⟨h₁, tk₁, rfl⟩ := IC.toInCall.same
  have kp : ∀ b o, s.heap.get? b = some o → h₁.get? b = some o := IC.toInCall.keep
  have hn := IC.toInCall.ns
  have K1 : K.In h₁ := KX.keeps kp
  have hx₁ := kp _ _ hx
  -- self.fld = fld
  show wpAny _ _ (execs _ _) _ _ _
  refine wpAny_execs_cons (plainObj_wpAny_Assign_Attribute ?_)
  refine ldN (v := v) hn ?_ (ldN (v := .ref x) hn ?_ ?_ rfl lk1 (by decide)) rfl lk2 fs2
  · have g1 : (envOfC iq (inS fld) s.heap.objs.size fI cdv).kindOf ("self" : Str) = some .local := lk1
    have g2 : (envOfC iq (inS fld) s.heap.objs.size fI cdv).kindOf fld = some .local := lk2
    simp only [bindL, g1, g2, if_true]
  · have g1 : (envOfC iq (inS fld) s.heap.objs.size fI cdv).kindOf ("self" : Str) = some .local := lk1
    have g2 : (envOfC iq (inS fld) s.heap.objs.size fI cdv).kindOf fld = some .local := lk2
    simp only [bindL, g1, g2, if_true, if_neg (Ne.symm fs1)]
  refine set_plain K1 (ox := excO C t0) (od := none) ⟨hx₁, rfl, rfl, trivial⟩ T.sa ?_
  refine put_first SB K1 hx₁ hcl (show refsT tl (.ref C :: bm) = true from hbm) rfl T.noN (fun h₃ tk₃ dx k₃ dn dne hx₃ hn₃ => ?_)
  show wpAny _ _ (execs _ _) _ _ _
  have z : s.heap.objs.size < h₁.objs.size := hn.lt
  exact wpAny_execs_nil (go h₃ tk₃ dx ⟨fun b o hb e => k₃ b o hb (kp b o e), hx₃, Nat.le_of_lt (Nat.lt_of_lt_of_le z dn), dne, hn₃⟩)
theorem ex_made (FB : Makes newId tl) (SB : StoreFacts B tl "object.__setattr__" "object") (T : ExTxt K mg cn fld iq B newId initId tl C fI) {v : Value} (KX : K.In s.heap) (hlim : s.heap.NoLimit) (hroom : A.depth + 1 < recursionLimit)
    (go : ∀ h' tk e d, ExMade s.heap h' e C d fld v → R (.ok (.ret (.ref e))) { s with heap := h', toks := tk }) :
    codeAny (model prog w) A (.call (.ref C) ⟨[v], []⟩) R s := by
  obtain ⟨nm, q, N, bs, bm, sn, sub, ab, col, dd, k0, k1, k2, k3, k5, hC, hbm⟩ := T.cls
  obtain ⟨hp, g, dr, tk, os⟩ := s
  have kp : ∀ b o, hp.get? b = some o → ((hp.push (kdv_tup [v])).push (excO C hp.objs.size)).get? b = some o := fun b o e => Heap.get?_push_of_some _ (Heap.get?_push_of_some _ e)
  have at1 : ((hp.push (kdv_tup [v])).push (excO C hp.objs.size)).get? (hp.objs.size + 1) = some (excO C hp.objs.size) := by heap_get
  refine FB.go hbm (KX _ _ hC) (one_arg v) (looks_findIn KX T.iC) (fun me => bind_fn KX me T.tC) ?_
  refine ex_init (s := ⟨(hp.push (kdv_tup [v])).push (excO C hp.objs.size), g, dr, tk, os⟩) SB T (KX.keeps kp) (hlim.keeps kp) at1 ?_ fun h' tk' dx ⟨k', hx, dn, dne, hns⟩ => ?_
  · show A.depth + 1 < recursionLimit
    exact hroom
  · have old : ∀ b o, hp.get? b = some o → h'.get? b = some o := fun b o e => k' b o (Nat.ne_of_lt (Nat.lt_succ_of_lt (Heap.lt_size e))) (kp b o e)
    have z : hp.objs.size + 1 + 1 ≤ dx := by
      first
        | (simpa only [Heap.size_push] using dn)
        | exact dn
        | (have q := dn; rw [Heap.size_push, Heap.size_push] at q; exact q)
    exact ⟨rfl, go h' tk' (hp.objs.size + 1) dx ⟨old, Nat.le_succ _, ⟨_, _, hx, rfl, rfl, rfl, rfl⟩, Nat.le_trans (Nat.le_trans (Nat.le_succ _) (Nat.le_succ _)) z, dne, hns⟩⟩
end
end OwnEx
end PySem
namespace SL
open PySem PySem.Spec L2
open PyProof.Rows hiding St
open PySem.OwnEx (ExTxt ex_made ExMade Makes)
theorem relO_one {v : V} {u : Value} {fld : Str} (r : RelV v u) (f : Str) : RelO (List.lookup f [(fld, v)]) (if f = fld then some u else none) := by
  by_cases hw : f = fld
  · subst hw
    rw [if_pos rfl]
    have q : List.lookup f [(f, v)] = some v := by simp [List.lookup]
    rw [q]
    exact r
  · rw [if_neg hw]
    have qw : (f == fld) = false := by simpa using hw
    have q2 : List.lookup f [(fld, v)] = none := by simp [List.lookup, qw]
    rw [q2]
    trivial
section
variable {X : Cx} {n k : Nat} {W : WX} {e a : Expr} {m : M IV} {mr : M (List IV)} {cn fld iq : Str} {B newId initId : String} {tl : List Value} {C fI : Addr} {p pos pos2 : Pos}
/-- cn(a): what is made -/
theorem pmk_ex {ta : TA} (FB : Makes newId tl) (SB : StoreFacts B tl "object.__setattr__" "object") (T : ExTxt X.K X.mg cn fld iq B newId initId tl C fI) (hr : Room k X.A) (ha : PA X [a] ta) (hg : Gl X cn := by rfl) (hdb : (cn == ("__debug__" : Str)) = false := by decide)
    (hst : starEach (a :: []) X.env = (false, eval a X.env) :: starEach [] X.env := by rfl) (hpl : (backTo pos (starEach [] X.env)).any (·.1) = false := by rfl) :
    PMk X (.Call (.Name cn p) [a] [] pos) (fun σ H Q => ta σ H fun vs H1 => ∃ v, vs = [v] ∧ ∀ d, H1 d = none → Q (.ref C) (some d) (upd H1 d (.xd [(fld, v)]))) := by
  intro pins s σ H Q I h
  refine wpAny_Call_Name_kw (ld_glob I hg T.gC ?_ hdb)
  refine PySem.W.callWith_K (h₀ := X.base) I.ok.mod.kin T.kC (thn (ha.run pos pins s σ H _ I h) fun us s1 hh => ?_) hst hpl
  obtain ⟨vs, H1, I1, r1, v, ev, q1⟩ := hh
  subst ev
  refine ⟨I1.kIn, ?_⟩
  cases r1 with
  | cons rv rn =>
    rename_i u us'
    cases rn
    show wpAny _ _ (call (.ref C) [u]) _ _ _
    have lim1 := I1.nolimit
    obtain ⟨hp, g, dr, tk, os⟩ := s1
    refine wpAny_call (ex_made FB SB T I1.kIn lim1 (by have := hr.dp; omega) fun h' tk' e d M => ?_)
    show MkP X pins σ Q (.ref e) ⟨h', g, dr, tk', os⟩
    obtain ⟨oe, fv, hoe, hc, hd, hdat, hf1⟩ := M.obj
    obtain ⟨G', g1, g2⟩ := restrict h' fun b => decide (b ≠ e)
    have gk : ∀ b, b ≠ e → G'.get? b = h'.get? b := fun b hb => g1 b (decide_eq_true hb)
    have ge : G'.get? e = none := g2 e (by simp)
    have old : ∀ b o, hp.get? b = some o → G'.get? b = some o := fun b o q => (gk b (Nat.ne_of_lt (Nat.lt_of_lt_of_le (Heap.lt_size q) M.new))).trans (M.keep b o q)
    have ob : ObjOk X.prog X.w (upd H1 d (.xd [(fld, v)])) G' d (.xd [(fld, v)]) := ⟨_, M.ns.at (fun o q => (gk d M.dne).trans q), fun f => relO_one rv f⟩
    have J : Inv X pins σ (upd H1 d (.xd [(fld, v)])) ⟨G', g, dr, tk', os⟩ := I1.laid (t' := tk') old M.dbig ob
    refine ⟨e, oe, fv, ⟨G', g, dr, tk', os⟩, _, .ref C, some d, rfl, J, fun b o q => ?_, ge, hoe, ⟨hc, hd⟩, hdat, hf1, ?_, rfl, I1.bare, raises_own T.exC T.tyC, q1 d (I1.hok.fresh M.dbig)⟩
    · by_cases hb : b = e
      · have q' : G'.get? b = some o := q
        rw [hb, ge] at q'; cases q'
      · exact (gk b hb).symm.trans q
    · rw [upd_ne (Ne.symm M.dne)]
      exact I1.hok.fresh M.new
/-- raise cn(e) -/
def sRaise (cn fld : Str) (m : M IV) : SM := fun n σ cs => thenS (m n σ cs) σ fun x cs' => .ex ⟨cn, [fld], [x]⟩ σ cs'
@[simp] theorem ev_sRaise {n : Nat} {σ : List SV} {cs : List Cell} {m : M IV} : sRaise cn fld m n σ cs = thS (m n σ cs) σ (k := fun x cs' => .ex ⟨cn, [fld], [x]⟩ σ cs') := id rfl
theorem js_raise (hc : X.calm = true) (tk : Takes X W) (FB : Makes newId tl) (SB : StoreFacts B tl "object.__setattr__" "object") (T : ExTxt X.K X.mg cn fld iq B newId initId tl C fI) (hr : Room k X.A) (ha : JE X n W a m) (hg : Gl X cn := by rfl) (hdb : (cn == ("__debug__" : Str)) = false := by decide)
    (hst : starEach (a :: []) X.env = (false, eval a X.env) :: starEach [] X.env := by rfl) (hpl : (backTo pos (starEach [] X.env)).any (·.1) = false := by rfl) :
    JS X n W (.Raise (some (.Call (.Name cn p) [a] [] pos)) none pos2) (sRaise cn fld m) := by
  have hA : JA X n W [a] (aCons m aNil) := ja_cons ha ja_nil (hs := hst)
  refine ps_imp (ps_raise hc tk (pmk_ex FB SB T hr hA hg hdb hst hpl)) fun D σ H h => ?_
  obtain ⟨F, ρ, cs, σi, hs, hl, hp⟩ := h
  show tG (gx X) n W (RelL (gx X)) (aCons m aNil) σ H _
  refine ⟨F, ρ, cs, σi, hs, hl, ?_⟩
  have e : aCons m aNil n σi cs = (m n σi cs).then fun x cs1 => .ok [x] cs1 := rfl
  rw [e]
  unfold sRaise at hp
  cases hm : m n σi cs with
  | ok x cs1 =>
    rw [hm] at hp
    intro F' ρ' H' vs st hs' rl
    obtain ⟨v, r, rfl, rv, rn⟩ := rl
    simp only [RelL] at rn
    subst rn
    refine ⟨v, rfl, fun d hd => ?_⟩
    obtain ⟨hs2, st2⟩ := hs'.new (o := .xd [(fld, v)]) hd
    have st3 := st.tr st2
    refine hp _ ρ' _ σ (.ref C) (some d) st3.u hs2 (hl.stp st3) (fun x o => .inl o) ?_
    exact ⟨C, d, [v], T.gC, rfl, rfl, upd_same, rfl, by simp only [RelL]; exact ⟨v, [], rfl, rv.stp st2, rfl⟩⟩
  | ex y cs1 =>
    rw [hm] at hp
    exact fun F' ρ' H' cls d st hs' r => hp F' ρ' H' σ cls d st.u hs' (hl.stp st) (fun x o => .inl o) r
  | stuck => rw [hm] at hp; exact hp.elim
end
end SL

set_option Elab.async false
set_option linter.all false
set_option autoImplicit false
set_option maxRecDepth 100000
set_option maxHeartbeats 4000000
/-! SLTry: except X as e; a lambda handed to a def that calls it under try. -/
namespace SL
open PySem PySem.Spec L2
open PyProof.Rows hiding St
/-! ### the caught exception -/
section
variable {g : Gx} {F F' : Hp} {ρ ρ' : List Addr} {H H' : Hp} {σ : St} {σi : List SV} {cs : List Cell}
theorem Slts.setExn {i : Nat} {e : Exn} {a : Addr} {cls : Value} {d : Option Addr} (hl : Slts g F ρ H σi σ) (r : RelEx g F ρ e cls d) : Slts g F ρ H (σi.set i (.exn e a cls d)) (σ.set i (some (.ref a))) := by
  refine ⟨by rw [List.length_set, List.length_set, hl.len], fun j s q => ?_, fun j k us ws b e1 e2 q1 q2 => ?_⟩
  · by_cases hj : i = j
    · subst hj
      have hlt : i < σi.length := by
        have := (List.getElem?_eq_some_iff.mp q).1
        rwa [List.length_set] at this
      rw [List.getElem?_set_self hlt] at q
      cases q
      rw [List.getElem?_set_self (by rw [← hl.len]; exact hlt)]
      exact ⟨rfl, r⟩
    · rw [List.getElem?_set_ne hj] at q ⊢
      exact hl.at_ j s q
  · have key : ∀ {j : Nat} {us : List IV}, (σi.set i (SV.exn e a cls d))[j]? = some (SV.own us) → i ≠ j ∧ σi[j]? = some (SV.own us) := fun {j us} z => by
      by_cases hj : i = j
      · subst hj
        have hlt : i < σi.length := by
          have := (List.getElem?_eq_some_iff.mp z).1
          rwa [List.length_set] at this
        rw [List.getElem?_set_self hlt] at z
        cases z
      · rw [List.getElem?_set_ne hj] at z
        exact ⟨hj, z⟩
    obtain ⟨n1, k1⟩ := key e1
    obtain ⟨n2, k2⟩ := key e2
    rw [List.getElem?_set_ne n1] at q1
    rw [List.getElem?_set_ne n2] at q2
    exact hl.ow j k _ _ b k1 k2 q1 q2
theorem own_setExn {i : Nat} {e : Exn} {a : Addr} {cls : Value} {d : Option Addr} {x : Addr} (h : Own (σi.set i (.exn e a cls d)) (σ.set i (some (.ref a))) x) : Own σi σ x := by
  obtain ⟨j, us, e1, e2⟩ := h
  by_cases hj : i = j
  · subst hj
    have hlt : i < σi.length := by
      have := (List.getElem?_eq_some_iff.mp e1).1
      rwa [List.length_set] at this
    rw [List.getElem?_set_self hlt] at e1
    cases e1
  · rw [List.getElem?_set_ne hj] at e1 e2
    exact ⟨j, us, e1, e2⟩
theorem Slts.setUn {i : Nat} {o : Option V} (hl : Slts g F ρ H σi σ) : Slts g F ρ H (σi.set i .un) (σ.set i o) := by
  refine ⟨by rw [List.length_set, List.length_set, hl.len], fun j s q => ?_, fun j k us ws b e1 e2 q1 q2 => ?_⟩
  · by_cases hj : i = j
    · subst hj
      have hlt : i < σi.length := by
        have := (List.getElem?_eq_some_iff.mp q).1
        rwa [List.length_set] at this
      rw [List.getElem?_set_self hlt] at q
      cases q
      trivial
    · rw [List.getElem?_set_ne hj] at q ⊢
      exact hl.at_ j s q
  · have key : ∀ {j : Nat} {us : List IV}, (σi.set i SV.un)[j]? = some (SV.own us) → i ≠ j ∧ σi[j]? = some (SV.own us) := fun {j us} z => by
      by_cases hj : i = j
      · subst hj
        have hlt : i < σi.length := by
          have := (List.getElem?_eq_some_iff.mp z).1
          rwa [List.length_set] at this
        rw [List.getElem?_set_self hlt] at z
        cases z
      · rw [List.getElem?_set_ne hj] at z
        exact ⟨hj, z⟩
    obtain ⟨n1, k1⟩ := key e1
    obtain ⟨n2, k2⟩ := key e2
    rw [List.getElem?_set_ne n1] at q1
    rw [List.getElem?_set_ne n2] at q2
    exact hl.ow j k _ _ b k1 k2 q1 q2
theorem own_setUn {i : Nat} {o : Option V} {x : Addr} (h : Own (σi.set i .un) (σ.set i o) x) : Own σi σ x := by
  obtain ⟨j, us, e1, e2⟩ := h
  by_cases hj : i = j
  · subst hj
    have hlt : i < σi.length := by
      have := (List.getElem?_eq_some_iff.mp e1).1
      rwa [List.length_set] at this
    rw [List.getElem?_set_self hlt] at e1
    cases e1
  · rw [List.getElem?_set_ne hj] at e1 e2
    exact ⟨j, us, e1, e2⟩
end
/-- e.fld, e the exception that slot i holds -/
noncomputable def eXf (a : Addr) (cls : Value) (d : Option Addr) (i : Nat) (fld : Str) : M IV := fun _ σ cs => match σ[i]? with
  | some (.exn e a' cls' d') => open Classical in if a' = a ∧ cls' = cls ∧ d' = d then (match (e.fs.zip e.xs).lookup fld with
    | some x => .ok x cs
    | none => .stuck) else .stuck
  | _ => .stuck
noncomputable def xfR (a : Addr) (cls : Value) (d : Option Addr) (fld : Str) (o : Option SV) (cs : List Cell) : Res IV := match o with
  | some (.exn e a' cls' d') => open Classical in if a' = a ∧ cls' = cls ∧ d' = d then optR ((e.fs.zip e.xs).lookup fld) cs else .stuck
  | _ => .stuck
@[simp] theorem xfR_exn {a : Addr} {cls : Value} {d : Option Addr} {fld : Str} {e : Exn} {cs : List Cell} : xfR a cls d fld (some (.exn e a cls d)) cs = optR ((e.fs.zip e.xs).lookup fld) cs := by
  unfold xfR
  exact if_pos ⟨rfl, rfl, rfl⟩
@[simp] theorem ev_eXf {a : Addr} {cls : Value} {d : Option Addr} {i n : Nat} {fld : Str} {σ : List SV} {cs : List Cell} : eXf a cls d i fld n σ cs = xfR a cls d fld σ[i]? cs := by
  unfold eXf xfR
  rcases σ[i]? with _ | (_ | _ | _ | _) <;> try rfl
  dsimp only
  congr 1
  unfold optR
  rename_i e _ _ _
  cases List.lookup fld (e.fs.zip e.xs) <;> rfl
theorem relL_lookup {g : Gx} {F : Hp} {ρ : List Addr} {fld : Str} : ∀ {fs : List Str} {xs : List IV} {vs : List V} {x : IV}, RelL g F ρ xs vs → (fs.zip xs).lookup fld = some x → ∃ v, (fs.zip vs).lookup fld = some v ∧ Rel g F ρ x v
  | [], xs, vs, x, r, h => by simp at h
  | f :: fs, [], vs, x, r, h => by simp at h
  | f :: fs, y :: xs, vs, x, r, h => by
    simp only [RelL] at r
    obtain ⟨v, vs', rfl, r1, r2⟩ := r
    simp only [List.zip_cons_cons, List.lookup_cons] at h ⊢
    cases hb : (fld == f) with
    | true =>
      rw [hb] at h
      cases h
      exact ⟨v, rfl, r1⟩
    | false =>
      rw [hb] at h
      exact relL_lookup r2 h
section
variable {X : Cx} {n k : Nat} {W : WX}
theorem je_xf {a C : Addr} {oe : Obj} {cls : Value} {d : Option Addr} {pn : List (Addr × Obj)} {x fld : Str} {i : Nat} {p pos : Pos} (T : XfC X.K C) (hno : PySem.W.findIn X.K (.ref C) fld = some none) (hc : cls = .ref C)
    (hz : Zc cls d oe) (hf : ∃ vs, oe.data = .fields vs) (hN : X.N[i]? = some x) (hv : Vis X.env.scope x) (hd : (x == ("__debug__" : Str)) = false := by decide) (hcd : (x == ("__classdict__" : Str)) = false := by decide)
    (hb : attributeBase (.Name x p) fld X.env (eval (.Name x p) X.env) = eval (.Name x p) X.env := by rfl) :
    JE (X.suite a ((a, oe) :: pn)) n W (.Attribute (.Name x p) fld pos) (eXf a cls d i fld) := by
  refine pe_imp (pe_xf T hno hz hf (pe_var (pos := p) (i := i) hN hv hd hcd) hb) fun σ H Q h => ?_
  obtain ⟨F, ρ, cs, σi, hs, hl, hp⟩ := h
  have e0 := ev_eXf (a := a) (cls := cls) (d := d) (i := i) (n := n) (fld := fld) (σ := σi) (cs := cs)
  rw [e0] at hp
  cases q : σi[i]? with
  | none => rw [q] at hp; exact hp.elim
  | some s =>
    rw [q] at hp
    cases s with
    | exn e a' cls' d' =>
      by_cases hh : a' = a ∧ cls' = cls ∧ d' = d
      · obtain ⟨rfl, rfl, rfl⟩ := hh
        rw [xfR_exn] at hp
        obtain ⟨h1, C', dd, vs, m1, m2, m3, m4, m5, m6⟩ := hl.at_ i _ q
        cases hlk : (e.fs.zip e.xs).lookup fld with
        | none => rw [hlk] at hp; exact hp.elim
        | some y =>
          rw [hlk] at hp
          obtain ⟨v, k1, k2⟩ := relL_lookup m6 hlk
          exact ⟨_, h1, rfl, hc, dd, _, v, m3, hs.fz _ _ m4, k1, hp F ρ H v StpU.refl hs k2⟩
      · have : xfR a cls d fld (some (.exn e a' cls' d')) cs = .stuck := by unfold xfR; exact if_neg hh
        rw [this] at hp; exact hp.elim
    | un => exact hp.elim
    | v _ => exact hp.elim
    | own _ => exact hp.elim
end
/-! ### try: .. except c as e: .. -/
/-- slot i is gone behind the suite -/
def hmap (i : Nat) (r : SR) : SR := match r with
  | .next σ cs => .next (σ.set i .un) cs
  | .ret x cs => .ret x cs
  | .brk σ cs => .brk (σ.set i .un) cs
  | .cnt σ cs => .cnt (σ.set i .un) cs
  | _ => .stuck
@[simp] theorem hmap_ret {i : Nat} {x : IV} {cs : List Cell} : hmap i (.ret x cs) = .ret x cs := rfl
@[simp] theorem hmap_next {i : Nat} {σ : List SV} {cs : List Cell} : hmap i (.next σ cs) = .next (σ.set i .un) cs := rfl
abbrev HM := Addr → Value → Option Addr → SM
/-- the suite, wherever the exception stands -/
noncomputable def caught (i : Nat) (hd : HM) (e : Exn) (n : Nat) (σ : List SV) (cs : List Cell) : SR :=
  open Classical in if h : ∃ r, ∀ a cls d, hmap i (hd a cls d n (σ.set i (.exn e a cls d)) cs) = r then h.choose else .stuck
theorem caught_of {i : Nat} {hd : HM} {e : Exn} {n : Nat} {σ : List SV} {cs : List Cell} {r : SR} (h : ∀ a cls d, hmap i (hd a cls d n (σ.set i (.exn e a cls d)) cs) = r) : caught i hd e n σ cs = r := by
  have hx : ∃ r, ∀ a cls d, hmap i (hd a cls d n (σ.set i (.exn e a cls d)) cs) = r := ⟨r, h⟩
  unfold caught
  rw [dif_pos hx]
  have := hx.choose_spec 0 .none none
  rw [← this, h]
theorem caught_at {i : Nat} {hd : HM} {e : Exn} {n : Nat} {σ : List SV} {cs : List Cell} (hne : caught i hd e n σ cs ≠ .stuck) (a : Addr) (cls : Value) (d : Option Addr) : hmap i (hd a cls d n (σ.set i (.exn e a cls d)) cs) = caught i hd e n σ cs := by
  unfold caught at hne ⊢
  by_cases hx : ∃ r, ∀ a cls d, hmap i (hd a cls d n (σ.set i (.exn e a cls d)) cs) = r
  · rw [dif_pos hx]
    exact hx.choose_spec a cls d
  · rw [dif_neg hx] at hne
    exact absurd rfl hne
/-- acc: which classes the clause takes -/
noncomputable def sTry (b : SM) (acc : Str → Option Bool) (i : Nat) (hd : HM) : SM := fun n σ cs => match b n σ cs with
  | .ex e σ' cs' => (match acc e.cls with
    | some true => caught i hd e n σ' cs'
    | some false => .ex e σ' cs'
    | none => .stuck)
  | r => r
section
variable {X : Cx} {n k : Nat} {W : WX}
/-- the ends behind the suite -/
abbrev Dun (i : Nat) (D : Ends) : Ends := { nx := fun σ' H' => D.nx (σ'.set i none) H', rt := D.rt, bk := fun σ' H' => D.bk (σ'.set i none) H', ct := fun σ' H' => D.ct (σ'.set i none) H' }
theorem pst_hmap {g : Gx} {U : Addr → Prop} {F : Hp} {ρ : List Addr} {H : Hp} {r : SR} {D : Ends} {i : Nat} (h : PstS g W U F ρ H (hmap i r) D) : PstS g W0 U F ρ H r (Dun i D) := by
  cases r with
  | next σi cs => exact fun F' ρ' H' σ' a b c d => h F' ρ' H' _ a b c.setUn fun x o => d x (own_setUn o)
  | ret x cs => exact fun F' ρ' H' v a b c => h F' ρ' H' v a b c
  | brk σi cs => exact fun F' ρ' H' σ' a b c d => h F' ρ' H' _ a b c.setUn fun x o => d x (own_setUn o)
  | cnt σi cs => exact fun F' ρ' H' σ' a b c d => h F' ρ' H' _ a b c.setUn fun x o => d x (own_setUn o)
  | ex e σi cs => exact h.elim
  | stuck => exact h.elim
/-- the class is one that the clause takes -/
def OkC (mg : Str → Option Value) (acc : Str → Option Bool) (cls : Value) : Prop := ∃ cn C, acc cn = some true ∧ mg cn = some (.ref C) ∧ cls = .ref C
theorem pss_and {Y : Cx} {b : List Stmt} {t : TS} {p : Prop} (h : p → PSs Y b t) : PSs Y b (fun D σ H => p ∧ t D σ H) := ⟨fun pins s σ H D I q => (h q.1).run pins s σ H D I q.2⟩
/-- what a clause makes of an exception of the body -/
theorem pst_wAs {F : Hp} {ρ : List Addr} {H : Hp} {D : Ends} {e : Exn} {σi : List SV} {cs : List Cell} {U : Addr → Prop} {c : Value} {acc : Str → Option Bool} {i : Nat} {hd : HM}
    (hacc : ∀ cn b C, acc cn = some b → X.mg cn = some (.ref C) → PySem.W.exmOne X.K (.ref C) c = some b)
    (h : PstS (gx X) W U F ρ H (match acc e.cls with | some true => caught i hd e n σi cs | some false => .ex e σi cs | none => .stuck) D) :
    PstS (gx X) (wAs X.K c i (fun a cls d D σ H => OkC X.mg acc cls ∧ tS (gx X) n W0 (hd a cls d) D σ H) W D) U F ρ H (.ex e σi cs) D := by
  intro F' ρ' H' σ' cls d st sm sl ow rx
  obtain ⟨C, dd, vs, m1, m2, m3, m4, m5, m6⟩ := rx
  cases ha : acc e.cls with
  | none => rw [ha] at h; exact h.elim
  | some b =>
    refine ⟨b, by rw [m2]; exact hacc e.cls b C ha m1, fun hb a na => ?_, fun hb => ?_⟩
    · subst hb
      rw [ha] at h
      have h : PstS (gx X) W U F ρ H (caught i hd e n σi cs) D := h
      have hne : caught i hd e n σi cs ≠ .stuck := fun z => by rw [z] at h; exact h.elim
      refine ⟨⟨e.cls, C, ha, m1, m2⟩, F', ρ', cs, σi.set i (.exn e a cls d), sm, sl.setExn ⟨C, dd, vs, m1, m2, m3, m4, m5, m6⟩, ?_⟩
      rw [← caught_at hne a cls d] at h
      exact pst_hmap (h.stp st fun x o => ow x (own_setExn o))
    · subst hb
      rw [ha] at h
      exact h F' ρ' H' σ' cls d st sm sl ow ⟨C, dd, vs, m1, m2, m3, m4, m5, m6⟩
theorem js_try {nm x : Str} {c : Value} {i : Nat} {body suite : List Stmt} {b₀ : Stmt} {np pos' pos : Pos} {b : SM} {acc : Str → Option Bool} {hd : HM} (hs : X.stack = X.env :: X.outer) (hf : X.env.frame = some X.env.locals) (hN : X.N.Nodup) (hi : X.N[i]? = some nm)
    (hln : X.env.kindOf nm = some .local) (hc : Names X x c) (tk : Takes X W) (hacc : ∀ cn b C, acc cn = some b → X.mg cn = some (.ref C) → PySem.W.exmOne X.K (.ref C) c = some b)
    (hb : ∀ (W' : WX) (pn : List (Addr × Obj)) (xe : Value → Shared → Prop), Takes (X.tr pn xe) W' → PassesOwn (model X.prog X.w) X.A X.env xe → JB (X.tr pn xe) n W' body b)
    (hsu : ∀ (a : Addr) (oe : Obj) (cls : Value) (d : Option Addr) (pn : List (Addr × Obj)), OkC X.mg acc cls → Zc cls d oe → (∃ vs, oe.data = .fields vs) → JB (X.suite a ((a, oe) :: pn)) n W0 (b₀ :: suite) (hd a cls d)) :
    JS X n W (.Try body [.ExceptHandler (some (.Name x np)) (some nm) (b₀ :: suite) pos'] [] [] pos) (sTry b acc i hd) := by
  refine ps_imp (ps_try_as (tb := fun W' => tS (gx X) n W' b) (ts := fun a cls d D σ H => OkC X.mg acc cls ∧ tS (gx X) n W0 (hd a cls d) D σ H) (Wout := W) hs hf hN hi hln hc tk hb (fun a oe cls d pn hz hfl => pss_and fun ho => hsu a oe cls d pn ho hz hfl)) fun D σ H h => ?_
  obtain ⟨F, ρ, cs, σi, sm, sl, hp⟩ := h
  refine ⟨F, ρ, cs, σi, sm, sl, ?_⟩
  unfold sTry at hp
  cases e : b n σi cs with
  | ex y σ' cs' =>
    rw [e] at hp
    exact pst_wAs hacc hp
  | next σ' cs' => rw [e] at hp; exact hp
  | ret y cs' => rw [e] at hp; exact hp
  | brk σ' cs' => rw [e] at hp; exact hp
  | cnt σ' cs' => rw [e] at hp; exact hp
  | stuck => rw [e] at hp; exact hp.elim
end
/-! ### a lambda without parameters, handed to a def -/
section
open LamX
variable {X : Cx} {pins : List (Addr × Obj)} {σ : St} {H HZ : Hp} {s s1 : Shared} {n k : Nat}
theorem lam_mk {T : List (Addr × Str)} {c P : Addr} {params : Arguments} {body : Expr} {scope : Scope} {pos : Pos} {E : Value → Shared → Prop} {Q : Value → Shared → Prop} (I : Inv X pins σ H s) (TB : TabB X.base X.mg c P) (hcode : X.env.code = .ref c)
    (hm : (P, X.env.qual ++ "<lambda>") ∈ T) (hu : ∀ p ∈ T, p.1 = P → p.2 = X.env.qual ++ "<lambda>") (hT : Tabs T H) (hdef : defaultsOf params X.env = ([], [])) (hfree : ∀ y ∈ scope.names, y.2 = .free → ∃ c, X.env.cells.lookup y.1 = some c)
    (go : ∀ (f c' : Addr) (pm ctv : Value) (H1 : Hp) (s' : Shared), Inv X pins σ H1 s' → ExtN H H1 → Tabs T H1 → (∀ b, H b ≠ none → H1 b ≠ none) →
      s'.heap.get? f = some (PySem.W.kla_obj "<lambda>" (X.env.qual ++ "<lambda>") params body scope (cloFrom X.env.cells scope.names []) pm c' ctv) → H1 f = none → f ∉ frs X.stack → H1 c' = some (CodeO c' (X.env.qual ++ "<lambda>")) → Q (.ref f) s') :
    wpAny (model X.prog X.w) X.A (eval (.Lambda params body scope pos) X.env) Q E s := by
  obtain ⟨tb, tbP, tbT, tbA⟩ := hT _ hm
  refine PySem.W.kla_eval hdef ?_
  have atP : s.heap.BuiltinsAt X.mg P := TB.bm.keeps I.bk
  have getP : s.heap.get? P = some { cls := .none, data := .fields tb } := I.hok P _ tbP
  have offF : ∀ f, s.heap.objs.size ≤ f → f ∉ frs X.stack := fun f hf z => by
    rcases List.mem_cons.mp (I.stkSub _ z) with e | e
    · have lt := I.lt
      rw [← e] at lt
      exact Nat.lt_irrefl _ (Nat.lt_of_lt_of_le lt hf)
    · exact I.nofs hf e
  cases hc : codeAmong pos tb.toList with
  | none =>
    refine PySem.W.kla_makeFunction (mg := X.mg) (c := c) (P := P) (ps := tb) (closure_ok hfree) I.ok.glob (I.mod.glob.keeps I.bk) hcode (TB.code.keeps I.bk) getP tbT hc TB.gP atP fun c' ctv h' tk hx hge hlt hrec htb => ?_
    obtain ⟨c2, oc, vs, t, e2, hoc, hdt, hv⟩ := hrec
    cases e2
    have big : s.heap.objs.size ≤ h'.objs.size := Nat.le_trans hge (Nat.le_of_lt hlt)
    have newC : H c' = none := I.hok.fresh hge
    have J1 := inv_table (t' := tk) (more := #[rawInt pos.line, rawInt pos.col, .ref c']) (h' := h'.push (PySem.W.kla_obj "<lambda>" (X.env.qual ++ "<lambda>") params body scope (cloFrom X.env.cells scope.names []) ((X.mg "__name__").getD .none) c' ctv)) I tbP
      (fun b o hb e => Heap.get?_push_of_some _ (hx b o hb e)) (Heap.get?_push_of_some _ htb) hge ⟨oc, vs, t, Heap.get?_push_of_some _ hoc, hdt, hv⟩
    have ext : ExtN H (upd (upd H P (.tbl (tb ++ #[rawInt pos.line, rawInt pos.col, .ref c']))) c' (CodeO c' (X.env.qual ++ "<lambda>"))) := fun b o e nt => by
      rw [upd_ne (ne_of_none e newC), upd_ne (fun z => nt tb (Option.some.inj (e.symm.trans (by rw [z]; exact tbP))))]
      exact e
    have asL : (tb ++ #[rawInt pos.line, rawInt pos.col, .ref c']).toList = tb.toList ++ [rawInt pos.line, rawInt pos.col, .ref c'] := by simp
    refine go h'.objs.size c' ((X.mg "__name__").getD .none) ctv _ _ J1 ext (fun p hp => ?_) (fun b hb => ?_) (Heap.get?_push_size _ rfl) ?_ (offF _ big) upd_same
    · by_cases hb : p.1 = P
      · rw [hu p hp hb, hb]
        refine ⟨_, by rw [upd_ne (ne_of_none tbP newC), upd_same], by rw [asL]; exact PySem.TriplesOk_snoc _ _ _ _ tbT, fun p' cv hcv => ?_⟩
        rw [asL] at hcv
        rcases among_app _ tbT hcv with z | z
        · obtain ⟨c0, e1, e2⟩ := tbA p' cv z
          exact ⟨c0, e1, ext _ _ e2 codeO_ne⟩
        · exact ⟨c', z, upd_same⟩
      · obtain ⟨tb', a1, a2, a3⟩ := hT p hp
        refine ⟨tb', by rw [upd_ne (ne_of_none a1 newC), upd_ne hb]; exact a1, a2, fun p' cv hcv => ?_⟩
        obtain ⟨c0, e1, e2⟩ := a3 p' cv hcv
        exact ⟨c0, e1, ext _ _ e2 codeO_ne⟩
    · by_cases h1 : b = c'
      · rw [h1, upd_same]; intro z; cases z
      · rw [upd_ne h1]
        by_cases h2 : b = P
        · rw [h2, upd_same]; intro z; cases z
        · rw [upd_ne h2]; exact hb
    · have n1 : h'.objs.size ≠ c' := Nat.ne_of_gt hlt
      have n2 : h'.objs.size ≠ P := Nat.ne_of_gt (Nat.lt_of_lt_of_le (Heap.lt_size getP) big)
      rw [upd_ne n1, upd_ne n2]
      exact I.hok.fresh big
  | some cv =>
    obtain ⟨c', e, hco⟩ := tbA pos cv hc
    subst e
    refine PySem.W.kla_makeFunctionHit (mg := X.mg) (c := c) (P := P) (ps := tb) (closure_ok hfree) I.ok.glob (I.mod.glob.keeps I.bk) hcode (TB.code.keeps I.bk) getP tbT hc atP fun ctv h' tk hx hsz => ?_
    have J1 : Inv X pins σ H { s with heap := h'.push (PySem.W.kla_obj "<lambda>" (X.env.qual ++ "<lambda>") params body scope (cloFrom X.env.cells scope.names []) ((X.mg "__name__").getD .none) c' ctv), toks := tk } := I.kept fun b o e => Heap.get?_push_of_some _ (hx b o e)
    exact go h'.objs.size c' ((X.mg "__name__").getD .none) ctv H _ J1 (ExtN.refl H) hT (fun _ h => h) (Heap.get?_push_size _ rfl) (I.hok.fresh hsz) (offF _ hsz) hco
/-- a(), in the def that got the lambda -/
theorem pe_actG {Eg : XK} {Ng : List Str} {qg : Str} {sg : Scope} {g f c' : Addr} {cdg pm ctv : Value} {params : Arguments} {body : Expr} {scope : Scope} {i : Nat} {a : Str} {pn : List (Addr × Obj)} {xe : Value → Shared → Prop} {W : WX} {m : M IV} {p1 p2 : Pos}
    (I : Inv X pins σ H s) (L : LamS X.env.scope scope) (hf : s.heap.get? f = some (PySem.W.kla_obj "<lambda>" (X.env.qual ++ "<lambda>") params body scope (cloFrom X.env.cells scope.names []) pm c' ctv)) (hfn : H f = none) (hfr : f ∉ frs X.stack)
    (hbind : bindArgs (PySem.W.kla_fn "<lambda>" (X.env.qual ++ "<lambda>") params body scope (cloFrom X.env.cells scope.names []) pm (.ref c') ctv) ⟨[], []⟩ = pure [])
    (tk : Takes ((bX X.prog X.w X.K X.mg X.base Ng qg sg g cdg X.A X.stack s H Eg).tr pn xe) W) (hr : Room (k + 1) (X.A.deeper (envOfC qg sg s.heap.objs.size g cdg))) (hgd : X.A.guards = some [])
    (hbody : ∀ (A : Around) (outer : List Env) (s : Shared) (H : Hp) (E : XK) (f c' : Addr), Room k (A.deeper (lamEnv X scope s.heap.objs.size f c')) → A.guards = some [] → JE (lamCx X A outer s H E scope f c') n (bW E) body m)
    (hN : Ng[i]? = some a) (hv : Vis sg a) (hd : (a == ("__debug__" : Str)) = false := by decide) (hcd : (a == ("__classdict__" : Str)) = false := by decide) :
    PE ((bX X.prog X.w X.K X.mg X.base Ng qg sg g cdg X.A X.stack s H Eg).tr pn xe) (.Call (.Name a p1) [] [] p2)
      (fun σZ HZ Q => σZ[i]? = some (some (.ref f)) ∧ HZ c' = some (CodeO c' (X.env.qual ++ "<lambda>")) ∧ tG (gx X) n (bW (WE W σZ)) (Rel (gx X)) m σ HZ Q) := by
  refine ⟨fun pinsZ sZ σZ HZ Q IZ h => ?_⟩
  obtain ⟨hslot, hco, ht⟩ := h
  refine wpAny_Call_Name_kw (thn ((pe_var (pos := p1) (i := i) hN hv hd hcd).run pinsZ sZ σZ HZ (fun v H1 => v = .ref f ∧ H1 = HZ) IZ ⟨.ref f, hslot, rfl, rfl⟩) fun u s1 ⟨v, H1, I1, r1, q1⟩ => ?_)
  obtain ⟨ev, eH⟩ := q1
  subst ev
  rw [eH] at I1
  obtain rfl : u = Value.ref f := r1
  have fAt : s1.heap.get? f = some (PySem.W.kla_obj "<lambda>" (X.env.qual ++ "<lambda>") params body scope (cloFrom X.env.cells scope.names []) pm c' ctv) := I1.base.keep f _ hf hfn hfr (fun z => nomatch (show f ∈ ([] : List Addr) from z))
  refine PySem.W.callWith_F0 ⟨_, _, _, _, fAt⟩ ?_
  have ungr : Un (frs X.stack) [] H HZ s.heap s1.heap := I1.base
  obtain ⟨⟨oc, vs, t, hoc, hdc, hvc⟩, _, _⟩ := I1.hok c' _ hco
  have run : codeAny (model X.prog X.w) (X.A.deeper (envOfC qg sg s.heap.objs.size g cdg)) (.call (.ref f) ⟨[], []⟩) (CR (L2.CX X.prog X.w) (envOfC qg sg s.heap.objs.size g cdg :: X.stack) X.prog X.w HZ s1 Q (WE W σZ)) s1 := by
    refine PySem.W.kla_callFunE hr.depth fAt rfl L.co L.gen rfl ⟨c', oc, vs, t, rfl, hoc, hdc, hvc⟩ ?_
    rw [hbind]
    refine wpAny_pure (wpAny_newFunctionEnv (fun y hy => (L.own y hy).2) (fun y hy => absurd hy (by simp)) (fun h₁ hns hsb => ⟨I1.nolimit.fresh _ hsb, ?_⟩) L.kind)
    show codeAny _ _ (.expr body (lamEnv X scope s1.heap.objs.size f c')) _ _
    have kp : ∀ b o, s1.heap.get? b = some o → h₁.get? b = some o := fun b o e => hsb.extBut b o (Nat.ne_of_lt (Heap.lt_size e)) (Heap.get?_push_of_some _ e)
    have J : Inv (lamCx X (X.A.deeper (envOfC qg sg s.heap.objs.size g cdg)) (envOfC qg sg s.heap.objs.size g cdg :: X.stack) s1 HZ (WE W σZ) scope f c') [] σ HZ { s1 with heap := h₁, toks := s1.toks + ([] : List (Str × Value)).length } :=
      lam_start2 I L I1.env0 hr.hd ungr hns kp
    refine PySem.W.kla_codeExpr (wpAny_mono ((hbody _ _ s1 HZ (WE W σZ) f c' (hr.deeper _) (by exact hgd)).run [] _ _ HZ Q J ht) (fun v s' hq => ?_) fun e s' hq => hq)
    obtain ⟨w', H', J', rv, q⟩ := hq
    exact ⟨w', H', J'.os, J'.bare, J'.base, J'.hok, rv, q⟩
  refine wpAny_call (codeAny_mono run fun r s' hq => ?_)
  cases r with
  | error e => exact passAt tk σZ pinsZ HZ s1 e s' I1 hq
  | ok fl =>
    cases fl with
    | ret u => exact I1.after hq
    | next => exact False.elim hq
    | brk => exact False.elim hq
    | cont => exact False.elim hq
theorem sim_ext {F : Hp} {ρ : List Addr} {cs : List Cell} {H H1 : Hp} (hs : Sim (gx X) F ρ cs H) (eN : ExtN H H1) (T1 : Tabs (lamT X.K) H1) (dm : ∀ b, H b ≠ none → H1 b ≠ none) : Sim (gx X) F ρ cs H1 ∧ Stp F ρ H F ρ H1 := by
  have same : ∀ a ∈ ρ, H1 a = H a := fun a ha => by
    cases e : H a with
    | none => exact absurd e (hs.av a ha)
    | some o => exact eN a o e fun ps z => (hs.nx a ha).1 ps (by rw [e, z])
  exact ⟨⟨fun a o h => eN a o (hs.fz a o h) fun ps z => hs.ft a ps (by rw [← z]; exact h), hs.len, hs.nd, fun a ha => by rw [same a ha]; exact hs.av a ha, hs.lv,
    fun n c a e1 e2 => by rw [same a (List.mem_of_getElem? e2)]; exact hs.ok n c a e1 e2, T1, fun a ha => by rw [same a ha]; exact hs.nx a ha, hs.ft⟩,
    ⟨fun _ _ h => h, fun a h h' => absurd h' h, ⟨[], by simp⟩, fun a h h' => absurd h h', fun a o h nt _ _ => eN a o h nt, dm⟩⟩
/-- try: return a() / except c as e: suite; of N names, e the i-th -/
noncomputable def eTold (N : Nat) (acc : Str → Option Bool) (i : Nat) (hd : HM) (m : M IV) : M IV := fun n σ cs => match m n σ cs with
  | .ok x cs' => .ok x cs'
  | .ex e cs' => (match acc e.cls with
    | some true => (caught i hd e n (List.replicate N .un) cs').fin
    | _ => .stuck)
  | .stuck => .stuck
theorem pst_fin {g : Gx} {W W' : WX} {U : Addr → Prop} {σ : St} {F : Hp} {ρ : List Addr} {H : Hp} {r : SR} {Q : VK} (h : Pst g W σ (Rel g) F ρ H r.fin Q) (hx : ∀ e σ cs, r ≠ .ex e σ cs) (hU : ∀ x, ¬ U x) : PstS g W' U F ρ H r { nx := fun _ H' => Q .non H', rt := Q } := by
  have t0 : ∀ {F' ρ' H'}, StpU U F ρ H F' ρ' H' → Stp F ρ H F' ρ' H' := fun {F' ρ' H'} t => ⟨t.fz, fun a h h' => (t.fn a h h').imp id fun z => z.elim (fun z => (hU a z).elim) .inr, t.rp, fun a h h' => (t.rn a h h').elim .inl fun z => (hU a z).elim, fun a o h nt hr _ => t.fr a o h nt hr (hU a), t.dm⟩
  cases r with
  | next σi cs => exact fun F' ρ' H' σ' a b _ _ => h F' ρ' H' .non (t0 a) b (by simp only [Rel])
  | ret x cs => exact fun F' ρ' H' v a b c => h F' ρ' H' v (t0 a) b c
  | brk σi cs => exact h.elim
  | cnt σi cs => exact h.elim
  | ex e σi cs => exact absurd rfl (hx e σi cs)
  | stuck => exact h.elim
theorem hmap_nex {i : Nat} {r : SR} {e : Exn} {σ : List SV} {cs : List Cell} : hmap i r ≠ .ex e σ cs := by cases r <;> intro z <;> cases z
theorem caught_nex {i : Nat} {hd : HM} {e e' : Exn} {n : Nat} {σ σ' : List SV} {cs cs' : List Cell} : caught i hd e n σ cs ≠ .ex e' σ' cs' := fun z => by
  have hne : caught i hd e n σ cs ≠ .stuck := fun y => by rw [y] at z; cases z
  have := caught_at hne 0 .none none
  rw [z] at this
  exact hmap_nex this
theorem un_slts {g : Gx} {F : Hp} {ρ : List Addr} {H : Hp} {σ : St} {N : Nat} (h : σ.length = N) : Slts g F ρ H (List.replicate N .un) σ := by
  have un : ∀ {j : Nat} {s : SV}, (List.replicate N SV.un)[j]? = some s → s = .un := fun {j s} e => (List.mem_replicate.mp (List.mem_of_getElem? e)).2
  exact ⟨by rw [List.length_replicate, h], fun j s e => by rw [un e]; trivial, fun j k us ws a e1 _ _ _ => by cases un e1⟩
theorem un_own {σ : St} {N : Nat} {x : Addr} : ¬ Own (List.replicate N .un) σ x := fun ⟨j, us, e, _⟩ => by cases (List.mem_replicate.mp (List.mem_of_getElem? e)).2
/-- what the suite of the def that calls is to be shown -/
def SuiteG (P : Program) (w : World) (K : PySem.W.Frag) (mg : Str → Option Value) (base : Heap) (n k : Nat) (N : List Str) (qual : Str) (scope : Scope) (acc : Str → Option Bool) (suite : List Stmt) (hd : HM) : Prop :=
  ∀ (f : Addr) (cd : Value) (A : Around) (outer : List Env) (s : Shared) (H : Hp) (E : XK) (a : Addr) (oe : Obj) (cls : Value) (d : Option Addr) (pn : List (Addr × Obj)), Room k (bX P w K mg base N qual scope f cd A outer s H E).A → (bX P w K mg base N qual scope f cd A outer s H E).A.guards = some [] → OkC mg acc cls → Zc cls d oe → (∃ vs, oe.data = .fields vs) →
    JB ((bX P w K mg base N qual scope f cd A outer s H E).suite a ((a, oe) :: pn)) n W0 suite (hd a cls d)
/-- the module's name x is a def that calls under try what it gets -/
def ToldG (P : Program) (w : World) (K : PySem.W.Frag) (mg : Str → Option Value) (base : Heap) (n k : Nat) (x : Str) (N : Nat) (acc : Str → Option Bool) (i : Nat) (hd : HM) : Prop :=
  ∃ (g : Addr) (Ng : List Str) (a ev cx : Str) (c : Value) (pg : Arguments) (sg : Scope) (dV kV doc pm cdv ct oc : Value) (an od : Option Addr) (osl : Array (Option Value)) (b₀ : Stmt) (suite : List Stmt) (p1 p2 p3 p4 p5 p6 : Pos),
    mg x = some (.ref g) ∧ PySem.W.keepIn K (.ref g) = true ∧ Ng.length = N ∧ Ng[0]? = some a ∧ Ng[i]? = some ev ∧ FnScope Ng [a] sg ∧ Vis sg a ∧ sg.names.lookup ev = some .local ∧ sg.names.lookup cx = some .globalImplicit ∧ (cx == ("__debug__" : Str)) = false ∧ mg cx = some c ∧
    (a == ("__debug__" : Str)) = false ∧ (a == ("__classdict__" : Str)) = false ∧ (∀ f : Addr, (L2.start Ng [V.ref f])[0]? = some (some (V.ref f))) ∧
    K.lookup g = some ⟨oc, od, .func (PySem.W.fnOf x x pg [.Try [.Return (some (.Call (.Name a p1) [] [] p2)) p3] [.ExceptHandler (some (.Name cx p4)) (some ev) (b₀ :: suite) p5] [] [] p6] sg dV kV doc pm an cdv ct), osl⟩ ∧ PySem.W.codeIn K cdv x = true ∧
    L2.Binds K (PySem.W.fnOf x x pg [.Try [.Return (some (.Call (.Name a p1) [] [] p2)) p3] [.ExceptHandler (some (.Name cx p4)) (some ev) (b₀ :: suite) p5] [] [] p6] sg dV kV doc pm an cdv ct) [a] [] ∧
    (∀ cn b C, acc cn = some b → mg cn = some (.ref C) → PySem.W.exmOne K (.ref C) c = some b) ∧ SuiteG P w K mg base n k Ng x sg acc (b₀ :: suite) hd
/-- x(lambda: body) -/
theorem je_lam {W : WX} {x : Str} {N i c P : Nat} {acc : Str → Option Bool} {hd : HM} {params : Arguments} {body : Expr} {scope : Scope} {p lpos pos : Pos} {m : M IV} (G : ToldG X.prog X.w X.K X.mg X.base n (k + 1) x N acc i hd) (TB : TabB X.base X.mg c P) (hcode : X.env.code = .ref c)
    (hmT : (P, X.env.qual ++ "<lambda>") ∈ lamT X.K) (hu : ∀ p ∈ lamT X.K, p.1 = P → p.2 = X.env.qual ++ "<lambda>") (hr : Room (k + 2) X.A) (hgd : X.A.guards = some []) (L : LamS X.env.scope scope) (hdef : defaultsOf params X.env = ([], []))
    (hbind : ∀ (q : Str) (cl : List (Str × Addr)) (pm cv ctv : Value), bindArgs (PySem.W.kla_fn "<lambda>" q params body scope cl pm cv ctv) ⟨[], []⟩ = pure [])
    (hbody : ∀ (A : Around) (outer : List Env) (s : Shared) (H : Hp) (E : XK) (f c' : Addr), Room k (A.deeper (lamEnv X scope s.heap.objs.size f c')) → A.guards = some [] → JE (lamCx X A outer s H E scope f c') n (bW E) body m)
    (hg : Gl X x := by rfl) (hdb : (x == ("__debug__" : Str)) = false := by decide) : JE X n W (.Call (.Name x p) [.Lambda params body scope lpos] [] pos) (eTold N acc i hd m) := by
  obtain ⟨g, Ng, a, ev, cx, cv, pg, sg, dV, kV, doc, pm, cdv, ct, oc, an, od, osl, b₀, suite, p1, p2, p3, p4, p5, p6, hm, hk, hlen, hN0, hNi, Sg, hva, hle, hgc, hdc, hmc, hd1, hd2, hst, lk, hcg, hb, hacc, hsu⟩ := G
  refine ⟨fun pins s σ H Q I h => ?_⟩
  obtain ⟨F, ρ, cs, σi, hs, hl, hp⟩ := h
  refine wpAny_Call_Name_kw (ld_glob I hg hm ?_ hdb)
  refine PySem.W.callWith_K (h₀ := X.base) I.ok.mod.kin hk ?_ (by rfl) (by rfl)
  show wpAny _ _ (spliced ((false, eval (.Lambda params body scope lpos) X.env) :: backTo pos (starEach [] X.env))) _ _ s
  refine Calls.spliced_cons (lam_mk I TB hcode hmT hu hs.tb hdef (L.has I.ok) fun f c' pm' ctv H1 s' I1 eN T1 dm1 hf hfn hfr hco => ?_)
  refine Calls.spliced_nil ⟨I1.kIn, ?_⟩
  obtain ⟨sm1, st1⟩ := sim_ext hs eN T1 dm1
  have hl1 := hl.stp st1
  have hp1 := hp.stp st1
  have rc : codeAny (model X.prog X.w) X.A (.call (.ref g) ⟨[.ref f], []⟩) (CR (L2.CX X.prog X.w) X.stack X.prog X.w H1 s' Q fun _ _ _ => False) s' := by
    refine run_ofS (N := Ng) (ps := [a]) (us := [.ref f]) (vs := [.ref f]) lk hcg Sg hr I1.env0 (hb s' [.ref f] I1.kIn rfl) (.cons rfl .nil) rfl fun hr' => ?_
    refine ⟨_, pss_one (ps_try_as (X := bX X.prog X.w X.K X.mg X.base Ng x sg g cdv X.A X.stack s' H1 fun _ _ _ => False) (c := cv) (i := i)
      (tb := fun W D σZ HZ => σZ[0]? = some (some (.ref f)) ∧ HZ c' = some (CodeO c' (X.env.qual ++ "<lambda>")) ∧ tG (gx X) n (bW (WE W σZ)) (Rel (gx X)) m σ HZ D.rt)
      (ts := fun a cls d D σ H => OkC X.mg acc cls ∧ tS (gx X) n W0 (hd a cls d) D σ H) (Wout := W0) rfl rfl Sg.nd hNi hle ⟨hgc, hdc, .inl hmc⟩ LamX.takes0 (fun W pn xe tk _ => ?_) (fun a oe cls d pn hz hfl => pss_and fun ho => hsu g cdv X.A X.stack s' H1 _ a oe cls d pn hr' (by exact hgd) ho hz hfl)), ?_⟩
    · refine ⟨fun pinsZ sZ σZ HZ D IZ h' => ?_⟩
      have hact := pe_actG (n := n) (m := m) (i := 0) (p1 := p1) (p2 := p2) I1 L hf hfn hfr (hbind _ _ _ _ _) tk hr' hgd hbody hN0 hva hd1 hd2
      exact (pss_one (ps_ret (pos := p3) hact)).run pinsZ sZ σZ HZ D IZ h'
    · refine ⟨hst f, hco, F, ρ, cs, σi, sm1, hl1, ?_⟩
      unfold eTold at hp1
      cases hmr : m n σi cs with
      | ok y cs' => rw [hmr] at hp1; exact hp1
      | stuck => rw [hmr] at hp1; exact hp1.elim
      | ex e cs' =>
        rw [hmr] at hp1
        replace hp1 : Pst (gx X) W σ (Rel (gx X)) F ρ H1 (match acc e.cls with | some true => (caught i hd e n (List.replicate N .un) cs').fin | _ => .stuck) Q := hp1
        cases ha : acc e.cls with
        | none => rw [ha] at hp1; exact hp1.elim
        | some b =>
          cases b with
          | false => rw [ha] at hp1; exact hp1.elim
          | true =>
            rw [ha] at hp1
            replace hp1 : Pst (gx X) W σ (Rel (gx X)) F ρ H1 (caught i hd e n (List.replicate N .un) cs').fin Q := hp1
            have hps := pst_fin (W' := W0) (U := fun _ => False) hp1 (fun _ _ _ => caught_nex) (fun _ z => z)
            intro F' ρ' H' cls d st sm rx
            refine pst_wAs (X := X) (W := W0) (U := fun _ => False) (i := i) (hd := hd) (acc := acc) (e := e) (σi := List.replicate N .un) (cs := cs') hacc (D := { nx := fun _ H' => Q .non H', rt := Q }) (by rw [ha]; exact hps) F' ρ' H' (L2.start Ng [.ref f]) cls d st.u sm (un_slts ?_) (fun x o => (un_own o).elim) rx
            have h0 : 0 < Ng.length := (List.getElem?_eq_some_iff.mp hN0).1
            rw [← hlen]
            unfold L2.start
            simp
            omega
  refine wpAny_call (codeAny_mono rc fun r s2 hq => ?_)
  cases r with
  | error e =>
    obtain ⟨_, _, _, _, _, _, _, _, _, _, _, _, z⟩ := hq
    exact z.elim
  | ok fl =>
    cases fl with
    | ret u => exact I1.after hq
    | next => exact False.elim hq
    | brk => exact False.elim hq
    | cont => exact False.elim hq
end
theorem xfC_of {K : PySem.W.Frag} {mg : Str → Option Value} {cn fld iq : Str} {B newId initId : String} {tl : List Value} {C fI : Addr} (T : PySem.OwnEx.ExTxt K mg cn fld iq B newId initId tl C fI) : XfC K C := ⟨T.ga, T.gg, T.exC, T.hdC⟩
theorem okC_one {mg : Str → Option Value} {acc : Str → Option Bool} {cls : Value} {cn : Str} {C : Addr} (h : ∀ c, acc c = some true → c = cn) (ho : OkC mg acc cls) (hm : mg cn = some (.ref C)) : cls = .ref C := by
  obtain ⟨c, C', h1, h2, h3⟩ := ho
  have e := h c h1
  subst e
  rw [hm] at h2
  cases h2
  exact h3
/-- an error of the class at S is what «except S» names -/
theorem exm_own {K : PySem.W.Frag} {S : Addr} (h1 : PySem.W.subIn K (.ref S) (.type "BaseException") = some true) (h2 : PySem.W.isClsIn K S = true) (h3 : PySem.W.typeIn K (.ref S) = some (.type "type")) (h4 : PySem.W.subIn K (.ref S) (.ref S) = some true) : PySem.W.exmOne K (.ref S) (.ref S) = some true := by
  have a1 : (PySem.W.subIn K (.ref S) (.type "BaseException") == some true) = true := by rw [h1] <;> rfl
  have a2 : ((PySem.W.clsIn K S).isSome && PySem.W.typeIn K (.ref S) == some (.type "type")) = true := by
    have z : (PySem.W.clsIn K S).isSome = true := h2
    rw [z, h3] <;> rfl
  show (if _ then (if _ then PySem.W.subIn K (.ref S) (.ref S) else none) else none) = some true
  rw [if_pos a1, if_pos a2]
  exact h4
theorem tabIn_of {K : PySem.W.Frag} {x name qual : Str} {f c P : Addr} {params : Arguments} {body : List Stmt} {scope : Scope} {dV kV doc pm ct oc ot : Value} {an od cod : Option Addr} {osl csl : Array (Option Value)} {vs : Array Value} (ha : PySem.W.nsIn K mainGlobals x = some (some (.ref f)))
    (hl : K.lookup f = some ⟨oc, od, .func (PySem.W.fnOf name qual params body scope dV kV doc pm an (.ref c) ct), osl⟩) (hc : K.lookup c = some ⟨ot, cod, .fields vs, csl⟩) (hp : vs[11]? = some (.ref P)) : PySem.W.tabIn K x = some (c, P) := by
  have e : (PySem.W.fnOf name qual params body scope dV kV doc pm an (.ref c) ct).code = .ref c := rfl
  unfold PySem.W.tabIn
  simp only [ha, hl, e, hc, hp]
theorem codeHd_one {K : PySem.W.Frag} {h : Heap} {c P : Addr} {o : Obj} (X : K.In h) (e : K.lookup c = some o) (q : PySem.W.codeHdIn [(c, o)] c P = true) : PySem.W.CodeHd h c P := by
  refine PySem.W.codeHd_of_K (K := [(c, o)]) (fun a u z => ?_) q
  by_cases ha : a = c
  · subst ha
    simp [List.lookup] at z
    rw [← z]
    exact X _ _ e
  · have : (a == c) = false := by simpa using ha
    simp [List.lookup, this] at z
end SL

set_option Elab.async false
set_option linter.all false
set_option autoImplicit false
set_option maxRecDepth 100000
set_option maxHeartbeats 4000000
/-! SLIsE: isinstance of the caught exception; several clauses. -/
namespace PySem
namespace OwnEx
open PySem.W PySem.Spec PySem.Calls PyProof.Rows
section
variable {prog : Program} {w : World} {A : Around} {E : Value → Shared → Prop} {s : Shared} {K : Frag} {x D : Addr} {ox ow : Obj}
/-- what the class at D says of __class__ -/
structure IsC (K : Frag) (D : Addr) : Prop where
  hg : findIn K (.ref D) "__getattribute__" = some (some (.builtin "BaseException.__getattribute__"))
  hk : findIn K (.ref D) "__getattr__" = some none
  hs : subIn K (.ref D) (.type "BaseException") = some true
  hd : hasDictIn K D = true
  ha : findIn K (.ref D) "__class__" = some (some (.builtin "object.__class__"))
  hn : specialIn K (.builtin "object.__class__") "__get__" = some (some (.builtin "getset_descriptor.__get__"))
  ht : takesIn K (.builtin "object.__class__") = some true
  hm : mroIn K D (.type "object") = some true
theorem cls_asked {Q : Option Value → Shared → Prop} (C : IsC K D) (KX : K.In s.heap) (J : InstAt s.heap x ox D (some ow)) (go : Q (some (.ref D)) { s with toks := s.toks + 1 }) : wpAny (model prog w) A (getAttr? (.ref x) "__class__") Q E s := by
  have fnd : findObj K D (some ow) "__class__" = some (.bind (.builtin "getset_descriptor.__get__") (.builtin "object.__class__")) := findObj_data (by obtain ⟨cd, hc, _⟩ := any_some C.hd; rw [hc]; rfl) C.ha C.hn C.ht
  obtain ⟨hp, g, d, t, os⟩ := s
  have lt := J.type (M := model prog w)
  have lg := looks_findIn (M := model prog w) KX C.hg
  have lk := looks_findIn (M := model prog w) KX C.hk
  have lo := looks_find (M := model prog w) KX J fnd
  have isB : Looks (model prog w) hp (isInstance (.ref x) (.type "BaseException")) true := lt.andThen (looks_subIn KX C.hs)
  have z0 : (false && onTheHeap (Value.builtin "BaseException.__getattribute__")) = false := rfl
  have z2 : (Value.builtin "BaseException.__getattribute__" == Value.builtin "object.__getattribute__") = false := by decide +kernel
  have z1 : (onTheHeap (Value.ref D) && Value.builtin "BaseException.__getattribute__" == Value.builtin "object.__getattribute__") = false := by rw [z2]; rfl
  unfold getAttr? getAttrBy? getAttrBy
  refine wpAny_bind (wpAny_mkText (wpAny_bind (wpAny_attempt (wpAny_holding (wpAny_bind (lt.at (wpAny_bind (lg.at ?_))))))))
  show wpAny _ _ (if (onTheHeap (Value.ref D) && Value.builtin "BaseException.__getattribute__" == Value.builtin "object.__getattribute__") = true then _ else _) _ _ _
  rw [z1, if_neg Bool.false_ne_true]
  unfold getAttrByItsOwn hookBefore
  refine wpAny_bind ?_
  rw [if_pos (show onTheHeap (Value.ref D) = true from rfl)]
  refine lk.at ?_
  refine wpAny_bind (wpAny_attempt (wpAny_holding ?_))
  unfold callGetattribute
  rw [z0, if_neg Bool.false_ne_true]
  unfold boundAndCalled
  rw [PySem.F.excAttr_ValueError.ga.bind (.ref x)]
  refine wpAny_bind (wpAny_pure ?_)
  show wpAny _ _ (call (.builtin "BaseException.__getattribute__") [.ref x, .str "__class__" t]) _ _ _
  refine wpAny_call (codeAny_call_builtin PySem.F.excAttr_ValueError.ga.plain PySem.F.entry_bexc_ga ?_)
  refine @check_slot (model prog w) _ _ ⟨hp, g, d, t + 1, os⟩ "BaseException.__getattribute__" "BaseException" "__getattribute__" (.ref x) [.str "__class__" t] [] _ (by decide +kernel) (by decide +kernel) isB (PySem.F.args_bexc_ga (.ref x) (.str "__class__" t)) ?_
  unfold Builtin.«object.__getattribute__»
  refine wpAny_bind (wpAny_of_eq (a := ((Value.ref x : Value), [Value.str "__class__" t])) (by first | rfl | (simp only [slotArgs]; rfl)) ?_)
  refine wpAny_bind (wpAny_pure (wpAny_bind (lt.at (wpAny_bind (lo.at ?_)))))
  show wpAny _ _ (holding [Value.builtin "object.__class__"] (call (.builtin "getset_descriptor.__get__") [.builtin "object.__class__", .ref x, .ref D]) >>= ret) _ _ _
  refine wpAny_bind (wpAny_holding (wpAny_call (class_get (s := ⟨hp, g, d, t + 1, os⟩) (ox := ox) (od := some ow) KX J C.hm ?_)))
  refine wpAny_pure ?_
  show wpAny _ _ (handedOut (.ref D)) _ _ _
  rw [handedOut_of (v := .ref D) rfl]
  first
    | exact wpAny_pure (wpAny_pure go)
    | exact wpAny_pure go
    | exact wpAny_pure (wpAny_bind (wpAny_pure (wpAny_pure go)))
theorem kitx_own (C : IsC K D) : KitX K (.ref x) (.ref D) (fun h => ∃ ow, InstAt h x ox D (some ow)) where
  ty := fun _ _ _ I => by obtain ⟨ow, I⟩ := I; exact I.type
  it := fun _ _ KX _ => by
    obtain ⟨cd, hc, _⟩ := any_some C.hd
    unfold clsIn at hc
    split at hc
    · rename_i c1 d1 cd1 sl1 ho
      intro A1 Q1 E1 s1 k q
      unfold isType loadHead
      exact wpAny_bind (wpAny_loadPart (k _ _ (KX _ _ ho)) (wpAny_pure q))
    · cases hc
  ne := fun h tp dd its n sl KX htp => by
    obtain ⟨cd, hc, _⟩ := any_some C.hd
    refine Bool.eq_false_iff.mpr fun q => ?_
    have e : D = tp := Value.ref.inj (beq_iff_eq.mp q)
    subst e
    unfold clsIn at hc
    split at hc
    · rename_i c1 d1 cd1 sl1 ho
      have z := (KX _ _ ho).symm.trans htp
      cases z
    · cases hc
  ca := fun KX I k => by obtain ⟨ow, I⟩ := I; exact cls_asked C KX I k
end
end OwnEx
end PySem
namespace SL
open PySem PySem.Spec L2
open PyProof.Rows hiding St
open PySem.OwnEx (IsC kitx_own)
/-- isinstance(e, c), e the exception that the suite holds -/
def rIsX (K : PySem.W.Frag) (D a dd : Addr) : List V → Hp → VK → Prop := fun xs H Q => ∃ (c : V) (cv : Value) (b : Bool) (fs : List (Str × V)), xs = [.ref a, c] ∧ (∀ u, RelV c u → u = cv) ∧ H dd = some (.xd fs) ∧ PySem.W.kitOne K (.ref D) cv = some b ∧ Q (.bl b) H
theorem call_isX {X : Cx} {a D dd : Addr} {oe : Obj} {pn : List (Addr × Obj)} (C : IsC X.K D) (hz : Zc (.ref D) (some dd) oe) (hf : ∃ vs, oe.data = .fields vs) : CallR (X.suite a ((a, oe) :: pn)) (.builtin "isinstance") (rIsX X.K D a dd) := by
  intro pins s σ H xs us Q I r h
  obtain ⟨c, cv, b, fs, rfl, hcv, hdd, e, q⟩ := h
  cases r with
  | cons rx rr =>
    cases rr with
    | cons rt rr =>
      cases rr
      cases rx
      have ec := hcv _ rt
      subst ec
      obtain ⟨hget, _⟩ := I.pin (a, oe) (List.mem_append.mpr (.inl List.mem_cons_self))
      obtain ⟨vs, hv⟩ := hf
      have hx : ObjOk X.prog X.w H s.heap dd (.xd fs) := I.hok dd _ hdd
      obtain ⟨mA, hns, hr⟩ := hx
      obtain ⟨od, ho, hl⟩ := lookIn_ns hns
      have J : PySem.W.InstAt s.heap a oe D (some od) := ⟨hget, hz.1, by unfold PySem.W.notCls; rw [hv] <;> rfl, by rw [hz.2]; exact ho⟩
      exact PySem.W.kia_one (kitx_own C) I.kIn ⟨_, J⟩ e (fun z => nomatch z) fun tk => ⟨.bl b, H, I.kept (t' := tk) fun _ _ z => z, rfl, q⟩
/-- its answer b is known by its class -/
noncomputable def eIsX (a : Addr) (cls : Value) (d : Option Addr) (i : Nat) (b : Bool) : M IV := fun _ σ cs => match σ[i]? with
  | some (.exn e a' cls' d') => open Classical in if a' = a ∧ cls' = cls ∧ d' = d then .ok (.bl b) cs else .stuck
  | _ => .stuck
noncomputable def isR (a : Addr) (cls : Value) (d : Option Addr) (b : Bool) (o : Option SV) (cs : List Cell) : Res IV := match o with
  | some (.exn e a' cls' d') => open Classical in if a' = a ∧ cls' = cls ∧ d' = d then .ok (.bl b) cs else .stuck
  | _ => .stuck
@[simp] theorem isR_exn {a : Addr} {cls : Value} {d : Option Addr} {b : Bool} {e : Exn} {cs : List Cell} : isR a cls d b (some (.exn e a cls d)) cs = .ok (.bl b) cs := by
  unfold isR
  exact if_pos ⟨rfl, rfl, rfl⟩
@[simp] theorem ev_eIsX {a : Addr} {cls : Value} {d : Option Addr} {i n : Nat} {b : Bool} {σ : List SV} {cs : List Cell} : eIsX a cls d i b n σ cs = isR a cls d b σ[i]? cs := id rfl
section
variable {X : Cx} {n k : Nat} {W : WX}
theorem je_isX {a D : Addr} {oe : Obj} {cls : Value} {d : Option Addr} {pn : List (Addr × Obj)} {x : Str} {i : Nat} {ec : Expr} {c : V} {cv : Value} {b : Bool} {p p2 pos : Pos} (C : IsC X.K D) (hc : cls = .ref D) (hz : Zc cls d oe) (hf : ∃ vs, oe.data = .fields vs)
    (hN : X.N[i]? = some x) (hv : Vis X.env.scope x) (pc : PE (X.suite a ((a, oe) :: pn)) ec (tC c)) (un : ∀ u, RelV c u → u = cv) (hk : PySem.W.kitOne X.K (.ref D) cv = some b) (hm : X.mg "isinstance" = none)
    (hst1 : starEach [.Name x p2, ec] X.env = (false, eval (.Name x p2) X.env) :: starEach [ec] X.env) (hst2 : starEach [ec] X.env = (false, eval ec X.env) :: starEach [] X.env) (hg : Gl X "isinstance" := by rfl) (hd : (x == ("__debug__" : Str)) = false := by decide) (hcd : (x == ("__classdict__" : Str)) = false := by decide)
    (hpl : (backTo pos (starEach [ec] X.env)).any (·.1) = false := by rfl) :
    JE (X.suite a ((a, oe) :: pn)) n W (.Call (.Name "isinstance" p) [.Name x p2, ec] [] pos) (eIsX a cls d i b) := by
  subst hc
  cases d with
  | none =>
    refine ⟨fun pins s σ H Q I h => ?_⟩
    obtain ⟨F, ρ, cs, σi, hs, hl, hp⟩ := h
    rw [ev_eIsX] at hp
    cases q : σi[i]? with
    | none => rw [q] at hp; exact hp.elim
    | some sv =>
      rw [q] at hp
      cases sv with
      | exn e a' cls' d' =>
        by_cases hh : a' = a ∧ cls' = .ref D ∧ d' = none
        · obtain ⟨rfl, rfl, rfl⟩ := hh
          obtain ⟨_, _, _, _, _, _, z, _⟩ := hl.at_ i _ q
          cases z
        · have : isR a (.ref D) none b (some (.exn e a' cls' d')) cs = .stuck := by unfold isR; exact if_neg hh
          rw [this] at hp; exact hp.elim
      | un => exact hp.elim
      | v _ => exact hp.elim
      | own _ => exact hp.elim
  | some dd =>
    refine pe_imp (pe_callB (call_isX C hz hf) hg hm bt_isinstance (pa_cons (pe_var (pos := p2) (i := i) hN hv hd hcd) (pa_cons pc pa_nil (by exact hst2)) (by exact hst1)) (by decide) (by decide) (by exact hst1) (by exact hpl)) fun σ H Q h => ?_
    obtain ⟨F, ρ, cs, σi, hs, hl, hp⟩ := h
    rw [ev_eIsX] at hp
    cases q : σi[i]? with
    | none => rw [q] at hp; exact hp.elim
    | some sv =>
      rw [q] at hp
      cases sv with
      | exn e a' cls' d' =>
        by_cases hh : a' = a ∧ cls' = .ref D ∧ d' = some dd
        · obtain ⟨rfl, rfl, rfl⟩ := hh
          rw [isR_exn] at hp
          obtain ⟨h1, C', dd', vs, m1, m2, m3, m4, m5, m6⟩ := hl.at_ i _ q
          cases m3
          exact ⟨_, h1, c, cv, b, _, rfl, un, hs.fz _ _ m4, hk, hp F ρ H _ StpU.refl hs (by simp only [Rel])⟩
        · have : isR a (.ref D) (some dd) b (some (.exn e a' cls' d')) cs = .stuck := by unfold isR; exact if_neg hh
          rw [this] at hp; exact hp.elim
      | un => exact hp.elim
      | v _ => exact hp.elim
      | own _ => exact hp.elim
end
/-- str(i) -/
def fStr : List Cell → List IV → Option IV
  | _, [.int i] => if i.natAbs.log2 < 1920 then some (.str (Str.ofString (toString i))) else none
  | _, _ => none
theorem cj_str {X : Cx} : CallR X (.type "str") (rCJ (gx X) fStr) := by
  intro pins s σ H vs us Q I r h
  obtain ⟨F, ρ, cs, xs, z, hs, hx, hf, q⟩ := h
  unfold fStr at hf
  split at hf
  · split at hf
    · rename_i hlog
      cases hf
      obtain ⟨v, rfl, h1⟩ := relL1 hx
      rw [relInt h1] at r
      exact call_str_int pins s σ H _ us Q I r ⟨_, rfl, hlog, q F ρ H _ StpU.refl hs (by simp only [Rel])⟩
    · cases hf
  · cases hf
end SL

set_option Elab.async false
set_option linter.all false
set_option autoImplicit false
set_option maxRecDepth 100000
set_option maxHeartbeats 4000000
/-! SLTry2: several clauses, each with a name. -/
namespace SL
open PySem PySem.Spec L2
open PyProof.Rows hiding St
abbrev Tsuite := Addr → Value → Option Addr → TS
/-- what the clauses wish of an exception of the body, one after the other -/
def wAll (K : PySem.W.Frag) (Wo : WX) (D : Ends) : List (Value × Nat × Tsuite) → WX
  | [] => Wo
  | (c, i, ts) :: r => fun cls d σ H => ∃ b, PySem.W.exmOne K cls c = some b ∧ (b = true → ∀ a, H a = none → ts a cls d (Dun i D) (σ.set i (some (.ref a))) H) ∧ (b = false → wAll K Wo D r cls d σ H)
inductive ClsG (X : Cx) : List ExceptHandler → List (Value × Nat × Tsuite) → Prop
  | nil : ClsG X [] []
  | cons {x nm : Str} {c : Value} {i : Nat} {ts : Tsuite} {b0 : Stmt} {sb : List Stmt} {p1 p2 : Pos} {hs : List ExceptHandler} {l : List (Value × Nat × Tsuite)} (hi : X.N[i]? = some nm) (hl : X.env.kindOf nm = some .local) (hc : Names X x c)
      (hsu : ∀ (a : Addr) (oe : Obj) (cls : Value) (d : Option Addr) (pn : List (Addr × Obj)), Zc cls d oe → (∃ vs, oe.data = .fields vs) → PSs (X.suite a ((a, oe) :: pn)) (b0 :: sb) (ts a cls d)) (r : ClsG X hs l) :
      ClsG X (.ExceptHandler (some (.Name x p1)) (some nm) (b0 :: sb) p2 :: hs) ((c, i, ts) :: l)
section
variable {X : Cx} {body : List Stmt} {h0 : ExceptHandler} {hl : List ExceptHandler} {l : List (Value × Nat × Tsuite)} {pos : Pos} {tb : WX → TS} {Wo : WX}
theorem ps_try_all (hs : X.stack = X.env :: X.outer) (hf : X.env.frame = some X.env.locals) (hN : X.N.Nodup) (tk : Takes X Wo)
    (hb : ∀ (W : WX) (pn : List (Addr × Obj)) (xe : Value → Shared → Prop), Takes (X.tr pn xe) W → PassesOwn (model X.prog X.w) X.A X.env xe → PSs (X.tr pn xe) body (tb W))
    (hh : ClsG X (h0 :: hl) l) : PS X (.Try body (h0 :: hl) [] [] pos) (fun D σ H => tb (wAll X.K Wo D l) D σ H) := by
  refine ⟨fun pins s σ H D I hyp => ?_⟩
  have okX := I.ok
  have frm : X.A.frames = some (X.env :: X.outer) := by rw [okX.frames, hs]
  refine wpAny_Try_except ?_
  refine wpAny_mono ((hb (wAll X.K Wo D l) (X.pn ++ pins) (fun e t1 => wpAny (model X.prog X.w) X.A (noteFrame e X.env) (fun _ t2 => wpAny (model X.prog X.w) X.A (setFlight e none) (fun _ t3 =>
    wpAny (model X.prog X.w) X.A (handleBy e X.env (h0 :: hl)) (SP X pins D) X.xe t3) X.xe t2) X.xe t1) (fun u s' xx => ?_) PassesOwn.looking).run [] s σ H D (I.toTry _) hyp) (fun f s1 hsp => ?_) (fun e s1 he => he)
  · -- the catch
    obtain ⟨a, B, sI, pin1, σ1, H1, cls, d, rfl, J0, nb, up, sky, na, os, ag, w⟩ := xx
    have J : Inv X pins σ1 H1 sI := J0.ofTry okX
    have sky1 : Sky B (X.env :: X.outer) a (Zc cls d) X.env.locals s'.heap := by rw [← hs]; exact sky
    show wpAny (model X.prog X.w) X.A (noteFrame (.ref a) X.env) _ _ _
    refine Sky.land Zc.steady frm hf sky1 fun g3 fl3 up3 => ?_
    have J3 : Inv X pins σ1 H1 { s' with heap := g3 } := J.landed nb fl3.1 (up.trans up3) os ag
    obtain ⟨oe3, vs3, he3, hz3, hd3⟩ := fl3.there
    have offF : ∀ {h : Heap} {o : Obj} {vs : Array Value}, h.FunFrames B (X.env :: X.outer) → h.get? a = some o → o.data = .fields vs → a ∉ frs (X.env :: X.outer) := fun {h o vs} ff e dd hm => by
      obtain ⟨_, o', e', nf⟩ := ff.mem hm
      rw [e] at e'; cases e'
      exact nf _ dd
    have off := offF fl3.2.2.1 he3 hd3
    have offL : a ≠ X.env.locals := fun z => off (List.mem_filterMap.mpr ⟨X.env, List.mem_cons_self, by rw [hf, z]⟩)
    have offS : a ∉ X.fs := fun hm => by
      obtain ⟨e, he, q⟩ := List.mem_filterMap.mp hm
      exact off (List.mem_filterMap.mpr ⟨e, List.mem_cons_of_mem _ he, q⟩)
    have S3 := J3.suite he3 hd3 na offL offS
    have walk : ∀ {hs1 : List ExceptHandler} {l1 : List (Value × Nat × Tsuite)}, ClsG X hs1 l1 → wAll X.K Wo D l1 cls d σ1 H1 → wpAny (model X.prog X.w) X.A (handleBy (.ref a) X.env hs1) (SP X pins D) X.xe { s' with heap := g3 } := by
      intro hs1 l1 hk
      induction hk with
      | nil =>
        intro w
        refine wpAny_handleBy_nil ?_
        obtain ⟨k1, k2, k3, oe, vs, T, oT, ts', he, hz, hd, hf1, hr⟩ := id fl3
        unfold PySem.passOn
        refine wpAny_bind (wpAny_field he hd hf1 ?_)
        rw [if_neg (show ¬ ((Value.ref T == Value.none) = true) from by simp)]
        have fin : wpAny (model X.prog X.w) X.A (setFlight (.ref a) X.env.frame) (fun _ t4 => wpAny (model X.prog X.w) X.A (throw (.ref a) : Sem Flow) (SP X pins D) X.xe t4) X.xe { s' with heap := g3 } := by
          rw [hf]
          refine HandSPX.setFlight_upZ fl3 fun g4 hh4 up4 => wpAny_throw (tk _ _ ?_)
          exact ⟨a, B, sI, pins, σ1, H1, cls, d, rfl, J, nb, (up.trans up3).trans up4, .inr (.inr (by rw [hs]; exact hh4)), na, os, ag, w⟩
        first
          | exact wpAny_bind (wpAny_pure (wpAny_bind fin))
          | exact wpAny_bind fin
      | @cons x nm c i ts b0 sb p1 p2 hs2 l2 hi hln hc hsu r ih =>
        intro w
        obtain ⟨b, hb1, hyes, hno⟩ := w
        refine wpAny_handleBy_cons (codeAny_handlers_test ?_) (by intro q; cases q)
        have LT : PySem.W.Looks (model X.prog X.w) g3 (typeOf (.ref a)) cls := fun A Q E s k q => wpAny_typeOf_ref (k _ _ he3) (by rw [hz3.1]; exact q)
        have LM := PySem.W.exm_one (M := model X.prog X.w) (J3.kIn) LT hb1
        have asked : ∀ {Q : Value → Shared → Prop} {E : Value → Shared → Prop}, Q c { s' with heap := g3 } → wpAny (model X.prog X.w) (X.A.mark (some (.ref a))) (eval (.Name x p1) X.env) Q E { s' with heap := g3 } := fun {Q E} q => by
          obtain ⟨hg, hdb, hm | ⟨hm, hv, hnn⟩⟩ := hc
          · exact ld_glob (X := X.suite a ((a, oe3) :: (X.pn ++ pins))) S3 hg hm q hdb
          · exact ld_blt (X := X.suite a ((a, oe3) :: (X.pn ++ pins))) S3 hg hm hv q hnn hdb
        refine asked (LM.here ?_)
        cases b with
        | true =>
          refine codeAny_handlers_suite_as ?_
          refine HandSPX.lands_againZ fl3 fun g4 fl4 up4 => ?_
          have J4 : Inv X pins σ1 H1 { s' with heap := g4 } := J.landed nb fl4.1 ((up.trans up3).trans up4) os ag
          obtain ⟨oe4, vs4, he4, hz4, hd4⟩ := fl4.there
          have S4 := J4.suite he4 hd4 na offL offS
          refine store_ok (X := X.suite a ((a, oe4) :: (X.pn ++ pins))) (v := .ref a) S4 hN hi (.inl hln) rfl (fun s5 S5 => ?_) (.inr hln)
          refine wpAny_mono ((hsu a oe4 cls d (X.pn ++ pins) hz4 ⟨_, hd4⟩).run [] s5 _ H1 _ S5 (hyes rfl a na)) (fun f s6 hsp => ?_) (fun _ _ z => False.elim z)
          have gone : ∀ {σ6 : St} {H6 : Hp} {Q : Shared → Prop}, Inv (X.suite a ((a, oe4) :: (X.pn ++ pins))) [] σ6 H6 s6 → (∀ s7, Inv X pins (σ6.set i none) H6 s7 → Q s7) →
              wpAny (model X.prog X.w) X.A (do bindName X.env nm .none; unbindBehindTheSuite X.env nm p2) (fun _ s7 => Q s7) X.xe s6 := fun {σ6 H6 Q} S6 hq => gone_ok (S6.unsuite okX) hN hi hln hq
          cases f with
          | next =>
            obtain ⟨σ6, H6, S6, q6⟩ := hsp
            exact gone S6 fun s7 J7 => ⟨_, _, J7, q6⟩
          | brk =>
            obtain ⟨σ6, H6, S6, q6⟩ := hsp
            exact gone S6 fun s7 J7 => ⟨_, _, J7, q6⟩
          | cont =>
            obtain ⟨σ6, H6, S6, q6⟩ := hsp
            exact gone S6 fun s7 J7 => ⟨_, _, J7, q6⟩
          | ret u =>
            obtain ⟨v6, σ6, H6, S6, r6, q6⟩ := hsp
            exact gone S6 fun s7 J7 => ⟨_, _, _, J7, r6, q6⟩
        | false =>
          show wpAny _ X.A (handleBy (.ref a) X.env hs2) _ _ _
          exact ih (hno rfl)
    exact walk hh w
  · cases f with
    | next =>
      obtain ⟨σ1, H1, J1, q⟩ := hsp
      exact wpAny_execs_nil ⟨σ1, H1, J1.ofTry okX, q⟩
    | brk =>
      obtain ⟨σ1, H1, J1, q⟩ := hsp
      exact ⟨σ1, H1, J1.ofTry okX, q⟩
    | cont =>
      obtain ⟨σ1, H1, J1, q⟩ := hsp
      exact ⟨σ1, H1, J1.ofTry okX, q⟩
    | ret u =>
      obtain ⟨v, σ1, H1, J1, r, q⟩ := hsp
      exact ⟨v, σ1, H1, J1.ofTry okX, r, q⟩
end
/-- a clause's mirror: the classes that it takes, the name's slot, the suite -/
structure Cl where
  acc : Str → Option Bool
  i : Nat
  hd : HM
noncomputable def caughtL : List Cl → Exn → Nat → List SV → List Cell → SR
  | [], e, _, σ, cs => .ex e σ cs
  | c :: r, e, n, σ, cs => match c.acc e.cls with
    | some true => caught c.i c.hd e n σ cs
    | some false => caughtL r e n σ cs
    | none => .stuck
noncomputable def sTryL (b : SM) (cl : List Cl) : SM := fun n σ cs => match b n σ cs with
  | .ex e σ' cs' => caughtL cl e n σ' cs'
  | r => r
def SR.finS (r : SR) : Res IV := match r with
  | .next _ cs => .ok .non cs
  | .ret x cs => .ok x cs
  | _ => .stuck
noncomputable def eToldL (N : Nat) (cl : List Cl) (m : M IV) : M IV := fun n σ cs => match m n σ cs with
  | .ok x cs' => .ok x cs'
  | .ex e cs' => (caughtL cl e n (List.replicate N .un) cs').finS
  | .stuck => .stuck
theorem caughtL_at {c : Cl} {r : List Cl} {e : Exn} {n : Nat} {σ : List SV} {cs : List Cell} {x : SR} (ha : c.acc e.cls = some true) (h : ∀ a cls d, hmap c.i (c.hd a cls d n (σ.set c.i (.exn e a cls d)) cs) = x) : caughtL (c :: r) e n σ cs = x := by
  unfold caughtL
  rw [ha]
  exact caught_of h
theorem caughtL_on {c : Cl} {r : List Cl} {e : Exn} {n : Nat} {σ : List SV} {cs : List Cell} (ha : c.acc e.cls = some false) : caughtL (c :: r) e n σ cs = caughtL r e n σ cs := by
  rw [caughtL, ha]
theorem toldL_ok {n : Nat} {σ : List SV} {cs cs' : List Cell} {N : Nat} {cl : List Cl} {m : M IV} {x : IV} (h : m n σ cs = .ok x cs') : eToldL N cl m n σ cs = .ok x cs' := by
  unfold eToldL; rw [h]
theorem toldL_ex {n : Nat} {σ : List SV} {cs cs' cs'' : List Cell} {N : Nat} {cl : List Cl} {m : M IV} {x : IV} {e : Exn} (h : m n σ cs = .ex e cs') (hh : caughtL cl e n (List.replicate N .un) cs' = .ret x cs'') : eToldL N cl m n σ cs = .ok x cs'' := by
  unfold eToldL; rw [h]
  dsimp only
  rw [hh]; rfl
section
variable {X : Cx} {n k : Nat} {W : WX}
def tss (X : Cx) (n : Nat) (L : List (Value × Cl)) : List (Value × Nat × Tsuite) := L.map fun p => (p.1, p.2.i, fun a cls d D σ H => OkC X.mg p.2.acc cls ∧ tS (gx X) n W0 (p.2.hd a cls d) D σ H)
theorem pst_wAll {F : Hp} {ρ : List Addr} {H : Hp} {D : Ends} {e : Exn} {σi : List SV} {cs : List Cell} {U : Addr → Prop} : ∀ {L : List (Value × Cl)}, (∀ p ∈ L, ∀ cn b C, p.2.acc cn = some b → X.mg cn = some (.ref C) → PySem.W.exmOne X.K (.ref C) p.1 = some b) →
    PstS (gx X) W U F ρ H (caughtL (L.map (·.2)) e n σi cs) D → PstS (gx X) (wAll X.K W D (tss X n L)) U F ρ H (.ex e σi cs) D
  | [], _, h => h
  | p :: L, hacc, h => by
    intro F' ρ' H' σ' cls d st sm sl ow rx
    obtain ⟨C, dd, vs, m1, m2, m3, m4, m5, m6⟩ := rx
    have h : PstS (gx X) W U F ρ H (match p.2.acc e.cls with | some true => caught p.2.i p.2.hd e n σi cs | some false => caughtL (L.map (·.2)) e n σi cs | none => .stuck) D := h
    cases ha : p.2.acc e.cls with
    | none => rw [ha] at h; exact h.elim
    | some b =>
      refine ⟨b, by rw [m2]; exact hacc p (by simp) e.cls b C ha m1, fun hb a na => ?_, fun hb => ?_⟩
      · subst hb
        rw [ha] at h
        have h : PstS (gx X) W U F ρ H (caught p.2.i p.2.hd e n σi cs) D := h
        have hne : caught p.2.i p.2.hd e n σi cs ≠ .stuck := fun z => by rw [z] at h; exact h.elim
        refine ⟨⟨e.cls, C, ha, m1, m2⟩, F', ρ', cs, σi.set p.2.i (.exn e a cls d), sm, sl.setExn ⟨C, dd, vs, m1, m2, m3, m4, m5, m6⟩, ?_⟩
        rw [← caught_at hne a cls d] at h
        exact pst_hmap (h.stp st fun x o => ow x (own_setExn o))
      · subst hb
        rw [ha] at h
        exact pst_wAll (L := L) (fun q hq => hacc q (by simp [hq])) h F' ρ' H' σ' cls d st sm sl ow ⟨C, dd, vs, m1, m2, m3, m4, m5, m6⟩
theorem js_tryL {L : List (Value × Cl)} {body : List Stmt} {h0 : ExceptHandler} {hl : List ExceptHandler} {pos : Pos} {b : SM} {cl : List Cl} (hs : X.stack = X.env :: X.outer) (hf : X.env.frame = some X.env.locals) (hN : X.N.Nodup) (tk : Takes X W)
    (hacc : ∀ p ∈ L, ∀ cn b C, p.2.acc cn = some b → X.mg cn = some (.ref C) → PySem.W.exmOne X.K (.ref C) p.1 = some b) (hcl : L.map (·.2) = cl)
    (hb : ∀ (W' : WX) (pn : List (Addr × Obj)) (xe : Value → Shared → Prop), Takes (X.tr pn xe) W' → PassesOwn (model X.prog X.w) X.A X.env xe → JB (X.tr pn xe) n W' body b) (hh : ClsG X (h0 :: hl) (tss X n L)) : JS X n W (.Try body (h0 :: hl) [] [] pos) (sTryL b cl) := by
  subst hcl
  refine ps_imp (ps_try_all (tb := fun W' => tS (gx X) n W' b) (Wo := W) hs hf hN tk hb hh) fun D σ H h => ?_
  obtain ⟨F, ρ, cs, σi, sm, sl, hp⟩ := h
  refine ⟨F, ρ, cs, σi, sm, sl, ?_⟩
  unfold sTryL at hp
  cases e : b n σi cs with
  | ex y σ' cs' =>
    rw [e] at hp
    exact pst_wAll hacc hp
  | next σ' cs' => rw [e] at hp; exact hp
  | ret y cs' => rw [e] at hp; exact hp
  | brk σ' cs' => rw [e] at hp; exact hp
  | cnt σ' cs' => rw [e] at hp; exact hp
  | stuck => rw [e] at hp; exact hp.elim
end
/-- what the suites of the def that calls are to be shown -/
def SuiteL (P : Program) (w : World) (K : PySem.W.Frag) (mg : Str → Option Value) (base : Heap) (n k : Nat) (N : List Str) (qual : Str) (scope : Scope) (hs : List ExceptHandler) (L : List (Value × Cl)) : Prop :=
  ∀ (f : Addr) (cd : Value) (A : Around) (outer : List Env) (s : Shared) (H : Hp) (E : XK), Room k (bX P w K mg base N qual scope f cd A outer s H E).A → (bX P w K mg base N qual scope f cd A outer s H E).A.guards = some [] →
    ClsG (bX P w K mg base N qual scope f cd A outer s H E) hs (tss (bX P w K mg base N qual scope f cd A outer s H E) n L)
def ToldL (P : Program) (w : World) (K : PySem.W.Frag) (mg : Str → Option Value) (base : Heap) (n k : Nat) (x : Str) (N : Nat) (cl : List Cl) : Prop :=
  ∃ (g : Addr) (Ng : List Str) (a : Str) (L : List (Value × Cl)) (pg : Arguments) (sg : Scope) (dV kV doc pm cdv ct oc : Value) (an od : Option Addr) (osl : Array (Option Value)) (h0 : ExceptHandler) (hl : List ExceptHandler) (p1 p2 p3 p6 : Pos),
    mg x = some (.ref g) ∧ PySem.W.keepIn K (.ref g) = true ∧ Ng.length = N ∧ Ng[0]? = some a ∧ FnScope Ng [a] sg ∧ Vis sg a ∧ (a == ("__debug__" : Str)) = false ∧ (a == ("__classdict__" : Str)) = false ∧ (∀ f : Addr, (L2.start Ng [V.ref f])[0]? = some (some (V.ref f))) ∧
    K.lookup g = some ⟨oc, od, .func (PySem.W.fnOf x x pg [.Try [.Return (some (.Call (.Name a p1) [] [] p2)) p3] (h0 :: hl) [] [] p6] sg dV kV doc pm an cdv ct), osl⟩ ∧ PySem.W.codeIn K cdv x = true ∧
    L2.Binds K (PySem.W.fnOf x x pg [.Try [.Return (some (.Call (.Name a p1) [] [] p2)) p3] (h0 :: hl) [] [] p6] sg dV kV doc pm an cdv ct) [a] [] ∧ L.map (·.2) = cl ∧
    (∀ p ∈ L, ∀ cn b C, p.2.acc cn = some b → mg cn = some (.ref C) → PySem.W.exmOne K (.ref C) p.1 = some b) ∧ SuiteL P w K mg base n k Ng x sg (h0 :: hl) L
section
open LamX
variable {X : Cx} {n k : Nat}
theorem pst_finS {g : Gx} {W W' : WX} {U : Addr → Prop} {σ : St} {F : Hp} {ρ : List Addr} {H : Hp} {r : SR} {Q : VK} (h : Pst g W σ (Rel g) F ρ H r.finS Q) (hU : ∀ x, ¬ U x) : PstS g W' U F ρ H r { nx := fun _ H' => Q .non H', rt := Q } := by
  cases r with
  | next σi cs => exact pst_fin (r := .next σi cs) h (fun _ _ _ z => by cases z) hU
  | ret x cs => exact pst_fin (r := .ret x cs) h (fun _ _ _ z => by cases z) hU
  | brk σi cs => exact h.elim
  | cnt σi cs => exact h.elim
  | ex e σi cs => exact h.elim
  | stuck => exact h.elim
/-- x(lambda: body) -/
theorem je_lamL {W : WX} {x : Str} {N c P : Nat} {cl : List Cl} {params : Arguments} {body : Expr} {scope : Scope} {p lpos pos : Pos} {m : M IV} (G : ToldL X.prog X.w X.K X.mg X.base n (k + 1) x N cl) (TB : TabB X.base X.mg c P) (hcode : X.env.code = .ref c)
    (hmT : (P, X.env.qual ++ "<lambda>") ∈ lamT X.K) (hu : ∀ p ∈ lamT X.K, p.1 = P → p.2 = X.env.qual ++ "<lambda>") (hr : Room (k + 2) X.A) (hgd : X.A.guards = some []) (L : LamS X.env.scope scope) (hdef : defaultsOf params X.env = ([], []))
    (hbind : ∀ (q : Str) (cl : List (Str × Addr)) (pm cv ctv : Value), bindArgs (PySem.W.kla_fn "<lambda>" q params body scope cl pm cv ctv) ⟨[], []⟩ = pure [])
    (hbody : ∀ (A : Around) (outer : List Env) (s : Shared) (H : Hp) (E : XK) (f c' : Addr), Room k (A.deeper (lamEnv X scope s.heap.objs.size f c')) → A.guards = some [] → JE (lamCx X A outer s H E scope f c') n (bW E) body m)
    (hg : Gl X x := by rfl) (hdb : (x == ("__debug__" : Str)) = false := by decide) : JE X n W (.Call (.Name x p) [.Lambda params body scope lpos] [] pos) (eToldL N cl m) := by
  obtain ⟨g, Ng, a, LC, pg, sg, dV, kV, doc, pm, cdv, ct, oc, an, od, osl, h0, hl0, p1, p2, p3, p6, hm, hk, hlen, hN0, Sg, hva, hd1, hd2, hst, lk, hcg, hb, hcl, hacc, hsu⟩ := G
  subst hcl
  refine ⟨fun pins s σ H Q I hyp => ?_⟩
  obtain ⟨F, ρ, cs, σi, hs, hl, hp⟩ := hyp
  refine wpAny_Call_Name_kw (ld_glob I hg hm ?_ hdb)
  refine PySem.W.callWith_K (h₀ := X.base) I.ok.mod.kin hk ?_ (by rfl) (by rfl)
  show wpAny _ _ (spliced ((false, eval (.Lambda params body scope lpos) X.env) :: backTo pos (starEach [] X.env))) _ _ s
  refine Calls.spliced_cons (lam_mk I TB hcode hmT hu hs.tb hdef (L.has I.ok) fun f c' pm' ctv H1 s' I1 eN T1 dm1 hf hfn hfr hco => ?_)
  refine Calls.spliced_nil ⟨I1.kIn, ?_⟩
  obtain ⟨sm1, st1⟩ := sim_ext hs eN T1 dm1
  have hl1 := hl.stp st1
  have hp1 := hp.stp st1
  have rc : codeAny (model X.prog X.w) X.A (.call (.ref g) ⟨[.ref f], []⟩) (CR (L2.CX X.prog X.w) X.stack X.prog X.w H1 s' Q fun _ _ _ => False) s' := by
    refine run_ofS (N := Ng) (ps := [a]) (us := [.ref f]) (vs := [.ref f]) lk hcg Sg hr I1.env0 (hb s' [.ref f] I1.kIn rfl) (.cons rfl .nil) rfl fun hr' => ?_
    refine ⟨_, pss_one (ps_try_all (X := bX X.prog X.w X.K X.mg X.base Ng x sg g cdv X.A X.stack s' H1 fun _ _ _ => False)
      (tb := fun W D σZ HZ => σZ[0]? = some (some (.ref f)) ∧ HZ c' = some (CodeO c' (X.env.qual ++ "<lambda>")) ∧ tG (gx X) n (bW (WE W σZ)) (Rel (gx X)) m σ HZ D.rt) (Wo := W0) rfl rfl Sg.nd LamX.takes0 (fun W pn xe tk _ => ?_) (hsu g cdv X.A X.stack s' H1 _ hr' (by exact hgd))), ?_⟩
    · refine ⟨fun pinsZ sZ σZ HZ D IZ h' => ?_⟩
      have hact := pe_actG (n := n) (m := m) (i := 0) (p1 := p1) (p2 := p2) I1 L hf hfn hfr (hbind _ _ _ _ _) tk hr' hgd hbody hN0 hva hd1 hd2
      exact (pss_one (ps_ret (pos := p3) hact)).run pinsZ sZ σZ HZ D IZ h'
    · refine ⟨hst f, hco, F, ρ, cs, σi, sm1, hl1, ?_⟩
      unfold eToldL at hp1
      cases hmr : m n σi cs with
      | ok y cs' => rw [hmr] at hp1; exact hp1
      | stuck => rw [hmr] at hp1; exact hp1.elim
      | ex e cs' =>
        rw [hmr] at hp1
        replace hp1 : Pst (gx X) W σ (Rel (gx X)) F ρ H1 (caughtL (LC.map (·.2)) e n (List.replicate N .un) cs').finS Q := hp1
        have hps := pst_finS (W' := W0) (U := fun _ => False) hp1 (fun _ z => z)
        intro F' ρ' H' cls d st sm rx
        refine pst_wAll (X := bX X.prog X.w X.K X.mg X.base Ng x sg g cdv X.A X.stack s' H1 fun _ _ _ => False) (W := W0) (U := fun _ => False) (L := LC) (e := e) (σi := List.replicate N .un) (cs := cs') hacc hps F' ρ' H' (L2.start Ng [.ref f]) cls d st.u sm (un_slts ?_) (fun x o => (un_own o).elim) rx
        have h0 : 0 < Ng.length := (List.getElem?_eq_some_iff.mp hN0).1
        rw [← hlen]
        unfold L2.start
        simp
        omega
  refine wpAny_call (codeAny_mono rc fun r s2 hq => ?_)
  cases r with
  | error e =>
    obtain ⟨_, _, _, _, _, _, _, _, _, _, _, _, z⟩ := hq
    exact z.elim
  | ok fl =>
    cases fl with
    | ret u => exact I1.after hq
    | next => exact False.elim hq
    | brk => exact False.elim hq
    | cont => exact False.elim hq
end
end SL

set_option Elab.async false
set_option linter.all false
set_option autoImplicit false
set_option maxRecDepth 100000
set_option maxHeartbeats 4000000
/-! SLMore2: a target of a tuple or a list; sorted ints. -/
namespace SL
open PySem PySem.Spec L2
open PyProof.Rows hiding St
def insS (x : Int) : List Int → List Int
  | [] => [x]
  | y :: r => if x ≤ y then x :: y :: r else y :: insS x r
def isrt : List Int → List Int
  | [] => []
  | x :: r => insS x (isrt r)
theorem insS_perm (x : Int) : ∀ l : List Int, (insS x l).Perm (x :: l)
  | [] => .refl _
  | y :: r => by
    unfold insS
    split
    · exact .refl _
    · exact ((insS_perm x r).cons y).trans (.swap x y r)
theorem isrt_perm : ∀ l : List Int, (isrt l).Perm l
  | [] => .refl _
  | x :: r => (insS_perm x (isrt r)).trans ((isrt_perm r).cons x)
theorem insS_srt {x : Int} : ∀ {l : List Int}, l.Pairwise (· ≤ ·) → (insS x l).Pairwise (· ≤ ·)
  | [], _ => by simp [insS]
  | y :: r, h => by
    unfold insS
    split
    · rename_i hxy
      refine List.pairwise_cons.mpr ⟨fun z hz => ?_, h⟩
      rcases List.mem_cons.mp hz with rfl | hz
      · exact hxy
      · have := (List.pairwise_cons.mp h).1 z hz; omega
    · rename_i hxy
      refine List.pairwise_cons.mpr ⟨fun z hz => ?_, insS_srt (List.pairwise_cons.mp h).2⟩
      rcases List.mem_cons.mp ((insS_perm x r).mem_iff.mp hz) with rfl | hz
      · omega
      · exact (List.pairwise_cons.mp h).1 z hz
theorem isrt_srt : ∀ l : List Int, (isrt l).Pairwise (· ≤ ·)
  | [] => .nil
  | x :: r => insS_srt (isrt_srt r)
theorem srt_one {a b : List Int} (p : a.Perm b) (ha : a.Pairwise (· ≤ ·)) (hb : b.Pairwise (· ≤ ·)) : a = b := by
  induction a generalizing b with
  | nil => exact p.nil_eq
  | cons x a ih =>
    cases b with
    | nil => exact absurd p.symm.nil_eq (by simp)
    | cons y b =>
      have h1 := List.pairwise_cons.mp ha
      have h2 := List.pairwise_cons.mp hb
      have e : x = y := by
        have m1 : x ∈ y :: b := p.mem_iff.mp (by simp)
        have m2 : y ∈ x :: a := p.mem_iff.mpr (by simp)
        rcases List.mem_cons.mp m1 with z | z
        · exact z
        · rcases List.mem_cons.mp m2 with w | w
          · exact w.symm
          · have := h2.1 x z; have := h1.1 y w; omega
      subst e
      rw [ih (List.perm_cons x |>.mp p) h1.2 h2.2]
def intsI : List IV → Option (List Int)
  | [] => some []
  | .int i :: r => (intsI r).map (i :: ·)
  | _ => none
theorem intsI_of : ∀ {xs : List IV} {ns : List Int}, intsI xs = some ns → xs = ns.map IV.int
  | [], ns, h => by cases h; rfl
  | x :: r, ns, h => by
    cases x with
    | int i =>
      obtain ⟨ms, h1, rfl⟩ := Option.map_eq_some_iff.mp h
      rw [intsI_of h1]; rfl
    | _ => cases h
/-- sorted(xs) of ints -/
def fSorted : List Cell → List IV → Option IV
  | _, [.lst xs] => (intsI xs).map fun ns => .lst ((isrt ns).map IV.int)
  | _, _ => none
theorem ints_rel {g : Gx} {F : Hp} {ρ : List Addr} : ∀ {ns : List Int} {vs : List V}, RelL g F ρ (ns.map IV.int) vs → vs = ns.map V.int
  | [], vs, h => by simpa only [List.map_nil, RelL] using h
  | i :: r, vs, h => by
    simp only [List.map_cons, RelL] at h
    obtain ⟨v, vs', rfl, h1, h2⟩ := h
    rw [relInt h1, ints_rel h2]; rfl
theorem rel_ints {g : Gx} {F : Hp} {ρ : List Addr} : ∀ (ns : List Int), RelL g F ρ (ns.map IV.int) (ns.map V.int)
  | [] => .nil
  | i :: r => .cons (by simp only [Rel]) (rel_ints r)
theorem cj_sorted {X : Cx} : CallR X (.builtin "sorted") (rCJ (gx X) fSorted) := by
  intro pins s σ H vs us Q I r h
  obtain ⟨F, ρ, cs, xs, z, hs, hx, hf, q⟩ := h
  unfold fSorted at hf
  split at hf
  · obtain ⟨ns, h1, rfl⟩ := Option.map_eq_some_iff.mp hf
    rename_i ys
    rw [intsI_of h1] at hx
    obtain ⟨v, rfl, h2⟩ := relL1 hx
    simp only [Rel] at h2
    obtain ⟨a, ws, rfl, h3, h4⟩ := h2
    rw [ints_rel h4] at h3
    refine cr_sortedI pins s σ H _ us Q I r ⟨a, ns, rfl, .inl (.inl (hs.fz _ _ h3)), fun ns' p hp hsrt hfree => ?_⟩
    have e : ns' = isrt ns := srt_one (hp.trans (isrt_perm ns).symm) hsrt (isrt_srt ns)
    subst e
    obtain ⟨hs', st⟩ := hs.new (o := .lst ((isrt ns).map V.int)) hfree
    refine q _ ρ _ _ st hs' ?_
    simp only [Rel]
    exact ⟨p, _, rfl, upd_same, rel_ints _⟩
  · cases hf
/-- a target of a tuple or of a list -/
def gmSq (k : Nat) (b : GMs) : GM := fun x σ => match x with
  | .tup xs => if xs.length = k then b xs σ else none
  | .lst xs => if xs.length = k then b xs σ else none
  | _ => none
@[simp] theorem ev_gmSqT {k : Nat} {b : GMs} {xs : List IV} {σ : List SV} : gmSq k b (.tup xs) σ = if xs.length = k then b xs σ else none := id rfl
@[simp] theorem ev_gmSqL {k : Nat} {b : GMs} {xs : List IV} {σ : List SV} : gmSq k b (.lst xs) σ = if xs.length = k then b xs σ else none := id rfl
theorem pg_or {X : Cx} {e : Expr} {t u : TG} (h : PG X e t) (h2 : PG X e u) : PG X e (fun v σ H Q => t v σ H Q ∨ u v σ H Q) := ⟨fun pins s σ H v u' Q I r q => q.elim (h.run pins s σ H v u' Q I r) (h2.run pins s σ H v u' Q I r)⟩
section
variable {X : Cx} {ts : List Expr} {gms : GMs} {pos : Pos} {k : Nat}
theorem jg_sq {k2 : Nat} {ix : List Nat} (hc : X.calm = true) (h : JGs X ts ix gms) (hn : (assignEach ts X.env).length = k := by rfl) (hst : (assignEach ts X.env).findIdx? (·.1) = none := by rfl) : JG X (.Tuple ts k2 pos) ix (gmSq k gms) := by
  refine pg_imp (pg_or (pg_tup hc h hn hst) (pg_lst hc h hn hst)) fun v σ H Q h => ?_
  obtain ⟨F, ρ, cs, σi, x, σi', hs, hl, r, e, q⟩ := h
  unfold gmSq at e
  split at e
  · split at e
    · rename_i xs hk
      simp only [Rel] at r
      obtain ⟨a, vs, rfl, h1, h2⟩ := r
      exact .inl ⟨a, vs, rfl, sqT_mono hs.fz h1, by rw [← h2.len]; exact hk, F, ρ, cs, σi, xs, σi', hs, hl, h2, e, q⟩
    · cases e
  · split at e
    · rename_i xs hk
      simp only [Rel] at r
      obtain ⟨a, vs, rfl, h1, h2⟩ := r
      exact .inr ⟨a, vs, rfl, .inl (.inl (hs.fz _ _ h1)), by rw [← h2.len]; exact hk, F, ρ, cs, σi, xs, σi', hs, hl, h2, e, q⟩
    · cases e
  · cases e
end
end SL

set_option Elab.async false
set_option linter.all false
set_option autoImplicit false
set_option maxRecDepth 100000
set_option maxHeartbeats 4000000
/-! SLObj: cells frozen; instances of the text's classes: made, read, stored, their methods and properties. -/
namespace SL
open PySem PySem.Spec L2
open PyProof.Rows hiding St
section
variable {g : Gx} {F F' : Hp} {ρ ρ' : List Addr} {H H' : Hp} {cs : List Cell}
theorem nd_ne {k n : Nat} {a b : Addr} (nd : ρ.Nodup) (ha : ρ[k]? = some a) (hb : ρ[n]? = some b) (h : k ≠ n) : b ≠ a := fun z => by
  subst z
  have h1 := (List.getElem?_eq_some_iff.mp ha)
  have h2 := (List.getElem?_eq_some_iff.mp hb)
  exact h ((List.getElem_inj nd).mp (h1.2.trans h2.2.symm))
/-- a cell stands still from now on -/
theorem Sim.frz {k : Nat} {a : Addr} {c : Cell} {o : HO} (hs : Sim g F ρ cs H) (e : cs[k]? = some c) (hl : c ≠ .dead) (ha : ρ[k]? = some a) (ho : H a = some o) : Sim g (upd F a o) ρ (cs.set k .dead) H ∧ Stp F ρ H (upd F a o) ρ H := by
  have ma : a ∈ ρ := List.mem_of_getElem? ha
  have fa := hs.lv k c a e ha hl
  have nt : ∀ ps, o ≠ .tbl ps := fun ps z => (hs.nx a ma).1 ps (by rw [ho, z])
  have fm : ∀ b u, F b = some u → upd F a o b = some u := fun b u h => upd_none fa h
  refine ⟨⟨fun b u h => ?_, by rw [List.length_set]; exact hs.len, hs.nd, hs.av, fun n d b e1 e2 e3 => ?_, fun n d b e1 e2 => ?_, hs.tb, hs.nx, ft_upd hs.ft nt⟩, ⟨fm, fun b h h' => ?_, ⟨[], by simp⟩, fun b h h' => absurd h h', fun b u h _ _ _ => h, fun b h => h⟩⟩
  · by_cases z : b = a
    · subst z; rw [upd_same] at h; rw [ho, h]
    · rw [upd_ne z] at h; exact hs.fz b u h
  · by_cases z : k = n
    · subst z
      rw [List.getElem?_set_self (by rw [← hs.len]; exact (List.getElem?_eq_some_iff.mp ha).1)] at e1
      cases e1
      exact absurd rfl e3
    · rw [List.getElem?_set_ne z] at e1
      rw [upd_ne (nd_ne hs.nd ha e2 z)]
      exact hs.lv n d b e1 e2 e3
  · by_cases z : k = n
    · subst z
      rw [List.getElem?_set_self (by rw [← hs.len]; exact (List.getElem?_eq_some_iff.mp ha).1)] at e1
      cases e1
      trivial
    · rw [List.getElem?_set_ne z] at e1
      exact (hs.ok n d b e1 e2).mono fm ⟨[], by simp⟩
  · by_cases z : b = a
    · right; right; rw [z]; exact ma
    · rw [upd_ne z] at h; exact absurd h' h
/-- a new object as a cell -/
theorem Sim.newC {p : Addr} {c : Cell} {o : HO} (hs : Sim g F ρ cs H) (hp : H p = none) (hr : ∀ ρ', (∃ t, ρ' = ρ ++ t) → RelC g F ρ' c (some o)) (hx : NoX (some o)) : Sim g F (ρ ++ [p]) (cs ++ [c]) (upd H p o) ∧ Stp F ρ H F (ρ ++ [p]) (upd H p o) := by
  have fp : F p = none := by
    cases e : F p with
    | none => rfl
    | some u => rw [hs.fz p u e] at hp; cases hp
  have np : ∀ a ∈ ρ, a ≠ p := fun a ha z => hs.av a ha (by rw [z]; exact hp)
  have nth : ∀ {n : Nat} {d : Cell} {b : Addr}, (cs ++ [c])[n]? = some d → (ρ ++ [p])[n]? = some b → (n < cs.length ∧ cs[n]? = some d ∧ ρ[n]? = some b) ∨ (d = c ∧ b = p) := fun {n d b} e1 e2 => by
    by_cases hn : n < cs.length
    · rw [List.getElem?_append_left hn] at e1
      rw [List.getElem?_append_left (by rw [hs.len]; exact hn)] at e2
      exact .inl ⟨hn, e1, e2⟩
    · rw [List.getElem?_append_right (by omega)] at e1
      rw [List.getElem?_append_right (by rw [hs.len]; omega)] at e2
      have h0 : n - cs.length = 0 := by
        have := (List.getElem?_eq_some_iff.mp e1).1
        simp at this; omega
      have h1 : n - ρ.length = 0 := by rw [hs.len]; exact h0
      rw [h0] at e1
      rw [h1] at e2
      cases e1; cases e2
      exact .inr ⟨rfl, rfl⟩
  refine ⟨⟨fun b u h => ?_, by simp [hs.len], ?_, fun b hb => ?_, fun n d b e1 e2 e3 => ?_, fun n d b e1 e2 => ?_, tabs_upd hs.tb (by rw [hp]; exact NoX.none), fun b hb => ?_, hs.ft⟩, ⟨fun _ _ h => h, fun b h h' => absurd h' h, ⟨[p], rfl⟩, fun b h h' => ?_, fun b u h _ _ _ => ?_, fun b h => ?_⟩⟩
  · rw [upd_ne (fun z => by rw [z, fp] at h; cases h)]
    exact hs.fz b u h
  · exact List.nodup_append.mpr ⟨hs.nd, by simp, fun b hb c hc z => by
      rw [List.mem_singleton] at hc
      exact np b hb (by rw [z, hc])⟩
  · rcases List.mem_append.mp hb with z | z
    · rw [upd_ne (np b z)]; exact hs.av b z
    · rw [List.mem_singleton.mp z, upd_same]; intro q; cases q
  · rcases nth e1 e2 with ⟨_, h1, h2⟩ | ⟨_, h2⟩
    · exact hs.lv n d b h1 h2 e3
    · rw [h2]; exact fp
  · rcases nth e1 e2 with ⟨_, h1, h2⟩ | ⟨h1, h2⟩
    · rw [upd_ne (np b (List.mem_of_getElem? h2))]
      exact (hs.ok n d b h1 h2).mono (fun _ _ h => h) ⟨[p], rfl⟩
    · rw [h1, h2, upd_same]
      exact hr _ ⟨[p], rfl⟩
  · rcases List.mem_append.mp hb with z | z
    · rw [upd_ne (np b z)]; exact hs.nx b z
    · rw [List.mem_singleton.mp z, upd_same]; exact hx
  · rcases List.mem_append.mp h with z | z
    · exact absurd z h'
    · rw [List.mem_singleton.mp z]; exact .inl hp
  · rw [upd_ne (ne_of_none h hp)]; exact h
  · by_cases e : b = p
    · rw [e, upd_same]; intro z; cases z
    · rw [upd_ne e]; exact h
/-- an object that nobody looks at -/
theorem Sim.bg {p : Addr} {o : HO} (hs : Sim g F ρ cs H) (hp : H p = none) : Sim g F ρ cs (upd H p o) ∧ Stp F ρ H F ρ (upd H p o) := let z := hs.lay (o := o) hp; ⟨z.1, z.2.1⟩
end

/-! ### a value that stands still from now on -/
def frzC (k : Nat) (cs : List Cell) : Option IV := match cs[k]? with
  | some (.lst xs) => some (.lst xs)
  | some (.dct ks xs) => some (.dct ks xs)
  | some (.ins c fs xs) => some (.obj c fs xs)
  | _ => none
def frzV (x : IV) (cs : List Cell) : IV × List Cell := match x with
  | .cell k => match frzC k cs with
    | some y => (y, cs.set k .dead)
    | none => (.cell k, cs)
  | y => (y, cs)
def eFrz (m : M IV) : M IV := fun n σ cs => (m n σ cs).then fun x cs' => .ok (frzV x cs').1 (frzV x cs').2
section
variable {X : Cx} {n k : Nat} {W : WX} {e o : Expr} {es : List Expr} {m ma mo : M IV} {mr : M (List IV)} {g : Gx}
/-- such an object from now on -/
theorem Sim.frzH {F : Hp} {ρ : List Addr} {H : Hp} {cs : List Cell} {k : Nat} {a : Addr} {c : Cell} {o : HO} (hs : Sim g F ρ cs H) (e : cs[k]? = some c) (hl : c ≠ .dead) (ha : ρ[k]? = some a) (hx : NoX (some o)) : Sim g (upd F a o) ρ (cs.set k .dead) (upd H a o) ∧ Stp F ρ H (upd F a o) ρ (upd H a o) := by
  obtain ⟨s1, s2⟩ := hs.cell (c := .dead) (o := o) e hl ha trivial hx
  have ma : a ∈ ρ := List.mem_of_getElem? ha
  have fa := hs.lv k c a e ha hl
  have hlen : k < cs.length := by rw [← hs.len]; exact (List.getElem?_eq_some_iff.mp ha).1
  have nt : ∀ ps, o ≠ .tbl ps := fun ps z => hx.1 ps (by rw [z])
  have fm : ∀ b u, F b = some u → upd F a o b = some u := fun b u h => upd_none fa h
  refine ⟨⟨fun b u h => ?_, s1.len, s1.nd, s1.av, fun n d b e1 e2 e3 => ?_, fun n d b e1 e2 => (s1.ok n d b e1 e2).mono fm ⟨[], by simp⟩, s1.tb, s1.nx, ft_upd hs.ft nt⟩, s2.tr ⟨fm, fun b h h' => ?_, ⟨[], by simp⟩, fun b h h' => absurd h h', fun b u h _ _ _ => h, fun b h => h⟩⟩
  · by_cases z : b = a
    · subst z; rw [upd_same] at h ⊢; exact h
    · rw [upd_ne z] at h; exact s1.fz b u h
  · by_cases z : k = n
    · subst z
      rw [List.getElem?_set_self hlen] at e1
      cases e1
      exact absurd rfl e3
    · rw [upd_ne (nd_ne hs.nd ha e2 z)]
      exact s1.lv n d b e1 e2 e3
  · by_cases z : b = a
    · right; right; rw [z]; exact ma
    · rw [upd_ne z] at h; exact absurd h' h
theorem NoX.frz {o : Obj} {kvs : List (Key × V)} : NoX (some (.frz o (.dK kvs))) := ⟨fun _ z => (by cases z), fun _ _ z => (by unfold LamX.CodeO at z; cases z)⟩
theorem frz_rel {F : Hp} {ρ : List Addr} {H : Hp} {cs : List Cell} {x : IV} {v : V} (hs : Sim g F ρ cs H) (r : Rel g F ρ x v) : (∃ F', Sim g F' ρ (frzV x cs).2 H ∧ Stp F ρ H F' ρ H ∧ Rel g F' ρ (frzV x cs).1 v) ∨
    ∃ d u, H d = some u ∧ Mut (some u) ∧ ∀ od, ∃ F', Sim g F' ρ (frzV x cs).2 (upd H d (.frz od u)) ∧ Stp F ρ H F' ρ (upd H d (.frz od u)) ∧ Rel g F' ρ (frzV x cs).1 v := by
  have same : ∃ F', Sim g F' ρ cs H ∧ Stp F ρ H F' ρ H ∧ Rel g F' ρ x v := ⟨F, hs, StpU.refl, r⟩
  unfold frzV
  split
  · rename_i k
    cases e : frzC k cs with
    | none => exact .inl same
    | some y =>
      unfold frzC at e
      split at e
      · rename_i xs q
        cases e
        simp only [Rel] at r
        obtain ⟨a, rfl, h1⟩ := r
        obtain ⟨vs, h2, h3⟩ := hs.ok k _ a q h1
        obtain ⟨s1, s2⟩ := hs.frz q (by intro z; cases z) h1 h2
        exact .inl ⟨_, s1, s2, by simp only [Rel]; exact ⟨a, vs, rfl, upd_same, h3.stp s2⟩⟩
      · rename_i ks xs q
        cases e
        simp only [Rel] at r
        obtain ⟨a, rfl, h1⟩ := r
        obtain ⟨vs, h2, hl, h3⟩ := hs.ok k _ a q h1
        refine .inr ⟨a, _, h2, True.intro, fun od => ?_⟩
        obtain ⟨s1, s2⟩ := hs.frzH (o := .frz od (.dK (ks.zip vs))) q (by intro z; cases z) h1 NoX.frz
        exact ⟨_, s1, s2, by simp only [Rel]; exact ⟨a, vs, rfl, hl, ⟨od, upd_same⟩, h3.stp s2⟩⟩
      · rename_i c fs xs q
        cases e
        simp only [Rel] at r
        obtain ⟨a, rfl, h1⟩ := r
        obtain ⟨C, dx, vs, hm, h2, hl, h3⟩ := hs.ok k _ a q h1
        obtain ⟨s1, s2⟩ := hs.frz q (by intro z; cases z) h1 h2
        exact .inl ⟨_, s1, s2, by simp only [Rel]; exact ⟨a, C, dx, vs, rfl, hm, upd_same, hl, h3.stp s2⟩⟩
      · cases e
  · exact .inl same
theorem je_frz (h : JE X n W e m) : JE X n W e (eFrz m) := by
  refine pe_imp (pe_frzd h) fun σ H Q q => ?_
  obtain ⟨F, ρ, cs, σi, hs, hl, hp⟩ := q
  refine go hs hl hp fun v H1 F1 ρ1 cs1 x st1 hs1 hl1 r1 hp1 => ?_
  rcases frz_rel hs1 r1 with ⟨F2, s1, s2, r2⟩ | ⟨d, u, h1, mu, k⟩
  · exact .inl (hp1 F2 ρ1 H1 v s2 s1 r2)
  · refine .inr ⟨d, u, h1, mu, fun od => ?_⟩
    obtain ⟨F2, s1, s2, r2⟩ := k od
    exact hp1 F2 ρ1 _ v s2 s1 r2

/-! ### the text's classes -/
/-- the class that the module calls c -/
structure KlsG (K : PySem.W.Frag) (mg : Str → Option Value) (c : Str) (C : Addr) : Prop where
  gC : mg c = some (.ref C)
  cls : Cls K C
/-- what a value's class and fields are -/
def insI (x : IV) (cs : List Cell) : Option (Str × List Str × List IV) := match x with
  | .obj c fs xs => some (c, fs, xs)
  | .cell k => match cs[k]? with
    | some (.ins c fs xs) => some (c, fs, xs)
    | _ => none
  | _ => none
theorem ins_rel {F : Hp} {ρ : List Addr} {H : Hp} {cs : List Cell} {x : IV} {v : V} {c : Str} {fs : List Str} {xs : List IV} (hs : Sim g F ρ cs H) (r : Rel g F ρ x v) (h : insI x cs = some (c, fs, xs)) :
    ∃ a C dx vs, v = .ref a ∧ g.mg c = some (.ref C) ∧ H a = some (.ins C dx (fs.zip vs)) ∧ fs.length = vs.length ∧ RelL g F ρ xs vs := by
  unfold insI at h
  split at h
  · cases h
    simp only [Rel] at r
    obtain ⟨a, C, dx, vs, e, h1, h2, h3, h4⟩ := r
    exact ⟨a, C, dx, vs, e, h1, hs.fz _ _ h2, h3, h4⟩
  · rename_i k
    split at h
    · rename_i q
      cases h
      simp only [Rel] at r
      obtain ⟨a, rfl, h1⟩ := r
      obtain ⟨C, dx, vs, hm, h2, hl, h3⟩ := hs.ok k _ a q h1
      exact ⟨a, C, dx, vs, rfl, hm, h2, hl, h3⟩
    · cases h
  · cases h
def fldI (c f : Str) (x : IV) (cs : List Cell) : Option IV := (insI x cs).bind fun y => if y.1 = c then (y.2.1.zip y.2.2).lookup f else none
/-- o.f, a field of an instance of c -/
def eFld (c f : Str) (m : M IV) : M IV := m.bind fun x => eCells (fldI c f x)
theorem je_fld {c f : Str} {C : Addr} {pos : Pos} (T : KlsG X.K X.mg c C) (hn : NoAttr X.K C f) (h : JE X n W o m) (hb : attributeBase o f X.env (eval o X.env) = eval o X.env := by rfl) : JE X n W (.Attribute o f pos) (eFld c f m) := by
  refine pe_imp (pe_fld h hb) fun σ H Q q => ?_
  obtain ⟨F, ρ, cs, σi, hs, hl, hp⟩ := q
  refine go hs hl hp fun v H1 F1 ρ1 cs1 x st1 hs1 hl1 r1 hp1 => ?_
  obtain ⟨z, hz, hq⟩ := pst_cells (f := fldI c f x) hp1
  obtain ⟨⟨c', fs, xs⟩, h1, h2⟩ := Option.bind_eq_some_iff.mp hz
  split at h2
  · rename_i hc
    replace hc : c' = c := hc
    subst hc
    obtain ⟨a, C', dx, vs, rfl, hm, h3, h4, h5⟩ := ins_rel hs1 r1 h1
    have e := T.gC.symm.trans hm
    cases e
    obtain ⟨w, h6, h7⟩ := relL_lookup h5 h2
    exact ⟨a, _, dx, _, w, rfl, h3, T.cls, hn, h6, hq F1 ρ1 H1 w StpU.refl hs1 h7⟩
  · cases h2
end
/-! ### new instances -/
/-- c(..): a new instance as a cell, then __init__ -/
def mkI (c : Str) (fm : FM) (xs : List IV) : Nat → List Cell → Res IV := fun n cs => match fm n (.cell cs.length :: xs) (cs ++ [.ins c [] []]) with
  | .ok .non cs' => .ok (.cell cs.length) cs'
  | .ok _ _ => .stuck
  | .ex e cs' => .ex e cs'
  | .stuck => .stuck
def eMk (c : Str) (fm : FM) (np : Nat) (dxs : List IV) (a : M (List IV)) : M IV := a.bind fun xs => fun n _ cs => if (xs ++ dxs).length + 1 = np then mkI c fm (xs ++ dxs) n cs else .stuck
/-- the class c and its __init__ -/
def MkG (P : Program) (w : World) (K : PySem.W.Frag) (mg : Str → Option Value) (base : Heap) (n k : Nat) (c : Str) (ps : List Str) (dxs : List IV) (fm : FM) : Prop :=
  ∃ C f fd ds dvs, KlsG K mg c C ∧ Mk K C f ∧ Binds K fd ps ds ∧ Vals dvs ds ∧ (∀ F ρ, RelL (gK K mg) F ρ dxs dvs) ∧ FnG P w K mg base n k f fd ps fm
theorem make_guards {A : Around} {C : Addr} {us : List Value} {kw : List (Str × Value)} (h : A.guards = some []) : (A.under (.builtin "type.__call__" ⟨.ref C :: us, kw⟩)).guards = some [] := by
  first | exact h | (simpa [Around.under, Code.isGuard, pushGuards, guardIds] using h)
section
variable {X : Cx} {n k : Nat} {W : WX} {c x : Str} {ps ks : List Str} {dxs : List IV} {fm : FM} {p pos : Pos} {e : Expr} {es : List Expr} {ma : M (List IV)}
theorem mk_run {C f : Addr} {fd : FuncData} (T : KlsG X.K X.mg c C) (MM : Mk X.K C f) (G : FnG X.prog X.w X.K X.mg X.base n k f fd ps fm) (hr : Room (k + 1) X.A) (hgd : X.A.guards = some []) (tk : Takes X W)
    {pins : List (Addr × Obj)} {σ : St} {H : Hp} {s : Shared} {Q : VK} {us ws full : List Value} {vs : List V} (I : Inv X pins σ H s)
    (hb : ∀ (s : Shared) (u : Value), X.K.In s.heap → BindsTo s fd ⟨u :: us, ks.zip ws⟩ (ps.zip (u :: full))) (r : Vals vs full) (hl : vs.length + 1 = ps.length)
    (h : ∃ F ρ cs xs, Sim (gx X) F ρ cs H ∧ RelL (gx X) F ρ xs vs ∧ Pst (gx X) W σ (Rel (gx X)) F ρ H (mkI c fm xs n cs) Q) :
    wpAny (model X.prog X.w) X.A (call (.ref C) us (ks.zip ws)) (EP X pins σ Q) X.xe s := by
  obtain ⟨F, ρ, cs, xs, hs, rx, hp⟩ := h
  have I2 := Inv.made (C := C) I
  have hx1 : H s.heap.objs.size = none := I.hok.fresh (Nat.le_refl _)
  have hx2 : H (s.heap.objs.size + 1) = none := I.hok.fresh (Nat.le_succ _)
  have ne : s.heap.objs.size + 1 ≠ s.heap.objs.size := Nat.succ_ne_self _
  obtain ⟨b1, b2⟩ := hs.bg (o := .own (s.heap.objs.size + 1)) hx1
  have hx3 : upd H s.heap.objs.size (.own (s.heap.objs.size + 1)) (s.heap.objs.size + 1) = none := by rw [upd_ne ne]; exact hx2
  obtain ⟨c1, c2⟩ := b1.newC (p := s.heap.objs.size + 1) (c := .ins c [] []) (o := .ins C s.heap.objs.size []) hx3 (fun ρ' _ => ⟨C, _, [], T.gC, rfl, rfl, .nil⟩) NoX.ins
  have st : Stp F ρ H F (ρ ++ [s.heap.objs.size + 1]) (upd (upd H s.heap.objs.size (.own (s.heap.objs.size + 1))) (s.heap.objs.size + 1) (.ins C s.heap.objs.size [])) := b2.tr c2
  have r2 : Vals (V.ref (s.heap.objs.size + 1) :: vs) (Value.ref (s.heap.objs.size + 1) :: full) := .cons rfl r
  have rx2 : RelL (gx X) F (ρ ++ [s.heap.objs.size + 1]) (.cell cs.length :: xs) (V.ref (s.heap.objs.size + 1) :: vs) := .cons (by
    simp only [Rel]
    exact ⟨_, rfl, by rw [List.getElem?_append_right (by rw [hs.len]; exact Nat.le_refl _), hs.len, Nat.sub_self]; rfl⟩) (rx.stp st)
  refine wpAny_call (make_map (f := f) I.kIn MM.makes MM.init (beq_iff_eq.mp MM.fn) (codeAny_mono (G.run _ X.stack _ _ ⟨Value.ref (s.heap.objs.size + 1) :: us, ks.zip ws⟩ (Value.ref (s.heap.objs.size + 1) :: full) _ (fun v H2 => v = .non ∧ Q (.ref (s.heap.objs.size + 1)) H2) (WE W σ) (hr.make C us (ks.zip ws)) (make_guards hgd)
    (I2.env0.make C us (ks.zip ws)) (hb _ (.ref (s.heap.objs.size + 1)) I2.kIn) r2 hl ⟨F, _, _, _, c1, rx2, ?_⟩) fun r s' hq' => ?_))
  · unfold mkI at hp
    cases e : fm n (.cell cs.length :: xs) (cs ++ [.ins c [] []]) with
    | ok z cs' =>
      rw [e] at hp
      intro F' ρ' H' v t1 s1 rv
      cases z with
      | non =>
        refine ⟨relNon rv, hp F' ρ' H' _ (st.tr t1) s1 ?_⟩
        obtain ⟨t, ht⟩ := t1.rp
        simp only [Rel]
        refine ⟨_, rfl, ?_⟩
        rw [ht, List.append_assoc, List.getElem?_append_right (by rw [hs.len]; exact Nat.le_refl _), hs.len, Nat.sub_self]
        rfl
      | _ => exact hp.elim
    | ex z cs' =>
      rw [e] at hp
      exact fun F' ρ' H' cls d t1 s1 rv => hp F' ρ' H' cls d (st.tr t1) s1 rv
    | stuck =>
      rw [e] at hp
      exact hp
  · cases r with
    | error e => exact passAt tk σ pins _ _ e s' I2 hq'
    | ok fl =>
      cases fl with
      | ret u =>
        obtain ⟨v, H', I3, rv, ev, q3⟩ := I2.after hq'
        subst ev
        exact ⟨rv, ⟨V.ref (s.heap.objs.size + 1), H', I3, rfl, q3⟩⟩
      | next => exact False.elim hq'
      | brk => exact False.elim hq'
      | cont => exact False.elim hq'
theorem eMk_run {g : Gx} {np : Nat} {σ : St} {H : Hp} {Q : VK} (h : tG g n W (Rel g) (eMk c fm np dxs ma) σ H Q) :
    tG g n W (RelL g) ma σ H fun vs H1 => ∃ F ρ cs xs, Sim g F ρ cs H1 ∧ RelL g F ρ xs vs ∧ (xs ++ dxs).length + 1 = np ∧ Pst g W σ (Rel g) F ρ H1 (mkI c fm (xs ++ dxs) n cs) Q := by
  obtain ⟨F, ρ, cs, σi, hs, hl, hp⟩ := h
  refine go hs hl hp fun vs H1 F1 ρ1 cs1 xs st1 hs1 hl1 r1 hp1 => ?_
  replace hp1 : Pst g W σ (Rel g) F1 ρ1 H1 (if (xs ++ dxs).length + 1 = np then mkI c fm (xs ++ dxs) n cs1 else .stuck) Q := hp1
  by_cases hn : (xs ++ dxs).length + 1 = np
  · rw [if_pos hn] at hp1
    exact ⟨F1, ρ1, cs1, xs, hs1, r1, hn, hp1⟩
  · rw [if_neg hn] at hp1
    exact hp1.elim
theorem je_make {np : Nat} (D : MkG X.prog X.w X.K X.mg X.base n k x ps dxs fm) (hr : Room (k + 1) X.A) (hgd : X.A.guards = some []) (tk : Takes X W) (ha : JA X n W (e :: es) ma) (hg : Gl X x := by rfl) (hdb : (x == ("__debug__" : Str)) = false := by decide)
    (he : starEach (e :: es) X.env = (false, eval e X.env) :: starEach es X.env := by rfl) (hpl : (backTo pos (starEach es X.env)).any (·.1) = false := by rfl) (hnp : ps.length = np := by rfl) : JE X n W (.Call (.Name x p) (e :: es) [] pos) (eMk x fm np dxs ma) := by
  subst hnp
  obtain ⟨C, f, fd, ds, dvs, T, MM, hb, hd, rd, G⟩ := D
  refine ⟨fun pins s σ H Q I h => ?_⟩
  refine wpAny_Call_Name_kw (ld_glob I hg T.gC ?_ hdb)
  refine PySem.W.callWith_K (h₀ := X.base) I.ok.mod.kin MM.kp (thn (ha.run pos pins s σ H _ I (eMk_run h)) fun us s1 ⟨vs, H1, I1, r, F, ρ, cs, xs, hs1, rx, hl, q⟩ => ⟨I1.kIn, ?_⟩) he hpl
  have rx2 := rx.append (rd F ρ)
  have hl2 : (vs ++ dvs).length + 1 = ps.length := by rw [← rx2.len]; exact hl
  have r2 : Vals (vs ++ dvs) (us ++ ds) := r.append hd
  have hl3 : (us ++ ds).length + 1 = ps.length := by rw [← r2.length]; exact hl2
  exact mk_run (ks := []) (ws := []) T MM G hr hgd tk I1 (fun s u KX => hb s (u :: us) KX (by simpa using hl3)) r2 hl2 ⟨F, ρ, cs, _, hs1, rx2, q⟩
theorem je_make0 {np : Nat} (D : MkG X.prog X.w X.K X.mg X.base n k x ps dxs fm) (hr : Room (k + 1) X.A) (hgd : X.A.guards = some []) (tk : Takes X W) (hg : Gl X x := by rfl) (hdb : (x == ("__debug__" : Str)) = false := by decide) (hnp : ps.length = np := by rfl) : JE X n W (.Call (.Name x p) [] [] pos) (eMk x fm np dxs aNil) := by
  subst hnp
  obtain ⟨C, f, fd, ds, dvs, T, MM, hb, hd, rd, G⟩ := D
  refine ⟨fun pins s σ H Q I h => ?_⟩
  refine wpAny_Call_Name_kw (ld_glob I hg T.gC ?_ hdb)
  obtain ⟨F, ρ, cs, σi, hs, hl, hp⟩ := h
  have hp1 : Pst (gx X) W σ (Rel (gx X)) F ρ H (if ([] ++ dxs).length + 1 = ps.length then mkI x fm ([] ++ dxs) n cs else .stuck) Q := hp
  by_cases hn : ([] ++ dxs).length + 1 = ps.length
  · rw [if_pos hn] at hp1
    have rx2 := rd F ρ
    have hl2 : dvs.length + 1 = ps.length := by rw [← rx2.len]; exact hn
    have hl3 : ds.length + 1 = ps.length := by rw [← hd.length]; exact hl2
    exact PySem.W.callWith_K0 I.kIn MM.kp (mk_run (us := []) (ks := []) (ws := []) T MM G hr hgd tk I (fun s u KX => hb s [u] KX (by simpa using hl3)) hd hl2 ⟨F, ρ, cs, _, hs, rx2, hp1⟩)
  · rw [if_neg hn] at hp1
    exact hp1.elim
end

/-! ### a field stored -/
def putI (f : Str) (y : IV) : List Str → List IV → Option (List Str × List IV)
  | [], [] => some ([f], [y])
  | h :: fs, x :: xs => if h = f then some (h :: fs, y :: xs) else (putI f y fs xs).map fun z => (h :: z.1, x :: z.2)
  | _, _ => none
theorem putI_rel {g : Gx} {F : Hp} {ρ : List Addr} {f : Str} {y : IV} {v : V} (ry : Rel g F ρ y v) : ∀ {fs : List Str} {xs : List IV} {vs : List V} {z : List Str × List IV}, fs.length = vs.length → RelL g F ρ xs vs → putI f y fs xs = some z → ∃ ws, putF f v (fs.zip vs) = z.1.zip ws ∧ z.1.length = ws.length ∧ RelL g F ρ z.2 ws
  | [], [], vs, z, hl, r, h => by
    simp only [RelL] at r
    subst r
    cases h
    exact ⟨[v], rfl, rfl, .cons ry .nil⟩
  | h :: fs, x :: xs, vs, z, hl, r, e => by
    simp only [RelL] at r
    obtain ⟨u, vs', rfl, r1, r2⟩ := r
    have hl' : fs.length = vs'.length := by simpa using hl
    unfold putI at e
    by_cases q : h = f
    · rw [if_pos q] at e
      cases e
      refine ⟨v :: vs', ?_, by simp [hl'], .cons ry r2⟩
      show putF f v ((h, u) :: fs.zip vs') = _
      unfold putF
      rw [if_pos q]
      rfl
    · rw [if_neg q] at e
      obtain ⟨z', e1, rfl⟩ := Option.map_eq_some_iff.mp e
      obtain ⟨ws, h1, h2, h3⟩ := putI_rel ry hl' r2 e1
      refine ⟨u :: ws, ?_, by simp [h2], .cons r1 h3⟩
      show putF f v ((h, u) :: fs.zip vs') = _
      unfold putF
      rw [if_neg q, h1]
      rfl
  | [], _ :: _, _, _, _, _, h => by cases h
  | _ :: _, [], _, _, _, _, h => by cases h
def stoI (c f : Str) (y x : IV) (cs : List Cell) : Option (List Cell) := match x with
  | .cell k => match cs[k]? with
    | some (.ins c' fs xs) => if c' = c ∧ fs.length < 1000 then (putI f y fs xs).map fun z => cs.set k (.ins c z.1 z.2) else none
    | _ => none
  | _ => none
/-- o.f = e -/
def sFld (c f : Str) (mo m : M IV) : SM := fun n σ cs => thenS (m n σ cs) σ fun y cs1 => thenS (mo n σ cs1) σ fun x cs2 => match stoI c f y x cs2 with
  | some cs3 => .next σ cs3
  | none => .stuck
section
variable {X : Cx} {n k : Nat} {W : WX} {c f m : Str} {ps : List Str} {dxs : List IV} {fm : FM} {p pos apos tpos : Pos} {e o : Expr} {es : List Expr} {me mo : M IV} {ma : M (List IV)}
theorem js_fld {C : Addr} (T : KlsG X.K X.mg c C) (hn : NoAttr X.K C f) (h : JE X n W e me) (ho : JE X n W o mo) (hs : swapsWith e (some (.Attribute o f tpos)) pos.line X.env = pure false := by rfl) : JS X n W (.Assign [.Attribute o f tpos] e pos) (SL.sFld c f mo me) := by
  refine ps_imp (ps_fld ho h hs) fun D σ H h => ?_
  obtain ⟨F, ρ, cs, σi, hs, hl, hp⟩ := h
  refine goS hs hl hp fun v H1 F1 ρ1 cs1 y st1 hs1 hl1 r1 hp1 => ?_
  refine goS hs1 hl1 hp1 fun w H2 F2 ρ2 cs2 x st2 hs2 hl2 r2 hp2 => ?_
  cases q : stoI c f y x cs2 with
  | none => rw [q] at hp2; exact hp2.elim
  | some cs3 =>
    rw [q] at hp2
    unfold stoI at q
    split at q
    · rename_i k'
      split at q
      · rename_i c' fs xs q1
        split at q
        · rename_i hc
          obtain ⟨rfl, hz⟩ := hc
          obtain ⟨z, hz1, rfl⟩ := Option.map_eq_some_iff.mp q
          simp only [Rel] at r2
          obtain ⟨a, rfl, h1⟩ := r2
          obtain ⟨C', dx, vs, hm, h2, hl', h3⟩ := hs2.ok k' _ a q1 h1
          have ec := T.gC.symm.trans hm
          cases ec
          obtain ⟨ws, k1, k2, k3⟩ := putI_rel (r1.stp st2) hl' h3 hz1
          obtain ⟨s1, s2⟩ := hs2.cell (c := .ins c' z.1 z.2) (o := .ins C dx (z.1.zip ws)) q1 (by intro z; cases z) h1 ⟨C, dx, ws, hm, rfl, k2, k3⟩ NoX.ins
          refine ⟨a, C, dx, _, rfl, h2, T.cls, hn, by rw [List.length_zip, ← hl', Nat.min_self]; exact hz, ?_⟩
          rw [k1]
          exact hp2.nextH s2.u s1 (hl2.stp s2) fun x z => .inl z
        · cases q
      · cases q
    · cases q

/-! ### methods and properties -/
/-- an instance of c without a field m -/
def isIn (c m : Str) (x : IV) (cs : List Cell) : Bool := match insI x cs with
  | some (c', fs, _) => c' == c && !fs.contains m
  | none => false
def eMeth (c m : Str) (fm : FM) (np : Nat) (dxs : List IV) (mo : M IV) (a : M (List IV)) : M IV := mo.bind fun x => fun n σ cs => if isIn c m x cs = true then
  (a n σ cs).then fun xs cs1 => if (x :: (xs ++ dxs)).length = np then fm n (x :: (xs ++ dxs)) cs1 else .stuck else .stuck
/-- the class c and its method m -/
def MethG (P : Program) (w : World) (K : PySem.W.Frag) (mg : Str → Option Value) (base : Heap) (n k : Nat) (c m : Str) (ps : List Str) (dxs : List IV) (fm : FM) : Prop :=
  ∃ C f fd ds dvs, KlsG K mg c C ∧ Meth K C m f ∧ Binds K fd ps ds ∧ Vals dvs ds ∧ (∀ F ρ, RelL (gK K mg) F ρ dxs dvs) ∧ FnG P w K mg base n k f fd ps fm
theorem lookup_none {fs : List Str} {vs : List V} (h : fs.contains m = false) : (fs.zip vs).lookup m = none := by
  induction fs generalizing vs with
  | nil => rfl
  | cons f fs ih =>
    cases vs with
    | nil => rfl
    | cons v vs =>
      rw [List.contains_cons, Bool.or_eq_false_iff] at h
      rw [List.zip_cons_cons, List.lookup_cons, h.1]
      exact ih h.2
theorem isIn_rel {g : Gx} {F : Hp} {ρ : List Addr} {H : Hp} {cs : List Cell} {x : IV} {v : V} {C : Addr} (hs : Sim g F ρ cs H) (r : Rel g F ρ x v) (hm : g.mg c = some (.ref C)) (h : isIn c m x cs = true) : ∃ a dx fs, v = .ref a ∧ H a = some (.ins C dx fs) ∧ fs.lookup m = none := by
  unfold isIn at h
  split at h
  · rename_i c' fs xs q
    simp only [Bool.and_eq_true, beq_iff_eq, Bool.not_eq_true'] at h
    obtain ⟨rfl, h2⟩ := h
    obtain ⟨a, C', dx, vs, rfl, hm', h3, h4, h5⟩ := ins_rel hs r q
    have e := hm.symm.trans hm'
    cases e
    exact ⟨a, dx, _, rfl, h3, lookup_none h2⟩
  · cases h
theorem je_meth {pl : Sem Bool} {np : Nat} (D : MethG X.prog X.w X.K X.mg X.base n k c m ps dxs fm) (hr : Room k X.A) (hgd : X.A.guards = some []) (tk : Takes X W) (ho : JE X n W o mo) (ha : JA X n W (e :: es) ma)
    (hst : starEach (e :: es) X.env = (false, eval e X.env) :: starEach es X.env := by rfl) (hpl : (backTo pos (starEach es X.env)).any (·.1) = false := by rfl)
    (ht : eval (.Call (.Attribute o m apos) (e :: es) [] pos) X.env = (do
      let ov ← eval o X.env
      standAt apos.atName
      let (f, first) ← holding [ov] (getMethod ov m pl)
      callWith pos f first (backTo pos (starEach (e :: es) X.env)) (backToKw pos (keywordEach [] X.env))) := by rfl) (hnp : ps.length = np := by rfl) :
    JE X n W (.Call (.Attribute o m apos) (e :: es) [] pos) (eMeth c m fm np dxs mo ma) := by
  subst hnp
  obtain ⟨C, f, fd, ds, dvs, T, hm, hb, hd, rd, G⟩ := D
  refine ⟨fun pins s σ H Q I h => ?_⟩
  refine PySem.W.methodCall_KW (pl := pl) (thn (ho.run pins s σ H (fun x H1 => ∃ a dx fs, x = .ref a ∧ H1 a = some (.ins C dx fs) ∧ fs.lookup m = none ∧ tG (gx X) n W (RelL (gx X)) ma σ H1 fun vs H2 => ∃ F ρ cs xs, Sim (gx X) F ρ cs H2 ∧ RelL (gx X) F ρ xs (x :: vs) ∧ (xs ++ dxs).length = ps.length ∧ Pst (gx X) W σ (Rel (gx X)) F ρ H2 (fm n (xs ++ dxs) cs) Q) I ?_) fun u s1 ⟨x, H1, I1, rx, a, dx, fs, ex, ea, l, q⟩ => ?_) ht
  · obtain ⟨F, ρ, cs, σi, hs, hl, hp⟩ := h
    refine go hs hl hp fun v H1 F1 ρ1 cs1 x st1 hs1 hl1 r1 hp1 => ?_
    replace hp1 : Pst (gx X) W σ (Rel (gx X)) F1 ρ1 H1 (if isIn c m x cs1 = true then (ma n σi cs1).then fun xs cs2 => if (x :: (xs ++ dxs)).length = ps.length then fm n (x :: (xs ++ dxs)) cs2 else .stuck else .stuck) Q := hp1
    split at hp1
    · rename_i hi
      obtain ⟨a, dx, fs, rfl, h1, h2⟩ := isIn_rel hs1 r1 T.gC hi
      refine ⟨a, dx, fs, rfl, h1, h2, ?_⟩
      refine go hs1 hl1 hp1 fun vs H2 F2 ρ2 cs2 xs st2 hs2 hl2 r2 hp2 => ?_
      split at hp2
      · rename_i hn
        exact ⟨F2, ρ2, cs2, x :: xs, hs2, .cons (r1.stp st2) r2, hn, hp2⟩
      · exact hp2.elim
    · exact hp1.elim
  · subst ex
    obtain rfl : u = Value.ref a := rx
    refine getmeth_ok I1 ea T.cls hm l ?_
    refine PySem.W.callWith_K (first := [.ref a]) (h₀ := X.base) I.ok.mod.kin hm.kp (thn (ha.run pos pins s1 σ H1 _ I1 q) fun us s2 ⟨vs, H2, I2, r, q2⟩ => ⟨I2.kIn, ?_⟩) hst hpl
    exact fn_run (us := .ref a :: us) (vs := .ref a :: vs) hb hd rd G hr hgd tk I2 (.cons rfl r) q2
theorem je_meth0 {pl : Sem Bool} {np : Nat} (D : MethG X.prog X.w X.K X.mg X.base n k c m ps dxs fm) (hr : Room k X.A) (hgd : X.A.guards = some []) (tk : Takes X W) (ho : JE X n W o mo)
    (ht : eval (.Call (.Attribute o m apos) [] [] pos) X.env = (do
      let ov ← eval o X.env
      standAt apos.atName
      let (f, first) ← holding [ov] (getMethod ov m pl)
      callWith pos f first (backTo pos (starEach [] X.env)) (backToKw pos (keywordEach [] X.env))) := by rfl) (hnp : ps.length = np := by rfl) :
    JE X n W (.Call (.Attribute o m apos) [] [] pos) (eMeth c m fm np dxs mo aNil) := by
  subst hnp
  obtain ⟨C, f, fd, ds, dvs, T, hm, hb, hd, rd, G⟩ := D
  refine ⟨fun pins s σ H Q I h => ?_⟩
  refine PySem.W.methodCall_KW (pl := pl) (thn (ho.run pins s σ H (fun x H1 => ∃ a dx fs, x = .ref a ∧ H1 a = some (.ins C dx fs) ∧ fs.lookup m = none ∧ ∃ F ρ cs xs, Sim (gx X) F ρ cs H1 ∧ RelL (gx X) F ρ xs [x] ∧ (xs ++ dxs).length = ps.length ∧ Pst (gx X) W σ (Rel (gx X)) F ρ H1 (fm n (xs ++ dxs) cs) Q) I ?_) fun u s1 ⟨x, H1, I1, rx, a, dx, fs, ex, ea, l, q⟩ => ?_) ht
  · obtain ⟨F, ρ, cs, σi, hs, hl, hp⟩ := h
    refine go hs hl hp fun v H1 F1 ρ1 cs1 x st1 hs1 hl1 r1 hp1 => ?_
    replace hp1 : Pst (gx X) W σ (Rel (gx X)) F1 ρ1 H1 (if isIn c m x cs1 = true then (if (x :: ([] ++ dxs)).length = ps.length then fm n (x :: ([] ++ dxs)) cs1 else .stuck) else .stuck) Q := hp1
    split at hp1
    · rename_i hi
      obtain ⟨a, dx, fs, rfl, h1, h2⟩ := isIn_rel hs1 r1 T.gC hi
      refine ⟨a, dx, fs, rfl, h1, h2, F1, ρ1, cs1, [x], hs1, .cons r1 .nil, ?_⟩
      replace hp1 : Pst (gx X) W σ (Rel (gx X)) F1 ρ1 H1 (if (x :: ([] ++ dxs)).length = ps.length then fm n (x :: ([] ++ dxs)) cs1 else .stuck) Q := hp1
      split at hp1
      · rename_i hn
        exact ⟨hn, hp1⟩
      · exact hp1.elim
    · exact hp1.elim
  · subst ex
    obtain rfl : u = Value.ref a := rx
    refine getmeth_ok I1 ea T.cls hm l ?_
    exact PySem.W.callWith_K0 (first := [.ref a]) I1.kIn hm.kp (fn_run (us := [.ref a]) (vs := [.ref a]) hb hd rd G hr hgd tk I1 (.cons rfl .nil) q)
/-- the class c and its property m, whose getter does as fm -/
def PropG (P : Program) (w : World) (K : PySem.W.Frag) (mg : Str → Option Value) (base : Heap) (n k : Nat) (c m : Str) (fm : FM) : Prop :=
  ∃ C p f fd ps, KlsG K mg c C ∧ PropOf K C m p f ∧ ps.length = 1 ∧ Binds K fd ps [] ∧ FnG P w K mg base n k f fd ps fm
def okR : Res IV → Res IV
  | .ok x cs => .ok x cs
  | _ => .stuck
def eProp (c m : Str) (fm : FM) (mo : M IV) : M IV := mo.bind fun x => fun n _ cs => if isIn c m x cs = true then okR (fm n [x] cs) else .stuck
theorem okR_out {g : Gx} {F : Hp} {ρ : List Addr} {H : Hp} {σ : St} {Q : VK} {r : Res IV} (h : Pst g W σ (Rel g) F ρ H (okR r) Q) : Pst g (fun _ _ _ _ => False) [] (Rel g) F ρ H r Q := by
  cases r with
  | ok x cs => exact h
  | ex e cs => exact h.elim
  | stuck => exact h
theorem je_prop (D : PropG X.prog X.w X.K X.mg X.base n k c m fm) (hr : Room (k + 1) X.A) (hgd : X.A.guards = some []) (ho : JE X n W o mo) (hab : attributeBase o m X.env (eval o X.env) = eval o X.env := by rfl) : JE X n W (.Attribute o m pos) (eProp c m fm mo) := by
  obtain ⟨C, p, f, fd, ps, T, hp, hl, hb, G⟩ := D
  refine ⟨fun pins s σ H Q I h => ?_⟩
  refine attr_of hab (thn (ho.run pins s σ H (fun x H1 => ∃ a dx fs, x = .ref a ∧ H1 a = some (.ins C dx fs) ∧ ∃ F ρ cs y, Sim (gx X) F ρ cs H1 ∧ Rel (gx X) F ρ y x ∧ Pst (gx X) (fun _ _ _ _ => False) [] (Rel (gx X)) F ρ H1 (fm n [y] cs) Q) I ?_) fun u s1 ⟨x, H1, I1, rx, a, dx, fs, ex, ea, q⟩ => ?_)
  · obtain ⟨F, ρ, cs, σi, hs, hl, hp⟩ := h
    refine go hs hl hp fun v H1 F1 ρ1 cs1 x st1 hs1 hl1 r1 hp1 => ?_
    replace hp1 : Pst (gx X) W σ (Rel (gx X)) F1 ρ1 H1 (if isIn c m x cs1 = true then okR (fm n [x] cs1) else .stuck) Q := hp1
    split at hp1
    · rename_i hi
      obtain ⟨a, dx, fs, rfl, h1, h2⟩ := isIn_rel hs1 r1 T.gC hi
      exact ⟨a, dx, fs, rfl, h1, F1, ρ1, cs1, x, hs1, r1, okR_out hp1⟩
    · exact hp1.elim
  · subst ex
    obtain rfl : u = Value.ref a := rx
    obtain ⟨F, ρ, cs, y, hs1, ry, q⟩ := q
    obtain ⟨mA, O, _, _, _, _⟩ := ins_get I1.hok ea
    obtain ⟨od, J, _⟩ := O.look
    obtain ⟨rest, hrec⟩ := hp.rec_
    have I2 := I1.tok (s1.toks + 1)
    have hc : (PySem.W.clsIn X.K C).isSome = true := by
      obtain ⟨cd, hc, _⟩ := PySem.W.any_some T.cls.hd
      rw [hc]
      rfl
    refine PySem.W.get_bind I1.kIn J (PySem.W.plainGet_of (T.cls.get m)).1 (PySem.W.findObj_data hc hp.at_ hp.get hp.tak) (PySem.W.plainGet_of (T.cls.get m)).2 (wpAny_call (PySem.W.prop_get (s := { s1 with toks := s1.toks + 1 }) I1.kIn hrec ?_))
    refine codeAny_mono (G.run X.A.in1 X.stack { s1 with toks := s1.toks + 1 } H1 ⟨[.ref a], []⟩ [.ref a] [.ref a] Q (fun _ _ _ => False) hr.in1 (by exact hgd) I2.env0.in1 (by simpa using hb { s1 with toks := s1.toks + 1 } [.ref a] I2.kIn (by rw [hl]; rfl)) (.cons rfl .nil) (by rw [hl]; rfl) ⟨F, ρ, cs, [y], hs1, .cons ry .nil, q.out fun _ _ _ z => z⟩) fun r s' hq => ?_
    cases r with
    | error er =>
      obtain ⟨_, _, _, _, _, _, _, _, _, _, _, _, z⟩ := hq
      exact z.elim
    | ok fl =>
      cases fl with
      | ret u =>
        obtain ⟨v, H', I3, rv, q3⟩ := I2.after hq
        show wpAny _ _ (handedOut u) _ _ _
        rw [PySem.W.handedOut_of (handed_of rv)]
        exact wpAny_pure ⟨v, H', I3, rv, q3⟩
      | next => exact False.elim hq
      | brk => exact False.elim hq
      | cont => exact False.elim hq
end
end SL

set_option Elab.async false
set_option linter.all false
set_option autoImplicit false
set_option maxRecDepth 100000
set_option maxHeartbeats 4000000
/-! SLDict: dicts that change, and what is read of dicts. -/
namespace SL
open PySem PySem.Spec L2
open PyProof.Rows hiding St
def kI : Key → IV
  | .inl i => .int i
  | .inr s => .str s
def dcI (x : IV) (cs : List Cell) : Option (List Key × List IV) := match x with
  | .dct ks xs => some (ks, xs)
  | .cell k => match cs[k]? with
    | some (.dct ks xs) => some (ks, xs)
    | _ => none
  | _ => none
section
variable {g : Gx} {F F' : Hp} {ρ ρ' : List Addr} {H H' : Hp} {cs : List Cell} {x y : IV} {v w : V} {ks : List Key} {xs : List IV}
theorem kI_rel {k : Key} : Rel g F ρ (kI k) (kV k) := by cases k <;> simp only [kI, kV, Rel]
theorem relK_zip {vs : List V} (hl : ks.length = vs.length) (r : RelL g F ρ xs vs) : RelK g F ρ (ks.zip xs) (ks.zip vs) := by
  have e := r.len
  refine ⟨?_, ?_⟩
  · rw [List.map_fst_zip (by omega), List.map_fst_zip (by omega)]
  · rw [List.map_snd_zip (by omega), List.map_snd_zip (by omega)]
    exact r
theorem dc_rel (hs : Sim g F ρ cs H) (r : Rel g F ρ x v) (h : dcI x cs = some (ks, xs)) : ∃ a vs, v = .ref a ∧ Rd H a (.dK (ks.zip vs)) ∧ ks.length = vs.length ∧ RelL g F ρ xs vs := by
  unfold dcI at h
  split at h
  · cases h
    simp only [Rel] at r
    obtain ⟨a, vs, rfl, hl, ⟨fo, h1⟩, h2⟩ := r
    exact ⟨a, vs, rfl, .inr ⟨fo, hs.fz _ _ h1⟩, hl, h2⟩
  · rename_i k
    split at h
    · rename_i q
      cases h
      simp only [Rel] at r
      obtain ⟨a, rfl, h1⟩ := r
      obtain ⟨vs, h2, hl, h3⟩ := hs.ok k _ a q h1
      exact ⟨a, vs, rfl, .inl h2, hl, h3⟩
    · cases h
  · cases h
theorem cell_last {p : Addr} {c : Cell} (hs : Sim g F ρ cs H) : Rel g F (ρ ++ [p]) (.cell cs.length) (.ref p) := by
  simp only [Rel]
  exact ⟨p, rfl, by rw [List.getElem?_append_right (by rw [hs.len]; exact Nat.le_refl _), hs.len, Nat.sub_self]; rfl⟩
/-- the heap has grown, some of the new stands still -/
theorem Sim.ext (hs : Sim g F ρ cs H) (e : ∀ b o, H b = some o → H' b = some o) (fF : ∀ b o, F b = some o → F' b = some o) (fn : ∀ b o, F' b = some o → F b = some o ∨ (H b = none ∧ H' b = some o ∧ ∀ ps, o ≠ .tbl ps)) : Sim g F' ρ cs H' ∧ Stp F ρ H F' ρ H' := by
  have at_ : ∀ a ∈ ρ, H' a = H a := fun a ha => by
    cases q : H a with
    | none => exact absurd q (hs.av a ha)
    | some o => exact e a o q
  refine ⟨⟨fun b o h => ?_, hs.len, hs.nd, fun a ha => by rw [at_ a ha]; exact hs.av a ha, fun n c a e1 e2 e3 => ?_, fun n c a e1 e2 => ?_, fun p hp => (hs.tb p hp).ext e, fun a ha => by rw [at_ a ha]; exact hs.nx a ha, fun a ps h => ?_⟩, ⟨fF, fun b h h' => ?_, ⟨[], by simp⟩, fun b h h' => absurd h h', fun b o h _ _ _ => e b o h, fun b h => ?_⟩⟩
  · rcases fn b o h with h | ⟨_, h, _⟩
    · exact e b o (hs.fz b o h)
    · exact h
  · cases q : F' a with
    | none => rfl
    | some o =>
      rcases fn a o q with h | ⟨h, _⟩
      · rw [hs.lv n c a e1 e2 e3] at h; cases h
      · exact absurd h (hs.av a (List.mem_of_getElem? e2))
  · rw [at_ a (List.mem_of_getElem? e2)]
    exact (hs.ok n c a e1 e2).mono fF ⟨[], by simp⟩
  · rcases fn a _ h with h | ⟨_, _, h⟩
    · exact hs.ft a ps h
    · exact h ps rfl
  · cases q : F' b with
    | none => exact absurd q h
    | some o =>
      rcases fn b o q with z | ⟨z, _⟩
      · rw [h'] at z; cases z
      · exact .inl z
  · cases q : H b with
    | none => exact absurd q h
    | some o => rw [e b o q]; intro z; cases z
end
/-- {} as a new cell -/
def eDis0 : M IV := fun _ _ cs => .ok (.cell cs.length) (cs ++ [.dct [] []])
/-- d[k] -/
def dixI (cs : List Cell) (x y : IV) : Option IV := (dcI x cs).bind fun z => (keyI y).bind fun k => valG (z.1.zip z.2) k
/-- d[k] = v -/
def dputI (x y v : IV) (cs : List Cell) : Option (List Cell) := match x with
  | .cell k => match cs[k]? with
    | some (.dct ks xs) => if ks.length < lim then (keyI y).map fun key => cs.set k (.dct ((putG (ks.zip xs) key v).map (·.1)) ((putG (ks.zip xs) key v).map (·.2))) else none
    | _ => none
  | _ => none
def sDPutI (mo mi m : M IV) : SM := fun n σ cs => thenS (m n σ cs) σ fun v cs1 => thenS (mo n σ cs1) σ fun x cs2 => thenS (mi n σ cs2) σ fun y cs3 => match dputI x y v cs3 with
  | some cs4 => .next σ cs4
  | none => .stuck
/-- d.get(k, v) -/
def dgI (x y z : IV) (cs : List Cell) : Option IV := (dcI x cs).bind fun w => (keyI y).map fun k => (valG (w.1.zip w.2) k).getD z
def eGetD (mo m mf : M IV) : M IV := mo.bind fun x => fun n σ cs => if (dcI x cs).isSome = true then ((m.bind fun y => mf.bind fun z => eCells (dgI x y z)) n σ cs) else .stuck
/-- list(d.items()) -/
def lisI (x : IV) (cs : List Cell) : Option IV := (dcI x cs).bind fun z => if z.1.length = z.2.length ∧ z.1.length ≤ lim then some (.lst ((z.1.zip z.2).map fun p => .tup [kI p.1, p.2])) else none
def eItems (mo : M IV) : M IV := mo.bind fun x => eCells (lisI x)
/-- a callee that gives a new object that may change -/
def eCallN (f : List Cell → List IV → Option Cell) (a : M (List IV)) : M IV := a.bind fun xs => fun _ _ cs => match f cs xs with
  | some c => .ok (.cell cs.length) (cs ++ [c])
  | none => .stuck
def prsT : List IV → Option (List (Key × IV))
  | [] => some []
  | .tup [k, x] :: r => match keyI k, prsT r with
    | some k, some r => some ((k, x) :: r)
    | _, _ => none
  | _ => none
def cellD (kvs : List (Key × IV)) : Cell := .dct (kvs.map (·.1)) (kvs.map (·.2))
/-- dict(x) -/
def fDict (cs : List Cell) : List IV → Option Cell
  | [.lst ps] => (prsT ps).map fun kvs => cellD (mergeG [] kvs)
  | [x] => (dcI x cs).map fun z => .dct z.1 z.2
  | _ => none
section
variable {X : Cx} {n : Nat} {W : WX} {a b c e o f : Expr} {es : List Expr} {m mo mi mf ma : M IV} {mr : M (List IV)} {pos : Pos}
theorem je_disC : JE X n W (.Dict [] [] pos) eDis0 := by
  refine pe_imp pe_dnewK fun σ H Q q => ?_
  obtain ⟨F, ρ, cs, σi, hs, hl, hp⟩ := q
  intro p hp0
  obtain ⟨c1, c2⟩ := hs.newC (c := .dct [] []) (o := .dK []) hp0 (fun _ _ => ⟨[], rfl, rfl, .nil⟩) NoX.dK
  exact hp F _ _ _ c2 c1 (cell_last (c := .dead) hs)
theorem je_dix (hu : X.A.units + 1 < cLine) (ho : JE X n W o mo) (hi : JE X n W e mi) (hs : NoSl e := by exact fun _ _ => rfl) : JE X n W (.Subscript o e pos) (e2c dixI mo mi) := by
  refine pe_imp (pe_dget hu ho hi hs) fun σ H Q q => ?_
  obtain ⟨F, ρ, cs, σi, hs, hl, hp⟩ := q
  refine go hs hl hp fun x H1 F1 ρ1 cs1 xi st1 hs1 hl1 rx hp1 => ?_
  refine go hs1 hl1 hp1 fun y H2 F2 ρ2 cs2 yi st2 hs2 hl2 ry hp2 => ?_
  obtain ⟨z, q, hq⟩ := pst_cells (f := fun cs => dixI cs xi yi) hp2
  obtain ⟨⟨ks, xs⟩, h1, h2⟩ := Option.bind_eq_some_iff.mp q
  obtain ⟨k, h3, h4⟩ := Option.bind_eq_some_iff.mp h2
  obtain ⟨a, vs, rfl, h5, h6, h7⟩ := dc_rel hs2 (rx.stp st2) h1
  have := keyI_rel ry h3
  subst this
  rcases (relK_zip h6 h7).val (k := k) with ⟨x', w, k1, k2, k3⟩ | ⟨k1, k2⟩
  · rw [h4] at k1
    cases k1
    exact ⟨a, w, rfl, .inl ⟨_, k, h5, rfl, k2.symm⟩, hq F2 ρ2 H2 w StpU.refl hs2 k3⟩
  · rw [h4] at k1; cases k1
theorem js_dput (hu : X.A.units + 1 < cLine) (ho : JE X n W o mo) (hi : JE X n W f mi) (hv : JE X n W e m) {p : Pos} (hs : swapsWith e (some (.Subscript o f p)) pos.line X.env = pure false := by rfl) : JS X n W (.Assign [.Subscript o f p] e pos) (sDPutI mo mi m) := by
  refine ps_imp (ps_dput hu ho hi hv hs) fun D σ H h => ?_
  obtain ⟨F, ρ, cs, σi, hs, hl, hp⟩ := h
  refine goS hs hl hp fun v H1 F1 ρ1 cs1 vi st1 hs1 hl1 r1 hp1 => ?_
  refine goS hs1 hl1 hp1 fun x H2 F2 ρ2 cs2 xi st2 hs2 hl2 r2 hp2 => ?_
  refine goS hs2 hl2 hp2 fun y H3 F3 ρ3 cs3 yi st3 hs3 hl3 r3 hp3 => ?_
  cases q : dputI xi yi vi cs3 with
  | none => rw [q] at hp3; exact hp3.elim
  | some cs4 =>
    rw [q] at hp3
    unfold dputI at q
    split at q
    · rename_i k'
      split at q
      · rename_i ks xs q1
        split at q
        · rename_i hz
          obtain ⟨key, h1, rfl⟩ := Option.map_eq_some_iff.mp q
          have rx := r2.stp st3
          simp only [Rel] at rx
          obtain ⟨a, rfl, h2⟩ := rx
          obtain ⟨vs, h3, h4, h5⟩ := hs3.ok k' _ a q1 h2
          have := keyI_rel r3 h1
          subst this
          have rk := (relK_zip h4 h5).put (k := key) ((r1.stp st2).stp st3)
          have hlen : (ks.zip vs).length < lim := by rw [List.length_zip, ← h4, Nat.min_self]; exact hz
          obtain ⟨s1, s2⟩ := hs3.cell (c := .dct ((putG (ks.zip xs) key vi).map (·.1)) ((putG (ks.zip xs) key vi).map (·.2))) (o := .dK (putK (ks.zip vs) key v)) q1 (by intro z; cases z) h2
            ⟨(putK (ks.zip vs) key v).map (·.2), by rw [rk.1, zip_maps], by rw [List.length_map, List.length_map]; have := congrArg List.length rk.1; simpa using this, rk.2⟩ NoX.dK
          exact ⟨a, _, rfl, .inl ⟨_, key, h3, rfl, Nat.lt_of_lt_of_le hlen (by decide), rfl⟩, hp3.nextH s2.u s1 (hl3.stp s2) fun x z => .inl z⟩
        · cases q
      · cases q
    · cases q
theorem je_getD {ap cp : Pos} (hu : X.A.units + 1 < cLine) (ho : JE X n W o mo) (he : JE X n W e m) (hf : JE X n W f mf) (m2 : M2 X o "get" ap e f cp := by exact ⟨rfl, rfl, rfl, rfl⟩) : JE X n W (.Call (.Attribute o "get" ap) [e, f] [] cp) (eGetD mo m mf) := by
  refine pe_imp (pe_dget2 hu ho he hf m2) fun σ H Q q => ?_
  obtain ⟨F, ρ, cs, σi, hs, hl, hp⟩ := q
  refine go hs hl hp fun x H1 F1 ρ1 cs1 xi st1 hs1 hl1 r1 hp1 => ?_
  replace hp1 : Pst (gx X) W σ (Rel (gx X)) F1 ρ1 H1 (if (dcI xi cs1).isSome = true then ((m.bind fun y => mf.bind fun z => eCells (dgI xi y z)) n σi cs1) else .stuck) Q := hp1
  split at hp1
  · rename_i hd
    obtain ⟨⟨ks0, xs0⟩, hd⟩ := Option.isSome_iff_exists.mp hd
    obtain ⟨a, vs0, rfl, h1, h2, h3⟩ := dc_rel hs1 r1 hd
    refine ⟨a, rfl, .inl ⟨_, h1⟩, ?_⟩
    refine go hs1 hl1 hp1 fun y H2 F2 ρ2 cs2 yi st2 hs2 hl2 r2 hp2 => ?_
    refine go hs2 hl2 hp2 fun zv H3 F3 ρ3 cs3 zi st3 hs3 hl3 r3 hp3 => ?_
    obtain ⟨z, hz, hq⟩ := pst_cells (f := dgI xi yi zi) hp3
    obtain ⟨⟨ks, xs⟩, k1, k2⟩ := Option.bind_eq_some_iff.mp hz
    obtain ⟨k, k3, k4⟩ := Option.map_eq_some_iff.mp k2
    obtain ⟨a', vs, ea, k5, k6, k7⟩ := dc_rel hs3 ((r1.stp st2).stp st3) k1
    cases ea
    have := keyI_rel (r2.stp st3) k3
    subst this
    refine ⟨_, .inl ⟨_, k, k5, rfl, rfl⟩, ?_⟩
    rcases (relK_zip k6 k7).val (k := k) with ⟨x', w, l1, l2, l3⟩ | ⟨l1, l2⟩
    · have ez : z = x' := by
        rw [← k4]
        show (valG (ks.zip xs) k).getD zi = x'
        rw [l1]; rfl
      subst ez
      rw [l2]
      exact hq F3 ρ3 H3 _ StpU.refl hs3 l3
    · have ez : z = zi := by
        rw [← k4]
        show (valG (ks.zip xs) k).getD zi = zi
        rw [l1]; rfl
      subst ez
      rw [l2]
      exact hq F3 ρ3 H3 _ StpU.refl hs3 r3
  · exact hp1.elim
theorem paired_imp {α β : Type} {R S : α → β → Prop} : ∀ {l : List α} {r : List β}, Paired R l r → (∀ t q, t ∈ l → R t q → S t q) → Paired S l r
  | _, _, .nil, _ => .nil
  | _, _, .cons h t, k => .cons (k _ _ (by simp) h) (paired_imp t fun a b ha => k a b (by simp [ha]))
theorem paired_len {α β : Type} {R : α → β → Prop} {l : List α} {r : List β} (h : Paired R l r) : l.length = r.length := h.length
theorem items_rel {g : Gx} {F F' : Hp} {ρ : List Addr} : ∀ {ts : List Addr} {ks : List Key} {vs : List V} {xs : List IV}, (∀ a o, F a = some o → F' a = some o) → ks.length = vs.length → RelL g F ρ xs vs → Paired (fun (t : Addr) (q : Key × V) => F' t = some (.tup [kV q.1, q.2])) ts (ks.zip vs) → RelL g F' ρ ((ks.zip xs).map fun p => .tup [kI p.1, p.2]) (ts.map V.ref)
  | ts, [], vs, xs, hf, hl, r, h => by
    cases h
    simp only [List.zip_nil_left, List.map_nil]
    exact .nil
  | ts, k :: ks, vs, xs, hf, hl, r, h => by
    cases vs with
    | nil => simp at hl
    | cons v vs =>
      cases xs with
      | nil => have := r.len; simp at this
      | cons x xs =>
        simp only [RelL] at r
        obtain ⟨v', vs', e, r1, r2⟩ := r
        cases e
        rw [List.zip_cons_cons] at h
        cases h with
        | cons h1 h2 =>
          rename_i t ts
          simp only [List.zip_cons_cons, List.map_cons]
          refine .cons ?_ (items_rel hf (by simpa using hl) r2 h2)
          simp only [Rel]
          exact ⟨t, _, rfl, .inl (.inl h1), .cons kI_rel (.cons (r1.mono hf ⟨[], by simp⟩) .nil)⟩
/-- list(e.items()), of a dict that may stand still -/
def tListItR (te : TE) : TE := fun σ H Q => te σ H fun x H1 => ∃ (d : Addr) (kvs : List (Key × V)), x = .ref d ∧ Rd H1 d (.dK kvs) ∧
  ∀ (H' : Hp) (p : Addr) (ts : List Addr), (∀ b o, H1 b = some o → H' b = some o) → H1 p = none → (∀ t ∈ ts, H1 t = none) → p ∉ ts → H' p = some (.lst (ts.map V.ref)) → Paired (fun (t : Addr) (q : Key × V) => H' t = some (.tup [kV q.1, q.2])) ts kvs → Q (.ref p) H'
theorem pe_listItR {te : TE} {p apos cpos : Pos} (hc : X.calm = true) (he : PE X e te) (hg : Gl X "list") (hm : X.mg "list" = none) (hv : bootBuiltins "list" = some (.type "list")) (hbase : attributeBase e "items" X.env (eval e X.env) = eval e X.env) (hline : (apos.endLine == cpos.line) = true)
    (hs : starEach [.Call (.Attribute e "items" apos) [] [] cpos] X.env = (false, eval (.Call (.Attribute e "items" apos) [] [] cpos) X.env) :: starEach [] X.env) :
    PE X (.Call (.Name "list" p) [.Call (.Attribute e "items" apos) [] [] cpos] [] pos) (tListItR te) := by
  refine ⟨fun pins s σ H Q I hq => ?_⟩
  refine wpAny_Call_Name_kw (ld_blt I hg hm hv (PyProof.Rows.callWith_type1 ?_ hs rfl))
  rw [hs]
  refine Calls.spliced_cons (wpAny_Call_method (T := "dict") (id := "dict.items") hbase rfl hline F.plainAttrs_dict F.slot_dict_items F.type_dict_items (thn (he.run pins s σ H _ I hq) fun u s1 ⟨x, H1, I1, rx, d, kvs, ex, hd, q⟩ => ?_))
  subst ex
  obtain rfl : u = Value.ref d := rx
  obtain ⟨hz, h0, vs, kv, dd⟩ := dk_rd I1.hok hd
  obtain ⟨ep, hat⟩ := dd.dictAt
  have hlen : kvs.length = vs.length := paired_len kv
  have I2 : Inv X pins σ H1 { s1 with heap := s1.heap.push { cls := .type "dict_items", data := .fields #[.ref d] } } := I1.kept (t' := s1.toks) fun _ _ z => Heap.get?_push_of_some _ z
  refine ⟨dd.typeIs, dd.mapOf.noDict, ?_⟩
  show wpAny _ _ (callWith cpos (.builtin "dict.items") [.ref d] [] []) _ X.xe s1
  refine method_meetsIn F.slot_dict_items F.entry_dict_items rfl (PySem.evalArgs_none ⟨rfl, dd.typeIs, F.args_dict_items_1 _, _, meets_dict_items (mixKind X.prog X.w) d h0, ⟨vs, dd⟩, Calls.spliced_nil ?_⟩)
  refine PySem.W.kdx_call (knd := mixKind X.prog X.w) (kvs := vs) (ep := ep) (I1.ok.hd hc) ⟨_, Heap.get?_push_size _ rfl, rfl, rfl⟩ (hat.push _) (by omega) fun h' tk acc c ts k0 k1 k2 k3 k4 => ?_
  obtain ⟨H', z1, z2, z3, z4, z5, z6, J⟩ := LiI.items_laid (tk := tk) I2 hz kv k0 k1 k2 k3 k4
  exact ⟨.ref _, H', J, rfl, q H' _ ts z1 z2 z3 z4 z5 z6⟩
theorem je_items {p apos cpos : Pos} (hc : X.calm = true) (ho : JE X n W e mo) (hm : X.mg "list" = none) (hv : bootBuiltins "list" = some (.type "list")) (hg : Gl X "list" := by rfl) (hbase : attributeBase e "items" X.env (eval e X.env) = eval e X.env := by rfl) (hline : (apos.endLine == cpos.line) = true := by rfl)
    (hs : starEach [.Call (.Attribute e "items" apos) [] [] cpos] X.env = (false, eval (.Call (.Attribute e "items" apos) [] [] cpos) X.env) :: starEach [] X.env := by rfl) :
    JE X n W (.Call (.Name "list" p) [.Call (.Attribute e "items" apos) [] [] cpos] [] pos) (eItems mo) := by
  refine pe_imp (pe_listItR hc ho hg hm hv hbase hline hs) fun σ H Q q => ?_
  obtain ⟨F, ρ, cs, σi, hs, hl, hp⟩ := q
  refine go hs hl hp fun v H1 F1 ρ1 cs1 x st1 hs1 hl1 r1 hp1 => ?_
  obtain ⟨z, hz, hq⟩ := pst_cells (f := lisI x) hp1
  obtain ⟨⟨ks, xs⟩, h1, h2⟩ := Option.bind_eq_some_iff.mp hz
  split at h2
  · cases h2
    obtain ⟨d, vs, rfl, h3, h4, h5⟩ := dc_rel hs1 r1 h1
    refine ⟨d, _, rfl, h3, fun H' p ts k1 k2 k3 k4 k5 k6 => ?_⟩
    have nt : ∀ t ∈ ts, ∃ q : Key × V, H' t = some (.tup [kV q.1, q.2]) := fun t ht => by
      obtain ⟨j, hj⟩ := List.getElem?_of_mem ht
      obtain ⟨q, _, e⟩ := paired_get k6 hj
      exact ⟨q, e⟩
    let F' : Hp := fun b => if b = p ∨ b ∈ ts then H' b else F1 b
    have fnone : ∀ b, (b = p ∨ b ∈ ts) → F1 b = none := fun b hb => by
      cases q : F1 b with
      | none => rfl
      | some o =>
        have := hs1.fz b o q
        rcases hb with rfl | hb
        · rw [k2] at this; cases this
        · rw [k3 b hb] at this; cases this
    have fF : ∀ b o, F1 b = some o → F' b = some o := fun b o h => by
      show (if b = p ∨ b ∈ ts then H' b else F1 b) = _
      rw [if_neg (fun z => by rw [fnone b z] at h; cases h)]
      exact h
    obtain ⟨s1, s2⟩ := hs1.ext (F' := F') (H' := H') k1 fF (fun b o h => by
      replace h : (if b = p ∨ b ∈ ts then H' b else F1 b) = some o := h
      split at h
      · rename_i hb
        refine .inr ⟨?_, h, fun ps z => ?_⟩
        · rcases hb with rfl | hb
          · exact k2
          · exact k3 b hb
        · subst z
          rcases hb with rfl | hb
          · rw [k5] at h; cases h
          · obtain ⟨q, e⟩ := nt b hb
            rw [e] at h; cases h
      · exact .inl h)
    refine hq F' ρ1 H' _ s2 s1 ?_
    simp only [Rel]
    have hP : Paired (fun (t : Addr) (q : Key × V) => F' t = some (.tup [kV q.1, q.2])) ts (ks.zip vs) := paired_imp k6 fun t q ht e => by
      show (if t = p ∨ t ∈ ts then H' t else F1 t) = _
      rw [if_pos (.inr ht), e]
    have hL : F' p = some (.lst (ts.map V.ref)) := by
      show (if p = p ∨ p ∈ ts then H' p else F1 p) = _
      rw [if_pos (.inl rfl), k5]
    exact ⟨p, ts.map V.ref, rfl, hL, items_rel fF h4 h5 hP⟩
  · cases h2
/-- [..] as a new cell -/
def eLstC (a : M (List IV)) : M IV := a.bind fun xs => fun _ _ cs => if xs.length ≤ lim then .ok (.cell cs.length) (cs ++ [.lst xs]) else .stuck
theorem je_lstC (h : JA X n W es mr) : JE X n W (.List es pos) (eLstC mr) := by
  refine pe_imp (pe_lst h) fun σ H Q q => ?_
  obtain ⟨F, ρ, cs, σi, hs, hl, hp⟩ := q
  refine go hs hl hp fun vs H1 F1 ρ1 cs1 xs st1 hs1 hl1 r1 hp1 => ?_
  replace hp1 : Pst (gx X) W σ (Rel (gx X)) F1 ρ1 H1 (if xs.length ≤ lim then .ok (.cell cs1.length) (cs1 ++ [.lst xs]) else .stuck) Q := hp1
  split at hp1
  · rename_i hle
    refine ⟨lim_le (by rw [← r1.len]; exact hle), fun p hp => ?_⟩
    obtain ⟨c1, c2⟩ := hs1.newC (c := .lst xs) (o := .lst vs) hp (fun ρ' hr => ⟨vs, rfl, r1.mono (fun _ _ h => h) hr⟩) NoX.lst
    exact hp1 F1 _ _ _ c2 c1 (cell_last (c := .dead) hs1)
  · exact hp1.elim
/-! ### new cells by a callee -/
def rCN (g : Gx) (f : List Cell → List IV → Option Cell) : List V → Hp → VK → Prop := fun vs H Q => ∃ F ρ cs xs c, Sim g F ρ cs H ∧ RelL g F ρ xs vs ∧ f cs xs = some c ∧ ∀ F' ρ' H' v, Stp F ρ H F' ρ' H' → Sim g F' ρ' (cs ++ [c]) H' → Rel g F' ρ' (.cell cs.length) v → Q v H'
theorem eCallN_run {g : Gx} {f : List Cell → List IV → Option Cell} {σ : St} {H : Hp} {Q : VK} (h : tG g n W (Rel g) (eCallN f mr) σ H Q) : tCB (rCN g f) (tG g n W (RelL g) mr) σ H Q := by
  obtain ⟨F, ρ, cs, σi, hs, hl, hp⟩ := h
  refine go hs hl hp fun vs H1 F1 ρ1 cs1 xs st1 hs1 hl1 r1 hp1 => ?_
  replace hp1 : Pst g W σ (Rel g) F1 ρ1 H1 (match f cs1 xs with | some c => .ok (.cell cs1.length) (cs1 ++ [c]) | none => .stuck) Q := hp1
  cases e : f cs1 xs with
  | none => rw [e] at hp1; exact hp1.elim
  | some c => rw [e] at hp1; exact ⟨F1, ρ1, cs1, xs, c, hs1, r1, e, hp1⟩
theorem je_callTyN {x : Str} {p : Pos} {T : String} {f : List Cell → List IV → Option Cell} (hc : CallR X (.type T) (rCN (gx X) f)) (hm : X.mg x = none) (hv : bootBuiltins x = some (.type T)) (ha : JA X n W (a :: es) mr) (hg : Gl X x := by rfl) (hn : x ≠ "__name__" := by decide)
    (hdb : (x == ("__debug__" : Str)) = false := by decide) (he : starEach (a :: es) X.env = (false, eval a X.env) :: starEach es X.env := by rfl) (hpl : (backTo pos (starEach es X.env)).any (·.1) = false := by rfl) : JE X n W (.Call (.Name x p) (a :: es) [] pos) (eCallN f mr) :=
  pe_imp (pe_callTy hc hg hm hv ha hn hdb he hpl) fun σ H Q q => eCallN_run q
theorem dct_cell {g : Gx} {F : Hp} {ρ : List Addr} {kvs : List (Key × IV)} {ws : List (Key × V)} (r : RelK g F ρ kvs ws) : RelC g F ρ (cellD kvs) (some (.dK ws)) := by
  refine ⟨ws.map (·.2), ?_, ?_, r.2⟩
  · rw [r.1, zip_maps]
  · have := congrArg List.length r.1
    rw [List.length_map, List.length_map]; simpa using this
theorem RelK.mono {g : Gx} {F F' : Hp} {ρ ρ' : List Addr} {kvs : List (Key × IV)} {ws : List (Key × V)} (r : RelK g F ρ kvs ws) (s : ∀ a o, F a = some o → F' a = some o) (p : ∃ t, ρ' = ρ ++ t) : RelK g F' ρ' kvs ws := ⟨r.1, r.2.mono s p⟩
theorem pairs_rel {g : Gx} {F : Hp} {ρ : List Addr} {H : Hp} (hf : ∀ a o, F a = some o → H a = some o) : ∀ {ps : List IV} {vs : List V} {kvs : List (Key × IV)}, RelL g F ρ ps vs → prsT ps = some kvs → ∃ (as : List Addr) (ws : List (Key × V)), vs = as.map V.ref ∧ Paired (fun p kv => SqT g.K H p [kV kv.1, kv.2]) as ws ∧ RelK g F ρ kvs ws
  | [], vs, kvs, r, h => by
    simp only [RelL] at r
    subst r
    cases h
    exact ⟨[], [], rfl, .nil, .nil⟩
  | p :: ps, vs, kvs, r, h => by
    simp only [RelL] at r
    obtain ⟨v, vs', rfl, r1, r2⟩ := r
    unfold prsT at h
    split at h
    · rename_i e
      cases e
    · rename_i k x r' e
      cases e
      split at h
      · rename_i key rest e1 e2
        cases h
        obtain ⟨as, ws, h1, h2, h3⟩ := pairs_rel hf r2 e2
        simp only [Rel] at r1
        obtain ⟨a, us, rfl, q1, q2⟩ := r1
        obtain ⟨u1, u2, rfl, q3, q4⟩ := relL2 q2
        have := keyI_rel q3 e1
        subst this
        exact ⟨a :: as, (key, u2) :: ws, by rw [h1]; rfl, .cons (sqT_mono hf q1) h2, .cons q4 h3⟩
      · cases h
    · cases h
theorem cj_dict (hc : X.calm = true) : CallR X (.type "dict") (rCN (gx X) fDict) := by
  intro pins s σ H vs us Q I r h
  obtain ⟨F, ρ, cs, xs, c, hs, hx, hf, q⟩ := h
  unfold fDict at hf
  split at hf
  · rename_i ps
    obtain ⟨kvs, h1, rfl⟩ := Option.map_eq_some_iff.mp hf
    obtain ⟨v, rfl, h2⟩ := relL1 hx
    simp only [Rel] at h2
    obtain ⟨a, ws, rfl, h3, h4⟩ := h2
    obtain ⟨as, kws, rfl, h5, h6⟩ := pairs_rel hs.fz h4 h1
    refine call_dictP hc pins s σ H _ us Q I r ⟨a, as, kws, rfl, .inl (.inl (hs.fz _ _ h3)), h5, fun p hp => ?_⟩
    obtain ⟨s1, s2⟩ := hs.newC (c := cellD (mergeG [] kvs)) (o := .dK (mergeK [] kws)) hp (fun ρ' hr => dct_cell ((h6.merge .nil).mono (fun _ _ h => h) hr)) NoX.dK
    exact q F _ _ _ s2 s1 (cell_last (c := .dead) hs)
  · rename_i x _
    obtain ⟨⟨ks, ys⟩, h1, rfl⟩ := Option.map_eq_some_iff.mp hf
    obtain ⟨v, rfl, h2⟩ := relL1 hx
    obtain ⟨a, ws, rfl, h3, h4, h5⟩ := dc_rel hs h2 h1
    refine call_dictD pins s σ H _ us Q I r ⟨a, _, rfl, h3, fun p hp => ?_⟩
    obtain ⟨s1, s2⟩ := hs.newC (c := .dct ks ys) (o := .dK (ks.zip ws)) hp (fun ρ' hr => ⟨ws, rfl, h4, h5.mono (fun _ _ h => h) hr⟩) NoX.dK
    exact q F _ _ _ s2 s1 (cell_last (c := .dead) hs)
  · cases hf
end
end SL

set_option Elab.async false
set_option linter.all false
set_option autoImplicit false
set_option maxRecDepth 100000
set_option maxHeartbeats 4000000
/-! SLDict2: dicts walked, sorted, made by a comprehension. -/
namespace SL
open PySem PySem.Spec L2
open PyProof.Rows hiding St
def itemsI : IV → Option (List IV)
  | .dct ks xs => if ks.length = xs.length then some ((ks.zip xs).map fun p => .tup [kI p.1, p.2]) else none
  | _ => none
def keysI : IV → Option (List IV)
  | .dct ks xs => if ks.length = xs.length then some (ks.map kI) else none
  | _ => none
def mItems (m : M IV) : M (List IV) := m.bind fun x => M.opt (itemsI x)
def mKeys (m : M IV) : M (List IV) := m.bind fun x => M.opt (keysI x)
section
variable {X : Cx} {n : Nat} {W : WX} {tg e a b : Expr} {m : M IV} {ma : M (List IV)} {apos cpos pos : Pos} {g : Gx} {F : Hp} {ρ : List Addr}
theorem ri_keys {ks : List Key} {vs : List V} {d : Addr} {o : Obj} (h : F d = some (.frz o (.dK (ks.zip vs)))) (hl : ks.length = vs.length) : RI g F ρ (ks.map kI) (Itk d o (ks.zip vs)) := by
  intro F' ρ' cs' H' hf hr hs
  have hd := hs.fz _ _ (hf _ _ h)
  have hz : (ks.zip vs).length = ks.length := by rw [List.length_zip, ← hl, Nat.min_self]
  refine ⟨fun i x e => ?_, ⟨hd, by rw [List.length_map, hz]; exact Nat.le_refl _⟩⟩
  rw [List.getElem?_map] at e
  obtain ⟨k, e1, rfl⟩ := Option.map_eq_some_iff.mp e
  have hi := (List.getElem?_eq_some_iff.mp e1).1
  refine ⟨⟨hd, by omega⟩, fun v H'' y => ?_⟩
  obtain ⟨rfl, k', v', e2, rfl⟩ := y
  have : (ks.zip vs)[i]?.map (·.1) = some k := by
    rw [← List.getElem?_map, List.map_fst_zip (by omega), e1]
  rw [e2] at this
  cases this
  exact ⟨F', StpU.refl, hs, kI_rel⟩
theorem ri_items {ks : List Key} {xs : List IV} {vs : List V} {d : Addr} {o : Obj} (h : F d = some (.frz o (.dK (ks.zip vs)))) (hl : ks.length = vs.length) (r : RelL g F ρ xs vs) : RI g F ρ ((ks.zip xs).map fun p => .tup [kI p.1, p.2]) (Iti d o (ks.zip vs)) := by
  intro F' ρ' cs' H' hf hr hs
  have hd := hs.fz _ _ (hf _ _ h)
  have hx := r.len
  have hz : (ks.zip vs).length = ks.length := by rw [List.length_zip, ← hl, Nat.min_self]
  have hz2 : (ks.zip xs).length = ks.length := by rw [List.length_zip, hx, ← hl, Nat.min_self]
  have r' := r.mono hf hr
  refine ⟨fun i x e => ?_, ⟨hd, by rw [List.length_map, hz, hz2]; exact Nat.le_refl _⟩⟩
  rw [List.getElem?_map] at e
  obtain ⟨⟨k, x'⟩, e1, rfl⟩ := Option.map_eq_some_iff.mp e
  have hi := (List.getElem?_eq_some_iff.mp e1).1
  have ek : ks[i]? = some k := by
    have := congrArg (Option.map (·.1)) e1
    rw [← List.getElem?_map, List.map_fst_zip (by omega)] at this
    exact this
  have ex : xs[i]? = some x' := by
    have := congrArg (Option.map (·.2)) e1
    rw [← List.getElem?_map, List.map_snd_zip (by omega)] at this
    exact this
  obtain ⟨v, ev, rv⟩ := r'.get ex
  refine ⟨⟨hd, by omega⟩, fun w H'' y => ?_⟩
  obtain ⟨T, k', v', e2, rfl, hT, rfl⟩ := y
  have k1 : (ks.zip vs)[i]?.map (·.1) = some k := by rw [← List.getElem?_map, List.map_fst_zip (by omega), ek]
  have k2 : (ks.zip vs)[i]?.map (·.2) = some v := by rw [← List.getElem?_map, List.map_snd_zip (by omega), ev]
  rw [e2] at k1 k2
  cases k1
  cases k2
  obtain ⟨s1, s2⟩ := hs.new (o := .tup [kV k', v']) hT
  refine ⟨_, s2, s1, ?_⟩
  simp only [Rel]
  exact ⟨T, _, rfl, .inl (.inl upd_same), .cons kI_rel (.cons (rv.stp s2) .nil)⟩
theorem ji_items {elts : List Expr} {kk : Nat} {tpos : Pos} (h : JE X n W e m) (hbase : attributeBase e "items" X.env (eval e X.env) = eval e X.env := by rfl) (hline : (apos.endLine == cpos.line) = true := by rfl) : JI X n W (.Tuple elts kk tpos) (.Call (.Attribute e "items" apos) [] [] cpos) (mItems m) := by
  refine pi_imp (pi_items h hbase hline) fun σ H R q => ?_
  obtain ⟨F, ρ, cs, σi, hs, hl, hp⟩ := q
  refine go hs hl hp fun v H1 F1 ρ1 cs1 x st1 hs1 hl1 r1 hp1 => ?_
  obtain ⟨z, hz, hq⟩ := pst_opt hp1
  unfold itemsI at hz
  split at hz
  · split at hz
    · cases hz
      simp only [Rel] at r1
      obtain ⟨d, vs, rfl, hl', ⟨o, h1⟩, h2⟩ := r1
      exact ⟨d, o, _, rfl, hs1.fz _ _ h1, hq F1 ρ1 H1 _ StpU.refl hs1 (ri_items h1 hl' h2)⟩
    · cases hz
  · cases hz
theorem ji_keys (h : JE X n W e m) : JI X n W tg e (mKeys m) := by
  refine pi_imp (pi_keys h) fun σ H R q => ?_
  obtain ⟨F, ρ, cs, σi, hs, hl, hp⟩ := q
  refine go hs hl hp fun v H1 F1 ρ1 cs1 x st1 hs1 hl1 r1 hp1 => ?_
  obtain ⟨z, hz, hq⟩ := pst_opt hp1
  unfold keysI at hz
  split at hz
  · split at hz
    · cases hz
      simp only [Rel] at r1
      obtain ⟨d, vs, rfl, hl', ⟨o, h1⟩, h2⟩ := r1
      exact ⟨d, o, rfl, .inl ⟨_, hs1.fz _ _ h1, hq F1 ρ1 H1 _ StpU.refl hs1 (ri_keys h1 hl')⟩⟩
    · cases hz
  · cases hz
end

/-! ### the order of texts -/
def leN : List Nat → List Nat → Bool := fun a b => !ltCps b a
theorem lt_irr : ∀ a : List Nat, ltCps a a = false
  | [] => rfl
  | x :: r => by simp [ltCps, lt_irr r]
theorem lt_cases : ∀ a b : List Nat, ltCps a b = true ∨ a = b ∨ ltCps b a = true
  | [], [] => .inr (.inl rfl)
  | [], _ :: _ => .inl rfl
  | _ :: _, [] => .inr (.inr rfl)
  | x :: r, y :: t => by
    rcases Nat.lt_trichotomy x y with h | h | h
    · left; simp [ltCps, h]
    · subst h
      rcases lt_cases r t with h | h | h
      · left; simp [ltCps, h]
      · right; left; rw [h]
      · right; right; simp [ltCps, h]
    · right; right; simp [ltCps, h]
theorem lt_trans : ∀ a b c : List Nat, ltCps a b = true → ltCps b c = true → ltCps a c = true
  | [], [], _, h, _ => by cases h
  | [], _ :: _, [], _, h => by cases h
  | [], _ :: _, _ :: _, _, _ => rfl
  | _ :: _, [], _, h, _ => by cases h
  | _ :: _, _ :: _, [], _, h => by cases h
  | x :: r, y :: t, z :: u, h1, h2 => by
    simp only [ltCps, Bool.or_eq_true, decide_eq_true_eq, Bool.and_eq_true, beq_iff_eq] at h1 h2 ⊢
    rcases h1 with h1 | ⟨rfl, h1⟩
    · rcases h2 with h2 | ⟨rfl, h2⟩
      · left; omega
      · left; exact h1
    · rcases h2 with h2 | ⟨rfl, h2⟩
      · left; exact h2
      · right; exact ⟨rfl, lt_trans r t u h1 h2⟩
theorem lt_asym {a b : List Nat} (h : ltCps a b = true) : ltCps b a = false := by
  cases q : ltCps b a with
  | false => rfl
  | true => have := lt_trans a b a h q; rw [lt_irr] at this; cases this
def leS (a b : Str) : Prop := ltCps b.cps.toList a.cps.toList = false
theorem str_cps {a b : Str} (h : a.cps.toList = b.cps.toList) : a = b := by
  cases a; cases b
  congr 1
  exact Array.toList_inj.mp h
theorem leS_anti {a b : Str} (h1 : leS a b) (h2 : leS b a) : a = b := by
  rcases lt_cases a.cps.toList b.cps.toList with h | h | h
  · rw [show ltCps a.cps.toList b.cps.toList = false from h2] at h; cases h
  · exact str_cps h
  · rw [show ltCps b.cps.toList a.cps.toList = false from h1] at h; cases h
theorem leS_total (a b : Str) : leS a b ∨ leS b a := by
  cases h : ltCps b.cps.toList a.cps.toList with
  | false => exact .inl h
  | true => exact .inr (lt_asym h)
theorem leS_trans {a b c : Str} (h1 : leS a b) (h2 : leS b c) : leS a c := by
  unfold leS at *
  cases h : ltCps c.cps.toList a.cps.toList with
  | false => rfl
  | true =>
    rcases lt_cases b.cps.toList a.cps.toList with k | k | k
    · rw [k] at h1; cases h1
    · rw [k, h] at h2; cases h2
    · have := lt_trans _ _ _ h k
      rw [this] at h2; cases h2
def insT (x : Str) : List Str → List Str
  | [] => [x]
  | y :: r => if ltCps y.cps.toList x.cps.toList = true then y :: insT x r else x :: y :: r
def srtT : List Str → List Str
  | [] => []
  | x :: r => insT x (srtT r)
theorem insT_perm (x : Str) : ∀ l : List Str, (insT x l).Perm (x :: l)
  | [] => .refl _
  | y :: r => by
    unfold insT
    split
    · exact ((insT_perm x r).cons y).trans (.swap x y r)
    · exact .refl _
theorem srtT_perm : ∀ l : List Str, (srtT l).Perm l
  | [] => .refl _
  | x :: r => (insT_perm x (srtT r)).trans ((srtT_perm r).cons x)
theorem insT_srt {x : Str} : ∀ {l : List Str}, l.Pairwise leS → (insT x l).Pairwise leS
  | [], _ => by simp [insT]
  | y :: r, h => by
    have h' := List.pairwise_cons.mp h
    unfold insT
    split
    · rename_i k
      refine List.pairwise_cons.mpr ⟨fun z hz => ?_, insT_srt h'.2⟩
      rcases List.mem_cons.mp ((insT_perm x r).mem_iff.mp hz) with rfl | hz
      · exact lt_asym k
      · exact h'.1 z hz
    · rename_i k
      have k : leS x y := by
        unfold leS
        cases q : ltCps y.cps.toList x.cps.toList with
        | false => rfl
        | true => exact absurd q k
      refine List.pairwise_cons.mpr ⟨fun z hz => ?_, h⟩
      rcases List.mem_cons.mp hz with rfl | hz
      · exact k
      · exact leS_trans k (h'.1 z hz)
theorem srtT_srt : ∀ l : List Str, (srtT l).Pairwise leS
  | [] => .nil
  | x :: r => insT_srt (srtT_srt r)
theorem srtT_one {a b : List Str} (p : a.Perm b) (ha : a.Pairwise leS) (hb : b.Pairwise leS) : a = b := by
  induction a generalizing b with
  | nil => exact p.nil_eq
  | cons x a ih =>
    cases b with
    | nil => exact absurd p.symm.nil_eq (by simp)
    | cons y b =>
      have h1 := List.pairwise_cons.mp ha
      have h2 := List.pairwise_cons.mp hb
      have e : x = y := by
        have m1 : x ∈ y :: b := p.mem_iff.mp (by simp)
        have m2 : y ∈ x :: a := p.mem_iff.mpr (by simp)
        rcases List.mem_cons.mp m1 with z | z
        · exact z
        · rcases List.mem_cons.mp m2 with w | w
          · exact w.symm
          · exact leS_anti (h1.1 y w) (h2.1 x z)
      subst e
      rw [ih (List.perm_cons x |>.mp p) h1.2 h2.2]
theorem rising_pw : ∀ (l : List Str) (p : Str), risingS p l = true → (p :: l).Pairwise leS
  | [], p, _ => by simp
  | x :: r, p, h => by
    simp only [risingS, Bool.and_eq_true, Bool.not_eq_true'] at h
    have ih := rising_pw r x h.2
    refine List.pairwise_cons.mpr ⟨fun z hz => ?_, ih⟩
    rcases List.mem_cons.mp hz with rfl | hz
    · exact h.1
    · exact leS_trans h.1 ((List.pairwise_cons.mp ih).1 z hz)
theorem sortedS_pw {l : List Str} (h : sortedS l = true) : l.Pairwise leS := by
  cases l with
  | nil => exact .nil
  | cons x r => exact rising_pw r x h
theorem sortedS_is {l ys : List Str} (p : ys.Perm l) (h : sortedS ys = true) : ys = srtT l := srtT_one (p.trans (srtT_perm l).symm) (sortedS_pw h) (srtT_srt l)
def strK : List Key → Option (List Str)
  | [] => some []
  | .inr s :: r => (strK r).map (s :: ·)
  | .inl _ :: _ => none
theorem strK_of : ∀ {ks : List Key} {ss : List Str}, strK ks = some ss → ks = ss.map Sum.inr
  | [], ss, h => by cases h; rfl
  | .inr s :: r, ss, h => by
    obtain ⟨t, h1, rfl⟩ := Option.map_eq_some_iff.mp h
    rw [strK_of h1]; rfl
  | .inl _ :: _, ss, h => by cases h
theorem rel_strs {g : Gx} {F : Hp} {ρ : List Addr} : ∀ (ns : List Str), RelL g F ρ (ns.map IV.str) (ns.map V.str)
  | [] => .nil
  | i :: r => .cons (by simp only [Rel]) (rel_strs r)
/-- sorted(d) of texts -/
def fSortedD (cs : List Cell) : List IV → Option IV
  | [x] => (dcI x cs).bind fun z => (strK z.1).bind fun ss => if ss.length < 64 then some (.lst ((srtT ss).map IV.str)) else none
  | _ => none
theorem cj_sortedD {X : Cx} (hc : X.calm = true) : CallR X (.builtin "sorted") (rCJ (gx X) fSortedD) := by
  intro pins s σ H vs us Q I r h
  obtain ⟨F, ρ, cs, xs, z, hs, hx, hf, q⟩ := h
  unfold fSortedD at hf
  split at hf
  · rename_i x
    obtain ⟨⟨ks, ys⟩, h1, h2⟩ := Option.bind_eq_some_iff.mp hf
    obtain ⟨ss, h3, h4⟩ := Option.bind_eq_some_iff.mp h2
    split at h4
    · rename_i h64
      cases h4
      obtain ⟨v, rfl, h5⟩ := relL1 hx
      obtain ⟨a, ws, rfl, h6, h7, h8⟩ := dc_rel hs h5 h1
      have ek := strK_of h3
      refine call_sortedD hc pins s σ H _ us Q I r ⟨a, _, ss, rfl, h6, by rw [List.map_fst_zip (by omega)]; exact ek, h64, fun ys p hp hsrt hfree => ?_⟩
      rw [sortedS_is hp hsrt]
      obtain ⟨s1, s2⟩ := hs.new (o := .lst ((srtT ss).map V.str)) hfree
      refine q _ ρ _ _ s2 s1 ?_
      simp only [Rel]
      exact ⟨p, _, rfl, upd_same, rel_strs _⟩
    · cases h4
  · cases hf

/-! ### dict comprehensions -/
def dcL (gm : GM) (mt : M Bool) (mk me : M IV) (n : Nat) (σ : List SV) (k : Nat) : List IV → List Cell → Res Unit
  | [], cs => .ok () cs
  | x :: xs, cs => match gm x σ with
    | none => .stuck
    | some σ1 => match mt n σ1 cs with
      | .ok false cs1 => dcL gm mt mk me n σ k xs cs1
      | .ok true cs1 => (match mk n σ1 cs1 with
        | .ok y cs2 => (match me n σ1 cs2 with
          | .ok z cs3 => (match dputI (.cell k) y z cs3 with
            | some cs4 => dcL gm mt mk me n σ k xs cs4
            | none => .stuck)
          | _ => .stuck)
        | _ => .stuck)
      | _ => .stuck
/-- {k: v for x in xs if t}, as a cell -/
def eDc (mi : M (List IV)) (gm : GM) (mt : M Bool) (mk me : M IV) (vs : List Nat) : M IV := mi.bind fun xs => fun n σ cs => (dcL gm mt mk me n (wipeI σ vs) cs.length xs (cs ++ [.dct [] []])).then fun _ cs' => .ok (.cell cs.length) cs'
section
variable {X : Cx} {n : Nat} {W : WX} {tg iter kx vx : Expr} {ifs : List Expr} {mi : M (List IV)} {gm : GM} {mt : M Bool} {mk me : M IV} {pos : Pos} {scope : Scope} {own : List (Str × Nat)} {ix : List Nat}
theorem dc_run {g : Gx} {σ : St} {H : Hp} {Q : VK} (hix : ∀ j ∈ ix, j ∈ own.map (·.2)) (h : tG g n W (Rel g) (eDc mi gm mt mk me (own.map (·.2))) σ H Q) : tDc (tG g n W (RI g) mi) (tGm g ix gm) (tG g n W0 RB mt) (tG g n W0 (Rel g) mk) (tG g n W0 (Rel g) me) (own.map (·.2)) σ H Q := by
  obtain ⟨F, ρ, cs, σi, hs, hl, hp⟩ := h
  refine go hs hl hp fun J H1 F1 ρ1 cs1 xs st1 hs1 hl1 r1 hp1 D hD => ?_
  generalize hvs : own.map (·.2) = vs at hp1 hix ⊢
  obtain ⟨r0, hr0⟩ : ∃ r0, dcL gm mt mk me n (wipeI σi vs) cs1.length xs (cs1 ++ [.dct [] []]) = r0 := ⟨_, rfl⟩
  replace hp1 : Pst g W σ (Rel g) F1 ρ1 H1 (r0.then fun _ cs' => .ok (.cell cs1.length) cs') Q := by rw [← hr0]; exact hp1
  obtain ⟨hs2, st2⟩ := hs1.newC (c := .dct [] []) (o := .dK []) hD (fun _ _ => ⟨[], rfl, rfl, .nil⟩) NoX.dK
  have hl2 := hl1.stp st2
  have hk2 : (ρ1 ++ [D])[cs1.length]? = some D := by
    have := cell_last (p := D) (c := .dead) hs1
    simp only [Rel] at this
    obtain ⟨a, e, h⟩ := this
    cases e
    exact h
  refine ⟨fun i m H => m = xs.length - i ∧ i ≤ xs.length ∧ ∃ F ρ cs, Stp F1 ρ1 H1 F ρ H ∧ Sim g F ρ cs H ∧ Slts g F ρ H σi σ ∧ ρ[cs1.length]? = some D ∧
      dcL gm mt mk me n (wipeI σi vs) cs1.length (xs.drop i) cs = r0, ⟨xs.length, by simp, Nat.zero_le _, F1, _, _, st2, hs2, hl2, hk2, hr0⟩, ?_⟩
  rintro i m H3 ⟨rfl, hi3, F3, ρ3, cs3, st3, hs3, hl3, hk3, e3⟩
  obtain ⟨k1, k2⟩ := r1 F3 ρ3 cs3 H3 st3.fz st3.rp hs3
  have bad : ∀ {r : Res Unit}, r = r0 → r = .stuck → False := fun {r} e1 e2 => by
    rw [← e1, e2] at hp1
    exact hp1
  by_cases hlt : i < xs.length
  · right
    have ei : xs[i]? = some xs[i] := List.getElem?_eq_getElem hlt
    obtain ⟨g1, g2⟩ := k1 i _ ei
    rw [List.drop_eq_getElem_cons hlt] at e3
    refine ⟨g1, fun H' => ∃ F ρ cs, Stp F1 ρ1 H1 F ρ H' ∧ Sim g F ρ cs H' ∧ Slts g F ρ H' σi σ ∧ ρ[cs1.length]? = some D ∧
      dcL gm mt mk me n (wipeI σi vs) cs1.length (xs.drop (i + 1)) cs = r0, fun H' q => ⟨xs.length - (i + 1), by omega, rfl, hlt, q⟩, fun v H4 y => ?_⟩
    obtain ⟨F4, st4, hs4, r4⟩ := g2 v H4 y
    have hl4 := hl3.stp st4
    obtain ⟨hw4, ow4⟩ := hl4.wipe vs
    unfold dcL at e3
    cases eg : gm xs[i] (wipeI σi vs) with
    | none => rw [eg] at e3; exact (bad e3 rfl).elim
    | some σ5 =>
      rw [eg] at e3
      simp only at e3
      refine ⟨F4, ρ3, cs3, wipeI σi vs, _, σ5, hs4, hw4, r4, eg, fun σ' l5 o5 s5 => ⟨wipe_same s5 hix, ?_⟩⟩
      refine ⟨F4, ρ3, cs3, σ5, hs4, l5, ?_⟩
      cases et : mt n σ5 cs3 with
      | stuck => rw [et] at e3; exact (bad e3 rfl).elim
      | ex _ _ => rw [et] at e3; exact (bad e3 rfl).elim
      | ok b cs5 =>
        rw [et] at e3
        intro F6 ρ6 H6 b' st6 hs6 rb
        have rb' : b = b' := rb
        subst rb'
        have tt6 : Stp F1 ρ1 H1 F6 ρ6 H6 := (st3.tr st4).tr st6
        have kup : ∀ {ρ' : List Addr}, (∃ t, ρ' = ρ3 ++ t) → ρ'[cs1.length]? = some D := fun {ρ'} ⟨t, e⟩ => by
          rw [e, List.getElem?_append_left (List.getElem?_eq_some_iff.mp hk3).1]; exact hk3
        cases b with
        | false =>
          rw [if_neg Bool.false_ne_true]
          exact ⟨F6, ρ6, cs5, tt6, hs6, hl4.stp st6, kup st6.rp, e3⟩
        | true =>
          rw [if_pos rfl]
          simp only at e3
          refine ⟨F6, ρ6, cs5, σ5, hs6, l5.stp st6, ?_⟩
          cases ek : mk n σ5 cs5 with
          | stuck => rw [ek] at e3; exact (bad e3 rfl).elim
          | ex _ _ => rw [ek] at e3; exact (bad e3 rfl).elim
          | ok yk cs7 =>
            rw [ek] at e3
            intro F7 ρ7 H7 wk st7 hs7 r7
            simp only at e3
            refine ⟨F7, ρ7, cs7, σ5, hs7, (l5.stp st6).stp st7, ?_⟩
            cases ee : me n σ5 cs7 with
            | stuck => rw [ee] at e3; exact (bad e3 rfl).elim
            | ex _ _ => rw [ee] at e3; exact (bad e3 rfl).elim
            | ok z cs8 =>
              rw [ee] at e3
              intro F8 ρ8 H8 w st8 hs8 r8
              simp only at e3
              have tt8 := (tt6.tr st7).tr st8
              have hk8 : ρ8[cs1.length]? = some D := kup ((st6.tr st7).tr st8).rp
              cases ep : dputI (.cell cs1.length) yk z cs8 with
              | none => rw [ep] at e3; exact (bad e3 rfl).elim
              | some cs9 =>
                rw [ep] at e3
                unfold dputI at ep
                simp only at ep
                split at ep
                · rename_i ks ys q1
                  split at ep
                  · rename_i hz
                    obtain ⟨key, h1, rfl⟩ := Option.map_eq_some_iff.mp ep
                    obtain ⟨us, h3, h4, h5⟩ := hs8.ok _ _ D q1 hk8
                    have := keyI_rel (r7.stp st8) h1
                    subst this
                    have rk := (relK_zip h4 h5).put (k := key) r8
                    have hlen : (ks.zip us).length < lim := by rw [List.length_zip, ← h4, Nat.min_self]; exact hz
                    obtain ⟨s1, s2⟩ := hs8.cell (c := .dct ((putG (ks.zip ys) key z).map (·.1)) ((putG (ks.zip ys) key z).map (·.2))) (o := .dK (putK (ks.zip us) key w)) q1 (by intro z; cases z) hk8
                      ⟨(putK (ks.zip us) key w).map (·.2), by rw [rk.1, zip_maps], by rw [List.length_map, List.length_map]; have := congrArg List.length rk.1; simpa using this, rk.2⟩ NoX.dK
                    exact ⟨_, key, rfl, h3, Nat.lt_of_lt_of_le hlen (by decide), F8, ρ8, _, tt8.tr s2, s1, (((hl4.stp st6).stp st7).stp st8).stp s2, hk8, e3⟩
                  · cases ep
                · cases ep
  · left
    have hi2 : i = xs.length := by omega
    subst hi2
    rw [List.drop_length] at e3
    refine ⟨k2, ?_⟩
    rw [show r0 = .ok () cs3 from e3.symm] at hp1
    exact hp1 F3 ρ3 H3 _ st3 hs3 (by simp only [Rel]; exact ⟨D, rfl, hk3⟩)
theorem je_dc (hc : X.calm = true) (hN : X.N.Nodup) (hi : JI X n W tg iter mi) (ok : BlkOk X.N X.env.scope scope own) (hix : ∀ j ∈ ix, j ∈ own.map (·.2))
    (hg : ∀ (s : Shared) (H : Hp) (C : Addr) (cl : List (Str × Addr)) (fp : List Addr), JG (X.blk s H scope (compEnvC scope cl C X.env) fp) tg ix gm) (ht : ∀ (s : Shared) (H : Hp) (C : Addr) (cl : List (Str × Addr)) (fp : List Addr), JTs (X.blk s H scope (compEnvC scope cl C X.env) fp) n W0 ifs mt)
    (hk : ∀ (s : Shared) (H : Hp) (C : Addr) (cl : List (Str × Addr)) (fp : List Addr), JE (X.blk s H scope (compEnvC scope cl C X.env) fp) n W0 kx mk)
    (he : ∀ (s : Shared) (H : Hp) (C : Addr) (cl : List (Str × Addr)) (fp : List Addr), JE (X.blk s H scope (compEnvC scope cl C X.env) fp) n W0 vx me) (hs : ∀ x, foldedSetIterable iter X.env x = pure x := by intro _; rfl) :
    JE X n W (.DictComp kx vx [⟨tg, iter, ifs, 0⟩] scope pos) (eDc mi gm mt mk me (own.map (·.2))) := by
  refine pe_imp (pe_dc (own := own) (g := tGm (gx X) ix gm) (tt := tG (gx X) n W0 RB mt) (tk := tG (gx X) n W0 (Rel (gx X)) mk) (tv := tG (gx X) n W0 (Rel (gx X)) me) hc hN hi ok (fun s H C cl fp => hg s H C cl fp) (fun s H C cl fp => ht s H C cl fp) (fun s H C cl fp => hk s H C cl fp) (fun s H C cl fp => he s H C cl fp) hs) fun σ H Q h => dc_run hix h
end
end SL

set_option Elab.async false
set_option linter.all false
set_option autoImplicit false
set_option maxRecDepth 100000
set_option maxHeartbeats 4000000
/-! SLEnum: enumerate of a tuple. -/
namespace SL
open PySem PySem.Spec L2
open PyProof.Rows hiding St
open AutoSeq1 (wpAny_loadPart')
theorem meets_enumT (t : Addr) (items : Array Value) :
    Meets (Builtin.«enumerate.__new__» ⟨[.type "enumerate", .ref t], []⟩) (fun _ R s => s.heap.IsTuple t items ∧
      R (.ok (.ret (.ref (s.heap.push { cls := .type "tuple_iterator", data := .fields #[.ref t, .int 0 0] }).objs.size)))
        { s with heap := (s.heap.push { cls := .type "tuple_iterator", data := .fields #[.ref t, .int 0 0] }).push { cls := .type "enumerate", data := .fields #[.none, .bool false, .ref s.heap.objs.size, rawInt 0, .none, .none] } }) :=
  .of_wp fun prog w A R s h => by
    obtain ⟨hp, g, d, tk, os⟩ := s
    obtain ⟨hT, h⟩ := h
    have hsub := sub_enumerate
    wp_walk
    refine wpAny_stack_any fun st => wpAny_pure ?_
    split
    · rename_i c _ _ _ _ _
      cases (c == Value.type "enumerate")
      · wp_walk using wpAny_pyIter_tuple hT
        exact ⟨_, rfl, h⟩
      · wp_walk using wpAny_pyIter_tuple hT
        exact ⟨_, rfl, h⟩
    · wp_walk using wpAny_pyIter_tuple hT
      exact ⟨_, rfl, h⟩
theorem call_enumT {prog : Program} {w : World} {A : Around} {E : Value → Shared → Prop} {s : Shared} {t : Addr} {items : Array Value} {Q : Value → Shared → Prop} (hT : s.heap.IsTuple t items)
    (h : ∀ h', IsEnum h' (s.heap.objs.size + 1) s.heap.objs.size 0 .none → h'.IsTupleIter s.heap.objs.size t 0 → (∀ b o, s.heap.get? b = some o → h'.get? b = some o) → Q (.ref (s.heap.objs.size + 1)) { s with heap := h' }) :
    wpAny (model prog w) A (call (.type "enumerate") [.ref t]) Q E s := by
  refine callType_new F.called_enumerate (by decide) (F.typeCall_enumerate_1 _) (F.newCall_enumerate_1 _) (fun obj => F.args_object_init_2 obj _) F.entry_enumerate_new (meets_enumT t items) ⟨hT, ?_⟩
  have hz : (s.heap.push { cls := .type "tuple_iterator", data := .fields #[.ref t, .int 0 0] }).objs.size = s.heap.objs.size + 1 := Heap.size_push ..
  have he : IsEnum ((s.heap.push { cls := .type "tuple_iterator", data := .fields #[.ref t, .int 0 0] }).push { cls := .type "enumerate", data := .fields #[.none, .bool false, .ref s.heap.objs.size, rawInt 0, .none, .none] }) (s.heap.objs.size + 1) s.heap.objs.size 0 .none := by
    have := Heap.get?_push_size (s.heap.push { cls := .type "tuple_iterator", data := .fields #[.ref t, .int 0 0] }) (o := { cls := .type "enumerate", data := .fields #[.none, .bool false, .ref s.heap.objs.size, rawInt 0, .none, .none] }) rfl
    rw [hz] at this; exact this
  show _ ∧ _
  rw [hz]
  exact ⟨⟨_, he, rfl⟩, h _ he ⟨_, Heap.get?_push_of_some _ (Heap.get?_push_size _ rfl), rfl, rfl⟩ fun b o x => Heap.get?_push_of_some _ (Heap.get?_push_of_some _ x)⟩
/-- the tuple at a, each item in a new pair -/
def Itet (K : PySem.W.Frag) (a : Addr) : It :=
  ⟨fun i H => ∃ (xs : List V) (x : V), SqT K H a xs ∧ xs[i]? = some x, fun i H v H' => ∃ T x, v = .ref T ∧ H T = none ∧ H' = upd H T (.tup [.int (i : Nat), x]) ∧ ∀ xs, SqT K H a xs → xs[i]? = some x, fun i H => ∃ xs : List V, SqT K H a xs ∧ xs.length ≤ i⟩
theorem turn_enumT {P : Program} {w : World} {K : PySem.W.Frag} {elts : List Expr} {kk : Nat} {tpos : Pos} (a e it : Addr) :
    Turn P w K (.Tuple elts kk tpos) (Itet K a) [e, it] e (fun i h => (∃ old, IsEnum h e it ((i : Nat) : Int) old) ∧ h.IsTupleIter it a i ∧ e ≠ it) where
  mem := by simp
  obj := fun i h st b hb => by
    obtain ⟨⟨old, he⟩, ⟨o, ho, hc, hd⟩, _⟩ := st
    rcases (show b = e ∨ b = it by simpa using hb) with z | z
    · rw [z]; exact ⟨_, he, fun v q => nomatch q⟩
    · rw [z]; exact ⟨o, ho, fun v q => by rw [hd] at q; cases q⟩
  keep := fun i h h' st k => let ⟨⟨old, he⟩, hi, hne⟩ := st; ⟨⟨old, k e (by simp) _ he⟩, hi.at fun o q => k it (by simp) o q, hne⟩
  item := by
    intro X hP hw hK hc i pins s σ H E I hf st hg
    subst hP hw hK
    obtain ⟨⟨old, he⟩, hit, hne⟩ := st
    obtain ⟨xs, x, hq, hx⟩ := hg
    obtain ⟨its, rv, p, hz⟩ := I.tuple hq
    have p : s.heap.IsTuple a its.toArray := p
    obtain ⟨u, hu, ru⟩ := rv.get hx
    have hel : e < s.heap.objs.size := Heap.lt_size he
    have hil : it < s.heap.objs.size := by obtain ⟨_, q, _⟩ := hit; exact Heap.lt_size q
    have na : a ≠ it := fun z => by
      obtain ⟨o, h1, h2, _⟩ := hit
      obtain ⟨o2, h3, h4, _⟩ := p
      rw [z, h1] at h3; cases h3; rw [h2] at h4; simp at h4
    have nae : a ≠ e := fun z => by
      obtain ⟨o2, h3, h4, _⟩ := p
      rw [z] at h3
      have q := he.symm.trans h3
      cases q; simp at h4
    have hh : X.A.handled = none := I.ok.hd hc
    have D := Draws.tuple (prog := X.prog) (w := X.w) (A := X.A.in1) hh it a na its.toArray
    have hlt : i < its.toArray.size := by simpa using (List.getElem?_eq_some_iff.mp hu).1
    refine wpAny_pyNext_enum_itemD (i := i) D he ⟨hit, p⟩ hlt hne (by simp [hne, Ne.symm nae]) fun y h' tk hy ho hit' hT hsz hk => ?_
    have ey : y = u := by
      have : its[i]? = some y := by simpa using hy
      rw [hu] at this
      exact (Option.some.inj this).symm
    subst ey
    refine ⟨_, rfl, wpAny_letOwnedTupleGo_enum (s := { s with heap := h', toks := tk + 1 }) ho fun h'' he' sb => ?_⟩
    have hT2 : h''.get? s.heap.objs.size = some { cls := .type "tuple", data := .seq #[.int i tk, y] } := (sb.2 _ (Nat.ne_of_gt hel)).trans hT
    have new : ObjOk X.prog X.w (upd H s.heap.objs.size (.tup [.int (i : Nat), x])) h'' s.heap.objs.size (.tup [.int (i : Nat), x]) :=
      ⟨by show 2 ≤ sizeLine; decide, [.int i tk, y], .cons ⟨_, rfl⟩ (.cons ru .nil), ⟨_, hT2, rfl, _, rfl⟩⟩
    have I1 : Inv X pins σ (upd H s.heap.objs.size (.tup [.int (i : Nat), x])) { s with heap := h'', toks := tk + 1 } :=
      I.turnedNew (ch := [e, it]) (fun b ob hb q => (sb.2 b (fun z => hb (by simp [z]))).trans (hk b ob (fun z => hb (by simp [z])) (fun z => hb (by simp [z])) q)) hf (Nat.le_refl _) new
    refine ⟨.ref s.heap.objs.size, _, I1, rfl, ⟨_, x, rfl, I.hok.fresh (Nat.le_refl _), rfl, fun ys hy => by rw [I.tuple_inj hy hq]; exact hx⟩, ⟨⟨y, ?_⟩, hit'.1.at fun o q => (sb.2 it (Ne.symm hne)).trans q, hne⟩, fun b hb => ?_⟩
    · have e1 : ((i + 1 : Nat) : Int) = (i : Int) + 1 := by omega
      rw [e1]; exact he'
    · have hb' : b < s.heap.objs.size := by
        rcases (show b = e ∨ b = it by simpa using hb) with z | z
        · rw [z]; exact hel
        · rw [z]; exact hil
      rw [upd_ne (Nat.ne_of_lt hb')]
      exact (hf b hb).1
  done := by
    intro X hP hw hK hc i pins s σ H E I hf st hg
    subst hP hw hK
    obtain ⟨⟨old, he⟩, hit, hne⟩ := st
    obtain ⟨xs, hq, hx⟩ := hg
    obtain ⟨its, rv, p, hz⟩ := I.tuple hq
    have p : s.heap.IsTuple a its.toArray := p
    obtain ⟨f0, f1, f2, f3, f4, f5⟩ := hf it (by simp)
    have hl := rv.length
    have hh : X.A.handled = none := I.ok.hd hc
    have hTy : s.TypeIs (.ref e) "enumerate" := ⟨_, he, rfl⟩
    unfold pyNext
    refine wpAny_bind (wpAny_attempt (wpAny_callSpecial?_slot (name := Str.ofString "__next__") hTy F.slot_enumerate_next (wpAny_call_entry F.slot_enumerate_next hTy F.entry_enumerate_next ?_ (F.args_enumerate_next_1 _))))
    show wpAny _ _ (field (.ref e) 2 >>= _) _ _ _
    refine wpAny_bind (wpAny_field he rfl (x := .ref it) rfl ?_)
    refine wpAny_bind (wpAny_nextOf_tuple_end hh hit p (by simp; omega) fun h' x eb hx' => ?_)
    obtain ⟨o, ho, hc'⟩ := hx'
    refine wpAny_bind (wpAny_isInstance (T := "StopIteration") (b := true) ⟨o, ho, hc'⟩ isSubtype_stop ?_)
    exact wpAny_pure ⟨rfl, I.turned (t' := s.toks) (fun b o hb q => eb b o hb q) f0 f1 f3 f4 f5⟩
  self := fun A i s Q E st h => let ⟨⟨_, he⟩, _⟩ := st; wpAny_pyIter_enum he h
def iEnumT (K : PySem.W.Frag) (ta : TA) : TI := fun σ H R => ta σ H fun vs H1 => ∃ a xs, vs = [.ref a] ∧ SqT K H1 a xs ∧ R (Itet K a) H1
theorem pi_enumT {X : Cx} {e : Expr} {ta : TA} {p pos tpos : Pos} {elts : List Expr} {kk : Nat} (hg : Gl X "enumerate") (hm : X.mg "enumerate" = none) (ha : PA X [e] ta) (hs : starEach [e] X.env = [(false, eval e X.env)] := by rfl) :
    PI X (.Tuple elts kk tpos) (.Call (.Name "enumerate" p) [e] [] pos) (iEnumT X.K ta) := by
  refine ⟨fun pins s σ H R I h => ?_⟩
  refine Call_ (ld_blt I hg hm boot_enumerate (PyProof.Rows.callWith_type1 (thn (ha.run pos pins s σ H _ I h) fun us s1 ⟨vs, H1, I1, r1, q1⟩ => ?_) hs rfl))
  obtain ⟨a, xs, ex, hq, q⟩ := q1
  subst ex
  cases r1 with
  | cons r rr =>
    cases rr
    cases r
    obtain ⟨its, rv, p', hz⟩ := I1.tuple hq
    refine call_enumT (show s1.heap.IsTuple a its.toArray from p') fun h' he hit hk => wpAny_pyIter_enum he ?_
    have I2 : Inv X pins σ H1 { s1 with heap := h' } := I1.kept (t' := s1.toks) hk
    refine ⟨s1.heap.objs.size + 1, [s1.heap.objs.size + 1, s1.heap.objs.size], _, _, H1, rfl, I2, turn_enumT a (s1.heap.objs.size + 1) s1.heap.objs.size, ⟨⟨.none, he⟩, hit, Nat.succ_ne_self _⟩, fun b hb => ?_, q⟩
    have hle : s1.heap.objs.size ≤ b := by
      rcases (show b = s1.heap.objs.size + 1 ∨ b = s1.heap.objs.size by simpa using hb) with z | z
      · rw [z]; exact Nat.le_add_right _ _
      · rw [z]; exact Nat.le_refl _
    exact I1.fpOk hle (I1.hok.fresh hle)
section
variable {X : Cx} {n : Nat} {W : WX} {e : Expr} {ma : M (List IV)} {p pos tpos : Pos} {elts : List Expr} {kk : Nat} {g : Gx} {F : Hp} {ρ : List Addr}
theorem ri_enT {xs : List IV} {vs : List V} {ad : Addr} (h : SqT g.K F ad vs) (r : RelL g F ρ xs vs) : RI g F ρ (enI xs 0) (Itet g.K ad) := by
  intro F' ρ' cs' H' hf hr hs
  have hq : SqT g.K H' ad vs := sqT_mono (fun a o e => hs.fz a o (hf a o e)) h
  have r' := r.mono hf hr
  refine ⟨fun i y e => ?_, ⟨vs, hq, by rw [enI_len, r.len]; exact Nat.le_refl _⟩⟩
  obtain ⟨x, e0, rfl⟩ := enI_get _ _ _ _ e
  obtain ⟨v, e1, r1⟩ := r'.get e0
  refine ⟨⟨vs, v, hq, e1⟩, fun v' H'' yy => ?_⟩
  obtain ⟨T, w, rfl, hT, rfl, y⟩ := yy
  have := y vs hq
  rw [e1] at this
  cases this
  obtain ⟨s1, s2⟩ := hs.new (o := .tup [.int (i : Nat), v]) hT
  refine ⟨_, s2, s1, ?_⟩
  simp only [Rel]
  refine ⟨T, _, rfl, .inl (.inl upd_same), .cons (by simp only [Rel, Nat.zero_add]) (.cons (r1.stp s2) .nil)⟩
def mEnT (a : M (List IV)) : M (List IV) := a.bind fun xs => M.opt (match xs with
  | [.tup ys] => some (enI ys 0)
  | _ => none)
theorem ji_enT (ha : JA X n W [e] ma) (hm : X.mg "enumerate" = none) (hg : Gl X "enumerate" := by rfl) (hs : starEach [e] X.env = [(false, eval e X.env)] := by rfl) : JI X n W (.Tuple elts kk tpos) (.Call (.Name "enumerate" p) [e] [] pos) (mEnT ma) := by
  refine pi_imp (pi_enumT hg hm ha hs) fun σ H R q => ?_
  obtain ⟨F, ρ, cs, σi, hs, hl, hp⟩ := q
  refine go hs hl hp fun vs H1 F1 ρ1 cs1 xs st1 hs1 hl1 r1 hp1 => ?_
  obtain ⟨z, hz, hq⟩ := pst_opt hp1
  split at hz
  · cases hz
    obtain ⟨v, rfl, h1⟩ := relL1 r1
    simp only [Rel] at h1
    obtain ⟨a, ws, rfl, h2, h3⟩ := h1
    exact ⟨a, ws, rfl, sqT_mono hs1.fz h2, hq F1 ρ1 H1 _ StpU.refl hs1 (ri_enT h2 h3)⟩
  · cases hz
end
end SL

set_option Elab.async false
set_option linter.all false
set_option autoImplicit false
set_option maxRecDepth 100000
set_option maxHeartbeats 4000000
/-! SLRevT: t[::-1] of a tuple. -/
namespace SL
open PySem PySem.Spec L2
open PyProof.Rows hiding St
theorem rng_rev (n : Nat) : (List.range n).map (fun k => n - 1 - k) = (List.range n).reverse := by
  apply List.ext_getElem
  · simp
  · intro i h1 h2
    simp
theorem all_get {α : Type} (l : List α) : (List.range l.length).filterMap (fun k => l[k]?) = l := by
  have h : ∀ (m : List α) (i : Nat), m = l.drop i → (List.range' i m.length).filterMap (fun k => l[k]?) = m := by
    intro m
    induction m with
    | nil => intro i _; rfl
    | cons x m ih =>
      intro i e
      have hi : l[i]? = some x := by
        have := congrArg (·[0]?) e
        simp at this
        exact this.symm
      have e2 : m = l.drop (i + 1) := by
        have := congrArg List.tail e
        simpa using this
      rw [List.length_cons, List.range'_succ, List.filterMap_cons, hi]
      simp only
      rw [ih (i + 1) e2]
  have := h l 0 (by simp)
  rw [List.range_eq_range']
  exact this
theorem pick_rev (xs : Array Value) : ((List.range xs.size).filterMap fun (k : Nat) => xs[(((xs.size : Int) - 1) + (k : Int) * -1).toNat]?).toArray = xs.toList.reverse.toArray := by
  congr 1
  have e : (fun (k : Nat) => xs[(((xs.size : Int) - 1) + (k : Int) * -1).toNat]?) = (fun k => xs.toList[k]?) ∘ fun (k : Nat) => ((((xs.size : Int) - 1) + (k : Int) * -1).toNat) := by
    funext k
    simp
  rw [e, ← List.filterMap_map]
  have e2 : (List.range xs.size).map (fun (k : Nat) => (((xs.size : Int) - 1) + (k : Int) * -1).toNat) = (List.range xs.size).reverse := by
    rw [← rng_rev]
    refine List.map_congr_left fun k hk => ?_
    omega
  rw [e2, List.filterMap_reverse]
  congr 1
  have := all_get xs.toList
  simpa using this
theorem adj_rev (n : Nat) : Builtin.Slice.sliceAdjust none none (-1) (n : Int) = ((n : Int) - 1, -1) := rfl
theorem pl_rev (n : Nat) : Builtin.Slice.slicePlaces ((n : Int) - 1) (-1) (-1) = n := by
  unfold Builtin.Slice.slicePlaces
  rw [if_neg (by decide)]
  split
  · have : ((n : Int) - 1 - -1 - 1) / (- -1) = (n : Int) - 1 := by
      rw [show (- -1 : Int) = 1 by decide, Int.ediv_one]; omega
    rw [this]; omega
  · omega
section
variable {prog : Program} {w : World} {A : Around} {E : Value → Shared → Prop} {s : Shared}
theorem app_rev {sl : Addr} {vl vu vs : Value} {n : Nat} {Q : Int × Int × Nat → Shared → Prop} (hs : s.heap.IsSliceOf sl vl vu vs) (pl : IsPart vl none) (pu : IsPart vu none) (ps : IsPart vs (some (-1)))
    (h : Q ((n : Int) - 1, -1, n) s) : wpAny (model prog w) A (Builtin.Slice.sliceApplied (.ref sl) (pure (n : Int))) Q E s := by
  obtain ⟨os, hos, hcs, hds⟩ := id hs
  unfold Builtin.Slice.sliceApplied Builtin.Slice.sliceFields
  refine wpAny_bind (wpAny_bind (wpAny_field hos hds (x := vl) rfl (wpAny_bind (wpAny_field hos hds (x := vu) rfl (wpAny_bind (wpAny_field hos hds (x := vs) rfl (wpAny_pure ?_)))))))
  refine wpAny_bind (HT.slicePart_ ps ?_)
  show wpAny _ _ (if ((-1 : Int) == 0) = true then _ else _) _ _ s
  rw [if_neg (by decide)]
  refine wpAny_bind (HT.slicePart_ pl (wpAny_bind (HT.slicePart_ pu (wpAny_bind (wpAny_pure ?_)))))
  show wpAny _ _ (match Builtin.Slice.sliceAdjust none none (-1) (n : Int) with | (lo, hi) => pure (lo, (-1 : Int), Builtin.Slice.slicePlaces lo hi (-1))) _ _ s
  rw [adj_rev]
  show wpAny _ _ (pure ((n : Int) - 1, (-1 : Int), Builtin.Slice.slicePlaces ((n : Int) - 1) (-1) (-1))) _ _ s
  rw [pl_rev]
  exact wpAny_pure h
theorem get_rev {t sl : Addr} {items : Array Value} {vl vu vs : Value} {Q : Value → Shared → Prop} (ht : IsTup s.heap t items) (hs : s.heap.IsSliceOf sl vl vu vs) (pl : IsPart vl none) (pu : IsPart vu none) (ps : IsPart vs (some (-1)))
    (h : Q (.ref s.heap.objs.size) { s with heap := s.heap.push { cls := .type "tuple", data := .seq items.toList.reverse.toArray } }) (hsz : items.size ≤ sizeLine) : wpAny (model prog w) A (getItem (.ref t) (.ref sl)) Q E s := by
  have hok : sizeOk (.seq items.toList.reverse.toArray) := by
    show items.toList.reverse.toArray.size ≤ sizeLine
    simpa using hsz
  obtain ⟨os, hos, hcs, hds⟩ := id hs
  have hTs : s.TypeIs (.ref sl) "slice" := ⟨os, hos, hcs⟩
  unfold getItem
  try with_reducible refine wpAny_holding ?_
  first | refine wpAny_bind (wpAny_pure ?_) | skip
  refine wpAny_bind (wpAny_sequenceKey ht.typeIs (by decide) ?_)
  refine wpAny_bind (wpAny_callSpecial?_slot (name := Str.ofString "__getitem__") ht.typeIs PyProof.Rows.slot_tuple_getitem (wpAny_call_entry PyProof.Rows.slot_tuple_getitem ht.typeIs entry_tuple_getitem ?_ (args_tuple_getitem _ _)))
  show wpAny _ _ (Builtin.Tuple.tupleItemsOf (.ref t) >>= _) _ _ s
  refine wpAny_bind (tupleItemsOf_ ht (wpAny_bind (wpAny_typeOf hTs ?_)))
  rw [if_pos (by decide)]
  refine wpAny_bind (app_rev hs pl pu ps ?_)
  have hno : ¬ ((((items.size : Int) - 1) == 0 && (-1 : Int) == 1 && items.size == items.size) = true) := by simp
  show wpAny _ _ (if ((((items.size : Int) - 1) == 0 && (-1 : Int) == 1 && items.size == items.size)) = true then _ else _) _ _ s
  rw [if_neg hno, pick_rev]
  first
    | exact wpAny_bind (m := Builtin.Tuple.tupleExact _) (wpAny_newObj_type (wpAny_pure ⟨_, rfl, wpAny_pure h⟩) hok)
    | exact wpAny_bind (m := Builtin.Tuple.tupleExact _) (wpAny_newObj_type (wpAny_bind (wpAny_pure (wpAny_pure ⟨_, rfl, wpAny_pure h⟩))) hok)
end
def tRevU (K : PySem.W.Frag) (te : TE) : TE := fun σ H Q => te σ H fun x H1 => ∃ a xs, x = .ref a ∧ SqT K H1 a xs ∧ ∀ p, H1 p = none → Q (.ref p) (upd H1 p (.tup xs.reverse))
theorem pe_revU {X : Cx} {e : Expr} {te : TE} {k : Nat} {p1 p2 p3 pos : Pos} (he : PE X e te) : PE X (.Subscript e (.Slice none none (some (.UnaryOp .USub (.Constant (.int 1) k p1) p2)) p3) pos) (tRevU X.K te) := by
  refine ⟨fun pins s σ H Q I h => ?_⟩
  refine Subscript_ (thn (he.run pins s σ H _ I h) fun v s1 ⟨x, H1, I1, r1, a, xs, ex, hx, q⟩ => ?_)
  subst ex
  cases r1
  have hst : PO X (some (.UnaryOp .USub (.Constant (.int 1) k p1) p2)) (tPart (tUn (rU fun i => .int (-i)) (tC (.int 1)))) := po_some (pe_un un_neg pe_int)
  refine wpAny_Slice (thn (po_none.run pins s1 σ H1 (fun o H2 => o = none ∧ H2 = H1) I1 ⟨rfl, rfl⟩) fun vl s2 ⟨l, H2, I2, pl, el, e2⟩ => ?_)
  subst el e2
  refine thn (po_none.run pins s2 σ H2 (fun o H3 => o = none ∧ H3 = H2) I2 ⟨rfl, rfl⟩) fun vu s3 ⟨u, H3, I3, pu, eu, e3⟩ => ?_
  subst eu e3
  refine thn (hst.run pins s3 σ H3 (fun o H4 => o = some (-1) ∧ H4 = H3) I3 ⟨1, rfl, -1, rfl, rfl, rfl⟩) fun vs s4 ⟨o, H4, I4, ps, eo, e4⟩ => ?_
  subst eo e4
  have I5 : Inv X pins σ H4 { s4 with heap := s4.heap.push { cls := .type "slice", data := .fields #[vl, vu, vs] } } := I4.kept (t' := s4.toks) fun b ob q => Heap.get?_push_of_some _ q
  obtain ⟨its, r, ht, hz⟩ := I5.tuple hx
  have hlen := r.length
  show wpAny (model X.prog X.w) X.A (subscriptTail e (.Slice none none (some (.UnaryOp .USub (.Constant (.int 1) k p1) p2)) p3) (.ref a) (.ref s4.heap.objs.size)) (EP X pins σ Q) X.xe { s4 with heap := s4.heap.push { cls := .type "slice", data := .fields #[vl, vu, vs] } }
  refine tail_any (ops := [.ref a, .ref s4.heap.objs.size]) ht.typeIs (PyProof.Rows.slot_tuple_getitem.lookup) ?_ (by with_unfolding_all rfl)
  refine get_rev ht (Heap.IsSliceOf.new _ vl vu vs) pl pu ps ?_ (by rw [List.size_toArray]; omega)
  refine ⟨.ref _, _, I5.laid (t' := s4.toks) (o := .tup xs.reverse) (fun b ob q => Heap.get?_push_of_some _ q) (Nat.le_refl _) ?_, rfl, q _ (I5.hok.fresh (Nat.le_refl _))⟩
  exact ⟨by rw [List.length_reverse]; exact hz, _, r.reverse, ⟨_, Heap.get?_push_size _ rfl, rfl, 0, rfl⟩⟩
def eRevU (m : M IV) : M IV := m.bind fun x => M.opt (match x with
  | .tup xs => some (.tup xs.reverse)
  | _ => none)
theorem je_revU {X : Cx} {n : Nat} {W : WX} {a : Expr} {ma : M IV} {k : Nat} {p1 p2 p3 pos : Pos} (ha : JE X n W a ma) : JE X n W (.Subscript a (.Slice none none (some (.UnaryOp .USub (.Constant (.int 1) k p1) p2)) p3) pos) (eRevU ma) := by
  refine pe_imp (pe_revU ha) fun σ H Q q => ?_
  obtain ⟨F, ρ, cs, σi, hs, hl, hp⟩ := q
  refine go hs hl hp fun v H1 F1 ρ1 cs1 x st1 hs1 hl1 r1 hp1 => ?_
  obtain ⟨z, hz, hq⟩ := pst_opt hp1
  split at hz
  · cases hz
    simp only [Rel] at r1
    obtain ⟨a, vs, rfl, h1, h2⟩ := r1
    refine ⟨a, vs, rfl, sqT_mono hs1.fz h1, fun p hp => ?_⟩
    obtain ⟨hs', st⟩ := hs1.new (o := .tup vs.reverse) hp
    exact hq _ _ _ _ st hs' (by simp only [Rel]; exact ⟨p, _, rfl, .inl (.inl upd_same), h2.reverse.stp st⟩)
  · cases hz
end SL

set_option Elab.async false
set_option linter.all false
set_option autoImplicit false
set_option maxRecDepth 100000
set_option maxHeartbeats 4000000
/-! SLNice: plain values of small size: their texts, kinds, equality with themselves. -/
namespace SL
open PySem PySem.Spec L2
open PyProof.Rows hiding St
def nicS (s : Str) : Bool := decide (s.cps.size ≤ 100) && s.cps.all (· < 0x110000)
def nicK : Key → Bool
  | .inl i => decide (i.natAbs < 10 ^ 38)
  | .inr s => nicS s
def wtK : Key → Nat
  | .inl _ => 1
  | .inr s => s.cps.size + 1
def wtKs : List Key → Nat
  | [] => 0
  | k :: ks => wtK k + wtKs ks
mutual
/-- plain data: short texts, whole numbers of few digits -/
def nic : IV → Bool
  | .non => true
  | .bl _ => true
  | .int i => decide (i.natAbs < 10 ^ 38)
  | .str s => nicS s
  | .tup xs => nicL xs
  | .lst xs => nicL xs
  | .dct ks xs => ks.all nicK && nicL xs
  | _ => false
def nicL : List IV → Bool
  | [] => true
  | x :: xs => nic x && nicL xs
end
mutual
/-- how much there is of it -/
def wtI : IV → Nat
  | .str s => s.cps.size + 1
  | .tup xs => 1 + wtL xs
  | .lst xs => 1 + wtL xs
  | .dct ks xs => 1 + wtKs ks + wtL xs
  | _ => 1
def wtL : List IV → Nat
  | [] => 0
  | x :: xs => wtI x + wtL xs
end
mutual
def dpI : IV → Nat
  | .tup xs => dpL xs + 1
  | .lst xs => dpL xs + 1
  | .dct _ xs => dpL xs + 1
  | _ => 0
def dpL : List IV → Nat
  | [] => 0
  | x :: xs => max (dpI x) (dpL xs)
end
mutual
/-- without dicts -/
def noD : IV → Bool
  | .tup xs => noDL xs
  | .lst xs => noDL xs
  | .dct _ _ => false
  | _ => true
def noDL : List IV → Bool
  | [] => true
  | x :: xs => noD x && noDL xs
end
structure NP (w k : Nat) (flat : Bool) (d : PyData) : Prop where
  sh : d.showable = true
  lv : d.leavesShort 40 = true
  bk : d.bulk + 1 ≤ w
  dp : d.depth ≤ k
  ft : flat = true → d.canLay0 = true
structure NPL (w k : Nat) (flat : Bool) (d : List PyData) : Prop where
  sh : PyData.showableAll d = true
  lv : PyData.leavesShortAll 40 d = true
  bk : PyData.bulkAll d ≤ w
  dp : PyData.depthAll d ≤ k
  ft : flat = true → PyData.canLayAll0 d = true
theorem int_np {i : Int} (h : i.natAbs < 10 ^ 38) : (PyData.int i).showable = true ∧ (PyData.int i).leavesShort 40 = true := by
  refine ⟨?_, ?_⟩
  · have : i.natAbs < 2 ^ 1900 := Nat.lt_trans h (by decide)
    have := log_le this (by decide)
    simp only [PyData.showable, decide_eq_true_eq]; omega
  · have := int_text_length_le10 (a := i) (k := 38) (by decide) h
    simp only [PyData.leavesShort, decide_eq_true_eq]
    show (Str.ofString (toString i)).length ≤ _
    rw [strlen_of]
    omega
theorem str_np {s : Str} (h : nicS s = true) : (s.cps.toList.all fun c => decide (c < 16 ^ 8)) = true ∧ PyData.strOk s = true := by
  unfold nicS at h
  simp only [Bool.and_eq_true] at h
  refine ⟨?_, h.2⟩
  have h2 := h.2
  rw [← Array.all_toList] at h2
  rw [List.all_eq_true] at h2 ⊢
  intro c hc
  have := h2 c hc
  simp only [decide_eq_true_eq] at this ⊢
  omega
theorem kv_np : ∀ (ks : List Key) (ds : List PyData), ks.all nicK = true → PyData.showableAll ds = true → PyData.leavesShortAll 40 ds = true →
    PyData.showableKv ((ks.map keyPy).zip ds) = true ∧ PyData.leavesShortKv 40 ((ks.map keyPy).zip ds) = true ∧ PyData.bulkKv ((ks.map keyPy).zip ds) ≤ wtKs ks + PyData.bulkAll ds ∧ PyData.depthKv ((ks.map keyPy).zip ds) ≤ PyData.depthAll ds
  | [], ds, _, _, _ => ⟨rfl, rfl, Nat.zero_le _, Nat.zero_le _⟩
  | k :: ks, [], _, _, _ => ⟨rfl, rfl, Nat.zero_le _, Nat.zero_le _⟩
  | k :: ks, d :: ds, h, h1, h2 => by
    simp only [List.all_cons, Bool.and_eq_true] at h
    simp only [PyData.showableAll, Bool.and_eq_true] at h1
    simp only [PyData.leavesShortAll, Bool.and_eq_true] at h2
    obtain ⟨a1, a2, a3, a4⟩ := kv_np ks ds h.2 h1.2 h2.2
    have hk : (keyPy k).showable = true ∧ (keyPy k).leavesShort 40 = true ∧ (keyPy k).bulk + 1 ≤ wtK k ∧ (keyPy k).depth = 0 := by
      cases k with
      | inl i =>
        have := int_np (of_decide_eq_true h.1)
        exact ⟨this.1, this.2, by simp only [keyPy, PyData.bulk, wtK]; omega, by simp only [keyPy, PyData.depth]⟩
      | inr s => exact ⟨by simp only [keyPy, PyData.showable], by simp only [keyPy, PyData.leavesShort]; exact (str_np h.1).1, by simp only [keyPy, PyData.bulk, wtK]; omega, by simp only [keyPy, PyData.depth]⟩
    obtain ⟨b1, b2, b3, b4⟩ := hk
    simp only [List.map_cons, List.zip_cons_cons, PyData.showableKv, PyData.leavesShortKv, PyData.bulkKv, PyData.depthKv, PyData.bulkAll, PyData.depthAll, wtKs, Bool.and_eq_true]
    refine ⟨⟨⟨b1, h1.1⟩, a1⟩, ⟨⟨b2, h2.1⟩, a2⟩, ?_, ?_⟩
    · omega
    · omega
mutual
theorem nic_py : ∀ x : IV, nic x = true → ∃ d, toPy x = some d ∧ NP (wtI x) (dpI x) (noD x) d
  | .non, _ => ⟨_, rfl, by simp only [PyData.showable], by simp only [PyData.leavesShort], by simp only [PyData.bulk, wtI]; omega, by simp only [PyData.depth]; omega, fun _ => by simp only [PyData.canLay0]⟩
  | .bl b, _ => ⟨_, rfl, by simp only [PyData.showable], by simp only [PyData.leavesShort], by simp only [PyData.bulk, wtI]; omega, by simp only [PyData.depth]; omega, fun _ => by simp only [PyData.canLay0]⟩
  | .int i, h => by
    simp only [nic, decide_eq_true_eq] at h
    exact ⟨_, rfl, (int_np h).1, (int_np h).2, by simp only [PyData.bulk, wtI]; omega, by simp only [PyData.depth]; omega, fun _ => by simp only [PyData.canLay0]⟩
  | .str s, h => by
    simp only [nic] at h
    exact ⟨_, rfl, by simp only [PyData.showable], by simp only [PyData.leavesShort]; exact (str_np h).1, by simp only [PyData.bulk, wtI]; omega, by simp only [PyData.depth]; omega, fun _ => by simp only [PyData.canLay0]; exact (str_np h).2⟩
  | .tup xs, h => by
    simp only [nic] at h
    obtain ⟨ds, e, n⟩ := nicL_py xs h
    exact ⟨.tuple ds, by simp only [toPy, e, Option.map_some], by simp only [PyData.showable]; exact n.sh, by simp only [PyData.leavesShort]; exact n.lv, by have := n.bk; simp only [PyData.bulk, wtI]; omega, by have := n.dp; simp only [PyData.depth, dpI]; omega, fun z => by simp only [PyData.canLay0]; exact n.ft (by simpa only [noD] using z)⟩
  | .lst xs, h => by
    simp only [nic] at h
    obtain ⟨ds, e, n⟩ := nicL_py xs h
    exact ⟨.list ds, by simp only [toPy, e, Option.map_some], by simp only [PyData.showable]; exact n.sh, by simp only [PyData.leavesShort]; exact n.lv, by have := n.bk; simp only [PyData.bulk, wtI]; omega, by have := n.dp; simp only [PyData.depth, dpI]; omega, fun z => by simp only [PyData.canLay0]; exact n.ft (by simpa only [noD] using z)⟩
  | .dct ks xs, h => by
    simp only [nic, Bool.and_eq_true] at h
    obtain ⟨ds, e, n⟩ := nicL_py xs h.2
    obtain ⟨a1, a2, a3, a4⟩ := kv_np ks ds h.1 n.sh n.lv
    exact ⟨.dict ((ks.map keyPy).zip ds), by simp only [toPy, e, Option.map_some], by simp only [PyData.showable]; exact a1, by simp only [PyData.leavesShort]; exact a2, by have := n.bk; simp only [PyData.bulk, wtI]; omega, by have := n.dp; simp only [PyData.depth, dpI]; omega, fun z => by simp only [noD] at z; cases z⟩
  | .rol _, h => by simp only [nic] at h; cases h
  | .ty _, h => by simp only [nic] at h; cases h
  | .glb _, h => by simp only [nic] at h; cases h
  | .cell _, h => by simp only [nic] at h; cases h
  | .obj _ _ _, h => by simp only [nic] at h; cases h
theorem nicL_py : ∀ xs : List IV, nicL xs = true → ∃ ds, toPyL xs = some ds ∧ NPL (wtL xs) (dpL xs) (noDL xs) ds
  | [], _ => ⟨[], rfl, rfl, rfl, Nat.zero_le _, Nat.zero_le _, fun _ => rfl⟩
  | x :: xs, h => by
    simp only [nicL, Bool.and_eq_true] at h
    obtain ⟨d, e1, n1⟩ := nic_py x h.1
    obtain ⟨ds, e2, n2⟩ := nicL_py xs h.2
    refine ⟨d :: ds, by simp only [toPyL, e1, e2], ?_, ?_, ?_, ?_, fun z => ?_⟩
    · simp only [PyData.showableAll, n1.sh, n2.sh, Bool.and_self]
    · simp only [PyData.leavesShortAll, n1.lv, n2.lv, Bool.and_self]
    · have := n1.bk; have := n2.bk
      simp only [PyData.bulkAll, wtL]; omega
    · have := n1.dp; have := n2.dp
      simp only [PyData.depthAll, dpL]; omega
    · simp only [noDL, Bool.and_eq_true] at z
      simp only [PyData.canLayAll0, n1.ft z.1, n2.ft z.2, Bool.and_self]
end
/-! in use -/
theorem nic_repr {x : IV} (h : nic x = true) (hw : wtI x ≤ 23000) (hd : dpI x ≤ 60) : ∃ s : Str, reprOf x = some (.str s) := by
  obtain ⟨d, e, n⟩ := nic_py x h
  have h1 := PyData.shown_le_bulk 40 (by decide) d n.lv
  have h2 : d.shown.length ≤ 1000000 := by have := n.bk; omega
  refine ⟨d.shown, ?_⟩
  unfold reprOf
  rw [e]
  exact if_pos ⟨n.sh, Nat.le_trans n.dp hd, h2⟩
theorem nic_eqG {x : IV} (h : nic x = true) (hf : noD x = true) (hd : dpI x ≤ 60) : cEqG x x = some true := by
  obtain ⟨d, e, n⟩ := nic_py x h
  have hs : SeqAt.shaped d = true := by
    unfold SeqAt.shaped
    rw [n.ft hf, Bool.true_and, decide_eq_true_eq]
    have := n.dp; omega
  unfold cEqG
  rw [e]
  dsimp only
  rw [if_pos ⟨hs, hs⟩, SeqAt.eqv_refl d (n.ft hf)]
theorem nic_eqD {x : IV} (h : nic x = true) (hf : noD x = true) (hd : dpI x ≤ 60) : cEqD x x = some true := by
  cases x with
  | int i => show some (decide _) = _; simp
  | str i => show some (decide _) = _; simp
  | tup xs => cases xs with
    | nil => rfl
    | cons y ys => exact nic_eqG h hf hd
  | lst xs => cases xs with
    | nil => rfl
    | cons y ys => exact nic_eqG h hf hd
  | rol xs => simp only [nic] at h; cases h
  | _ => exact nic_eqG h hf hd
theorem nic_eq {x : IV} (h : nic x = true) (hf : noD x = true) (hd : dpI x ≤ 60) : cEq x x = some (.bl true) := by
  unfold cEq; rw [nic_eqD h hf hd]; rfl
theorem nic_ne {x : IV} (h : nic x = true) (hf : noD x = true) (hd : dpI x ≤ 60) : cNe x x = some (.bl false) := by
  unfold cNe; rw [nic_eqD h hf hd]; rfl
theorem nic_plain {x : IV} (h : nic x = true) : plainI x = true := by
  cases x with
  | str s =>
    simp only [nic, nicS, Bool.and_eq_true, decide_eq_true_eq] at h
    have h1 := h.1
    show decide (s.cps.size ≤ 1000000) = true
    simp only [decide_eq_true_eq]; omega
  | _ => first | rfl | (simp only [nic] at h; cases h)
theorem nicL_iff {xs : List IV} : nicL xs = true ↔ ∀ x ∈ xs, nic x = true := by
  induction xs with
  | nil => simp [nicL]
  | cons x xs ih => simp [nicL, ih]
theorem noDL_iff {xs : List IV} : noDL xs = true ↔ ∀ x ∈ xs, noD x = true := by
  induction xs with
  | nil => simp [noDL]
  | cons x xs ih => simp [noDL, ih]
theorem dpL_le {xs : List IV} {k : Nat} : dpL xs ≤ k ↔ ∀ x ∈ xs, dpI x ≤ k := by
  induction xs with
  | nil => simp [dpL]
  | cons x xs ih =>
    simp only [dpL, List.mem_cons, forall_eq_or_imp, ← ih]
    omega
theorem wtL_app {xs ys : List IV} : wtL (xs ++ ys) = wtL xs + wtL ys := by
  induction xs with
  | nil => simp [wtL]
  | cons x xs ih => simp only [List.cons_append, wtL, ih]; omega
theorem wtL_le {xs : List IV} {b : Nat} (h : ∀ x ∈ xs, wtI x ≤ b) : wtL xs ≤ b * xs.length := by
  induction xs with
  | nil => simp [wtL]
  | cons x xs ih =>
    have h1 := h x (by simp)
    have h2 := ih (fun y hy => h y (by simp [hy]))
    simp only [wtL, List.length_cons, Nat.mul_succ]
    omega
/-- nice, of at most this size and depth -/
structure Nice (b k : Nat) (x : IV) : Prop where
  n : nic x = true
  w : wtI x ≤ b
  d : dpI x ≤ k
theorem Nice.mono {b k b' k' : Nat} {x : IV} (h : Nice b k x) (h1 : b ≤ b') (h2 : k ≤ k') : Nice b' k' x := ⟨h.n, Nat.le_trans h.w h1, Nat.le_trans h.d h2⟩
theorem Nice.tup {b k c : Nat} {xs : List IV} (h : ∀ x ∈ xs, Nice b k x) (hc : xs.length ≤ c) : Nice (1 + b * c) (k + 1) (.tup xs) := by
  refine ⟨by simp only [nic]; exact nicL_iff.mpr fun x hx => (h x hx).n, ?_, ?_⟩
  · have := wtL_le fun x hx => (h x hx).w
    have h2 := Nat.mul_le_mul_left b hc
    simp only [wtI]; omega
  · have := dpL_le.mpr fun x hx => (h x hx).d
    simp only [dpI]; omega
theorem Nice.lst {b k c : Nat} {xs : List IV} (h : ∀ x ∈ xs, Nice b k x) (hc : xs.length ≤ c) : Nice (1 + b * c) (k + 1) (.lst xs) := by
  refine ⟨by simp only [nic]; exact nicL_iff.mpr fun x hx => (h x hx).n, ?_, ?_⟩
  · have := wtL_le fun x hx => (h x hx).w
    have h2 := Nat.mul_le_mul_left b hc
    simp only [wtI]; omega
  · have := dpL_le.mpr fun x hx => (h x hx).d
    simp only [dpI]; omega
/-- of parts: [x, y] -/
theorem Nice.two {b k b' k' : Nat} {x y : IV} (h : Nice b k x) (h2 : Nice b' k' y) : Nice (1 + b + b') (max k k' + 1) (.lst [x, y]) := by
  have := h.w; have := h2.w; have := h.d; have := h2.d
  refine ⟨by simp only [nic, nicL, h.n, h2.n, Bool.and_self], ?_, ?_⟩
  · simp only [wtI, wtL]; omega
  · simp only [dpI, dpL]; omega
theorem nice_int {i : Int} (h : i.natAbs < 10 ^ 38) : Nice 1 0 (.int i) := ⟨by simp only [nic, decide_eq_true_eq]; exact h, by simp only [wtI]; omega, by simp only [dpI]; omega⟩
theorem nice_non : Nice 1 0 .non := ⟨rfl, by simp only [wtI]; omega, by simp only [dpI]; omega⟩
theorem nice_bl {b : Bool} : Nice 1 0 (.bl b) := ⟨rfl, by simp only [wtI]; omega, by simp only [dpI]; omega⟩
theorem nice_str {s : Str} {b : Nat} (h : nicS s = true) (hb : s.cps.size + 1 ≤ b) : Nice b 0 (.str s) := ⟨by simp only [nic]; exact h, by simp only [wtI]; exact hb, by simp only [dpI]; omega⟩
/-! what a draw changes -/
structure Dr (c : Nat) (cs cs' : List Cell) : Prop where
  l : cs'.length = cs.length
  o : ∀ j, j ≠ c → cs'[j]? = cs[j]?
theorem Dr.rfl {c : Nat} {cs : List Cell} : Dr c cs cs := ⟨by simp, fun _ _ => by simp⟩
theorem Dr.tr {c : Nat} {cs cs' cs'' : List Cell} (h : Dr c cs cs') (h2 : Dr c cs' cs'') : Dr c cs cs'' := ⟨h2.l.trans h.l, fun j hj => (h2.o j hj).trans (h.o j hj)⟩
theorem draw_dr {n c : Nat} {cs : List Cell} {many : Int} (hg : Good c cs) (hm : 0 < many) : ∃ r cs', fnM 3 drawM n [.cell c, .int many] cs = .ok (.int r) cs' ∧ Good c cs' ∧ Dr c cs cs' ∧ 0 ≤ r ∧ r < many := by
  obtain ⟨ys, k, h0, hc⟩ := hg
  have e0 : ∀ i : Int, ixI cs (.cell c) (.int i) = atI [.lst (intL ys), .int k] i := fun i => ixI_cell hc
  have a0 : ∀ x y : IV, atI [x, y] 0 = some x := fun _ _ => id _root_.rfl
  have a1 : ∀ x y : IV, atI [x, y] 1 = some y := fun _ _ => id _root_.rfl
  have hlt : c < cs.length := by
    rcases Nat.lt_or_ge c cs.length with h | h
    · exact h
    · rw [List.getElem?_eq_none h] at hc; cases hc
  have hs : ∀ σ, setR σ cs (.cell c) (.int 1) (.int ((k : Int) + 1)) = .next σ (cs.set c (.lst [.lst (intL ys), .int ((k + 1 : Nat) : Int)])) := fun σ => by
    unfold setR; dsimp only; rw [hc]; rfl
  have hd : Dr c cs (cs.set c (.lst [.lst (intL ys), .int ((k + 1 : Nat) : Int)])) := ⟨by simp, fun j hj => by rw [List.getElem?_set_ne (fun z => hj z.symm)]⟩
  generalize hcs : cs.set c (.lst [.lst (intL ys), .int ((k + 1 : Nat) : Int)]) = cs' at hs hd
  have hc' : cs'[c]? = some (.lst [.lst (intL ys), .int ((k + 1 : Nat) : Int)]) := by rw [← hcs, List.getElem?_set_self hlt]
  have e0' : ∀ i : Int, ixI cs' (.cell c) (.int i) = atI [.lst (intL ys), .int ((k + 1 : Nat) : Int)] i := fun i => ixI_cell hc'
  have hl : fLen cs' [.lst (intL ys)] = some (.int ys.length) := by show some (IV.int (intL ys).length) = _; rw [intL_len]
  have hg' : Good c cs' := ⟨ys, k + 1, h0, hc'⟩
  have hi : ∀ y : Int, fInt cs' [.int y] = some (.int y) := fun y => id _root_.rfl
  by_cases hk : k < ys.length
  · obtain ⟨y, ey⟩ : ∃ y, ys[k]? = some y := ⟨_, List.getElem?_eq_getElem hk⟩
    have ei : atI (intL ys) (k : Int) = some (.int y) := by rw [atN, intL_get, ey]; rfl
    refine ⟨y % many, cs', ?_, hg', hd, Int.emod_nonneg _ (by omega), Int.emod_lt_of_pos _ hm⟩
    unfold drawM
    simp [startI, e0, a0, a1, hs, e0', hl, hk, ei, hi, modI hm, List.replicate]
  · refine ⟨0, cs', ?_, hg', hd, by omega, hm⟩
    unfold drawM
    simp [startI, e0, a0, a1, hs, e0', hl, hk, List.replicate]
/-- a loop that keeps I, up to the first bad item -/
theorem for_find {gm : GM} {b : SM} {n : Nat} {cs : List Cell} (I : List SV → Prop) (bad : IV → Bool) (R : IV → SR → Prop) : ∀ (xs : List IV) (σ : List SV), I σ →
    (∀ x ∈ xs, ∀ σ, I σ → ∃ σ1, gm x σ = some σ1 ∧ (bad x = false → ∃ σ2, b n σ1 cs = .next σ2 cs ∧ I σ2) ∧ (bad x = true → (∃ v, b n σ1 cs = .ret v cs ∧ R x (.ret v cs)) ∨ ∃ e σ2, b n σ1 cs = .ex e σ2 cs ∧ R x (.ex e σ2 cs))) →
    (xs.find? bad = none → ∃ σ', forL gm b n xs σ cs = .next σ' cs ∧ I σ') ∧ ∀ x, xs.find? bad = some x → R x (forL gm b n xs σ cs)
  | [], σ, hi, h => ⟨fun _ => ⟨σ, _root_.rfl, hi⟩, fun _ z => by cases z⟩
  | x :: xs, σ, hi, h => by
    obtain ⟨σ1, h1, h2, h3⟩ := h x (by simp) σ hi
    cases e : bad x with
    | false =>
      obtain ⟨σ2, h4, h5⟩ := h2 e
      rw [for_next h1 h4, List.find?_cons, e]
      exact for_find I bad R xs σ2 h5 fun y hy => h y (by simp [hy])
    | true =>
      refine ⟨fun z => ?_, fun y z => ?_⟩
      · rw [List.find?_cons, e] at z; cases z
      · rw [List.find?_cons, e] at z
        cases z
        rcases h3 e with ⟨v, h4, h5⟩ | ⟨ex, σ2, h4, h5⟩
        · rw [for_ret h1 h4]; exact h5
        · rw [forL, h1]; dsimp only; rw [h4]; exact h5
end SL

set_option Elab.async false
set_option linter.all false
set_option autoImplicit false
set_option maxRecDepth 100000
set_option maxHeartbeats 4000000
/-! SLSimp2: how the later mirrors are worked out. -/
namespace SL
open PySem PySem.Spec L2
open PyProof.Rows hiding St
section
variable {n : Nat} {σ : List SV} {cs cs' : List Cell}
def enT (xs : List IV) : Option (List IV) := match xs with
  | [.tup ys] => some (enI ys 0)
  | _ => none
@[simp] theorem enT_tup {xs : List IV} : enT [.tup xs] = some (enI xs 0) := id rfl
@[simp] theorem ev_mEnT {m : M (List IV)} : mEnT m n σ cs = (m n σ cs).th (k := fun xs cs1 => optR (enT xs) cs1) := by
  unfold mEnT; simp only [ev_bind, ev_opt]; rfl
def revUI (x : IV) : Option IV := match x with
  | .tup xs => some (.tup xs.reverse)
  | _ => none
@[simp] theorem revU_tup {xs : List IV} : revUI (.tup xs) = some (.tup xs.reverse) := id rfl
@[simp] theorem ev_revU {m : M IV} : eRevU m n σ cs = (m n σ cs).th (k := fun x cs1 => optR (revUI x) cs1) := by
  unfold eRevU; simp only [ev_bind, ev_opt]; rfl
@[simp] theorem ev_frz {m : M IV} : eFrz m n σ cs = (m n σ cs).th (k := fun x cs' => .ok (frzV x cs').1 (frzV x cs').2) := id rfl
@[simp] theorem ev_lstC {m : M (List IV)} : eLstC m n σ cs = (m n σ cs).th (k := fun xs cs1 => if xs.length ≤ 1000000 then .ok (.cell cs1.length) (cs1 ++ [.lst xs]) else .stuck) := id rfl
@[simp] theorem ev_dis0 : eDis0 n σ cs = .ok (.cell cs.length) (cs ++ [.dct [] []]) := id rfl
@[simp] theorem ev_getD {mo m mf : M IV} : eGetD mo m mf n σ cs = (mo n σ cs).th (k := fun x cs1 => if (dcI x cs1).isSome = true then (m n σ cs1).th (k := fun y cs2 => (mf n σ cs2).th (k := fun z cs3 => optR (dgI x y z cs3) cs3)) else .stuck) := by
  unfold eGetD; simp only [ev_bind, ev_cells]
@[simp] theorem ev_items {m : M IV} : eItems m n σ cs = (m n σ cs).th (k := fun x cs1 => optR (lisI x cs1) cs1) := by
  unfold eItems; simp only [ev_bind, ev_cells]
def newR (o : Option Cell) (cs : List Cell) : Res IV := match o with
  | some c => .ok (.cell cs.length) (cs ++ [c])
  | none => .stuck
@[simp] theorem newR_some {c : Cell} : newR (some c) cs = .ok (.cell cs.length) (cs ++ [c]) := id rfl
@[simp] theorem ev_callN {f : List Cell → List IV → Option Cell} {m : M (List IV)} : eCallN f m n σ cs = (m n σ cs).th (k := fun xs cs1 => newR (f cs1 xs) cs1) := id rfl
@[simp] theorem ev_mItems {m : M IV} : mItems m n σ cs = (m n σ cs).th (k := fun x cs1 => optR (itemsI x) cs1) := by
  unfold mItems; simp only [ev_bind, ev_opt]
@[simp] theorem ev_mKeys {m : M IV} : mKeys m n σ cs = (m n σ cs).th (k := fun x cs1 => optR (keysI x) cs1) := by
  unfold mKeys; simp only [ev_bind, ev_opt]
def nextC (o : Option (List Cell)) (σ : List SV) : SR := match o with
  | some cs => .next σ cs
  | none => .stuck
@[simp] theorem nextC_some : nextC (some cs) σ = .next σ cs := id rfl
@[simp] theorem ev_dput {mo mi m : M IV} : sDPutI mo mi m n σ cs = thS (m n σ cs) σ (k := fun v cs1 => thS (mo n σ cs1) σ (k := fun x cs2 => thS (mi n σ cs2) σ (k := fun y cs3 => nextC (dputI x y v cs3) σ))) := id rfl
@[simp] theorem ev_sFld {c f : Str} {mo m : M IV} : SL.sFld c f mo m n σ cs = thS (m n σ cs) σ (k := fun y cs1 => thS (mo n σ cs1) σ (k := fun x cs2 => nextC (stoI c f y x cs2) σ)) := id rfl
@[simp] theorem ev_eFld {c f : Str} {m : M IV} : eFld c f m n σ cs = (m n σ cs).th (k := fun x cs1 => optR (fldI c f x cs1) cs1) := by
  unfold eFld; simp only [ev_bind, ev_cells]
@[simp] theorem ev_eMk {c : Str} {fm : FM} {np : Nat} {dxs : List IV} {m : M (List IV)} : eMk c fm np dxs m n σ cs = (m n σ cs).th (k := fun xs cs1 => if (xs ++ dxs).length + 1 = np then mkI c fm (xs ++ dxs) n cs1 else .stuck) := id rfl
@[simp] theorem ev_eProp {c m : Str} {fm : FM} {mo : M IV} : eProp c m fm mo n σ cs = (mo n σ cs).th (k := fun x cs1 => if isIn c m x cs1 = true then okR (fm n [x] cs1) else .stuck) := id rfl
@[simp] theorem okR_ok {x : IV} : okR (.ok x cs) = .ok x cs := id rfl
set_option checkBinderAnnotations false in
def lstCR (o : IV) (cs1 : List Cell) [k : Nat → SR] : SR := match o with
  | .cell j => match cs1[j]? with
    | some (.lst _) => k j
    | _ => .stuck
  | _ => .stuck
def appCR (o : Option Cell) (σ : List SV) (cs2 : List Cell) (j : Nat) (x : IV) : SR := match o with
  | some (.lst xs) => if xs.length < 1000000 then .next σ (cs2.set j (.lst (xs ++ [x]))) else .stuck
  | _ => .stuck
@[simp] theorem ev_sAppC {mo m : M IV} : sAppC mo m n σ cs = thS (mo n σ cs) σ (k := fun o cs1 => lstCR o cs1 (k := fun j => thS (m n σ cs1) σ (k := fun x cs2 => appCR cs2[j]? σ cs2 j x))) := by
  unfold sAppC thS
  congr 1
theorem lstCR_of {j : Nat} {xs : List IV} {k : Nat → SR} (h : cs[j]? = some (.lst xs)) : lstCR (.cell j) cs (k := k) = k j := by
  unfold lstCR; dsimp only; rw [h]
theorem appCR_of {j : Nat} {xs : List IV} {x : IV} (h : xs.length < 1000000) : appCR (some (.lst xs)) σ cs j x = .next σ (cs.set j (.lst (xs ++ [x]))) := if_pos h
set_option checkBinderAnnotations false in
noncomputable def SR.tr (r : SR) [k : Exn → List SV → List Cell → SR] : SR := match r with
  | .ex e σ cs => k e σ cs
  | r => r
@[simp] theorem tr_ex {e : Exn} {k : Exn → List SV → List Cell → SR} : (SR.ex e σ cs).tr (k := k) = k e σ cs := id rfl
@[simp] theorem tr_ret {x : IV} {k : Exn → List SV → List Cell → SR} : (SR.ret x cs).tr (k := k) = .ret x cs := id rfl
@[simp] theorem tr_next {k : Exn → List SV → List Cell → SR} : (SR.next σ cs).tr (k := k) = .next σ cs := id rfl
@[simp] theorem ev_tryL {b : SM} {cl : List Cl} : sTryL b cl n σ cs = (b n σ cs).tr (k := fun e σ' cs' => caughtL cl e n σ' cs') := by
  unfold sTryL SR.tr; cases b n σ cs <;> rfl
end
/-- a cell freezes -/
theorem frzV_ins {cs : List Cell} {k : Nat} {c : Str} {fs : List Str} {xs : List IV} (h : cs[k]? = some (.ins c fs xs)) : frzV (.cell k) cs = (.obj c fs xs, cs.set k .dead) := by
  unfold frzV frzC; dsimp only; rw [h]
theorem frzV_dct {cs : List Cell} {k : Nat} {ks : List Key} {xs : List IV} (h : cs[k]? = some (.dct ks xs)) : frzV (.cell k) cs = (.dct ks xs, cs.set k .dead) := by
  unfold frzV frzC; dsimp only; rw [h]
theorem frzV_lst {cs : List Cell} {k : Nat} {xs : List IV} (h : cs[k]? = some (.lst xs)) : frzV (.cell k) cs = (.lst xs, cs.set k .dead) := by
  unfold frzV frzC; dsimp only; rw [h]
end SL

set_option Elab.async false
set_option linter.all false
set_option autoImplicit false
set_option maxRecDepth 100000
set_option maxHeartbeats 4000000
/-! SLIdx: text.index, membership of plain data in lists, tuples times 0 and 1. -/
namespace SL
open PySem PySem.Spec L2
open PyProof.Rows hiding St
def sIdxI : IV → IV → Option IV
  | .str a, .str b => match Builtin.Str.occurrences a b 0 a.length 1 with
    | i :: _ => some (.int (i : Nat))
    | [] => none
  | _, _ => none
def eSIdx (mo m : M IV) : M IV := mo.bind fun x => match x with
  | .str a => m.bind fun y => M.opt (sIdxI (.str a) y)
  | _ => fun _ _ _ => .stuck
section
variable {X : Cx} {n : Nat} {W : WX} {o e : Expr} {mo m : M IV} {apos pos : Pos}
theorem je_sidx (ho : JE X n W o mo) (he : JE X n W e m) (hs : starEach [e] X.env = [(false, eval e X.env)] := by rfl) (hbase : attributeBase o "index" X.env (eval o X.env) = eval o X.env := by rfl) (hline : (apos.endLine == pos.line) = true := by rfl) : JE X n W (.Call (.Attribute o "index" apos) [e] [] pos) (eSIdx mo m) := by
  refine pe_imp (pe_m1 F.slot_str_index F.type_str_index mt_sindex ho he hs hbase hline) fun σ H Q q => ?_
  obtain ⟨F, ρ, cs, σi, hs, hl, hp⟩ := q
  refine go hs hl hp fun v H1 F1 ρ1 cs1 x st1 hs1 hl1 r1 hp1 => ?_
  cases x with
  | str a =>
    refine ⟨⟨a, relStr r1⟩, go hs1 hl1 hp1 fun u H2 F2 ρ2 cs2 y st2 hs2 hl2 r2 hp2 => ?_⟩
    obtain ⟨z, hz, hq⟩ := pst_opt hp2
    cases y with
    | str b =>
      unfold sIdxI at hz
      dsimp only at hz
      split at hz
      · rename_i i rest ho
        cases hz
        exact ⟨a, b, i, rest, relStr r1, by rw [relStr r2], ho, hq F2 ρ2 H2 _ StpU.refl hs2 (by simp only [Rel])⟩
      · cases hz
    | _ => cases hz
  | _ => exact hp1.elim
end
/-- x in [..], plain data of any depth -/
def cInD (x y : IV) : Option IV := match toPy x, toPy y with
  | some d, some (.list ds) => if SeqAt.shaped d = true ∧ SeqAt.shaped (.list ds) = true then some (.bl (ds.any fun z => PyData.eqv z d)) else none
  | _, _ => none
theorem oj_inD {X : Cx} (hu : X.A.units + 65 < cLine) : OpR X (compareOp .In) (rJ (gx X) cInD) := by
  intro pins s σ H x y v u Q I rx ry h
  obtain ⟨F, ρ, cs, xi, yi, z, hs, hx, hy, hf, q⟩ := h
  unfold cInD at hf
  split at hf
  · rename_i d ds e1 e2
    split at hf
    · rename_i hh
      cases hf
      obtain ⟨as, r1⟩ := (Rel.reads I hs.fz xi hx rx e1).rd
      obtain ⟨bs, r2⟩ := (Rel.reads I hs.fz yi hy ry e2).rd
      exact SeqAt.in_list_reads r2 r1 (SeqAt.canLay_of_shaped hh.2) (SeqAt.canLay_of_shaped hh.1) (room_in_shaped hh.1 hu) ⟨.bl _, H, I, rfl, q F ρ H _ StpU.refl hs (by simp only [Rel])⟩
    · cases hf
  · cases hf
/-! tuples times 0 and 1 -/
theorem mul_one (l : Addr) (its : Array Value) (n : Nat) (dd : Option Addr) (sl : Array (Option Value)) (t : Tok) :
    Meets (Builtin.«tuple.__mul__» ⟨[.ref l, .int 1 t], []⟩) (fun _ R s => s.heap.get? l = some ⟨.type "tuple", dd, .seq its n, sl⟩ ∧ R (.ok (.ret (.ref l))) s) :=
  .of_wp fun prog w A R s h => by
    obtain ⟨hp, g, d, tk, os⟩ := s
    obtain ⟨hl, h⟩ := h
    have f1 := AutoSeq1.idx_int
    wp_walk using wpAny_loadPart' hl
    repeat (first
      | (refine wpAny_ite_true (by simp) ?_; wp_walk using wpAny_loadPart' hl)
      | (refine wpAny_ite_false (by simp) ?_; wp_walk using wpAny_loadPart' hl))
    exact ⟨_, rfl, h⟩
theorem mul_none (l : Addr) (its : Array Value) (n : Nat) (dd : Option Addr) (sl : Array (Option Value)) (k : Int) (t : Tok) (h0 : k ≤ 0) (h1 : -1000 ≤ k) (h2 : its.isEmpty = false) :
    Meets (Builtin.«tuple.__mul__» ⟨[.ref l, .int k t], []⟩) (fun _ R s => s.heap.get? l = some ⟨.type "tuple", dd, .seq its n, sl⟩ ∧ R (.ok (.ret (.ref s.heap.objs.size))) { s with heap := s.heap.push { cls := .type "tuple", data := .seq #[] } }) :=
  .of_wp fun prog w A R s h => by
    obtain ⟨hp, g, d, tk, os⟩ := s
    obtain ⟨hl, h⟩ := h
    have f1 := AutoSeq1.idx_int
    have c0 : ¬ (decide (k < -(2 ^ 63)) || decide (k ≥ 2 ^ 63)) = true := by simp; omega
    have c1 : ¬ (its.isEmpty || k == 1) = true := by
      rw [h2, Bool.false_or, beq_iff_eq]; omega
    have c2 : (decide (k ≤ 0) || its.isEmpty) = true := by rw [decide_eq_true h0, Bool.true_or]
    wp_walk using wpAny_loadPart' hl
    repeat (first
      | (refine wpAny_ite_false (decide_eq_false c0) ?_; wp_walk using wpAny_loadPart' hl)
      | (refine wpAny_ite_false (decide_eq_false c1) ?_; wp_walk using wpAny_loadPart' hl)
      | (refine wpAny_ite_true (decide_eq_true c2) ?_; wp_walk using wpAny_loadPart' hl))
    exact ⟨_, rfl, h⟩
def bMulT : IV → IV → Option IV
  | .tup xs, .int k => if xs.isEmpty = false ∧ -1000 ≤ k ∧ k ≤ 1000 ∧ xs.length ≤ 1000 then some (.tup (repL k.toNat xs)) else none
  | _, _ => none
theorem oj_mulT {X : Cx} : OpR X (binaryOp .Mult) (rJ (gx X) bMulT) := by
  intro pins s σ H x y v u Q I rx ry hh
  obtain ⟨F0, ρ, cs, xi, yi, z, hs, hx, hy, hq, q⟩ := hh
  unfold bMulT at hq
  split at hq
  · rename_i xs k
    split at hq
    · rename_i hz
      cases hq
      obtain ⟨z0, z1, z2, z3⟩ := hz
      have rx0 := hx
      simp only [Rel] at hx
      obtain ⟨a, vs, rfl, h1, r1⟩ := hx
      rw [relInt hy] at ry
      have hlen := r1.len
      have hne : vs ≠ [] := fun e => by
        rw [e] at hlen
        rw [List.eq_nil_of_length_eq_zero hlen] at z0
        cases z0
      by_cases hk : 2 ≤ k
      · refine op_repT pins s σ H _ _ v u Q I rx ry ⟨a, k, vs, rfl, rfl, sqT_mono hs.fz h1, hne, hk, z2, by rw [← hlen]; exact z3, fun p hp => ?_⟩
        obtain ⟨hs', st⟩ := hs.new (o := .tup (repL k.toNat vs)) hp
        refine q _ ρ _ _ st hs' ?_
        simp only [Rel]
        exact ⟨p, _, rfl, .inl (.inl upd_same), (r1.rep k.toNat).stp st⟩
      · obtain ⟨its, ri, ⟨⟨cls, dd, data, sl⟩, ho, hc, m, hd⟩, hsz⟩ := I.tuple (sqT_mono hs.fz h1)
        simp only at hc hd
        subst hc hd
        cases rx
        obtain ⟨t, rfl⟩ := ry
        have hie : its.toArray.isEmpty = false := by
          cases its with
          | nil =>
            have := ri.length
            exact absurd (List.eq_nil_of_length_eq_zero this) hne
          | cons b c => rfl
        refine wpAny_binaryOp_repeat_ref (T := "tuple") (U := "int") (by decide) ⟨_, ho, rfl⟩ (fun _ => typeIs_int _ k t) noFill_tuple_mul F.fills_int_mul F.slot_int_rmul
          repeat_tuple F.slot_int_index.lookup ?_
        refine call_meets F.slot_int_rmul (typeIs_int s k t) F.entry_int_rmul (F.args_int_rmul_2 _ _)
          (int_rmul_tuple k t a its.toArray m dd sl) ⟨ho, rfl, ⟨_, ho, rfl⟩, ?_⟩
        by_cases k1 : k = 1
        · subst k1
          refine call_meets F.slot_tuple_mul ⟨_, ho, rfl⟩ F.entry_tuple_mul (F.args_tuple_mul_2 _ _)
            (mul_one a its.toArray m dd sl t) ⟨ho, ⟨.ref a, H, I, rfl, q F0 ρ H _ StpU.refl hs ?_⟩⟩
          have : repL (1 : Int).toNat xs = xs := by simp [repL]
          rw [this]
          exact rx0
        · refine call_meets F.slot_tuple_mul ⟨_, ho, rfl⟩ F.entry_tuple_mul (F.args_tuple_mul_2 _ _)
            (mul_none a its.toArray m dd sl k t (by omega) z1 hie) ⟨ho, ?_⟩
          have hp : H s.heap.objs.size = none := I.hok.fresh (Nat.le_refl _)
          obtain ⟨hs', st⟩ := hs.new (o := .tup []) hp
          refine ⟨.ref s.heap.objs.size, _, I.laid (t' := s.toks) (o := .tup []) (fun b ob z => Heap.get?_push_of_some _ z) (Nat.le_refl _) ⟨by simp, _, .nil, IsTup.new _ _⟩, rfl, q _ ρ _ _ st hs' ?_⟩
          have : repL k.toNat xs = [] := by
            rw [show k.toNat = 0 by omega]; try rfl
          rw [this]
          simp only [Rel]
          exact ⟨_, [], rfl, .inl (.inl upd_same), .nil⟩
    · cases hq
  · cases hq
theorem un65 {k : Nat} {A : Around} (r : Room k A) : A.units + 65 < cLine := by have := r.un; omega
/-! T.get(k, v), T a table of the module -/
def eKget2 (tab : List (Str × IV)) (m mf : M IV) : M IV := m.bind fun y => match y with
  | .str s => mf.bind fun z => M.pure ((tabV tab s).getD z)
  | _ => fun _ _ _ => .stuck
section
variable {X : Cx} {n : Nat} {W : WX} {e f : Expr} {m mf : M IV}
theorem je_kget2 {x : Str} {d : Addr} {tab : List (Str × IV)} {ap cp np : Pos} (T : KTab X.K X.w d tab) (hm : X.mg x = some (.ref d)) (he : JE X n W e m) (hf : JE X n W f mf) (m2 : M2 X (.Name x np) "get" ap e f cp := by exact ⟨rfl, rfl, rfl, rfl⟩) (hg : Gl X x := by rfl) (hd : (x == ("__debug__" : Str)) = false := by decide) :
    JE X n W (.Call (.Attribute (.Name x np) "get" ap) [e, f] [] cp) (eKget2 tab m mf) := by
  obtain ⟨⟨es, nn, D⟩, val⟩ := T
  refine ⟨fun pins s σ H Q I h => ?_⟩
  refine wpAny_Call_method m2.base m2.few m2.line PySem.F.plainAttrs_dict PySem.F.slot_dict_get PySem.F.type_dict_get (thn ((pe_glob (v := .ref d) hg hm rfl hd).run pins s σ H (fun v H1 => v = .ref d ∧ H1 = H) I ⟨rfl, rfl⟩) fun u s1 ⟨y, H1, I1, rx, ey, eH⟩ => ?_)
  subst ey
  rw [eH] at I1
  obtain rfl : u = Value.ref d := rx
  refine ⟨kd_type D I1, fun b q => ?_, ?_⟩
  · cases q
    exact ⟨_, I1.kIn _ _ D.at_, rfl⟩
  rw [m2.trees]
  have h' : tG (gx X) n W (Rel (gx X)) m σ H fun y H2 => ∃ z, y = .str z ∧ tG (gx X) n W (Rel (gx X)) mf σ H2 fun y2 H3 => ∃ zi F ρ cs, Sim (gx X) F ρ cs H3 ∧ Rel (gx X) F ρ zi y2 ∧ ∀ v, Rel (gx X) F ρ ((tabV tab z).getD zi) v → Q v H3 := by
    obtain ⟨F, ρ, cs, σi, hs, hl, hp⟩ := h
    refine go hs hl hp fun v H1 F1 ρ1 cs1 yi st1 hs1 hl1 r1 hp1 => ?_
    cases yi with
    | str z =>
      refine ⟨z, relStr r1, go hs1 hl1 hp1 fun v2 H2 F2 ρ2 cs2 zi st2 hs2 hl2 r2 hp2 => ?_⟩
      exact ⟨zi, F2, ρ2, cs2, hs2, r2, fun v hv => hp2 F2 ρ2 H2 v StpU.refl hs2 hv⟩
    | _ => exact hp1.elim
  refine Calls.callWith_builtin rfl (Calls.evalArgs_plain (Calls.spliced_cons (thn (he.run pins s1 σ H _ I1 h') fun iv s2 ⟨y, H2, I2, ry, z, ez, q2⟩ => Calls.spliced_cons (thn (hf.run pins s2 σ H2 _ I2 q2) fun iw s3 ⟨y2, H3, I3, ry2, zi, F2, ρ2, cs2, hs2, rz, q⟩ => Calls.spliced_nil ?_))))
  subst ez
  obtain ⟨t, rfl⟩ := (show ∃ t, iv = Value.str z t from ry)
  have hm' := PySem.W.mapOf_K (prog := X.prog) (w := X.w) I3.kIn D.at_ D.lit
  obtain ⟨r, e1, e2⟩ := val z
  refine call_meetsIn PySem.F.slot_dict_get (kd_type D I3) PySem.F.entry_dict_get (PySem.F.args_dict_get_3 _ _ _) (meets_dict_get_default (strKind X.prog X.w) d (strKind_is X.prog X.w z t) D.low iw) ⟨_, hm', ?_⟩
  show EP X pins σ Q ((findBy Value.isStrOf es z).getD iw) _
  rw [PySem.W.find_K D.at_ e1]
  rcases e2 with ⟨a, rfl⟩ | ⟨x', u, v, a, rfl, rv, rr⟩
  · refine ⟨y2, H3, I3.tok _, ry2, q _ ?_⟩
    rw [a]
    exact rz
  · refine ⟨v, H3, I3.tok _, rv, q _ ?_⟩
    rw [a]
    exact rr _ _ _
end
section
variable {n : Nat} {σ : List SV} {cs : List Cell}
theorem ev_kget2 {tab : List (Str × IV)} {m mf : M IV} {s : Str} {cs1 : List Cell} (h : m n σ cs = .ok (.str s) cs1) : eKget2 tab m mf n σ cs = (mf n σ cs1).th (k := fun z cs2 => .ok ((tabV tab s).getD z) cs2) := by
  unfold eKget2; rw [ev_bind, h, then_ok]; try rfl
theorem ev_sidx {mo m : M IV} {s : Str} {cs1 : List Cell} (h : mo n σ cs = .ok (.str s) cs1) : eSIdx mo m n σ cs = (m n σ cs1).th (k := fun y cs2 => optR (sIdxI (.str s) y) cs2) := by
  unfold eSIdx; rw [ev_bind, h, then_ok]; simp only [ev_bind, ev_opt]
end
end SL

set_option Elab.async false
set_option linter.all false
set_option autoImplicit false
set_option maxRecDepth 100000
set_option maxHeartbeats 4000000
/-! SLText: methods of texts: join. -/
namespace SL
open PySem PySem.Spec L2
open PyProof.Rows hiding St
def strsI : List IV → Option (List Str)
  | [] => some []
  | .str s :: r => (strsI r).map (s :: ·)
  | _ :: _ => none
theorem strsI_of : ∀ {xs : List IV} {ss : List Str}, strsI xs = some ss → xs = ss.map IV.str
  | [], ss, h => by cases h; rfl
  | x :: r, ss, h => by
    cases x with
    | str s =>
      obtain ⟨t, h1, rfl⟩ := Option.map_eq_some_iff.mp h
      rw [strsI_of h1]; rfl
    | _ => cases h
theorem strsI_map : ∀ (ss : List Str), strsI (ss.map IV.str) = some ss
  | [] => rfl
  | s :: r => by rw [List.map_cons, strsI, strsI_map r]; rfl
theorem relL_strs {g : Gx} {F : Hp} {ρ : List Addr} : ∀ {ss : List Str} {vs : List V}, RelL g F ρ (ss.map IV.str) vs → vs = ss.map V.str
  | [], vs, h => by
    simp only [List.map_nil, RelL] at h
    exact h
  | s :: r, vs, h => by
    simp only [List.map_cons, RelL] at h
    obtain ⟨v, t, rfl, h1, h2⟩ := h
    rw [relStr h1, relL_strs h2]; rfl
def joinI (a : Str) (y : IV) : Option IV := match y with
  | .lst xs => (strsI xs).bind fun ss => if (ss.map (·.length)).sum + ss.length * a.length ≤ lim then some (.str (Txt.join a ss)) else none
  | .tup xs => (strsI xs).bind fun ss => if (ss.map (·.length)).sum + ss.length * a.length ≤ lim then some (.str (Txt.join a ss)) else none
  | _ => none
/-- s.join(xs) -/
def eJoin (mo m : M IV) : M IV := mo.bind fun x => match x with
  | .str a => m.bind fun y => M.opt (joinI a y)
  | _ => fun _ _ _ => .stuck
section
variable {X : Cx} {n : Nat} {W : WX} {o e : Expr} {mo m : M IV} {apos pos : Pos}
theorem je_join (ho : JE X n W o mo) (he : JE X n W e m) (hs : starEach [e] X.env = [(false, eval e X.env)] := by rfl) (hbase : attributeBase o "join" X.env (eval o X.env) = eval o X.env := by rfl) (hline : (apos.endLine == pos.line) = true := by rfl) : JE X n W (.Call (.Attribute o "join" apos) [e] [] pos) (eJoin mo m) := by
  refine pe_imp (pe_join ho he hs hbase hline) fun σ H Q q => ?_
  obtain ⟨F, ρ, cs, σi, hs, hl, hp⟩ := q
  refine go hs hl hp fun v H1 F1 ρ1 cs1 x st1 hs1 hl1 r1 hp1 => ?_
  cases x with
  | str a =>
    refine ⟨⟨a, relStr r1⟩, go hs1 hl1 hp1 fun u H2 F2 ρ2 cs2 y st2 hs2 hl2 r2 hp2 => ?_⟩
    obtain ⟨z, hz, hq⟩ := pst_opt hp2
    unfold joinI at hz
    split at hz
    · obtain ⟨ss, h1, h2⟩ := Option.bind_eq_some_iff.mp hz
      split at h2
      · rename_i hc
        cases h2
        obtain ⟨p, vs, rfl, h3, h4⟩ := relLst r2
        rw [strsI_of h1] at h4
        have ev := relL_strs h4
        subst ev
        exact ⟨a, p, ss, relStr r1, rfl, .inl (sqL_mono hs2.fz h3), Nat.le_trans hc (by decide), hq F2 ρ2 H2 _ StpU.refl hs2 (by simp only [Rel])⟩
      · cases h2
    · obtain ⟨ss, h1, h2⟩ := Option.bind_eq_some_iff.mp hz
      split at h2
      · rename_i hc
        cases h2
        obtain ⟨p, vs, rfl, h3, h4⟩ := relTup r2
        rw [strsI_of h1] at h4
        have ev := relL_strs h4
        subst ev
        exact ⟨a, p, ss, relStr r1, rfl, .inr (sqT_mono hs2.fz h3), Nat.le_trans hc (by decide), hq F2 ρ2 H2 _ StpU.refl hs2 (by simp only [Rel])⟩
      · cases h2
    · cases hz
  | _ => exact hp1.elim
theorem ev_join {σ : List SV} {cs cs1 : List Cell} {a : Str} (h : mo n σ cs = .ok (.str a) cs1) : eJoin mo m n σ cs = (m n σ cs1).th (k := fun y cs2 => optR (joinI a y) cs2) := by
  unfold eJoin; rw [ev_bind, h, then_ok]; simp only [ev_bind, ev_opt]
@[simp] theorem ev_eMeth {c nm : Str} {fm : FM} {np : Nat} {dxs : List IV} {a : M (List IV)} {σ : List SV} {cs : List Cell} : eMeth c nm fm np dxs mo a n σ cs = (mo n σ cs).th (k := fun x cs1 => if isIn c nm x cs1 = true then (a n σ cs1).th (k := fun xs cs2 => if (x :: (xs ++ dxs)).length = np then fm n (x :: (xs ++ dxs)) cs2 else .stuck) else .stuck) := id rfl
end
end SL

set_option Elab.async false
set_option linter.all false
set_option autoImplicit false
set_option maxRecDepth 100000
set_option maxHeartbeats 4000000
namespace K08
open PySem PySem.Spec L2 SL
open PyProof.Rows hiding St
def topS (i : Nat) : Stmt := PySem.Challenge.pw_whatiftimes_k08_names_and_capacities.main.body.getD i (.Pass ⟨0, 0, 0, 0⟩)
def t_LENGTHS : List (Str × IV) := [("work", (.int 3)), ("take", (.int 2)), ("give", (.int 2)), ("put", (.int 3)), ("get", (.int 2)), ("skip", (.int 3)), ("await", (.int 2))]
abbrev st__law_numbers : Stmt := topS 59
theorem sc__law_numbers : FnScope ["_law_cell", "_law_salt", "_law_sizes", "_law_whole", "_law_left", "_law_result", "_law_k", "_law_one"] ["_law_cell", "_law_salt", "_law_sizes"] (defScope st__law_numbers) := ⟨rfl, rfl, rfl, by decide +kernel, rfl, by decide +kernel, by decide +kernel⟩
def m__law_numbers : SM := sSeq (sSet 3 (eCall fMax2 (aCons (eV 0) (aCons (e2 bSub (eNeg (M.pure (.int 1))) (eV 0)) (aNil))))) (sSeq (sSet 4 (eV 3)) (sSeq (sOwn 5 (aNil)) (sSeq (sFor (mRg1 (aCons (eCall fLen (aCons (eV 2) (aNil))) (aNil))) (gmN 6) (sIf (mAnd (mB (e2 cGe (eV 3) (e2 bPow (M.pure (.int 10)) (M.pure (.int 18))))) (mB (e2 cGt (eV 4) (M.pure (.int 0))))) (sSeq (sApp 5 (e2 bMod (eV 4) (e2c ixI (eV 2) (eV 6)))) (sSet 4 (e2 bFdiv (eV 4) (e2c ixI (eV 2) (eV 6))))) (sSeq (sSet 7 (e2 bMod (e2 bPow (e2 bAdd (e2 bAdd (e2 bMod (eV 3) (M.pure (.int 2147483629))) (e2 bMul (M.pure (.int 7919)) (eV 1))) (M.pure (.int 1))) (M.pure (.int 3))) (M.pure (.int 2147483647)))) (sSeq (sSet 7 (e2 bMod (e2 bMul (e2 bAdd (eV 7) (e2 bMul (M.pure (.int 104729)) (e2 bAdd (eV 6) (M.pure (.int 1))))) (e2 bAdd (eV 6) (M.pure (.int 3)))) (M.pure (.int 2147483629)))) (sSeq (sSet 7 (e2 bMod (e2 bMul (e2 bMod (e2 bPow (eV 7) (M.pure (.int 5))) (M.pure (.int 2147483647))) (M.pure (.int 48271))) (M.pure (.int 2147483629)))) (sApp 5 (e2 bMod (e2 bFdiv (eV 7) (M.pure (.int 16))) (e2c ixI (eV 2) (eV 6))))))))) (sFrz 5 (sRet (eV 5))))))
def f__law_numbers : FM := fnM 8 m__law_numbers
abbrev st__law_draw : Stmt := topS 60
theorem sc__law_draw : FnScope ["_law_state", "_law_many", "_law_at"] ["_law_state", "_law_many"] (defScope st__law_draw) := ⟨rfl, rfl, rfl, by decide +kernel, rfl, by decide +kernel, by decide +kernel⟩
def m__law_draw : SM := sSeq (sSet 2 (e2c ixI (eV 0) (M.pure (.int 1)))) (sSeq (sSetIx (eV 0) (M.pure (.int 1)) (e2 bAdd (eV 2) (M.pure (.int 1)))) (sRet (eIf (mB (e2 cLt (eV 2) (eCall fLen (aCons (e2c ixI (eV 0) (M.pure (.int 0))) (aNil))))) (e2 bMod (eCall fInt (aCons (e2c ixI (e2c ixI (eV 0) (M.pure (.int 0))) (eV 2)) (aNil))) (eV 1)) (M.pure (.int 0)))))
def f__law_draw : FM := fnM 3 m__law_draw
abbrev st_is_word_of_step : Stmt := topS 38
theorem sc_is_word_of_step : FnScope ["value"] ["value"] (defScope st_is_word_of_step) := ⟨rfl, rfl, rfl, by decide +kernel, rfl, by decide +kernel, by decide +kernel⟩
def m_is_word_of_step : SM := sSeq (sIf (mOr (mNot (mT (eCall fIsi (aCons (eV 0) (aCons (M.pure (.ty "tuple")) (aNil)))))) (mOr (mB (e2 cEq (eV 0) (eTup (aNil)))) (mNot (mT (eCall fIsi (aCons (e2c ixI (eV 0) (M.pure (.int 0))) (aCons (M.pure (.ty "str")) (aNil)))))))) (sRet (M.pure (.bl false))) (sNext)) (sRet (e2 cEq (eCall fLen (aCons (eV 0) (aNil))) (eKget t_LENGTHS (e2c ixI (eV 0) (M.pure (.int 0))))))
def f_is_word_of_step : FM := fnM 1 m_is_word_of_step
abbrev st_is_name : Stmt := topS 11
theorem sc_is_name : FnScope ["value", "sign"] ["value"] (defScope st_is_name) := ⟨rfl, rfl, rfl, by decide +kernel, rfl, by decide +kernel, by decide +kernel⟩
def m_is_name : SM := sSeq (sIf (mOr (mNot (mT (eCall fIsi (aCons (eV 0) (aCons (M.pure (.ty "str")) (aNil)))))) (mNot (mB (eChain cLe cLe (M.pure (.int 1)) (eCall fLen (aCons (eV 0) (aNil))) (M.pure (.int 8)))))) (sRet (M.pure (.bl false))) (sNext)) (sRet (eCall fAll (aCons (eLc (mIt (eV 0)) (gmN 1) (M.pure true) (e2 cIn (eV 1) (M.pure (.str "abcdefghijklmnopqrstuvwxyz"))) [1]) (aNil))))
def f_is_name : FM := fnM 2 m_is_name
abbrev st_is_integer : Stmt := topS 15
theorem sc_is_integer : FnScope ["value"] ["value"] (defScope st_is_integer) := ⟨rfl, rfl, rfl, by decide +kernel, rfl, by decide +kernel, by decide +kernel⟩
def m_is_integer : SM := sRet (eAnd (eCall fIsi (aCons (eV 0) (aCons (M.pure (.ty "int")) (aNil)))) (eNot (eCall fIsi (aCons (eV 0) (aCons (M.pure (.ty "bool")) (aNil))))))
def f_is_integer : FM := fnM 1 m_is_integer
abbrev st_is_between : Stmt := topS 16
theorem sc_is_between : FnScope ["value", "least", "most"] ["value", "least", "most"] (defScope st_is_between) := ⟨rfl, rfl, rfl, by decide +kernel, rfl, by decide +kernel, by decide +kernel⟩
def m_is_between : SM := sRet (eAnd (eFn f_is_integer 1 [] (aCons (eV 0) (aNil))) (eChain cLe cLe (eV 1) (eV 0) (eV 2)))
def f_is_between : FM := fnM 3 m_is_between
abbrev st_is_whole_step : Stmt := topS 39
theorem sc_is_whole_step : FnScope ["value", "tasks"] ["value", "tasks"] (defScope st_is_whole_step) := ⟨rfl, rfl, rfl, by decide +kernel, rfl, by decide +kernel, by decide +kernel⟩
def m_is_whole_step : SM := sSeq (sIf (mOr (mNot (mT (eFn f_is_word_of_step 1 [] (aCons (eV 0) (aNil))))) (mAnd (mB (e2 cIn (e2c ixI (eV 0) (M.pure (.int 0))) (M.pure (.tup [(.str "work"), (.str "take"), (.str "give"), (.str "put"), (.str "get")])))) (mNot (mT (eFn f_is_name 1 [] (aCons (e2c ixI (eV 0) (M.pure (.int 1))) (aNil))))))) (sRet (M.pure (.bl false))) (sNext)) (sMatch (e2c ixI (eV 0) (M.pure (.int 0))) (kVal (.str "work") (sRet (eFn f_is_between 3 [] (aCons (e2c ixI (eV 0) (M.pure (.int 2))) (aCons (M.pure (.int 0)) (aCons (M.pure (.int 1000000000000000000000000000000)) (aNil)))))) (kVal (.str "put") (sRet (eFn f_is_between 3 [] (aCons (e2c ixI (eV 0) (M.pure (.int 2))) (aCons (M.pure (.int 0)) (aCons (M.pure (.int 9)) (aNil)))))) (kVal (.str "skip") (sRet (eAnd (eFn f_is_between 3 [] (aCons (e2c ixI (eV 0) (M.pure (.int 1))) (aCons (M.pure (.int 0)) (aCons (M.pure (.int 9)) (aNil))))) (eFn f_is_between 3 [] (aCons (e2c ixI (eV 0) (M.pure (.int 2))) (aCons (M.pure (.int 1)) (aCons (M.pure (.int 20)) (aNil))))))) (kVal (.str "await") (sRet (eAnd (eFn f_is_integer 1 [] (aCons (e2c ixI (eV 0) (M.pure (.int 1))) (aNil))) (eAnd (e2 cLe (M.pure (.int 0)) (e2c ixI (eV 0) (M.pure (.int 1)))) (eOr (e2 cIs (eV 1) (M.pure .non)) (e2 cLt (e2c ixI (eV 0) (M.pure (.int 1))) (eV 1)))))) (kAny (sRet (M.pure (.bl true)))))))))
def f_is_whole_step : FM := fnM 2 m_is_whole_step
abbrev st_is_step : Stmt := topS 47
theorem sc_is_step : FnScope ["value", "tasks"] ["value", "tasks"] (defScope st_is_step) := ⟨rfl, rfl, rfl, by decide +kernel, rfl, by decide +kernel, by decide +kernel⟩
def m_is_step : SM := sRet (eFn f_is_whole_step 2 [] (aCons (eV 0) (aCons (eV 1) (aNil))))
def f_is_step : FM := fnM 2 m_is_step
abbrev st_require_tasks : Stmt := topS 49
theorem sc_require_tasks : FnScope ["tasks", "task", "steps", "index", "step"] ["tasks"] (defScope st_require_tasks) := ⟨rfl, rfl, rfl, by decide +kernel, rfl, by decide +kernel, by decide +kernel⟩
def m_require_tasks : SM := sSeq (sIf (mOr (mNot (mT (eCall fIsi (aCons (eV 0) (aCons (M.pure (.ty "tuple")) (aNil)))))) (mNot (mB (eChain cLe cLe (M.pure (.int 1)) (eCall fLen (aCons (eV 0) (aNil))) (M.pure (.int 6)))))) (sRaise "InvalidProgram" "place" (M.pure .non)) (sNext)) (sSeq (sFor (mEnT (aCons (eV 0) (aNil))) (gmTup 2 (gmCons (gmN 1) (gmCons (gmN 2) (gmNil)))) (sIf (mOr (mNot (mT (eCall fIsi (aCons (eV 2) (aCons (M.pure (.ty "tuple")) (aNil)))))) (mB (e2 cGt (eCall fLen (aCons (eV 2) (aNil))) (M.pure (.int 20))))) (sRaise "InvalidProgram" "place" (eTup (aCons (eV 1) (aCons (M.pure .non) (aNil))))) (sNext))) (sFor (mEnT (aCons (eV 0) (aNil))) (gmTup 2 (gmCons (gmN 1) (gmCons (gmN 2) (gmNil)))) (sFor (mEnT (aCons (eV 2) (aNil))) (gmTup 2 (gmCons (gmN 3) (gmCons (gmN 4) (gmNil)))) (sIf (mNot (mT (eFn f_is_step 2 [] (aCons (eV 4) (aCons (eCall fLen (aCons (eV 0) (aNil))) (aNil)))))) (sRaise "InvalidProgram" "place" (eTup (aCons (eV 1) (aCons (eV 3) (aNil))))) (sNext)))))
def f_require_tasks : FM := fnM 5 m_require_tasks
abbrev st_is_capacity : Stmt := topS 48
theorem sc_is_capacity : FnScope ["value"] ["value"] (defScope st_is_capacity) := ⟨rfl, rfl, rfl, by decide +kernel, rfl, by decide +kernel, by decide +kernel⟩
def m_is_capacity : SM := sRet (eFn f_is_between 3 [] (aCons (eV 0) (aCons (M.pure (.int 1)) (aCons (M.pure (.int 9)) (aNil)))))
def f_is_capacity : FM := fnM 1 m_is_capacity
abbrev st_require_capacities : Stmt := topS 50
theorem sc_require_capacities : FnScope ["capacities", "queue", "capacity"] ["capacities"] (defScope st_require_capacities) := ⟨rfl, rfl, rfl, by decide +kernel, rfl, by decide +kernel, by decide +kernel⟩
def m_require_capacities : SM := sSeq (sIf (mNot (mT (eCall fIsi (aCons (eV 0) (aCons (M.pure (.ty "dict")) (aNil)))))) (sRaise "InvalidProgram" "place" (M.pure (.str "capacities"))) (sNext)) (sFor (mItems (eV 0)) (gmTup 2 (gmCons (gmN 1) (gmCons (gmN 2) (gmNil)))) (sIf (mOr (mNot (mT (eFn f_is_name 1 [] (aCons (eV 1) (aNil))))) (mNot (mT (eFn f_is_capacity 1 [] (aCons (eV 2) (aNil)))))) (sRaise "InvalidProgram" "place" (M.pure (.str "capacities"))) (sNext)))
def f_require_capacities : FM := fnM 3 m_require_capacities
abbrev st_Program_init : Stmt := (match topS 51 with | .ClassDef _ _ _ b _ _ _ _ _ _ _ => b.getD 0 (.Pass ⟨0, 0, 0, 0⟩) | s => s)
theorem sc_Program_init : FnScope ["self", "tasks", "capacities", "given", "queue"] ["self", "tasks", "capacities"] (defScope st_Program_init) := ⟨rfl, rfl, rfl, by decide +kernel, rfl, by decide +kernel, by decide +kernel⟩
def m_Program_init : SM := sSeq (sDrop (eFn f_require_tasks 1 [] (aCons (eV 1) (aNil)))) (sSeq (sIf (mB (e2 cIsNot (eV 2) (M.pure .non))) (sDrop (eFn f_require_capacities 1 [] (aCons (eV 2) (aNil)))) (sNext)) (sSeq (sSet 3 (eIf (mB (e2 cIs (eV 2) (M.pure .non))) (M.pure (.dct [] [])) (eV 2))) (sSeq (sFld "Program" "own_tasks" (eV 0) (eV 1)) (sFld "Program" "own_capacities" (eV 0) (eFrz (eDc (mIt (eCall fSortedD (aCons (eV 3) (aNil)))) (gmN 4) (mB (e2 cNe (e2c dixI (eV 3) (eV 4)) (M.pure (.int 1)))) (eV 4) (e2c dixI (eV 3) (eV 4)) [4]))))))
def f_Program_init : FM := fnM 5 m_Program_init
abbrev st__law_is_name : Stmt := topS 61
theorem sc__law_is_name : FnScope ["_law_value", "_law_sign"] ["_law_value"] (defScope st__law_is_name) := ⟨rfl, rfl, rfl, by decide +kernel, rfl, by decide +kernel, by decide +kernel⟩
def m__law_is_name : SM := sSeq (sIf (mOr (mNot (mT (eCall fIsi (aCons (eV 0) (aCons (M.pure (.ty "str")) (aNil)))))) (mNot (mB (eChain cLe cLe (M.pure (.int 1)) (eCall fLen (aCons (eV 0) (aNil))) (M.pure (.int 8)))))) (sRet (M.pure (.bl false))) (sNext)) (sRet (e2 cEq (eLc (mIt (eV 0)) (gmN 1) (mB (e2 cNotIn (eV 1) (M.pure (.str "abcdefghijklmnopqrstuvwxyz")))) (eV 1) [1]) (eLst (aNil))))
def f__law_is_name : FM := fnM 2 m__law_is_name
abbrev st_Program_capacity : Stmt := (match topS 51 with | .ClassDef _ _ _ b _ _ _ _ _ _ _ => b.getD 5 (.Pass ⟨0, 0, 0, 0⟩) | s => s)
theorem sc_Program_capacity : FnScope ["self", "queue"] ["self", "queue"] (defScope st_Program_capacity) := ⟨rfl, rfl, rfl, by decide +kernel, rfl, by decide +kernel, by decide +kernel⟩
def m_Program_capacity : SM := sSeq (sIf (mNot (mT (eFn f_is_name 1 [] (aCons (eV 1) (aNil))))) (sRaise "UnknownName" "name" (eV 1)) (sNext)) (sRet (eGetD (eFld "Program" "own_capacities" (eV 0)) (eV 1) (M.pure (.int 1))))
def f_Program_capacity : FM := fnM 2 m_Program_capacity
abbrev st_are_slownesses : Stmt := topS 56
theorem sc_are_slownesses : FnScope ["value", "part"] ["value"] (defScope st_are_slownesses) := ⟨rfl, rfl, rfl, by decide +kernel, rfl, by decide +kernel, by decide +kernel⟩
def m_are_slownesses : SM := sSeq (sIf (mNot (mT (eCall fIsi (aCons (eV 0) (aCons (M.pure (.ty "dict")) (aNil)))))) (sRet (M.pure (.bl false))) (sNext)) (sRet (eCall fAll (aCons (eLc (mKeys (eV 0)) (gmN 1) (M.pure true) (eAnd (eFn f_is_name 1 [] (aCons (eV 1) (aNil))) (eFn f_is_between 3 [] (aCons (e2c dixI (eV 0) (eV 1)) (aCons (M.pure (.int 0)) (aCons (M.pure (.int 1000000)) (aNil)))))) [1]) (aNil))))
def f_are_slownesses : FM := fnM 2 m_are_slownesses
abbrev st_Setting_init : Stmt := (match topS 57 with | .ClassDef _ _ _ b _ _ _ _ _ _ _ => b.getD 0 (.Pass ⟨0, 0, 0, 0⟩) | s => s)
theorem sc_Setting_init : FnScope ["self", "slownesses", "rule", "given", "part"] ["self", "slownesses", "rule"] (defScope st_Setting_init) := ⟨rfl, rfl, rfl, by decide +kernel, rfl, by decide +kernel, by decide +kernel⟩
def m_Setting_init : SM := sSeq (sIf (mAnd (mB (e2 cIsNot (eV 1) (M.pure .non))) (mNot (mT (eFn f_are_slownesses 1 [] (aCons (eV 1) (aNil)))))) (sRaise "InvalidSetting" "value" (eV 1)) (sNext)) (sSeq (sIf (mOr (mNot (mT (eCall fIsi (aCons (eV 2) (aCons (M.pure (.ty "str")) (aNil)))))) (mB (e2 cNotIn (eV 2) (M.pure (.tup [(.str "turn"), (.str "number")]))))) (sRaise "InvalidSetting" "value" (eV 2)) (sNext)) (sSeq (sSet 3 (eIf (mB (e2 cIs (eV 1) (M.pure .non))) (M.pure (.dct [] [])) (eV 1))) (sSeq (sFld "Setting" "own_slownesses" (eV 0) (eFrz (eDc (mIt (eCall fSortedD (aCons (eV 3) (aNil)))) (gmN 4) (mB (e2 cNe (e2c dixI (eV 3) (eV 4)) (M.pure (.int 1)))) (eV 4) (e2c dixI (eV 3) (eV 4)) [4]))) (sFld "Setting" "own_rule" (eV 0) (eV 2)))))
def f_Setting_init : FM := fnM 5 m_Setting_init
abbrev st_Setting_slowness : Stmt := (match topS 57 with | .ClassDef _ _ _ b _ _ _ _ _ _ _ => b.getD 2 (.Pass ⟨0, 0, 0, 0⟩) | s => s)
theorem sc_Setting_slowness : FnScope ["self", "part"] ["self", "part"] (defScope st_Setting_slowness) := ⟨rfl, rfl, rfl, by decide +kernel, rfl, by decide +kernel, by decide +kernel⟩
def m_Setting_slowness : SM := sSeq (sIf (mNot (mT (eFn f_is_name 1 [] (aCons (eV 1) (aNil))))) (sRaise "UnknownName" "name" (eV 1)) (sNext)) (sRet (eGetD (eFld "Setting" "own_slownesses" (eV 0)) (eV 1) (M.pure (.int 1))))
def f_Setting_slowness : FM := fnM 2 m_Setting_slowness
abbrev st_Program_tasks : Stmt := (match topS 51 with | .ClassDef _ _ _ b _ _ _ _ _ _ _ => b.getD 2 (.Pass ⟨0, 0, 0, 0⟩) | s => s)
theorem sc_Program_tasks : FnScope ["self"] ["self"] (defScope st_Program_tasks) := ⟨rfl, rfl, rfl, by decide +kernel, rfl, by decide +kernel, by decide +kernel⟩
def m_Program_tasks : SM := sRet (eFld "Program" "own_tasks" (eV 0))
def f_Program_tasks : FM := fnM 1 m_Program_tasks
abbrev st__law_is_whole : Stmt := topS 62
theorem sc__law_is_whole : FnScope ["_law_value", "_law_least", "_law_most"] ["_law_value", "_law_least", "_law_most"] (defScope st__law_is_whole) := ⟨rfl, rfl, rfl, by decide +kernel, rfl, by decide +kernel, by decide +kernel⟩
def m__law_is_whole : SM := sRet (eAnd (eCall fIsi (aCons (eV 0) (aCons (M.pure (.ty "int")) (aNil)))) (eAnd (eNot (eCall fIsi (aCons (eV 0) (aCons (M.pure (.ty "bool")) (aNil))))) (eChain cLe cLe (eV 1) (eV 0) (eV 2))))
def f__law_is_whole : FM := fnM 3 m__law_is_whole
abbrev st__law_word_right : Stmt := topS 66
theorem sc__law_word_right : FnScope ["_law_word_here", "_law_many", "_law_due", "_law_told", "_law_made", "_law_fits", "_law_good", "_law_empty", "_law_room", "_law_slow"] ["_law_word_here", "_law_many"] (defScope st__law_word_right) := ⟨rfl, rfl, rfl, by decide +kernel, rfl, by decide +kernel, by decide +kernel⟩
abbrev st__law_heard : Stmt := topS 65
theorem sc__law_heard : FnScope ["_law_call", "e"] ["_law_call"] (defScope st__law_heard) := ⟨rfl, rfl, rfl, by decide +kernel, rfl, by decide +kernel, by decide +kernel⟩
def acc__law_heard_0 : Str → Option Bool := fun c => if c = "InvalidProgram" then some false else if c = "UnknownName" then some true else if c = "InvalidSetting" then some false else none
noncomputable def hd__law_heard_0 : HM := fun a cls d => sRet (eLst (aCons (M.pure (.str "unknown")) (aCons (eCall fRepr (aCons (eXf a cls d 1 "name") (aNil))) (aCons (eAnd (eIsX a cls d 1 true) (eNot (eIsX a cls d 1 false))) (aNil)))))
def acc__law_heard_1 : Str → Option Bool := fun c => if c = "InvalidProgram" then some true else if c = "UnknownName" then some false else if c = "InvalidSetting" then some false else none
noncomputable def hd__law_heard_1 : HM := fun a cls d => sRet (eLst (aCons (M.pure (.str "program")) (aCons (eCall fRepr (aCons (eXf a cls d 1 "place") (aNil))) (aNil))))
def acc__law_heard_2 : Str → Option Bool := fun c => if c = "InvalidProgram" then some false else if c = "UnknownName" then some false else if c = "InvalidSetting" then some true else none
noncomputable def hd__law_heard_2 : HM := fun a cls d => sRet (eLst (aCons (M.pure (.str "setting")) (aCons (eCall fRepr (aCons (eXf a cls d 1 "value") (aNil))) (aNil))))
noncomputable def cl__law_heard : List Cl := [⟨acc__law_heard_0, 1, hd__law_heard_0⟩, ⟨acc__law_heard_1, 1, hd__law_heard_1⟩, ⟨acc__law_heard_2, 1, hd__law_heard_2⟩]
noncomputable def m__law_word_right : SM := sSeq (sAsg (gmTup 2 (gmCons (gmN 6) (gmCons (gmN 7) (gmNil)))) (eTup (aCons (eFn f__law_is_name 1 [] (aCons (eV 0) (aNil))) (aCons (eFrz (eMk "Program" f_Program_init 3 [.non] (aCons (eTup (aCons (eTup (aNil)) (aNil))) (aNil)))) (aNil))))) (sSeq (sSet 2 (eLst (aCons (M.pure (.str "unknown")) (aCons (eCall fRepr (aCons (eV 0) (aNil))) (aCons (M.pure (.bl true)) (aNil)))))) (sSeq (sOwn 3 (aCons (eToldL 2 cl__law_heard (eMeth "Program" "capacity" f_Program_capacity 2 [] (eV 7) (aCons (eV 0) (aNil)))) (aNil))) (sSeq (sApp 3 (eToldL 2 cl__law_heard (eMeth "Setting" "slowness" f_Setting_slowness 2 [] (eFrz (eMk "Setting" f_Setting_init 3 [.non, (.str "turn")] aNil)) (aCons (eV 0) (aNil))))) (sFrz 3 (sSeq (sIf (mB (e2 cNe (eV 3) (eIf (mT (eV 6)) (eLst (aCons (M.pure (.int 1)) (aCons (M.pure (.int 1)) (aNil)))) (eLst (aCons (eV 2) (aCons (eV 2) (aNil))))))) (sRet (M.pure (.bl false))) (sNext)) (sSeq (sSet 4 (eToldL 2 cl__law_heard (eProp "Program" "tasks" f_Program_tasks (eFrz (eMk "Program" f_Program_init 3 [.non] (aCons (eTup (aCons (eTup (aCons (eTup (aCons (M.pure (.str "get")) (aCons (eV 0) (aNil)))) (aNil))) (aNil))) (aNil))))))) (sSeq (sIf (mB (e2 cNe (eV 4) (eIf (mT (eV 6)) (eTup (aCons (eTup (aCons (eTup (aCons (M.pure (.str "get")) (aCons (eV 0) (aNil)))) (aNil))) (aNil))) (eLst (aCons (M.pure (.str "program")) (aCons (M.pure (.str "(0, 0)")) (aNil))))))) (sRet (M.pure (.bl false))) (sNext)) (sSeq (sAsg (gmTup 2 (gmCons (gmN 8) (gmCons (gmN 9) (gmNil)))) (eTup (aCons (eDis [(eV 0, eV 1)]) (aCons (eDis [(eV 0, eV 1)]) (aNil))))) (sSeq (sSet 5 (eAnd (eV 6) (eFn f__law_is_whole 3 [] (aCons (eV 1) (aCons (M.pure (.int 1)) (aCons (M.pure (.int 9)) (aNil))))))) (sSeq (sIf (mB (e2 cNe (eToldL 2 cl__law_heard (eMeth "Program" "capacity" f_Program_capacity 2 [] (eFrz (eMk "Program" f_Program_init 3 [] (aCons (eTup (aCons (eTup (aNil)) (aNil))) (aCons (eV 8) (aNil))))) (aCons (eV 0) (aNil)))) (eIf (mT (eV 5)) (eV 1) (eLst (aCons (M.pure (.str "program")) (aCons (M.pure (.str "'capacities'")) (aNil))))))) (sRet (M.pure (.bl false))) (sNext)) (sSeq (sSet 5 (eAnd (eV 6) (eFn f__law_is_whole 3 [] (aCons (eV 1) (aCons (M.pure (.int 0)) (aCons (e2 bPow (M.pure (.int 10)) (M.pure (.int 6))) (aNil))))))) (sRet (e2 cEq (eToldL 2 cl__law_heard (eMeth "Setting" "slowness" f_Setting_slowness 2 [] (eFrz (eMk "Setting" f_Setting_init 3 [(.str "turn")] (aCons (eV 9) (aNil)))) (aCons (eV 0) (aNil)))) (eIf (mT (eV 5)) (eV 1) (eLst (aCons (M.pure (.str "setting")) (aCons (eCall fRepr (aCons (eV 9) (aNil))) (aNil))))))))))))))))))
noncomputable def f__law_word_right : FM := fnM 10 m__law_word_right
abbrev st__law_word : Stmt := topS 64
theorem sc__law_word : FnScope ["_law_state", "_law_signs", "_law_word_here", "_law_odd", "_law_at", "_law_turn"] ["_law_state"] (defScope st__law_word) := ⟨rfl, rfl, rfl, by decide +kernel, rfl, by decide +kernel, by decide +kernel⟩
def m__law_word : SM := sSeq (sSet 1 (M.pure (.str "abcdefghijklmnopqrstuvwxyz"))) (sSeq (sSet 2 (eJoin (M.pure (.str "")) (eLc (mRg1 (aCons (e2 bAdd (M.pure (.int 1)) (eFn f__law_draw 2 [] (aCons (eV 0) (aCons (M.pure (.int 8)) (aNil))))) (aNil))) (gmN 5) (M.pure true) (e2c ixI (eV 1) (eFn f__law_draw 2 [] (aCons (eV 0) (aCons (M.pure (.int 26)) (aNil))))) [5]))) (sSeq (sSet 3 (e2c ixI (eLst (aCons (M.pure (.str "A")) (aCons (M.pure (.str "1")) (aCons (M.pure (.str " ")) (aCons (M.pure (.str "_")) (aCons (M.pure (.str "9")) (aCons (M.pure (.str "\n")) (aCons (M.pure (.str "abcdefgh")) (aCons (M.pure (.str "")) (aNil)))))))))) (eFn f__law_draw 2 [] (aCons (eV 0) (aCons (M.pure (.int 8)) (aNil)))))) (sSeq (sSet 4 (eFn f__law_draw 2 [] (aCons (eV 0) (aCons (e2 bAdd (eCall fLen (aCons (eV 2) (aNil))) (M.pure (.int 1))) (aNil))))) (sRet (e2c ixI (eLst (aCons (eV 2) (aCons (eV 2) (aCons (e2 bAdd (e2 bAdd (eSl (eV 2) (oNone) (oSome (eV 4))) (eV 3)) (eSl (eV 2) (oSome (eV 4)) (oNone))) (aCons (eV 3) (aNil)))))) (eFn f__law_draw 2 [] (aCons (eV 0) (aCons (M.pure (.int 4)) (aNil)))))))))
def f__law_word : FM := fnM 6 m__law_word
abbrev st_law : Stmt := topS 67
theorem sc_law : FnScope ["_law_script", "_law_odd", "_law_k", "_law_cell", "_law_state", "_law_turn", "_law_many"] ["_law_script"] (defScope st_law) := ⟨rfl, rfl, rfl, by decide +kernel, rfl, by decide +kernel, by decide +kernel⟩
noncomputable def m_law : SM := sSeq (sFor (mEn (aCons (e2 bAdd (eSl (eV 0) (oNone) (oSome (M.pure (.int 5)))) (e2 bMul (eLst (aCons (M.pure (.int 7)) (aNil))) (eCall fInt (aCons (e2 cEq (eV 0) (eLst (aNil))) (aNil))))) (aNil))) (gmTup 2 (gmCons (gmN 2) (gmCons (gmN 3) (gmNil)))) (sSeq (sOwn 4 (aCons (eFn f__law_numbers 3 [] (aCons (eV 3) (aCons (e2 bAdd (M.pure (.int 800)) (eV 2)) (aCons (e2 bMul (eLst (aCons (M.pure (.int 420)) (aNil))) (M.pure (.int 200))) (aNil))))) (aCons (M.pure (.int 0)) (aNil)))) (sCell 4 (sFor (mRg1 (aCons (M.pure (.int 8)) (aNil))) (gmN 5) (sSeq (sSet 6 (e2c ixI (eLst (aCons (M.pure (.int 0)) (aCons (M.pure (.int 1)) (aCons (M.pure (.int 9)) (aCons (M.pure (.int 10)) (aCons (eFn f__law_draw 2 [] (aCons (eV 4) (aCons (M.pure (.int 12)) (aNil)))) (aCons (eNeg (M.pure (.int 1))) (aCons (e2 bPow (M.pure (.int 10)) (M.pure (.int 6))) (aCons (e2 bAdd (e2 bPow (M.pure (.int 10)) (M.pure (.int 6))) (M.pure (.int 1))) (aCons (M.pure (.bl true)) (aCons (M.pure .non) (aNil)))))))))))) (eFn f__law_draw 2 [] (aCons (eV 4) (aCons (M.pure (.int 10)) (aNil)))))) (sIf (mNot (mT (eFn f__law_word_right 2 [] (aCons (eFn f__law_word 1 [] (aCons (eV 4) (aNil))) (aCons (eV 6) (aNil)))))) (sRet (M.pure (.bl false))) (sNext))))))) (sSeq (sFor (mIt (eLst (aCons (M.pure .non) (aCons (M.pure (.int 5)) (aCons (M.pure (.bl true)) (aCons (eTup (aCons (M.pure (.str "p")) (aNil))) (aCons (eLst (aCons (M.pure (.str "p")) (aNil))) (aCons (M.pure (.dct [] [])) (aNil))))))))) (gmN 1) (sSeq (sIf (mB (e2 cNe (eToldL 2 cl__law_heard (eMeth "Program" "capacity" f_Program_capacity 2 [] (eFrz (eMk "Program" f_Program_init 3 [.non] (aCons (eTup (aCons (eTup (aNil)) (aNil))) (aNil)))) (aCons (eV 1) (aNil)))) (eLst (aCons (M.pure (.str "unknown")) (aCons (eCall fRepr (aCons (eV 1) (aNil))) (aCons (M.pure (.bl true)) (aNil))))))) (sRet (M.pure (.bl false))) (sNext)) (sIf (mB (e2 cNe (eToldL 2 cl__law_heard (eMeth "Setting" "slowness" f_Setting_slowness 2 [] (eFrz (eMk "Setting" f_Setting_init 3 [.non, (.str "turn")] aNil)) (aCons (eV 1) (aNil)))) (eLst (aCons (M.pure (.str "unknown")) (aCons (eCall fRepr (aCons (eV 1) (aNil))) (aCons (M.pure (.bl true)) (aNil))))))) (sRet (M.pure (.bl false))) (sNext)))) (sRet (M.pure (.bl true))))
noncomputable def f_law : FM := fnM 7 m_law
abbrev st_InvalidProgram_init : Stmt := (match topS 3 with | .ClassDef _ _ _ b _ _ _ _ _ _ _ => b.getD 0 (.Pass ⟨0, 0, 0, 0⟩) | s => s)
abbrev st_UnknownName_init : Stmt := (match topS 7 with | .ClassDef _ _ _ b _ _ _ _ _ _ _ => b.getD 0 (.Pass ⟨0, 0, 0, 0⟩) | s => s)
abbrev st_InvalidSetting_init : Stmt := (match topS 4 with | .ClassDef _ _ _ b _ _ _ _ _ _ _ => b.getD 0 (.Pass ⟨0, 0, 0, 0⟩) | s => s)
/-- what the top has written -/
structure Mods (K : PySem.W.Frag) (w : World) (mg : Str → Option Value) : Prop where
  z_enumerate : mg "enumerate" = none
  z_int : mg "int" = none
  z_max : mg "max" = none
  z_range : mg "range" = none
  z_len : mg "len" = none
  z_isinstance : mg "isinstance" = none
  z_tuple : mg "tuple" = none
  z_str : mg "str" = none
  z_all : mg "all" = none
  z_bool : mg "bool" = none
  z_dict : mg "dict" = none
  z_sorted : mg "sorted" = none
  z_repr : mg "repr" = none
  z_KeyError : mg "KeyError" = none
  c_MAX_TASKS : ∃ t, mg "MAX_TASKS" = some (.int 6 t)
  c_MAX_STEPS : ∃ t, mg "MAX_STEPS" = some (.int 20 t)
  c_LENGTHS : ∃ d, mg "LENGTHS" = some (.ref d) ∧ KTab K w d t_LENGTHS
  c_NAMED : ∃ a, mg "NAMED" = some (.ref a) ∧ ∃ vs, SqT K (fun _ => none) a vs ∧ RelL (gK K mg) (fun _ => none) [] [(.str "work"), (.str "take"), (.str "give"), (.str "put"), (.str "get")] vs
  c_MAX_LETTERS : ∃ t, mg "MAX_LETTERS" = some (.int 8 t)
  c_LOWERCASE : ∃ t, mg "LOWERCASE" = some (.str "abcdefghijklmnopqrstuvwxyz" t)
  c_MAX_VALUE : ∃ t, mg "MAX_VALUE" = some (.int 9 t)
  c_MAX_COUNT : ∃ t, mg "MAX_COUNT" = some (.int 20 t)
  c_MAX_AMOUNT : ∃ t, mg "MAX_AMOUNT" = some (.int 1000000000000000000000000000000 t)
  c_CAPACITIES : ∃ t, mg "CAPACITIES" = some (.str "capacities" t)
  c_MAX_CAPACITY : ∃ t, mg "MAX_CAPACITY" = some (.int 9 t)
  c_USUAL_CAPACITY : ∃ t, mg "USUAL_CAPACITY" = some (.int 1 t)
  c_MAX_SLOWNESS : ∃ t, mg "MAX_SLOWNESS" = some (.int 1000000 t)
  c_RULES : ∃ a, mg "RULES" = some (.ref a) ∧ ∃ vs, SqT K (fun _ => none) a vs ∧ RelL (gK K mg) (fun _ => none) [] [(.str "turn"), (.str "number")] vs
  c_USUAL_SLOWNESS : ∃ t, mg "USUAL_SLOWNESS" = some (.int 1 t)
  x_InvalidProgram : ∃ C fI, PySem.OwnEx.ExTxt K mg "InvalidProgram" "place" "InvalidProgram.__init__" "Exception" "Exception.__new__" "Exception.__init__" [.type "Exception", .type "BaseException", .type "object"] C fI
  x_UnknownName : ∃ C fI, PySem.OwnEx.ExTxt K mg "UnknownName" "name" "UnknownName.__init__" "KeyError" "LookupError.__new__" "LookupError.__init__" [.type "KeyError", .type "LookupError", .type "Exception", .type "BaseException", .type "object"] C fI
  x_InvalidSetting : ∃ C fI, PySem.OwnEx.ExTxt K mg "InvalidSetting" "value" "InvalidSetting.__init__" "Exception" "Exception.__new__" "Exception.__init__" [.type "Exception", .type "BaseException", .type "object"] C fI
  g_TimesError : ∃ C, mg "TimesError" = some (.ref C)
  isC_UnknownName : ∀ C, mg "UnknownName" = some (.ref C) → PySem.OwnEx.IsC K C
  k_UnknownName_KeyError : ∀ C, mg "UnknownName" = some (.ref C) → PySem.W.kitOne K (.ref C) (.type "KeyError") = some true
  k_UnknownName_TimesError : ∀ C, mg "UnknownName" = some (.ref C) → ∀ D, mg "TimesError" = some (.ref D) → PySem.W.kitOne K (.ref C) (.ref D) = some false
  K_Program : ∃ C, KlsG K mg "Program" C
  K_Setting : ∃ C, KlsG K mg "Setting" C
  n_Program_own_tasks : ∀ C, mg "Program" = some (.ref C) → NoAttr K C "own_tasks"
  n_Program_own_capacities : ∀ C, mg "Program" = some (.ref C) → NoAttr K C "own_capacities"
  n_Setting_own_slownesses : ∀ C, mg "Setting" = some (.ref C) → NoAttr K C "own_slownesses"
  n_Setting_own_rule : ∀ C, mg "Setting" = some (.ref C) → NoAttr K C "own_rule"
section
variable {P : Program} {w : World} {K : PySem.W.Frag} {mg : Str → Option Value} {base : Heap} {n : Nat}
theorem s__law_heard (M : Mods K w mg) {k : Nat} : SuiteL P w K mg base n k ["_law_call", "e"] "_law_heard" (defScope st__law_heard) ((match defBody st__law_heard with | [.Try _ hs _ _ _] => hs | _ => [])) [(.ref M.x_UnknownName.choose, ⟨acc__law_heard_0, 1, hd__law_heard_0⟩), (.ref M.x_InvalidProgram.choose, ⟨acc__law_heard_1, 1, hd__law_heard_1⟩), (.ref M.x_InvalidSetting.choose, ⟨acc__law_heard_2, 1, hd__law_heard_2⟩)] := by
  intro f cd A outer s H E hr hg
  exact (ClsG.cons rfl rfl ⟨rfl, by decide, .inl M.x_UnknownName.choose_spec.choose_spec.gC⟩ (fun a oe cls d pn hz hf => pss_and fun ho => by
    have hcl := okC_one (acc := acc__law_heard_0) (cn := "UnknownName") (fun c h => by unfold acc__law_heard_0 at h; (repeat' split at h) <;> first | assumption | cases h) ho M.x_UnknownName.choose_spec.choose_spec.gC
    show JB _ _ _ _ (hd__law_heard_0 a cls d)
    unfold hd__law_heard_0
    exact jb_one (js_ret (je_lst (ja_cons (je_str) (ja_cons (je_callB (cj_repr (by exact hg) (by exact hr.units)) M.z_repr bt_repr (ja_cons (je_xf (xfC_of M.x_UnknownName.choose_spec.choose_spec) M.x_UnknownName.choose_spec.choose_spec.noN hcl hz hf rfl (by first | exact Or.inl rfl | exact Or.inr (Or.inl rfl))) (ja_nil))) (ja_cons (je_and (je_isX (M.isC_UnknownName _ M.x_UnknownName.choose_spec.choose_spec.gC) hcl hz hf rfl (by first | exact Or.inl rfl | exact Or.inr (Or.inl rfl)) (pe_bltn (v := .ty "KeyError") (by rfl) M.z_KeyError (by decide +kernel) rfl) (fun u h => h) (M.k_UnknownName_KeyError _ M.x_UnknownName.choose_spec.choose_spec.gC) M.z_isinstance (by rfl) (by rfl)) (je_one (je_not (je_isX (M.isC_UnknownName _ M.x_UnknownName.choose_spec.choose_spec.gC) hcl hz hf rfl (by first | exact Or.inl rfl | exact Or.inr (Or.inl rfl)) (pe_glob (v := .ref _) (by rfl) M.g_TimesError.choose_spec rfl) (fun u h => h) (M.k_UnknownName_TimesError _ M.x_UnknownName.choose_spec.choose_spec.gC _ M.g_TimesError.choose_spec) M.z_isinstance (by rfl) (by rfl))))) (ja_nil))))))) (ClsG.cons rfl rfl ⟨rfl, by decide, .inl M.x_InvalidProgram.choose_spec.choose_spec.gC⟩ (fun a oe cls d pn hz hf => pss_and fun ho => by
    have hcl := okC_one (acc := acc__law_heard_1) (cn := "InvalidProgram") (fun c h => by unfold acc__law_heard_1 at h; (repeat' split at h) <;> first | assumption | cases h) ho M.x_InvalidProgram.choose_spec.choose_spec.gC
    show JB _ _ _ _ (hd__law_heard_1 a cls d)
    unfold hd__law_heard_1
    exact jb_one (js_ret (je_lst (ja_cons (je_str) (ja_cons (je_callB (cj_repr (by exact hg) (by exact hr.units)) M.z_repr bt_repr (ja_cons (je_xf (xfC_of M.x_InvalidProgram.choose_spec.choose_spec) M.x_InvalidProgram.choose_spec.choose_spec.noN hcl hz hf rfl (by first | exact Or.inl rfl | exact Or.inr (Or.inl rfl))) (ja_nil))) (ja_nil)))))) (ClsG.cons rfl rfl ⟨rfl, by decide, .inl M.x_InvalidSetting.choose_spec.choose_spec.gC⟩ (fun a oe cls d pn hz hf => pss_and fun ho => by
    have hcl := okC_one (acc := acc__law_heard_2) (cn := "InvalidSetting") (fun c h => by unfold acc__law_heard_2 at h; (repeat' split at h) <;> first | assumption | cases h) ho M.x_InvalidSetting.choose_spec.choose_spec.gC
    show JB _ _ _ _ (hd__law_heard_2 a cls d)
    unfold hd__law_heard_2
    exact jb_one (js_ret (je_lst (ja_cons (je_str) (ja_cons (je_callB (cj_repr (by exact hg) (by exact hr.units)) M.z_repr bt_repr (ja_cons (je_xf (xfC_of M.x_InvalidSetting.choose_spec.choose_spec) M.x_InvalidSetting.choose_spec.choose_spec.noN hcl hz hf rfl (by first | exact Or.inl rfl | exact Or.inr (Or.inl rfl))) (ja_nil))) (ja_nil)))))) .nil)))
theorem b__law_numbers (M : Mods K w mg)  : BodyG P w K mg base n 0 ["_law_cell", "_law_salt", "_law_sizes", "_law_whole", "_law_left", "_law_result", "_law_k", "_law_one"] "_law_numbers" (defScope st__law_numbers) (defBody st__law_numbers) m__law_numbers := by
  intro f cd A outer s H E hr hg
  unfold m__law_numbers
  exact jb_cons (js_set sc__law_numbers.nd rfl (by first | exact Or.inl rfl | exact Or.inr rfl) (je_callB (cj_max2 rfl) M.z_max bt_max (ja_cons (je_v 0) (ja_cons (je_op oj_sub (je_neg (je_int)) (je_v 0)) (ja_nil))))) (jb_cons (js_set sc__law_numbers.nd rfl (by first | exact Or.inl rfl | exact Or.inr rfl) (je_v 3)) (jb_cons (js_own sc__law_numbers.nd rfl (by first | exact Or.inl rfl | exact Or.inr rfl) (ja_nil)) (jb_cons (js_for ps_b rfl (ji_rg1 (ja_cons (je_callB (cj_len) M.z_len bt_len (ja_cons (je_v 2) (ja_nil))) (ja_nil)) M.z_range) (jg_n sc__law_numbers.nd rfl (by first | exact Or.inl rfl | exact Or.inr rfl)) (jb_one (js_if (jt_bool (jw_and (jt_cmp oj_ge (je_v 3) (je_op oj_pow (je_int) (je_int)) (by rfl)) (jw_and1 (jt_cmp oj_gt (je_v 4) (je_int) (by rfl))))) (jb_cons (js_app (i := 5) rfl (by first | exact Or.inl rfl | exact Or.inr (Or.inl rfl)) (je_op oj_mod (je_v 4) (je_ix (je_v 2) (je_v 6) (fun _ _ => rfl)))) (jb_one (js_set sc__law_numbers.nd rfl (by first | exact Or.inl rfl | exact Or.inr rfl) (je_op oj_fdiv (je_v 4) (je_ix (je_v 2) (je_v 6) (fun _ _ => rfl)))))) (jb_cons (js_set sc__law_numbers.nd rfl (by first | exact Or.inl rfl | exact Or.inr rfl) (je_op oj_mod (je_op oj_pow (je_op oj_add (je_op oj_add (je_op oj_mod (je_v 3) (je_int)) (je_op oj_mul (je_int) (je_v 1))) (je_int)) (je_int)) (je_int))) (jb_cons (js_set sc__law_numbers.nd rfl (by first | exact Or.inl rfl | exact Or.inr rfl) (je_op oj_mod (je_op oj_mul (je_op oj_add (je_v 7) (je_op oj_mul (je_int) (je_op oj_add (je_v 6) (je_int)))) (je_op oj_add (je_v 6) (je_int))) (je_int))) (jb_cons (js_set sc__law_numbers.nd rfl (by first | exact Or.inl rfl | exact Or.inr rfl) (je_op oj_mod (je_op oj_mul (je_op oj_mod (je_op oj_pow (je_v 7) (je_int)) (je_int)) (je_int)) (je_int))) (jb_one (js_app (i := 5) rfl (by first | exact Or.inl rfl | exact Or.inr (Or.inl rfl)) (je_op oj_mod (je_op oj_fdiv (je_v 7) (je_int)) (je_ix (je_v 2) (je_v 6) (fun _ _ => rfl))))))))))) (jb_frz (jb_one (js_ret (je_v 5)))))))
theorem b__law_draw (M : Mods K w mg)  : BodyG P w K mg base n 0 ["_law_state", "_law_many", "_law_at"] "_law_draw" (defScope st__law_draw) (defBody st__law_draw) m__law_draw := by
  intro f cd A outer s H E hr hg
  unfold m__law_draw
  exact jb_cons (js_set sc__law_draw.nd rfl (by first | exact Or.inl rfl | exact Or.inr rfl) (je_ix (je_v 0) (je_int) (fun _ _ => rfl))) (jb_cons (js_setIx (je_op oj_add (je_v 2) (je_int)) (je_v 0) (je_int)) (jb_one (js_ret (je_if (jt_cmp oj_lt (je_v 2) (je_callB (cj_len) M.z_len bt_len (ja_cons (je_ix (je_v 0) (je_int) (fun _ _ => rfl)) (ja_nil))) (by rfl)) (je_op oj_mod (je_callTy cj_int M.z_int bt_int (ja_cons (je_ix (je_ix (je_v 0) (je_int) (fun _ _ => rfl)) (je_v 2) (fun _ _ => rfl)) (ja_nil))) (je_v 1)) (je_int)))))
theorem b_is_word_of_step (M : Mods K w mg)  : BodyG P w K mg base n 0 ["value"] "is_word_of_step" (defScope st_is_word_of_step) (defBody st_is_word_of_step) m_is_word_of_step := by
  intro f cd A outer s H E hr hg
  unfold m_is_word_of_step
  exact jb_cons (js_if (jt_bool (jw_or (jt_not (jt_tru (je_callB (cj_isi) M.z_isinstance bt_isinstance (ja_cons (je_v 0) (ja_cons (je_ty M.z_tuple bt_tuple) (ja_nil)))))) (jw_or (jt_cmp (oj_eq (by exact hr.units)) (je_v 0) (je_tup (ja_nil)) (by rfl)) (jw_or1 (jt_not (jt_tru (je_callB (cj_isi) M.z_isinstance bt_isinstance (ja_cons (je_ix (je_v 0) (je_int) (fun _ _ => rfl)) (ja_cons (je_ty M.z_str bt_str) (ja_nil)))))))))) (jb_one (js_ret (je_bl))) (jb_nil)) (jb_one (js_ret (je_cmp (oj_eq (by exact hr.units)) (je_callB (cj_len) M.z_len bt_len (ja_cons (je_v 0) (ja_nil))) (je_kget M.c_LENGTHS.choose_spec.2 M.c_LENGTHS.choose_spec.1 (je_ix (je_v 0) (je_int) (fun _ _ => rfl))) (by rfl))))
theorem b_is_name (M : Mods K w mg)  : BodyG P w K mg base n 0 ["value", "sign"] "is_name" (defScope st_is_name) (defBody st_is_name) m_is_name := by
  intro f cd A outer s H E hr hg
  unfold m_is_name
  exact jb_cons (js_if (jt_bool (jw_or (jt_not (jt_tru (je_callB (cj_isi) M.z_isinstance bt_isinstance (ja_cons (je_v 0) (ja_cons (je_ty M.z_str bt_str) (ja_nil)))))) (jw_or1 (jt_not (jt_chain oj_le oj_le (je_int) (je_callB (cj_len) M.z_len bt_len (ja_cons (je_v 0) (ja_nil))) (je_gint (M.c_MAX_LETTERS.choose_spec))))))) (jb_one (js_ret (je_bl))) (jb_nil)) (jb_one (js_ret (je_callB (cj_all rfl) M.z_all bt_all (ja_cons (je_lc (own := [("sign", 1)]) (ix := [1]) rfl sc_is_name.nd (ji_of (je_v 0)) (blkOk_by (by with_unfolding_all rfl)) (by decide) (fun _ _ _ _ _ => by exact jg_n sc_is_name.nd rfl (by first | exact Or.inl rfl | exact Or.inr rfl)) (fun _ _ _ _ _ => by exact jts_nil) (fun _ _ _ _ _ => by exact je_cmp oj_in (je_v 1) (je_gstr (M.c_LOWERCASE.choose_spec)) (by rfl))) (ja_nil)))))
theorem b_is_integer (M : Mods K w mg)  : BodyG P w K mg base n 0 ["value"] "is_integer" (defScope st_is_integer) (defBody st_is_integer) m_is_integer := by
  intro f cd A outer s H E hr hg
  unfold m_is_integer
  exact jb_one (js_ret (je_and (je_callB (cj_isi) M.z_isinstance bt_isinstance (ja_cons (je_v 0) (ja_cons (je_ty M.z_int bt_int) (ja_nil)))) (je_one (je_not (je_callB (cj_isi) M.z_isinstance bt_isinstance (ja_cons (je_v 0) (ja_cons (je_ty M.z_bool bt_bool) (ja_nil))))))))
theorem b_is_between (M : Mods K w mg) (d_is_integer : DefG P w K mg base n 1 "is_integer" ["value"] [] f_is_integer) : BodyG P w K mg base n 1 ["value", "least", "most"] "is_between" (defScope st_is_between) (defBody st_is_between) m_is_between := by
  intro f cd A outer s H E hr hg
  unfold m_is_between
  exact jb_one (js_ret (je_and (je_call (k := 1) d_is_integer (by exact hr.mono (by decide)) (by exact hg) tk_b (ja_cons (je_v 0) (ja_nil))) (je_one (je_chain oj_le oj_le (je_v 1) (je_v 0) (je_v 2)))))
theorem b_is_whole_step (M : Mods K w mg) (d_is_word_of_step : DefG P w K mg base n 1 "is_word_of_step" ["value"] [] f_is_word_of_step) (d_is_name : DefG P w K mg base n 1 "is_name" ["value"] [] f_is_name) (d_is_integer : DefG P w K mg base n 1 "is_integer" ["value"] [] f_is_integer) (d_is_between : DefG P w K mg base n 2 "is_between" ["value", "least", "most"] [] f_is_between) : BodyG P w K mg base n 2 ["value", "tasks"] "is_whole_step" (defScope st_is_whole_step) (defBody st_is_whole_step) m_is_whole_step := by
  intro f cd A outer s H E hr hg
  unfold m_is_whole_step
  exact jb_cons (js_if (jt_bool (jw_or (jt_not (jt_tru (je_call (k := 1) d_is_word_of_step (by exact hr.mono (by decide)) (by exact hg) tk_b (ja_cons (je_v 0) (ja_nil))))) (jw_or1 (jt_bool (jw_and (jt_cmp oj_in (je_ix (je_v 0) (je_int) (fun _ _ => rfl)) (je_gtup M.c_NAMED.choose_spec.1 M.c_NAMED.choose_spec.2) (by rfl)) (jw_and1 (jt_not (jt_tru (je_call (k := 1) d_is_name (by exact hr.mono (by decide)) (by exact hg) tk_b (ja_cons (je_ix (je_v 0) (je_int) (fun _ _ => rfl)) (ja_nil))))))))))) (jb_one (js_ret (je_bl))) (jb_nil)) (jb_one (js_match (je_ix (je_v 0) (je_int) (fun _ _ => rfl)) (jc_val (by exact hr.units) (je_str) (jb_one (js_ret (je_call (k := 2) d_is_between (by exact hr.mono (by decide)) (by exact hg) tk_b (ja_cons (je_ix (je_v 0) (je_int) (fun _ _ => rfl)) (ja_cons (je_int) (ja_cons (je_gint (M.c_MAX_AMOUNT.choose_spec)) (ja_nil))))))) (jc_val (by exact hr.units) (je_str) (jb_one (js_ret (je_call (k := 2) d_is_between (by exact hr.mono (by decide)) (by exact hg) tk_b (ja_cons (je_ix (je_v 0) (je_int) (fun _ _ => rfl)) (ja_cons (je_int) (ja_cons (je_gint (M.c_MAX_VALUE.choose_spec)) (ja_nil))))))) (jc_val (by exact hr.units) (je_str) (jb_one (js_ret (je_and (je_call (k := 2) d_is_between (by exact hr.mono (by decide)) (by exact hg) tk_b (ja_cons (je_ix (je_v 0) (je_int) (fun _ _ => rfl)) (ja_cons (je_int) (ja_cons (je_gint (M.c_MAX_VALUE.choose_spec)) (ja_nil))))) (je_one (je_call (k := 2) d_is_between (by exact hr.mono (by decide)) (by exact hg) tk_b (ja_cons (je_ix (je_v 0) (je_int) (fun _ _ => rfl)) (ja_cons (je_int) (ja_cons (je_gint (M.c_MAX_COUNT.choose_spec)) (ja_nil))))))))) (jc_val (by exact hr.units) (je_str) (jb_one (js_ret (je_and (je_call (k := 1) d_is_integer (by exact hr.mono (by decide)) (by exact hg) tk_b (ja_cons (je_ix (je_v 0) (je_int) (fun _ _ => rfl)) (ja_nil))) (je_and (je_cmp oj_le (je_int) (je_ix (je_v 0) (je_int) (fun _ _ => rfl)) (by rfl)) (je_one (je_or (je_cmp oj_is (je_v 1) (je_non) (by rfl)) (je_one (je_cmp oj_lt (je_ix (je_v 0) (je_int) (fun _ _ => rfl)) (je_v 1) (by rfl))))))))) (jc_any (jb_one (js_ret (je_bl))))))))))
theorem b_is_step (M : Mods K w mg) (d_is_whole_step : DefG P w K mg base n 3 "is_whole_step" ["value", "tasks"] [] f_is_whole_step) : BodyG P w K mg base n 3 ["value", "tasks"] "is_step" (defScope st_is_step) (defBody st_is_step) m_is_step := by
  intro f cd A outer s H E hr hg
  unfold m_is_step
  exact jb_one (js_ret (je_call (k := 3) d_is_whole_step (by exact hr.mono (by decide)) (by exact hg) tk_b (ja_cons (je_v 0) (ja_cons (je_v 1) (ja_nil)))))
theorem b_require_tasks (M : Mods K w mg) (d_is_step : DefG P w K mg base n 4 "is_step" ["value", "tasks"] [] f_is_step) : BodyG P w K mg base n 4 ["tasks", "task", "steps", "index", "step"] "require_tasks" (defScope st_require_tasks) (defBody st_require_tasks) m_require_tasks := by
  intro f cd A outer s H E hr hg
  unfold m_require_tasks
  exact jb_cons (js_if (jt_bool (jw_or (jt_not (jt_tru (je_callB (cj_isi) M.z_isinstance bt_isinstance (ja_cons (je_v 0) (ja_cons (je_ty M.z_tuple bt_tuple) (ja_nil)))))) (jw_or1 (jt_not (jt_chain oj_le oj_le (je_int) (je_callB (cj_len) M.z_len bt_len (ja_cons (je_v 0) (ja_nil))) (je_gint (M.c_MAX_TASKS.choose_spec))))))) (jb_one (js_raise rfl tk_b (PySem.OwnEx.makes_of PySem.F.excBase_Exception) PySem.F.store_Exception M.x_InvalidProgram.choose_spec.choose_spec (by exact hr) (je_non))) (jb_nil)) (jb_cons (js_for ps_b rfl (ji_enT (ja_cons (je_v 0) (ja_nil)) M.z_enumerate) (jg_tup rfl (jgs_cons (jg_n sc_require_tasks.nd rfl (by first | exact Or.inl rfl | exact Or.inr rfl)) (jgs_cons (jg_n sc_require_tasks.nd rfl (by first | exact Or.inl rfl | exact Or.inr rfl)) (jgs_nil)))) (jb_one (js_if (jt_bool (jw_or (jt_not (jt_tru (je_callB (cj_isi) M.z_isinstance bt_isinstance (ja_cons (je_v 2) (ja_cons (je_ty M.z_tuple bt_tuple) (ja_nil)))))) (jw_or1 (jt_cmp oj_gt (je_callB (cj_len) M.z_len bt_len (ja_cons (je_v 2) (ja_nil))) (je_gint (M.c_MAX_STEPS.choose_spec)) (by rfl))))) (jb_one (js_raise rfl tk_b (PySem.OwnEx.makes_of PySem.F.excBase_Exception) PySem.F.store_Exception M.x_InvalidProgram.choose_spec.choose_spec (by exact hr) (je_tup (ja_cons (je_v 1) (ja_cons (je_non) (ja_nil)))))) (jb_nil)))) (jb_one (js_for ps_b rfl (ji_enT (ja_cons (je_v 0) (ja_nil)) M.z_enumerate) (jg_tup rfl (jgs_cons (jg_n sc_require_tasks.nd rfl (by first | exact Or.inl rfl | exact Or.inr rfl)) (jgs_cons (jg_n sc_require_tasks.nd rfl (by first | exact Or.inl rfl | exact Or.inr rfl)) (jgs_nil)))) (jb_one (js_for ps_b rfl (ji_enT (ja_cons (je_v 2) (ja_nil)) M.z_enumerate) (jg_tup rfl (jgs_cons (jg_n sc_require_tasks.nd rfl (by first | exact Or.inl rfl | exact Or.inr rfl)) (jgs_cons (jg_n sc_require_tasks.nd rfl (by first | exact Or.inl rfl | exact Or.inr rfl)) (jgs_nil)))) (jb_one (js_if (jt_not (jt_tru (je_call (k := 4) d_is_step (by exact hr.mono (by decide)) (by exact hg) tk_b (ja_cons (je_v 4) (ja_cons (je_callB (cj_len) M.z_len bt_len (ja_cons (je_v 0) (ja_nil))) (ja_nil)))))) (jb_one (js_raise rfl tk_b (PySem.OwnEx.makes_of PySem.F.excBase_Exception) PySem.F.store_Exception M.x_InvalidProgram.choose_spec.choose_spec (by exact hr) (je_tup (ja_cons (je_v 1) (ja_cons (je_v 3) (ja_nil)))))) (jb_nil))))))))
theorem b_is_capacity (M : Mods K w mg) (d_is_between : DefG P w K mg base n 2 "is_between" ["value", "least", "most"] [] f_is_between) : BodyG P w K mg base n 2 ["value"] "is_capacity" (defScope st_is_capacity) (defBody st_is_capacity) m_is_capacity := by
  intro f cd A outer s H E hr hg
  unfold m_is_capacity
  exact jb_one (js_ret (je_call (k := 2) d_is_between (by exact hr.mono (by decide)) (by exact hg) tk_b (ja_cons (je_v 0) (ja_cons (je_int) (ja_cons (je_gint (M.c_MAX_CAPACITY.choose_spec)) (ja_nil))))))
theorem b_require_capacities (M : Mods K w mg) (d_is_name : DefG P w K mg base n 1 "is_name" ["value"] [] f_is_name) (d_is_capacity : DefG P w K mg base n 3 "is_capacity" ["value"] [] f_is_capacity) : BodyG P w K mg base n 3 ["capacities", "queue", "capacity"] "require_capacities" (defScope st_require_capacities) (defBody st_require_capacities) m_require_capacities := by
  intro f cd A outer s H E hr hg
  unfold m_require_capacities
  exact jb_cons (js_if (jt_not (jt_tru (je_callB (cj_isi) M.z_isinstance bt_isinstance (ja_cons (je_v 0) (ja_cons (je_ty M.z_dict bt_dict) (ja_nil)))))) (jb_one (js_raise rfl tk_b (PySem.OwnEx.makes_of PySem.F.excBase_Exception) PySem.F.store_Exception M.x_InvalidProgram.choose_spec.choose_spec (by exact hr) (je_gstr (M.c_CAPACITIES.choose_spec)))) (jb_nil)) (jb_one (js_for ps_b rfl (ji_items (je_v 0)) (jg_tup rfl (jgs_cons (jg_n sc_require_capacities.nd rfl (by first | exact Or.inl rfl | exact Or.inr rfl)) (jgs_cons (jg_n sc_require_capacities.nd rfl (by first | exact Or.inl rfl | exact Or.inr rfl)) (jgs_nil)))) (jb_one (js_if (jt_bool (jw_or (jt_not (jt_tru (je_call (k := 1) d_is_name (by exact hr.mono (by decide)) (by exact hg) tk_b (ja_cons (je_v 1) (ja_nil))))) (jw_or1 (jt_not (jt_tru (je_call (k := 3) d_is_capacity (by exact hr.mono (by decide)) (by exact hg) tk_b (ja_cons (je_v 2) (ja_nil)))))))) (jb_one (js_raise rfl tk_b (PySem.OwnEx.makes_of PySem.F.excBase_Exception) PySem.F.store_Exception M.x_InvalidProgram.choose_spec.choose_spec (by exact hr) (je_gstr (M.c_CAPACITIES.choose_spec)))) (jb_nil)))))
theorem b_Program_init (M : Mods K w mg) (d_require_tasks : DefG P w K mg base n 5 "require_tasks" ["tasks"] [] f_require_tasks) (d_require_capacities : DefG P w K mg base n 4 "require_capacities" ["capacities"] [] f_require_capacities) : BodyG P w K mg base n 5 ["self", "tasks", "capacities", "given", "queue"] "Program.__init__" (defScope st_Program_init) (defBody st_Program_init) m_Program_init := by
  intro f cd A outer s H E hr hg
  unfold m_Program_init
  exact jb_cons (js_expr (je_call (k := 5) d_require_tasks (by exact hr.mono (by decide)) (by exact hg) tk_b (ja_cons (je_v 1) (ja_nil)))) (jb_cons (js_if (jt_cmp oj_isNot (je_v 2) (je_non) (by rfl)) (jb_one (js_expr (je_call (k := 4) d_require_capacities (by exact hr.mono (by decide)) (by exact hg) tk_b (ja_cons (je_v 2) (ja_nil))))) (jb_nil)) (jb_cons (js_set sc_Program_init.nd rfl (by first | exact Or.inl rfl | exact Or.inr rfl) (je_if (jt_cmp oj_is (je_v 2) (je_non) (by rfl)) (je_dis0) (je_v 2))) (jb_cons (js_fld M.K_Program.choose_spec (M.n_Program_own_tasks _ M.K_Program.choose_spec.gC) (je_v 1) (je_v 0)) (jb_one (js_fld M.K_Program.choose_spec (M.n_Program_own_capacities _ M.K_Program.choose_spec.gC) (je_frz (je_dc (own := [("queue", 4)]) (ix := [4]) rfl sc_Program_init.nd (ji_of (je_callB (cj_sortedD rfl) M.z_sorted bt_sorted (ja_cons (je_v 3) (ja_nil)))) (blkOk_by (by with_unfolding_all rfl)) (by decide) (fun _ _ _ _ _ => by exact jg_n sc_Program_init.nd rfl (by first | exact Or.inl rfl | exact Or.inr rfl)) (fun _ _ _ _ _ => by exact jts_one (jt_cmp (oj_ne (by exact hr.units)) (je_dix (by exact un1 hr) (je_v 3) (je_v 4)) (je_gint (M.c_USUAL_CAPACITY.choose_spec)) (by rfl))) (fun _ _ _ _ _ => by exact je_v 4) (fun _ _ _ _ _ => by exact je_dix (by exact un1 hr) (je_v 3) (je_v 4)))) (je_v 0))))))
theorem b__law_is_name (M : Mods K w mg)  : BodyG P w K mg base n 0 ["_law_value", "_law_sign"] "_law_is_name" (defScope st__law_is_name) (defBody st__law_is_name) m__law_is_name := by
  intro f cd A outer s H E hr hg
  unfold m__law_is_name
  exact jb_cons (js_if (jt_bool (jw_or (jt_not (jt_tru (je_callB (cj_isi) M.z_isinstance bt_isinstance (ja_cons (je_v 0) (ja_cons (je_ty M.z_str bt_str) (ja_nil)))))) (jw_or1 (jt_not (jt_chain oj_le oj_le (je_int) (je_callB (cj_len) M.z_len bt_len (ja_cons (je_v 0) (ja_nil))) (je_int)))))) (jb_one (js_ret (je_bl))) (jb_nil)) (jb_one (js_ret (je_cmp (oj_eq (by exact hr.units)) (je_lc (own := [("_law_sign", 1)]) (ix := [1]) rfl sc__law_is_name.nd (ji_of (je_v 0)) (blkOk_by (by with_unfolding_all rfl)) (by decide) (fun _ _ _ _ _ => by exact jg_n sc__law_is_name.nd rfl (by first | exact Or.inl rfl | exact Or.inr rfl)) (fun _ _ _ _ _ => by exact jts_one (jt_cmp oj_notIn (je_v 1) (je_str) (by rfl))) (fun _ _ _ _ _ => by exact je_v 1)) (je_lst (ja_nil)) (by rfl))))
theorem b_Program_capacity (M : Mods K w mg) (d_is_name : DefG P w K mg base n 1 "is_name" ["value"] [] f_is_name) : BodyG P w K mg base n 1 ["self", "queue"] "Program.capacity" (defScope st_Program_capacity) (defBody st_Program_capacity) m_Program_capacity := by
  intro f cd A outer s H E hr hg
  unfold m_Program_capacity
  exact jb_cons (js_if (jt_not (jt_tru (je_call (k := 1) d_is_name (by exact hr.mono (by decide)) (by exact hg) tk_b (ja_cons (je_v 1) (ja_nil))))) (jb_one (js_raise rfl tk_b PySem.OwnEx.makes_KeyError PySem.OwnEx.store_KeyError M.x_UnknownName.choose_spec.choose_spec (by exact hr) (je_v 1))) (jb_nil)) (jb_one (js_ret (je_getD (by exact un1 hr) (je_fld M.K_Program.choose_spec (M.n_Program_own_capacities _ M.K_Program.choose_spec.gC) (je_v 0)) (je_v 1) (je_gint (M.c_USUAL_CAPACITY.choose_spec)))))
theorem b_are_slownesses (M : Mods K w mg) (d_is_name : DefG P w K mg base n 1 "is_name" ["value"] [] f_is_name) (d_is_between : DefG P w K mg base n 2 "is_between" ["value", "least", "most"] [] f_is_between) : BodyG P w K mg base n 2 ["value", "part"] "are_slownesses" (defScope st_are_slownesses) (defBody st_are_slownesses) m_are_slownesses := by
  intro f cd A outer s H E hr hg
  unfold m_are_slownesses
  exact jb_cons (js_if (jt_not (jt_tru (je_callB (cj_isi) M.z_isinstance bt_isinstance (ja_cons (je_v 0) (ja_cons (je_ty M.z_dict bt_dict) (ja_nil)))))) (jb_one (js_ret (je_bl))) (jb_nil)) (jb_one (js_ret (je_callB (cj_all rfl) M.z_all bt_all (ja_cons (je_lc (own := [("part", 1)]) (ix := [1]) rfl sc_are_slownesses.nd (ji_keys (je_v 0)) (blkOk_by (by with_unfolding_all rfl)) (by decide) (fun _ _ _ _ _ => by exact jg_n sc_are_slownesses.nd rfl (by first | exact Or.inl rfl | exact Or.inr rfl)) (fun _ _ _ _ _ => by exact jts_nil) (fun _ _ _ _ _ => by exact je_and (by exact je_call (k := 1) d_is_name (by exact hr.mono (by decide)) (by exact hg) LamX.takes0 (ja_cons (je_v 1) (ja_nil))) (je_one (by exact je_call (k := 2) d_is_between (by exact hr.mono (by decide)) (by exact hg) LamX.takes0 (ja_cons (je_dix (by exact un1 hr) (je_v 0) (je_v 1)) (ja_cons (je_int) (ja_cons (je_gint (M.c_MAX_SLOWNESS.choose_spec)) (ja_nil)))))))) (ja_nil)))))
theorem b_Setting_init (M : Mods K w mg) (d_are_slownesses : DefG P w K mg base n 3 "are_slownesses" ["value"] [] f_are_slownesses) : BodyG P w K mg base n 3 ["self", "slownesses", "rule", "given", "part"] "Setting.__init__" (defScope st_Setting_init) (defBody st_Setting_init) m_Setting_init := by
  intro f cd A outer s H E hr hg
  unfold m_Setting_init
  exact jb_cons (js_if (jt_bool (jw_and (jt_cmp oj_isNot (je_v 1) (je_non) (by rfl)) (jw_and1 (jt_not (jt_tru (je_call (k := 3) d_are_slownesses (by exact hr.mono (by decide)) (by exact hg) tk_b (ja_cons (je_v 1) (ja_nil)))))))) (jb_one (js_raise rfl tk_b (PySem.OwnEx.makes_of PySem.F.excBase_Exception) PySem.F.store_Exception M.x_InvalidSetting.choose_spec.choose_spec (by exact hr) (je_v 1))) (jb_nil)) (jb_cons (js_if (jt_bool (jw_or (jt_not (jt_tru (je_callB (cj_isi) M.z_isinstance bt_isinstance (ja_cons (je_v 2) (ja_cons (je_ty M.z_str bt_str) (ja_nil)))))) (jw_or1 (jt_cmp oj_notIn (je_v 2) (je_gtup M.c_RULES.choose_spec.1 M.c_RULES.choose_spec.2) (by rfl))))) (jb_one (js_raise rfl tk_b (PySem.OwnEx.makes_of PySem.F.excBase_Exception) PySem.F.store_Exception M.x_InvalidSetting.choose_spec.choose_spec (by exact hr) (je_v 2))) (jb_nil)) (jb_cons (js_set sc_Setting_init.nd rfl (by first | exact Or.inl rfl | exact Or.inr rfl) (je_if (jt_cmp oj_is (je_v 1) (je_non) (by rfl)) (je_dis0) (je_v 1))) (jb_cons (js_fld M.K_Setting.choose_spec (M.n_Setting_own_slownesses _ M.K_Setting.choose_spec.gC) (je_frz (je_dc (own := [("part", 4)]) (ix := [4]) rfl sc_Setting_init.nd (ji_of (je_callB (cj_sortedD rfl) M.z_sorted bt_sorted (ja_cons (je_v 3) (ja_nil)))) (blkOk_by (by with_unfolding_all rfl)) (by decide) (fun _ _ _ _ _ => by exact jg_n sc_Setting_init.nd rfl (by first | exact Or.inl rfl | exact Or.inr rfl)) (fun _ _ _ _ _ => by exact jts_one (jt_cmp (oj_ne (by exact hr.units)) (je_dix (by exact un1 hr) (je_v 3) (je_v 4)) (je_gint (M.c_USUAL_SLOWNESS.choose_spec)) (by rfl))) (fun _ _ _ _ _ => by exact je_v 4) (fun _ _ _ _ _ => by exact je_dix (by exact un1 hr) (je_v 3) (je_v 4)))) (je_v 0)) (jb_one (js_fld M.K_Setting.choose_spec (M.n_Setting_own_rule _ M.K_Setting.choose_spec.gC) (je_v 2) (je_v 0))))))
theorem b_Setting_slowness (M : Mods K w mg) (d_is_name : DefG P w K mg base n 1 "is_name" ["value"] [] f_is_name) : BodyG P w K mg base n 1 ["self", "part"] "Setting.slowness" (defScope st_Setting_slowness) (defBody st_Setting_slowness) m_Setting_slowness := by
  intro f cd A outer s H E hr hg
  unfold m_Setting_slowness
  exact jb_cons (js_if (jt_not (jt_tru (je_call (k := 1) d_is_name (by exact hr.mono (by decide)) (by exact hg) tk_b (ja_cons (je_v 1) (ja_nil))))) (jb_one (js_raise rfl tk_b PySem.OwnEx.makes_KeyError PySem.OwnEx.store_KeyError M.x_UnknownName.choose_spec.choose_spec (by exact hr) (je_v 1))) (jb_nil)) (jb_one (js_ret (je_getD (by exact un1 hr) (je_fld M.K_Setting.choose_spec (M.n_Setting_own_slownesses _ M.K_Setting.choose_spec.gC) (je_v 0)) (je_v 1) (je_gint (M.c_USUAL_SLOWNESS.choose_spec)))))
theorem b_Program_tasks (M : Mods K w mg)  : BodyG P w K mg base n 0 ["self"] "Program.tasks" (defScope st_Program_tasks) (defBody st_Program_tasks) m_Program_tasks := by
  intro f cd A outer s H E hr hg
  unfold m_Program_tasks
  exact jb_one (js_ret (je_fld M.K_Program.choose_spec (M.n_Program_own_tasks _ M.K_Program.choose_spec.gC) (je_v 0)))
theorem b__law_is_whole (M : Mods K w mg)  : BodyG P w K mg base n 0 ["_law_value", "_law_least", "_law_most"] "_law_is_whole" (defScope st__law_is_whole) (defBody st__law_is_whole) m__law_is_whole := by
  intro f cd A outer s H E hr hg
  unfold m__law_is_whole
  exact jb_one (js_ret (je_and (je_callB (cj_isi) M.z_isinstance bt_isinstance (ja_cons (je_v 0) (ja_cons (je_ty M.z_int bt_int) (ja_nil)))) (je_and (je_not (je_callB (cj_isi) M.z_isinstance bt_isinstance (ja_cons (je_v 0) (ja_cons (je_ty M.z_bool bt_bool) (ja_nil))))) (je_one (je_chain oj_le oj_le (je_v 1) (je_v 0) (je_v 2))))))
theorem b__law_word_right (M : Mods K w mg) (d_Program_init_2 : MkG P w K mg base n 6 "Program" ["self", "tasks", "capacities"] [.non] f_Program_init) (d__law_is_name : DefG P w K mg base n 1 "_law_is_name" ["_law_value"] [] f__law_is_name) (d_Program_capacity : MethG P w K mg base n 2 "Program" "capacity" ["self", "queue"] [] f_Program_capacity) (d_Setting_init_1 : MkG P w K mg base n 4 "Setting" ["self", "slownesses", "rule"] [.non, (.str "turn")] f_Setting_init) (d_Setting_slowness : MethG P w K mg base n 2 "Setting" "slowness" ["self", "part"] [] f_Setting_slowness) (d_Program_tasks : PropG P w K mg base n 1 "Program" "tasks" f_Program_tasks) (d__law_is_whole : DefG P w K mg base n 1 "_law_is_whole" ["_law_value", "_law_least", "_law_most"] [] f__law_is_whole) (d_Program_init_3 : MkG P w K mg base n 6 "Program" ["self", "tasks", "capacities"] [] f_Program_init) (d_Setting_init_2 : MkG P w K mg base n 4 "Setting" ["self", "slownesses", "rule"] [(.str "turn")] f_Setting_init) (d__law_heard : ∀ k, ToldL P w K mg base n k "_law_heard" 2 cl__law_heard) {c Pt : Addr} (TB : LamX.TabB base mg c Pt) (hm : (Pt, ("_law_word_right" ++ ".<locals>." ++ "<lambda>" : Str)) ∈ lamT K) (hu : ∀ p ∈ lamT K, p.1 = Pt → p.2 = ("_law_word_right" ++ ".<locals>." ++ "<lambda>" : Str)) : BodyL P w K mg base n 9 ["_law_word_here", "_law_many", "_law_due", "_law_told", "_law_made", "_law_fits", "_law_good", "_law_empty", "_law_room", "_law_slow"] "_law_word_right" (defScope st__law_word_right) (defBody st__law_word_right) m__law_word_right c := by
  intro f A outer s H E hr hg
  unfold m__law_word_right
  exact jb_cons (js_asg (je_tup (ja_cons (je_call (k := 1) d__law_is_name (by exact hr.mono (by decide)) (by exact hg) tk_b (ja_cons (je_v 0) (ja_nil))) (ja_cons (je_frz (je_make (k := 6) d_Program_init_2 (by exact hr.mono (by decide)) (by exact hg) tk_b (ja_cons (je_tup (ja_cons (je_tup (ja_nil)) (ja_nil))) (ja_nil)))) (ja_nil)))) (jg_tup rfl (jgs_cons (jg_n sc__law_word_right.nd rfl (by first | exact Or.inl rfl | exact Or.inr rfl)) (jgs_cons (jg_n sc__law_word_right.nd rfl (by first | exact Or.inl rfl | exact Or.inr rfl)) (jgs_nil))))) (jb_cons (js_set sc__law_word_right.nd rfl (by first | exact Or.inl rfl | exact Or.inr rfl) (je_lst (ja_cons (je_str) (ja_cons (je_callB (cj_repr (by exact hg) (by exact hr.units)) M.z_repr bt_repr (ja_cons (je_v 0) (ja_nil))) (ja_cons (je_bl) (ja_nil)))))) (jb_cons (js_own sc__law_word_right.nd rfl (by first | exact Or.inl rfl | exact Or.inr rfl) (ja_cons (je_lamL (k := 2) (d__law_heard 3) TB rfl (by exact hm) (by exact hu) (by exact hr.mono (by decide)) (by exact hg) (LamX.lamS_by (by show LamX.lamSB (defScope st__law_word_right) _ = true; decide +kernel)) rfl (fun _ _ _ _ _ => rfl) (fun A outer s H E f c hr hg => by exact je_meth (k := 2) d_Program_capacity (by exact hr.mono (by decide)) (by exact hg) (takes_of rfl rfl rfl rfl) (je_v 7) (ja_cons (je_v 0) (ja_nil)))) (ja_nil))) (jb_cons (js_app (i := 3) rfl (by first | exact Or.inl rfl | exact Or.inr (Or.inl rfl)) (je_lamL (k := 5) (d__law_heard 6) TB rfl (by exact hm) (by exact hu) (by exact hr.mono (by decide)) (by exact hg) (LamX.lamS_by (by show LamX.lamSB (defScope st__law_word_right) _ = true; decide +kernel)) rfl (fun _ _ _ _ _ => rfl) (fun A outer s H E f c hr hg => by exact je_meth (k := 2) d_Setting_slowness (by exact hr.mono (by decide)) (by exact hg) (takes_of rfl rfl rfl rfl) (je_frz (je_make0 (k := 4) d_Setting_init_1 (by exact hr.mono (by decide)) (by exact hg) (takes_of rfl rfl rfl rfl))) (ja_cons (je_v 0) (ja_nil))))) (jb_frz (jb_cons (js_if (jt_cmp (oj_ne (by exact hr.units)) (je_v 3) (je_if (jt_tru (je_v 6)) (je_lst (ja_cons (je_int) (ja_cons (je_int) (ja_nil)))) (je_lst (ja_cons (je_v 2) (ja_cons (je_v 2) (ja_nil))))) (by rfl)) (jb_one (js_ret (je_bl))) (jb_nil)) (jb_cons (js_set sc__law_word_right.nd rfl (by first | exact Or.inl rfl | exact Or.inr rfl) (je_lamL (k := 7) (d__law_heard 8) TB rfl (by exact hm) (by exact hu) (by exact hr.mono (by decide)) (by exact hg) (LamX.lamS_by (by show LamX.lamSB (defScope st__law_word_right) _ = true; decide +kernel)) rfl (fun _ _ _ _ _ => rfl) (fun A outer s H E f c hr hg => by exact je_prop (k := 1) d_Program_tasks (by exact hr.mono (by decide)) (by exact hg) (je_frz (je_make (k := 6) d_Program_init_2 (by exact hr.mono (by decide)) (by exact hg) (takes_of rfl rfl rfl rfl) (ja_cons (je_tup (ja_cons (je_tup (ja_cons (je_tup (ja_cons (je_str) (ja_cons (je_v 0) (ja_nil)))) (ja_nil))) (ja_nil))) (ja_nil))))))) (jb_cons (js_if (jt_cmp (oj_ne (by exact hr.units)) (je_v 4) (je_if (jt_tru (je_v 6)) (je_tup (ja_cons (je_tup (ja_cons (je_tup (ja_cons (je_str) (ja_cons (je_v 0) (ja_nil)))) (ja_nil))) (ja_nil))) (je_lst (ja_cons (je_str) (ja_cons (je_str) (ja_nil))))) (by rfl)) (jb_one (js_ret (je_bl))) (jb_nil)) (jb_cons (js_asg (je_tup (ja_cons (je_dis (jps_cons (je_v 0) (je_v 1) (jps_nil))) (ja_cons (je_dis (jps_cons (je_v 0) (je_v 1) (jps_nil))) (ja_nil)))) (jg_tup rfl (jgs_cons (jg_n sc__law_word_right.nd rfl (by first | exact Or.inl rfl | exact Or.inr rfl)) (jgs_cons (jg_n sc__law_word_right.nd rfl (by first | exact Or.inl rfl | exact Or.inr rfl)) (jgs_nil))))) (jb_cons (js_set sc__law_word_right.nd rfl (by first | exact Or.inl rfl | exact Or.inr rfl) (je_and (je_v 6) (je_one (je_call (k := 1) d__law_is_whole (by exact hr.mono (by decide)) (by exact hg) tk_b (ja_cons (je_v 1) (ja_cons (je_int) (ja_cons (je_int) (ja_nil)))))))) (jb_cons (js_if (jt_cmp (oj_ne (by exact hr.units)) (je_lamL (k := 7) (d__law_heard 8) TB rfl (by exact hm) (by exact hu) (by exact hr.mono (by decide)) (by exact hg) (LamX.lamS_by (by show LamX.lamSB (defScope st__law_word_right) _ = true; decide +kernel)) rfl (fun _ _ _ _ _ => rfl) (fun A outer s H E f c hr hg => by exact je_meth (k := 2) d_Program_capacity (by exact hr.mono (by decide)) (by exact hg) (takes_of rfl rfl rfl rfl) (je_frz (je_make (k := 6) d_Program_init_3 (by exact hr.mono (by decide)) (by exact hg) (takes_of rfl rfl rfl rfl) (ja_cons (je_tup (ja_cons (je_tup (ja_nil)) (ja_nil))) (ja_cons (je_v 8) (ja_nil))))) (ja_cons (je_v 0) (ja_nil)))) (je_if (jt_tru (je_v 5)) (je_v 1) (je_lst (ja_cons (je_str) (ja_cons (je_str) (ja_nil))))) (by rfl)) (jb_one (js_ret (je_bl))) (jb_nil)) (jb_cons (js_set sc__law_word_right.nd rfl (by first | exact Or.inl rfl | exact Or.inr rfl) (je_and (je_v 6) (je_one (je_call (k := 1) d__law_is_whole (by exact hr.mono (by decide)) (by exact hg) tk_b (ja_cons (je_v 1) (ja_cons (je_int) (ja_cons (je_op oj_pow (je_int) (je_int)) (ja_nil)))))))) (jb_one (js_ret (je_cmp (oj_eq (by exact hr.units)) (je_lamL (k := 5) (d__law_heard 6) TB rfl (by exact hm) (by exact hu) (by exact hr.mono (by decide)) (by exact hg) (LamX.lamS_by (by show LamX.lamSB (defScope st__law_word_right) _ = true; decide +kernel)) rfl (fun _ _ _ _ _ => rfl) (fun A outer s H E f c hr hg => by exact je_meth (k := 2) d_Setting_slowness (by exact hr.mono (by decide)) (by exact hg) (takes_of rfl rfl rfl rfl) (je_frz (je_make (k := 4) d_Setting_init_2 (by exact hr.mono (by decide)) (by exact hg) (takes_of rfl rfl rfl rfl) (ja_cons (je_v 9) (ja_nil)))) (ja_cons (je_v 0) (ja_nil)))) (je_if (jt_tru (je_v 5)) (je_v 1) (je_lst (ja_cons (je_str) (ja_cons (je_callB (cj_repr (by exact hg) (by exact hr.units)) M.z_repr bt_repr (ja_cons (je_v 9) (ja_nil))) (ja_nil))))) (by rfl)))))))))))))))
theorem b__law_word (M : Mods K w mg) (d__law_draw : DefG P w K mg base n 1 "_law_draw" ["_law_state", "_law_many"] [] f__law_draw) : BodyG P w K mg base n 1 ["_law_state", "_law_signs", "_law_word_here", "_law_odd", "_law_at", "_law_turn"] "_law_word" (defScope st__law_word) (defBody st__law_word) m__law_word := by
  intro f cd A outer s H E hr hg
  unfold m__law_word
  exact jb_cons (js_set sc__law_word.nd rfl (by first | exact Or.inl rfl | exact Or.inr rfl) (je_str)) (jb_cons (js_set sc__law_word.nd rfl (by first | exact Or.inl rfl | exact Or.inr rfl) (je_join (je_str) (je_lc (own := [("_law_turn", 5)]) (ix := [5]) rfl sc__law_word.nd (ji_rg1 (ja_cons (je_op oj_add (je_int) (je_call (k := 1) d__law_draw (by exact hr.mono (by decide)) (by exact hg) tk_b (ja_cons (je_v 0) (ja_cons (je_int) (ja_nil))))) (ja_nil)) M.z_range) (blkOk_by (by with_unfolding_all rfl)) (by decide) (fun _ _ _ _ _ => by exact jg_n sc__law_word.nd rfl (by first | exact Or.inl rfl | exact Or.inr rfl)) (fun _ _ _ _ _ => by exact jts_nil) (fun _ _ _ _ _ => by exact je_ix (je_v 1) (by exact je_call (k := 1) d__law_draw (by exact hr.mono (by decide)) (by exact hg) LamX.takes0 (ja_cons (je_v 0) (ja_cons (je_int) (ja_nil)))) (fun _ _ => rfl))))) (jb_cons (js_set sc__law_word.nd rfl (by first | exact Or.inl rfl | exact Or.inr rfl) (je_ix (je_lst (ja_cons (je_str) (ja_cons (je_str) (ja_cons (je_str) (ja_cons (je_str) (ja_cons (je_str) (ja_cons (je_str) (ja_cons (je_str) (ja_cons (je_str) (ja_nil)))))))))) (je_call (k := 1) d__law_draw (by exact hr.mono (by decide)) (by exact hg) tk_b (ja_cons (je_v 0) (ja_cons (je_int) (ja_nil)))) (fun _ _ => rfl))) (jb_cons (js_set sc__law_word.nd rfl (by first | exact Or.inl rfl | exact Or.inr rfl) (je_call (k := 1) d__law_draw (by exact hr.mono (by decide)) (by exact hg) tk_b (ja_cons (je_v 0) (ja_cons (je_op oj_add (je_callB (cj_len) M.z_len bt_len (ja_cons (je_v 2) (ja_nil))) (je_int)) (ja_nil))))) (jb_one (js_ret (je_ix (je_lst (ja_cons (je_v 2) (ja_cons (je_v 2) (ja_cons (je_op oj_add (je_op oj_add (je_sl (je_v 2) (jo_none) (jo_some (je_v 4))) (je_v 3)) (je_sl (je_v 2) (jo_some (je_v 4)) (jo_none))) (ja_cons (je_v 3) (ja_nil)))))) (je_call (k := 1) d__law_draw (by exact hr.mono (by decide)) (by exact hg) tk_b (ja_cons (je_v 0) (ja_cons (je_int) (ja_nil)))) (fun _ _ => rfl)))))))
theorem b_law (M : Mods K w mg) (d__law_numbers : DefG P w K mg base n 1 "_law_numbers" ["_law_cell", "_law_salt", "_law_sizes"] [] f__law_numbers) (d__law_draw : DefG P w K mg base n 1 "_law_draw" ["_law_state", "_law_many"] [] f__law_draw) (d__law_word_right : DefG P w K mg base n 10 "_law_word_right" ["_law_word_here", "_law_many"] [] f__law_word_right) (d__law_word : DefG P w K mg base n 2 "_law_word" ["_law_state"] [] f__law_word) (d_Program_init_2 : MkG P w K mg base n 6 "Program" ["self", "tasks", "capacities"] [.non] f_Program_init) (d_Program_capacity : MethG P w K mg base n 2 "Program" "capacity" ["self", "queue"] [] f_Program_capacity) (d_Setting_init_1 : MkG P w K mg base n 4 "Setting" ["self", "slownesses", "rule"] [.non, (.str "turn")] f_Setting_init) (d_Setting_slowness : MethG P w K mg base n 2 "Setting" "slowness" ["self", "part"] [] f_Setting_slowness) (d__law_heard : ∀ k, ToldL P w K mg base n k "_law_heard" 2 cl__law_heard) {c Pt : Addr} (TB : LamX.TabB base mg c Pt) (hm : (Pt, ("law" ++ ".<locals>." ++ "<lambda>" : Str)) ∈ lamT K) (hu : ∀ p ∈ lamT K, p.1 = Pt → p.2 = ("law" ++ ".<locals>." ++ "<lambda>" : Str)) : BodyL P w K mg base n 10 ["_law_script", "_law_odd", "_law_k", "_law_cell", "_law_state", "_law_turn", "_law_many"] "law" (defScope st_law) (defBody st_law) m_law c := by
  intro f A outer s H E hr hg
  unfold m_law
  exact jb_cons (js_for ps_b rfl (ji_en (ja_cons (je_op oj_add (je_sl (je_v 0) (jo_none) (jo_some (je_int))) (je_op oj_mul (je_lst (ja_cons (je_int) (ja_nil))) (je_callTy cj_int M.z_int bt_int (ja_cons (je_cmp (oj_eq (by exact hr.units)) (je_v 0) (je_lst (ja_nil)) (by rfl)) (ja_nil))))) (ja_nil)) M.z_enumerate) (jg_tup rfl (jgs_cons (jg_n sc_law.nd rfl (by first | exact Or.inl rfl | exact Or.inr rfl)) (jgs_cons (jg_n sc_law.nd rfl (by first | exact Or.inl rfl | exact Or.inr rfl)) (jgs_nil)))) (jb_cons (js_own sc_law.nd rfl (by first | exact Or.inl rfl | exact Or.inr rfl) (ja_cons (je_call (k := 1) d__law_numbers (by exact hr.mono (by decide)) (by exact hg) tk_b (ja_cons (je_v 3) (ja_cons (je_op oj_add (je_int) (je_v 2)) (ja_cons (je_op oj_mul (je_lst (ja_cons (je_int) (ja_nil))) (je_int)) (ja_nil))))) (ja_cons (je_int) (ja_nil)))) (jb_cell (jb_one (js_for ps_b rfl (ji_rg1 (ja_cons (je_int) (ja_nil)) M.z_range) (jg_n sc_law.nd rfl (by first | exact Or.inl rfl | exact Or.inr rfl)) (jb_cons (js_set sc_law.nd rfl (by first | exact Or.inl rfl | exact Or.inr rfl) (je_ix (je_lst (ja_cons (je_int) (ja_cons (je_int) (ja_cons (je_int) (ja_cons (je_int) (ja_cons (je_call (k := 1) d__law_draw (by exact hr.mono (by decide)) (by exact hg) tk_b (ja_cons (je_v 4) (ja_cons (je_int) (ja_nil)))) (ja_cons (je_neg (je_int)) (ja_cons (je_op oj_pow (je_int) (je_int)) (ja_cons (je_op oj_add (je_op oj_pow (je_int) (je_int)) (je_int)) (ja_cons (je_bl) (ja_cons (je_non) (ja_nil)))))))))))) (je_call (k := 1) d__law_draw (by exact hr.mono (by decide)) (by exact hg) tk_b (ja_cons (je_v 4) (ja_cons (je_int) (ja_nil)))) (fun _ _ => rfl))) (jb_one (js_if (jt_not (jt_tru (je_call (k := 10) d__law_word_right (by exact hr.mono (by decide)) (by exact hg) tk_b (ja_cons (je_call (k := 2) d__law_word (by exact hr.mono (by decide)) (by exact hg) tk_b (ja_cons (je_v 4) (ja_nil))) (ja_cons (je_v 6) (ja_nil)))))) (jb_one (js_ret (je_bl))) (jb_nil))))))))) (jb_cons (js_for ps_b rfl (ji_of (je_lst (ja_cons (je_non) (ja_cons (je_int) (ja_cons (je_bl) (ja_cons (je_tup (ja_cons (je_str) (ja_nil))) (ja_cons (je_lst (ja_cons (je_str) (ja_nil))) (ja_cons (je_dis0) (ja_nil))))))))) (jg_n sc_law.nd rfl (by first | exact Or.inl rfl | exact Or.inr rfl)) (jb_cons (js_if (jt_cmp (oj_ne (by exact hr.units)) (je_lamL (k := 7) (d__law_heard 8) TB rfl (by exact hm) (by exact hu) (by exact hr.mono (by decide)) (by exact hg) (LamX.lamS_by (by show LamX.lamSB (defScope st_law) _ = true; decide +kernel)) rfl (fun _ _ _ _ _ => rfl) (fun A outer s H E f c hr hg => by exact je_meth (k := 2) d_Program_capacity (by exact hr.mono (by decide)) (by exact hg) (takes_of rfl rfl rfl rfl) (je_frz (je_make (k := 6) d_Program_init_2 (by exact hr.mono (by decide)) (by exact hg) (takes_of rfl rfl rfl rfl) (ja_cons (je_tup (ja_cons (je_tup (ja_nil)) (ja_nil))) (ja_nil)))) (ja_cons (je_v 1) (ja_nil)))) (je_lst (ja_cons (je_str) (ja_cons (je_callB (cj_repr (by exact hg) (by exact hr.units)) M.z_repr bt_repr (ja_cons (je_v 1) (ja_nil))) (ja_cons (je_bl) (ja_nil))))) (by rfl)) (jb_one (js_ret (je_bl))) (jb_nil)) (jb_one (js_if (jt_cmp (oj_ne (by exact hr.units)) (je_lamL (k := 5) (d__law_heard 6) TB rfl (by exact hm) (by exact hu) (by exact hr.mono (by decide)) (by exact hg) (LamX.lamS_by (by show LamX.lamSB (defScope st_law) _ = true; decide +kernel)) rfl (fun _ _ _ _ _ => rfl) (fun A outer s H E f c hr hg => by exact je_meth (k := 2) d_Setting_slowness (by exact hr.mono (by decide)) (by exact hg) (takes_of rfl rfl rfl rfl) (je_frz (je_make0 (k := 4) d_Setting_init_1 (by exact hr.mono (by decide)) (by exact hg) (takes_of rfl rfl rfl rfl))) (ja_cons (je_v 1) (ja_nil)))) (je_lst (ja_cons (je_str) (ja_cons (je_callB (cj_repr (by exact hg) (by exact hr.units)) M.z_repr bt_repr (ja_cons (je_v 1) (ja_nil))) (ja_cons (je_bl) (ja_nil))))) (by rfl)) (jb_one (js_ret (je_bl))) (jb_nil))))) (jb_one (js_ret (je_bl))))
end
end K08

set_option Elab.async false
set_option linter.all false
set_option autoImplicit false
set_option maxRecDepth 100000
set_option maxHeartbeats 4000000
namespace K08
open PySem PySem.Spec L2 SL
open PyProof.Rows hiding St
def lowS : Str := "abcdefghijklmnopqrstuvwxyz"
def lowB (c : Nat) : Bool := decide (c ∈ lowS.cps.toList)
def nameB (s : Str) : Bool := decide (1 ≤ s.length) && (decide (s.length ≤ 8) && s.cps.toList.all lowB)
def nameI : IV → Bool
  | .str s => nameB s
  | _ => false
def wholeI (x : IV) (lo hi : Int) : Bool := match x with
  | .int i => decide (lo ≤ i) && decide (i ≤ hi)
  | _ => false
def restB (w : Str) (r : List IV) (many : Int) : Bool :=
  if w = "work" then (match r with | [a, b] => nameI a && wholeI b 0 1000000000000000000000000000000 | _ => false)
  else if w = "put" then (match r with | [a, b] => nameI a && wholeI b 0 9 | _ => false)
  else if w = "skip" then (match r with | [a, b] => wholeI a 0 9 && wholeI b 1 20 | _ => false)
  else if w = "await" then (match r with | [a] => wholeI a 0 (many - 1) | _ => false)
  else if w = "take" ∨ w = "give" ∨ w = "get" then (match r with | [a] => nameI a | _ => false)
  else false
def stepI (x : IV) (many : Int) : Bool := match x with
  | .tup (.str w :: r) => restB w r many
  | _ => false
/-- a value and, of a tuple, its items -/
def plain2 : IV → Bool
  | .tup xs => xs.all plainI
  | x => plainI x
section
variable {n : Nat} {cs : List Cell} {x : IV}
theorem seq_str {s : Str} (h : s.length ≤ 1000000) : seqI (.str s) = some (s.cps.toList.map fun c => .str ⟨#[c]⟩) := if_pos h
theorem len_str {s : Str} (h : s.length ≤ 1000000) : fLen cs [.str s] = some (.int s.length) := if_pos h
theorem in_low {c : Nat} : cIn (.str ⟨#[c]⟩) (.str lowS) = some (.bl (lowB c)) := rfl
theorem notin_low {c : Nat} : cNotIn (.str ⟨#[c]⟩) (.str lowS) = some (.bl (!lowB c)) := rfl
theorem isName_ok (h : plainI x = true) : f_is_name n [x] cs = .ok (.bl (nameI x)) cs := by
  unfold f_is_name m_is_name
  have e := isi_str (cs := cs) h
  cases hx : knStr x with
  | false =>
    rw [hx] at e
    have : nameI x = false := by cases x <;> first | rfl | cases hx
    simp [startI, e, this, List.replicate]
  | true =>
    rw [hx] at e
    obtain ⟨s, rfl⟩ : ∃ s, x = .str s := by cases x <;> first | exact ⟨_, rfl⟩ | cases hx
    have hl : s.length ≤ 1000000 := by simpa [plainI] using h
    by_cases h1 : 1 ≤ s.length
    · by_cases h2 : s.length ≤ 8
      · have h1' : (1 : Int) ≤ (s.length : Int) := by omega
        have h2' : (s.length : Int) ≤ 8 := by omega
        have hc := cmp_pure (n := n) (gm := gmN 1) (mt := M.pure true) (me := e2 cIn (eV 1) (M.pure (.str "abcdefghijklmnopqrstuvwxyz"))) (σ := [.v (.str s), .un]) (cs := cs) (fun _ => true) (fun x => match x with | .str z => .bl (match z.cps.toList with | [c] => lowB c | _ => false) | _ => .non) (s.cps.toList.map fun c => .str ⟨#[c]⟩) [] (by simp; exact hl) (fun y hy => by
          obtain ⟨c, hc, rfl⟩ := List.mem_map.mp hy
          have := in_low (c := c)
          unfold lowS at this
          exact ⟨[.v (.str s), .v (.str ⟨#[c]⟩)], rfl, rfl, fun _ => by simp [this]⟩)
        have hb := blsOf_map lowB s.cps.toList
        rw [List.filter_eq_self.mpr (by simp), List.map_map] at hc
        have hmm : (fun x : IV => match x with | .str z => IV.bl (match z.cps.toList with | [c] => lowB c | _ => false) | _ => .non) ∘ (fun c : Nat => IV.str ⟨#[c]⟩) = fun c => .bl (lowB c) := rfl
        rw [hmm] at hc
        have hall : fAll cs [.lst (s.cps.toList.map fun c => .bl (lowB c))] = some (.bl (s.cps.toList.all lowB)) := by
          show (blsOf _).map _ = _
          rw [hb]; simp [Function.comp]
        simp [startI, e, len_str hl, h1', h2', seq_str hl, wipeI, hc, hall, nameI, nameB, h1, h2, List.replicate]
      · have h1' : (1 : Int) ≤ (s.length : Int) := by omega
        have h2' : ¬ (s.length : Int) ≤ 8 := by omega
        simp [startI, e, len_str hl, h1', h2', nameI, nameB, h1, h2, List.replicate]
    · have h1' : ¬ (1 : Int) ≤ (s.length : Int) := by omega
      simp [startI, e, len_str hl, h1', nameI, nameB, h1, List.replicate]
theorem lawName_ok (h : plainI x = true) : f__law_is_name n [x] cs = .ok (.bl (nameI x)) cs := by
  unfold f__law_is_name m__law_is_name
  have e := isi_str (cs := cs) h
  cases hx : knStr x with
  | false =>
    rw [hx] at e
    have : nameI x = false := by cases x <;> first | rfl | cases hx
    simp [startI, e, this, List.replicate]
  | true =>
    rw [hx] at e
    obtain ⟨s, rfl⟩ : ∃ s, x = .str s := by cases x <;> first | exact ⟨_, rfl⟩ | cases hx
    have hl : s.length ≤ 1000000 := by simpa [plainI] using h
    by_cases h1 : 1 ≤ s.length
    · by_cases h2 : s.length ≤ 8
      · have h1' : (1 : Int) ≤ (s.length : Int) := by omega
        have h2' : (s.length : Int) ≤ 8 := by omega
        have hc := cmp_pure (n := n) (gm := gmN 1) (mt := mB (e2 cNotIn (eV 1) (M.pure (.str "abcdefghijklmnopqrstuvwxyz")))) (me := eV 1) (σ := [.v (.str s), .un]) (cs := cs) (fun x => match x with | .str z => (match z.cps.toList with | [c] => !lowB c | _ => false) | _ => false) (fun x => x) (s.cps.toList.map fun c => .str ⟨#[c]⟩) [] (by simp; exact hl) (fun y hy => by
          obtain ⟨c, hc, rfl⟩ := List.mem_map.mp hy
          have := notin_low (c := c)
          unfold lowS at this
          exact ⟨[.v (.str s), .v (.str ⟨#[c]⟩)], rfl, by simp [this], fun _ => rfl⟩)
        simp only [List.map_id', List.nil_append, List.filter_map] at hc
        have hmm : (fun x : IV => match x with | .str z => (match z.cps.toList with | [c] => !lowB c | _ => false) | _ => false) ∘ (fun c : Nat => IV.str ⟨#[c]⟩) = fun c => !lowB c := rfl
        rw [hmm] at hc
        have hemp : (List.map (fun c : Nat => IV.str ⟨#[c]⟩) (s.cps.toList.filter fun c => !lowB c)).isEmpty = s.cps.toList.all lowB := by
          generalize s.cps.toList = l
          induction l with
          | nil => rfl
          | cons c l ih =>
            cases e : lowB c with
            | true => simp [List.filter_cons, e]; simpa using ih
            | false => simp [List.filter_cons, e]
        simp [startI, e, len_str hl, h1', h2', seq_str hl, wipeI, hc, nameI, nameB, h1, h2, List.replicate]
        simpa using hemp
      · have h1' : (1 : Int) ≤ (s.length : Int) := by omega
        have h2' : ¬ (s.length : Int) ≤ 8 := by omega
        simp [startI, e, len_str hl, h1', h2', nameI, nameB, h1, h2, List.replicate]
    · have h1' : ¬ (1 : Int) ≤ (s.length : Int) := by omega
      simp [startI, e, len_str hl, h1', nameI, nameB, h1, List.replicate]
theorem integer_ok (h : plainI x = true) : f_is_integer n [x] cs = .ok (.bl (knInt x && !knBl x)) cs := by
  unfold f_is_integer m_is_integer
  simp [startI, isi_int h, isi_bool h, List.replicate]
  cases knInt x <;> simp
theorem between_ok {lo hi : Int} (h : plainI x = true) : f_is_between n [x, .int lo, .int hi] cs = .ok (.bl (wholeI x lo hi)) cs := by
  unfold f_is_between m_is_between
  cases x with
  | int i => by_cases h1 : lo ≤ i <;> simp [startI, integer_ok h, List.replicate, knInt, knBl, wholeI, h1]
  | bl b => simp [startI, integer_ok h, List.replicate, knInt, knBl, wholeI]
  | _ => simp [startI, integer_ok h, List.replicate, knInt, knBl, wholeI]
theorem whole_ok {lo hi : Int} (h : plainI x = true) : f__law_is_whole n [x, .int lo, .int hi] cs = .ok (.bl (wholeI x lo hi)) cs := by
  unfold f__law_is_whole m__law_is_whole
  cases x with
  | int i => by_cases h1 : lo ≤ i <;> simp [startI, isi_int h, isi_bool h, List.replicate, knInt, knBl, wholeI, h1]
  | bl b => simp [startI, isi_int h, isi_bool h, List.replicate, knInt, knBl, wholeI]
  | _ => simp [startI, isi_int h, isi_bool h, List.replicate, knInt, knBl, wholeI]
def szOf (w : Str) : Option Int := if w = "work" then some 3 else if w = "take" then some 2 else if w = "give" then some 2 else if w = "put" then some 3 else if w = "get" then some 2 else if w = "skip" then some 3 else if w = "await" then some 2 else none
def szI (w : Str) : IV := match szOf w with
  | some k => .int k
  | none => .non
theorem kget_ok {w : Str} {m : M IV} {σ : List SV} (h : m n σ cs = .ok (.str w) cs) : eKget t_LENGTHS m n σ cs = .ok (szI w) cs := by
  unfold eKget
  rw [ev_bind, h, then_ok, ev_opt]
  show optR (some ((tabV t_LENGTHS w).getD .non)) cs = _
  have : (tabV t_LENGTHS w).getD .non = szI w := by
    unfold szI szOf t_LENGTHS
    simp only [tabV, eq_comm (b := w)]
    repeat' split
    all_goals first | rfl | (simp_all; done) | skip
  rw [this]; rfl
theorem ceq_int_non {i : Int} : cEq (.int i) .non = some (.bl false) := by
  have h : SeqAt.shaped (.int i) = true ∧ SeqAt.shaped .none = true := by
    constructor <;> simp [SeqAt.shaped, PyData.canLay0, PyData.depth]
  show ((cEqG (.int i) .non).map IV.bl) = _
  unfold cEqG
  simp only [toPy]
  rw [if_pos h]
  rfl
theorem ceq_sz {w : Str} {i : Int} : cEq (.int i) (szI w) = some (.bl (decide (szOf w = some i))) := by
  unfold szI
  cases szOf w with
  | none => rw [ceq_int_non]; simp
  | some k => simp [eq_comm]
def headI : IV → Option (Str × List IV)
  | .tup (.str w :: r) => some (w, r)
  | _ => none
theorem head_none {x : IV} (h : plain2 x = true) (hh : headI x = none) : knTup x = false ∨ x = .tup [] ∨ ∃ y r, x = .tup (y :: r) ∧ plainI y = true ∧ knStr y = false := by
  cases x with
  | tup xs =>
    cases xs with
    | nil => exact .inr (.inl rfl)
    | cons y r =>
      simp [plain2] at h
      refine .inr (.inr ⟨y, r, rfl, h.1, ?_⟩)
      cases y <;> first | rfl | cases hh
  | _ => exact .inl rfl
theorem plain_of {x : IV} (h : plain2 x = true) : plainI x = true := by
  cases x <;> first | rfl | exact h
theorem head_some {x : IV} {w : Str} {r : List IV} (hh : headI x = some (w, r)) : x = .tup (.str w :: r) := by
  unfold headI at hh
  split at hh <;> cases hh
  rfl
theorem step_none {many : Int} {x : IV} (h : headI x = none) : stepI x many = false := by
  cases x with
  | tup xs =>
    cases xs with
    | nil => rfl
    | cons y r => cases y <;> first | rfl | cases h
  | _ => rfl
theorem word_ok {x : IV} (h : plain2 x = true) : f_is_word_of_step n [x] cs = .ok (.bl (match headI x with | some (w, r) => decide (szOf w = some ((r.length : Int) + 1)) | none => false)) cs := by
  have hp := plain_of h
  unfold f_is_word_of_step m_is_word_of_step
  cases hh : headI x with
  | none =>
    rcases head_none h hh with e | e | ⟨y, r, e, e2, e3⟩
    · simp [startI, isi_tup hp, e, List.replicate]
    · subst e
      simp [startI, isi_tup hp, knTup, List.replicate]
    · subst e
      have a0 : atI (y :: r) 0 = some y := atN (k := 0)
      simp [startI, isi_tup hp, isi_str e2, e3, a0, knTup, List.replicate]
  | some p =>
    obtain ⟨w, r⟩ := p
    have e := head_some hh
    subst e
    have hw : plainI (.str w) = true := by simp [plain2] at h; exact h.1
    have a0 : atI (IV.str w :: r) 0 = some (.str w) := atN (k := 0)
    have hk := kget_ok (n := n) (cs := cs) (σ := [.v (.tup (.str w :: r))]) (m := e2c ixI (eV 0) (M.pure (.int 0))) (w := w) (by simp [a0])
    have hl : fLen cs [.tup (.str w :: r)] = some (.int ((r.length : Int) + 1)) := rfl
    simp [startI, isi_tup hp, isi_str hw, knTup, knStr, a0, hk, hl, ceq_sz, List.replicate]
theorem ne_work_take : (("work" : Str) = ("take" : Str)) = False := eq_false (by decide)
theorem ne_work_give : (("work" : Str) = ("give" : Str)) = False := eq_false (by decide)
theorem ne_work_put : (("work" : Str) = ("put" : Str)) = False := eq_false (by decide)
theorem ne_work_get : (("work" : Str) = ("get" : Str)) = False := eq_false (by decide)
theorem ne_work_skip : (("work" : Str) = ("skip" : Str)) = False := eq_false (by decide)
theorem ne_work_await : (("work" : Str) = ("await" : Str)) = False := eq_false (by decide)
theorem ne_take_work : (("take" : Str) = ("work" : Str)) = False := eq_false (by decide)
theorem ne_take_give : (("take" : Str) = ("give" : Str)) = False := eq_false (by decide)
theorem ne_take_put : (("take" : Str) = ("put" : Str)) = False := eq_false (by decide)
theorem ne_take_get : (("take" : Str) = ("get" : Str)) = False := eq_false (by decide)
theorem ne_take_skip : (("take" : Str) = ("skip" : Str)) = False := eq_false (by decide)
theorem ne_take_await : (("take" : Str) = ("await" : Str)) = False := eq_false (by decide)
theorem ne_give_work : (("give" : Str) = ("work" : Str)) = False := eq_false (by decide)
theorem ne_give_take : (("give" : Str) = ("take" : Str)) = False := eq_false (by decide)
theorem ne_give_put : (("give" : Str) = ("put" : Str)) = False := eq_false (by decide)
theorem ne_give_get : (("give" : Str) = ("get" : Str)) = False := eq_false (by decide)
theorem ne_give_skip : (("give" : Str) = ("skip" : Str)) = False := eq_false (by decide)
theorem ne_give_await : (("give" : Str) = ("await" : Str)) = False := eq_false (by decide)
theorem ne_put_work : (("put" : Str) = ("work" : Str)) = False := eq_false (by decide)
theorem ne_put_take : (("put" : Str) = ("take" : Str)) = False := eq_false (by decide)
theorem ne_put_give : (("put" : Str) = ("give" : Str)) = False := eq_false (by decide)
theorem ne_put_get : (("put" : Str) = ("get" : Str)) = False := eq_false (by decide)
theorem ne_put_skip : (("put" : Str) = ("skip" : Str)) = False := eq_false (by decide)
theorem ne_put_await : (("put" : Str) = ("await" : Str)) = False := eq_false (by decide)
theorem ne_get_work : (("get" : Str) = ("work" : Str)) = False := eq_false (by decide)
theorem ne_get_take : (("get" : Str) = ("take" : Str)) = False := eq_false (by decide)
theorem ne_get_give : (("get" : Str) = ("give" : Str)) = False := eq_false (by decide)
theorem ne_get_put : (("get" : Str) = ("put" : Str)) = False := eq_false (by decide)
theorem ne_get_skip : (("get" : Str) = ("skip" : Str)) = False := eq_false (by decide)
theorem ne_get_await : (("get" : Str) = ("await" : Str)) = False := eq_false (by decide)
theorem ne_skip_work : (("skip" : Str) = ("work" : Str)) = False := eq_false (by decide)
theorem ne_skip_take : (("skip" : Str) = ("take" : Str)) = False := eq_false (by decide)
theorem ne_skip_give : (("skip" : Str) = ("give" : Str)) = False := eq_false (by decide)
theorem ne_skip_put : (("skip" : Str) = ("put" : Str)) = False := eq_false (by decide)
theorem ne_skip_get : (("skip" : Str) = ("get" : Str)) = False := eq_false (by decide)
theorem ne_skip_await : (("skip" : Str) = ("await" : Str)) = False := eq_false (by decide)
theorem ne_await_work : (("await" : Str) = ("work" : Str)) = False := eq_false (by decide)
theorem ne_await_take : (("await" : Str) = ("take" : Str)) = False := eq_false (by decide)
theorem ne_await_give : (("await" : Str) = ("give" : Str)) = False := eq_false (by decide)
theorem ne_await_put : (("await" : Str) = ("put" : Str)) = False := eq_false (by decide)
theorem ne_await_get : (("await" : Str) = ("get" : Str)) = False := eq_false (by decide)
theorem ne_await_skip : (("await" : Str) = ("skip" : Str)) = False := eq_false (by decide)
theorem named_ok {w : Str} : cIn (.str w) (.tup [.str "work", .str "take", .str "give", .str "put", .str "get"]) = some (.bl (decide (w = "work") || (decide (w = "take") || (decide (w = "give") || (decide (w = "put") || decide (w = "get")))))) := by
  show some (IV.bl (inV (.str w) [.str "work", .str "take", .str "give", .str "put", .str "get"])) = _
  unfold inV
  simp only [List.any_cons, List.any_nil, eqV, Bool.or_false]
  have : ∀ a : Str, (a == w) = decide (w = a) := fun a => by
    by_cases h : a = w
    · subst h; simp
    · have h2 : ¬ w = a := fun e => h e.symm
      simp [h, h2]
  simp only [this]
theorem sz_some {w : Str} {k : Int} (h : szOf w = some k) : (w = "work" ∧ k = 3) ∨ (w = "take" ∧ k = 2) ∨ (w = "give" ∧ k = 2) ∨ (w = "put" ∧ k = 3) ∨ (w = "get" ∧ k = 2) ∨ (w = "skip" ∧ k = 3) ∨ (w = "await" ∧ k = 2) := by
  unfold szOf at h
  repeat' split at h
  all_goals first | (cases h; done) | (cases h; simp_all)
theorem len1 {r : List IV} (h : (2 : Int) = (r.length : Int) + 1) : ∃ a, r = [a] := by
  rcases r with _ | ⟨a, _ | ⟨b, r⟩⟩
  · simp at h
  · exact ⟨a, rfl⟩
  · simp at h; omega
theorem len2 {r : List IV} (h : (3 : Int) = (r.length : Int) + 1) : ∃ a b, r = [a, b] := by
  rcases r with _ | ⟨a, _ | ⟨b, _ | ⟨c, r⟩⟩⟩
  · simp at h
  · simp at h
  · exact ⟨a, b, rfl⟩
  · simp at h; omega
theorem rest_bad {w : Str} {r : List IV} {many : Int} (h : szOf w ≠ some ((r.length : Int) + 1)) : restB w r many = false := by
  unfold restB szOf at *
  repeat' split
  all_goals first | rfl | skip
  all_goals simp_all [ne_work_take, ne_work_give, ne_work_put, ne_work_get, ne_work_skip, ne_work_await, ne_take_work, ne_take_give, ne_take_put, ne_take_get, ne_take_skip, ne_take_await, ne_give_work, ne_give_take, ne_give_put, ne_give_get, ne_give_skip, ne_give_await, ne_put_work, ne_put_take, ne_put_give, ne_put_get, ne_put_skip, ne_put_await, ne_get_work, ne_get_take, ne_get_give, ne_get_put, ne_get_skip, ne_get_await, ne_skip_work, ne_skip_take, ne_skip_give, ne_skip_put, ne_skip_get, ne_skip_await, ne_await_work, ne_await_take, ne_await_give, ne_await_put, ne_await_get, ne_await_skip]
theorem a0 {α : Type} {x : α} {xs : List α} : atI (x :: xs) 0 = some x := atN (k := 0)
theorem a1 {α : Type} {x y : α} {xs : List α} : atI (x :: y :: xs) 1 = some y := atN (k := 1)
theorem a2 {α : Type} {x y z : α} {xs : List α} : atI (x :: y :: z :: xs) 2 = some z := atN (k := 2)
theorem whole_step_ok {x : IV} {many : Int} (h : plain2 x = true) : f_is_whole_step n [x, .int many] cs = .ok (.bl (stepI x many)) cs := by
  have hw := fun (n : Nat) (cs : List Cell) => word_ok (n := n) (cs := cs) h
  unfold f_is_whole_step m_is_whole_step
  cases hh : headI x with
  | none =>
    rw [hh] at hw
    simp [startI, hw, step_none hh, List.replicate]
  | some p =>
    obtain ⟨w, r⟩ := p
    rw [hh] at hw
    have e := head_some hh
    subst e
    by_cases hz : szOf w = some ((r.length : Int) + 1)
    · simp only [hz, decide_true] at hw
      simp only [plain2, List.all_cons, Bool.and_eq_true] at h
      have c1 : ∀ b : Bool, (if b = true then Res.ok true cs else .ok false cs) = Res.ok b cs := fun b => by cases b <;> rfl
      rcases sz_some hz with ⟨rfl, e⟩ | ⟨rfl, e⟩ | ⟨rfl, e⟩ | ⟨rfl, e⟩ | ⟨rfl, e⟩ | ⟨rfl, e⟩ | ⟨rfl, e⟩
      · obtain ⟨a, b, rfl⟩ := len2 e.symm
        simp at h
        cases hn : nameI a <;> simp [startI, hw, a0, a1, a2, named_ok, isName_ok h.2.1, between_ok h.2.2, hn, stepI, restB, List.replicate, ne_work_take, ne_work_give, ne_work_put, ne_work_get, ne_work_skip, ne_work_await, ne_take_work, ne_take_give, ne_take_put, ne_take_get, ne_take_skip, ne_take_await, ne_give_work, ne_give_take, ne_give_put, ne_give_get, ne_give_skip, ne_give_await, ne_put_work, ne_put_take, ne_put_give, ne_put_get, ne_put_skip, ne_put_await, ne_get_work, ne_get_take, ne_get_give, ne_get_put, ne_get_skip, ne_get_await, ne_skip_work, ne_skip_take, ne_skip_give, ne_skip_put, ne_skip_get, ne_skip_await, ne_await_work, ne_await_take, ne_await_give, ne_await_put, ne_await_get, ne_await_skip]
      · obtain ⟨a, rfl⟩ := len1 e.symm
        simp at h
        cases hn : nameI a <;> simp [startI, hw, a0, a1, a2, named_ok, isName_ok h.2, hn, stepI, restB, List.replicate, ne_work_take, ne_work_give, ne_work_put, ne_work_get, ne_work_skip, ne_work_await, ne_take_work, ne_take_give, ne_take_put, ne_take_get, ne_take_skip, ne_take_await, ne_give_work, ne_give_take, ne_give_put, ne_give_get, ne_give_skip, ne_give_await, ne_put_work, ne_put_take, ne_put_give, ne_put_get, ne_put_skip, ne_put_await, ne_get_work, ne_get_take, ne_get_give, ne_get_put, ne_get_skip, ne_get_await, ne_skip_work, ne_skip_take, ne_skip_give, ne_skip_put, ne_skip_get, ne_skip_await, ne_await_work, ne_await_take, ne_await_give, ne_await_put, ne_await_get, ne_await_skip]
      · obtain ⟨a, rfl⟩ := len1 e.symm
        simp at h
        cases hn : nameI a <;> simp [startI, hw, a0, a1, a2, named_ok, isName_ok h.2, hn, stepI, restB, List.replicate, ne_work_take, ne_work_give, ne_work_put, ne_work_get, ne_work_skip, ne_work_await, ne_take_work, ne_take_give, ne_take_put, ne_take_get, ne_take_skip, ne_take_await, ne_give_work, ne_give_take, ne_give_put, ne_give_get, ne_give_skip, ne_give_await, ne_put_work, ne_put_take, ne_put_give, ne_put_get, ne_put_skip, ne_put_await, ne_get_work, ne_get_take, ne_get_give, ne_get_put, ne_get_skip, ne_get_await, ne_skip_work, ne_skip_take, ne_skip_give, ne_skip_put, ne_skip_get, ne_skip_await, ne_await_work, ne_await_take, ne_await_give, ne_await_put, ne_await_get, ne_await_skip]
      · obtain ⟨a, b, rfl⟩ := len2 e.symm
        simp at h
        cases hn : nameI a <;> simp [startI, hw, a0, a1, a2, named_ok, isName_ok h.2.1, between_ok h.2.2, hn, stepI, restB, List.replicate, ne_work_take, ne_work_give, ne_work_put, ne_work_get, ne_work_skip, ne_work_await, ne_take_work, ne_take_give, ne_take_put, ne_take_get, ne_take_skip, ne_take_await, ne_give_work, ne_give_take, ne_give_put, ne_give_get, ne_give_skip, ne_give_await, ne_put_work, ne_put_take, ne_put_give, ne_put_get, ne_put_skip, ne_put_await, ne_get_work, ne_get_take, ne_get_give, ne_get_put, ne_get_skip, ne_get_await, ne_skip_work, ne_skip_take, ne_skip_give, ne_skip_put, ne_skip_get, ne_skip_await, ne_await_work, ne_await_take, ne_await_give, ne_await_put, ne_await_get, ne_await_skip]
      · obtain ⟨a, rfl⟩ := len1 e.symm
        simp at h
        cases hn : nameI a <;> simp [startI, hw, a0, a1, a2, named_ok, isName_ok h.2, hn, stepI, restB, List.replicate, ne_work_take, ne_work_give, ne_work_put, ne_work_get, ne_work_skip, ne_work_await, ne_take_work, ne_take_give, ne_take_put, ne_take_get, ne_take_skip, ne_take_await, ne_give_work, ne_give_take, ne_give_put, ne_give_get, ne_give_skip, ne_give_await, ne_put_work, ne_put_take, ne_put_give, ne_put_get, ne_put_skip, ne_put_await, ne_get_work, ne_get_take, ne_get_give, ne_get_put, ne_get_skip, ne_get_await, ne_skip_work, ne_skip_take, ne_skip_give, ne_skip_put, ne_skip_get, ne_skip_await, ne_await_work, ne_await_take, ne_await_give, ne_await_put, ne_await_get, ne_await_skip]
      · obtain ⟨a, b, rfl⟩ := len2 e.symm
        simp at h
        cases hn : wholeI a 0 9 <;> simp [startI, hw, a0, a1, a2, named_ok, between_ok h.2.1, between_ok h.2.2, hn, stepI, restB, List.replicate, ne_work_take, ne_work_give, ne_work_put, ne_work_get, ne_work_skip, ne_work_await, ne_take_work, ne_take_give, ne_take_put, ne_take_get, ne_take_skip, ne_take_await, ne_give_work, ne_give_take, ne_give_put, ne_give_get, ne_give_skip, ne_give_await, ne_put_work, ne_put_take, ne_put_give, ne_put_get, ne_put_skip, ne_put_await, ne_get_work, ne_get_take, ne_get_give, ne_get_put, ne_get_skip, ne_get_await, ne_skip_work, ne_skip_take, ne_skip_give, ne_skip_put, ne_skip_get, ne_skip_await, ne_await_work, ne_await_take, ne_await_give, ne_await_put, ne_await_get, ne_await_skip]
      · obtain ⟨a, rfl⟩ := len1 e.symm
        simp at h
        have hno : ∀ k : Int, cIs (.int k) .non = some (.bl false) := fun k => rfl
        cases a with
        | int t =>
          by_cases h0 : 0 ≤ t
          · have hx : (t ≤ many - 1) = (t < many) := propext ⟨fun _ => by omega, fun _ => by omega⟩
            simp [startI, hw, a0, a1, a2, named_ok, integer_ok h.2, knInt, knBl, hno, h0, stepI, restB, wholeI, hx, List.replicate, ne_work_take, ne_work_give, ne_work_put, ne_work_get, ne_work_skip, ne_work_await, ne_take_work, ne_take_give, ne_take_put, ne_take_get, ne_take_skip, ne_take_await, ne_give_work, ne_give_take, ne_give_put, ne_give_get, ne_give_skip, ne_give_await, ne_put_work, ne_put_take, ne_put_give, ne_put_get, ne_put_skip, ne_put_await, ne_get_work, ne_get_take, ne_get_give, ne_get_put, ne_get_skip, ne_get_await, ne_skip_work, ne_skip_take, ne_skip_give, ne_skip_put, ne_skip_get, ne_skip_await, ne_await_work, ne_await_take, ne_await_give, ne_await_put, ne_await_get, ne_await_skip]
          · simp [startI, hw, a0, a1, a2, named_ok, integer_ok h.2, knInt, knBl, hno, h0, stepI, restB, wholeI, List.replicate, ne_work_take, ne_work_give, ne_work_put, ne_work_get, ne_work_skip, ne_work_await, ne_take_work, ne_take_give, ne_take_put, ne_take_get, ne_take_skip, ne_take_await, ne_give_work, ne_give_take, ne_give_put, ne_give_get, ne_give_skip, ne_give_await, ne_put_work, ne_put_take, ne_put_give, ne_put_get, ne_put_skip, ne_put_await, ne_get_work, ne_get_take, ne_get_give, ne_get_put, ne_get_skip, ne_get_await, ne_skip_work, ne_skip_take, ne_skip_give, ne_skip_put, ne_skip_get, ne_skip_await, ne_await_work, ne_await_take, ne_await_give, ne_await_put, ne_await_get, ne_await_skip]
        | bl t => simp [startI, hw, a0, a1, a2, named_ok, integer_ok h.2, knInt, knBl, stepI, restB, wholeI, List.replicate, ne_work_take, ne_work_give, ne_work_put, ne_work_get, ne_work_skip, ne_work_await, ne_take_work, ne_take_give, ne_take_put, ne_take_get, ne_take_skip, ne_take_await, ne_give_work, ne_give_take, ne_give_put, ne_give_get, ne_give_skip, ne_give_await, ne_put_work, ne_put_take, ne_put_give, ne_put_get, ne_put_skip, ne_put_await, ne_get_work, ne_get_take, ne_get_give, ne_get_put, ne_get_skip, ne_get_await, ne_skip_work, ne_skip_take, ne_skip_give, ne_skip_put, ne_skip_get, ne_skip_await, ne_await_work, ne_await_take, ne_await_give, ne_await_put, ne_await_get, ne_await_skip]
        | _ => simp [startI, hw, a0, a1, a2, named_ok, integer_ok h.2, knInt, knBl, stepI, restB, wholeI, List.replicate, ne_work_take, ne_work_give, ne_work_put, ne_work_get, ne_work_skip, ne_work_await, ne_take_work, ne_take_give, ne_take_put, ne_take_get, ne_take_skip, ne_take_await, ne_give_work, ne_give_take, ne_give_put, ne_give_get, ne_give_skip, ne_give_await, ne_put_work, ne_put_take, ne_put_give, ne_put_get, ne_put_skip, ne_put_await, ne_get_work, ne_get_take, ne_get_give, ne_get_put, ne_get_skip, ne_get_await, ne_skip_work, ne_skip_take, ne_skip_give, ne_skip_put, ne_skip_get, ne_skip_await, ne_await_work, ne_await_take, ne_await_give, ne_await_put, ne_await_get, ne_await_skip]
    · simp only [hz, decide_false] at hw
      simp [startI, hw, stepI, rest_bad hz, List.replicate]
theorem is_step_ok {x : IV} {many : Int} (h : plain2 x = true) : f_is_step n [x, .int many] cs = .ok (.bl (stepI x many)) cs := by
  unfold f_is_step m_is_step
  simp [startI, whole_step_ok h, List.replicate]
end
end K08

set_option Elab.async false
set_option linter.all false
set_option autoImplicit false
set_option maxRecDepth 100000
set_option maxHeartbeats 4000000
namespace K08
open PySem PySem.Spec L2 SL
open PyProof.Rows hiding St
/-! what a program is told of its tasks and capacities -/
def fstI : IV → IV
  | .tup (a :: _) => a
  | _ => .non
def sndI : IV → List IV
  | .tup [_, .tup ys] => ys
  | _ => []
def taskBad : IV → Bool
  | .tup [_, .tup ys] => decide (20 < ys.length)
  | _ => true
def stepBad (many : Int) : IV → Bool
  | .tup [_, y] => !stepI y many
  | _ => false
def rowBad (many : Int) (p : IV) : Bool := ((enI (sndI p) 0).find? (stepBad many)).isSome
def rowPl (many : Int) (p : IV) : IV := .tup [fstI p, fstI (((enI (sndI p) 0).find? (stepBad many)).getD .non)]
def place1 : IV → Option IV
  | .tup xs => if 1 ≤ xs.length ∧ xs.length ≤ 6 then
      match (enI xs 0).find? taskBad with
      | some p => some (.tup [fstI p, .non])
      | none => ((enI xs 0).find? (rowBad xs.length)).map (rowPl xs.length)
    else some .non
  | _ => some .non
def capBad : IV → Bool
  | .tup [k, v] => !(nameI k && wholeI v 1 9)
  | _ => false
def place2 : IV → Option IV
  | .non => none
  | .dct ks vs => if ((ks.zip vs).map fun p => IV.tup [kI p.1, p.2]).find? capBad = none then none else some (.str "capacities")
  | _ => some (.str "capacities")
def place (x r : IV) : Option IV := match place1 x with
  | some p => some p
  | none => place2 r
def reprV (p : IV) : IV := (reprOf p).getD .non
def verd (x r : IV) : IV := match place x r with
  | some p => .lst [.str "program", reprV p, .bl true]
  | none => .str "made"
def badX (p : IV) : Exn := ⟨"InvalidProgram", ["place"], [p]⟩
theorem nic_plain2 {x : IV} (h : nic x = true) : plain2 x = true := by
  cases x with
  | tup xs =>
    simp only [nic] at h
    simp only [plain2, List.all_eq_true]
    exact fun y hy => nic_plain (nicL_iff.mp h y hy)
  | _ => exact nic_plain h
/-- a place's shape -/
inductive Plc : IV → Prop
  | non : Plc .non
  | cap : Plc (.str "capacities")
  | one {k : Nat} : k < 6 → Plc (.tup [.int k, .non])
  | two {k j : Nat} : k < 6 → j < 20 → Plc (.tup [.int k, .int j])
theorem plc_all : (∀ k : Nat, k < 6 → (match reprOf (.tup [.int k, .non]) with | some (.str s) => nicS s | _ => false) = true) ∧ (∀ k : Nat, k < 6 → ∀ j : Nat, j < 20 → (match reprOf (.tup [.int k, .int j]) with | some (.str s) => nicS s | _ => false) = true) := by
  constructor <;> decide +kernel
theorem plc_repr {p : IV} (h : Plc p) : ∃ s, reprOf p = some (.str s) ∧ nicS s = true := by
  cases h with
  | non => exact ⟨"None", rfl, by decide +kernel⟩
  | cap => exact ⟨"'capacities'", by with_unfolding_all rfl, by decide +kernel⟩
  | one hk =>
    have := plc_all.1 _ hk
    split at this
    · rename_i s e; exact ⟨s, e, this⟩
    · cases this
  | two hk hj =>
    have := plc_all.2 _ hk _ hj
    split at this
    · rename_i s e; exact ⟨s, e, this⟩
    · cases this
theorem en_nth {xs : List IV} {p : IV} (h : p ∈ enI xs 0) : ∃ (i : Nat) (y : IV), i < xs.length ∧ y ∈ xs ∧ p = .tup [.int i, y] := by
  obtain ⟨i, y, h1, _, h2, h3⟩ := enI_mem h
  exact ⟨i, y, by omega, h2, h3⟩
theorem find_en {xs : List IV} {q : IV → Bool} {p : IV} (h : (enI xs 0).find? q = some p) : ∃ (i : Nat) (y : IV), i < xs.length ∧ y ∈ xs ∧ p = .tup [.int i, y] ∧ q p = true := by
  obtain ⟨i, y, h1, h2, h3⟩ := en_nth (List.mem_of_find?_eq_some h)
  exact ⟨i, y, h1, h2, h3, List.find?_some h⟩
theorem taskBad_f {i y : IV} (h : taskBad (.tup [i, y]) = false) : ∃ ys, y = .tup ys ∧ ys.length ≤ 20 := by
  unfold taskBad at h
  split at h
  · rename_i ys e; cases e; exact ⟨ys, rfl, by simpa using h⟩
  · cases h
theorem mem_en {xs : List IV} {y : IV} {k : Nat} (h : y ∈ xs) : ∃ i : Nat, .tup [.int i, y] ∈ enI xs k := by
  induction xs generalizing k with
  | nil => cases h
  | cons a xs ih =>
    rcases List.mem_cons.mp h with rfl | h
    · exact ⟨k, by simp [enI]⟩
    · obtain ⟨i, hi⟩ := ih (k := k + 1) h
      exact ⟨i, by simp [enI, hi]⟩
theorem row_ok {xs : List IV} (h : (enI xs 0).find? taskBad = none) : ∀ y ∈ xs, ∃ ys, y = .tup ys ∧ ys.length ≤ 20 := fun y hy => by
  obtain ⟨i, hi⟩ := mem_en (k := 0) hy
  have := List.find?_eq_none.mp h _ hi
  exact taskBad_f (i := .int i) (by simpa using this)
theorem place1_plc {x p : IV} (h : place1 x = some p) : Plc p := by
  unfold place1 at h
  split at h
  · rename_i xs
    split at h
    · rename_i hl
      split at h
      · rename_i q e
        cases h
        obtain ⟨i, y, h1, h2, rfl, h4⟩ := find_en e
        exact .one (by omega)
      · rename_i e
        obtain ⟨q, e2, rfl⟩ := Option.map_eq_some_iff.mp h
        obtain ⟨i, y, h1, h2, rfl, h4⟩ := find_en e2
        obtain ⟨ys, rfl, h5⟩ := row_ok e y h2
        unfold rowBad at h4
        obtain ⟨u, hu⟩ := Option.isSome_iff_exists.mp h4
        unfold rowPl
        rw [hu]
        obtain ⟨j, z, h6, h7, rfl, h8⟩ := find_en hu
        exact .two (by omega) (by simp [sndI] at h6; omega)
    · cases h; exact .non
  · cases h; exact .non
theorem place_plc {x r p : IV} (h : place x r = some p) : Plc p := by
  unfold place at h
  split at h
  · rename_i e; cases h; exact place1_plc e
  · unfold place2 at h
    split at h
    · cases h
    · split at h
      · cases h
      · cases h; exact .cap
    · cases h; exact .cap
theorem verd_nic {x r : IV} : nic (verd x r) = true ∧ noD (verd x r) = true ∧ dpI (verd x r) ≤ 2 := by
  unfold verd
  split
  · rename_i p e
    obtain ⟨s, h1, h2⟩ := plc_repr (place_plc e)
    unfold reprV
    rw [h1]
    have h0 : nicS "program" = true := by decide +kernel
    exact ⟨by simp only [nic, nicL, Option.getD_some, h0, h2, Bool.and_self], by simp [noD, noDL], by simp [dpI, dpL]⟩
  · exact ⟨by decide +kernel, rfl, by simp [dpI]⟩
section
variable {n : Nat} {cs : List Cell} {x r : IV}
def LV (k : Nat) (x : IV) (σ : List SV) : Prop := ∃ a, a.length = k ∧ σ = .v x :: a
theorem len4 {a : List SV} (h : a.length = 4) : ∃ b c d e, a = [b, c, d, e] := by
  match a, h with
  | [b, c, d, e], _ => exact ⟨b, c, d, e, rfl⟩
theorem len6 {a : List SV} (h : a.length = 6) : ∃ b c d e f g, a = [b, c, d, e, f, g] := by
  match a, h with
  | [b, c, d, e, f, g], _ => exact ⟨b, c, d, e, f, g, rfl⟩
theorem fl_tup {xs : List IV} : ∀ cs, fLen cs [.tup xs] = some (.int xs.length) := fun _ => rfl
theorem not_tup {x : IV} (h : ∀ ys, x ≠ .tup ys) : knTup x = false := by
  cases x <;> first | rfl | exact absurd rfl (h _)
/-- the tasks, checked -/
theorem req_ok (hx : nic x = true) : f_require_tasks n [x] cs = match place1 x with | none => .ok .non cs | some p => .ex (badX p) cs := by
  have hp := nic_plain hx
  unfold f_require_tasks m_require_tasks
  by_cases ht : ∃ xs, x = .tup xs
  rotate_left
  · have hk : knTup x = false := not_tup fun ys e => ht ⟨ys, e⟩
    have : place1 x = some .non := by
      unfold place1; split
      · exact absurd ⟨_, rfl⟩ ht
      · rfl
    rw [this]
    simp [startI, isi_tup hp, hk, List.replicate, badX]
  obtain ⟨xs, rfl⟩ := ht
  have hn : ∀ y ∈ xs, nic y = true := nicL_iff.mp (by simpa only [nic] using hx)
  by_cases hl : 1 ≤ xs.length ∧ xs.length ≤ 6
  rotate_left
  · have hp1 : place1 (.tup xs) = some .non := by unfold place1; dsimp only; rw [if_neg hl]
    have h3 : ¬ ((1 : Int) ≤ xs.length ∧ (xs.length : Int) ≤ 6) := fun z => hl ⟨by omega, by omega⟩
    rw [hp1]
    by_cases h1 : (1 : Int) ≤ xs.length
    · have h2 : ¬ (xs.length : Int) ≤ 6 := fun z => h3 ⟨h1, z⟩
      simp [startI, isi_tup hp, knTup, fl_tup, h1, h2, List.replicate, badX]
    · simp [startI, isi_tup hp, knTup, fl_tup, h1, List.replicate, badX]
  have hl1 : (1 : Int) ≤ xs.length := by omega
  have hl6 : (xs.length : Int) ≤ 6 := by omega
  obtain ⟨f1, f2⟩ := for_find (n := n) (cs := cs) (gm := gmTup 2 (gmCons (gmN 1) (gmCons (gmN 2) (gmNil)))) (b := sIf (mOr (mNot (mT (eCall fIsi (aCons (eV 2) (aCons (M.pure (.ty "tuple")) (aNil)))))) (mB (e2 cGt (eCall fLen (aCons (eV 2) (aNil))) (M.pure (.int 20))))) (sRaise "InvalidProgram" "place" (eTup (aCons (eV 1) (aCons (M.pure .non) (aNil))))) (sNext)) (LV 4 (.tup xs)) taskBad (fun p r => ∃ σ', r = .ex (badX (.tup [fstI p, .non])) σ' cs) (enI xs 0) [.v (.tup xs), .un, .un, .un, .un] ⟨_, rfl, rfl⟩ (fun p hp σ hσ => by
    obtain ⟨a, ha, rfl⟩ := hσ
    obtain ⟨b1, b2, b3, b4, rfl⟩ := len4 ha
    obtain ⟨i, y, h1, h2, rfl⟩ := en_nth hp
    have hy := nic_plain (hn y h2)
    refine ⟨[.v (.tup xs), .v (.int i), .v y, b3, b4], rfl, fun hb => ?_, fun hb => .inr ?_⟩
    · obtain ⟨ys, rfl, h5⟩ := taskBad_f hb
      have h6 : ¬ (20 : Int) < ys.length := by omega
      exact ⟨[.v (.tup xs), .v (.int i), .v (.tup ys), b3, b4], by simp [isi_tup hy, knTup, fl_tup, h6], _, rfl, rfl⟩
    · refine ⟨_, [.v (.tup xs), .v (.int i), .v y, b3, b4], ?_, [.v (.tup xs), .v (.int i), .v y, b3, b4], rfl⟩
      by_cases ht : ∃ ys, y = .tup ys
      · obtain ⟨ys, rfl⟩ := ht
        have h6 : (20 : Int) < ys.length := by
          have : 20 < ys.length := by simpa [taskBad] using hb
          omega
        simp [isi_tup hy, knTup, fl_tup, h6, fstI, badX]
      · simp [isi_tup hy, not_tup fun ys e => ht ⟨ys, e⟩, fstI, badX])
  cases e1 : (enI xs 0).find? taskBad with
  | some p =>
    obtain ⟨σ', e2⟩ := f2 p e1
    have hp1 : place1 (.tup xs) = some (.tup [fstI p, .non]) := by unfold place1; dsimp only; rw [if_pos hl, e1]
    rw [hp1]
    simp [startI, isi_tup hp, knTup, fl_tup, hl1, hl6, List.replicate, e2]
  | none =>
    obtain ⟨σ1, e2, a, ha, rfl⟩ := f1 e1
    have hrow := row_ok e1
    obtain ⟨g1, g2⟩ := for_find (n := n) (cs := cs) (gm := gmTup 2 (gmCons (gmN 1) (gmCons (gmN 2) (gmNil)))) (b := sFor (mEnT (aCons (eV 2) (aNil))) (gmTup 2 (gmCons (gmN 3) (gmCons (gmN 4) (gmNil)))) (sIf (mNot (mT (eFn f_is_step 2 [] (aCons (eV 4) (aCons (eCall fLen (aCons (eV 0) (aNil))) (aNil)))))) (sRaise "InvalidProgram" "place" (eTup (aCons (eV 1) (aCons (eV 3) (aNil))))) (sNext))) (LV 4 (.tup xs)) (rowBad xs.length) (fun p r => ∃ σ', r = .ex (badX (rowPl xs.length p)) σ' cs) (enI xs 0) (.v (.tup xs) :: a) ⟨_, ha, rfl⟩ (fun p hp σ hσ => by
      obtain ⟨a, ha, rfl⟩ := hσ
      obtain ⟨b1, b2, b3, b4, rfl⟩ := len4 ha
      obtain ⟨i, y, h1, h2, rfl⟩ := en_nth hp
      obtain ⟨ys, rfl, h20⟩ := hrow y h2
      have hy : ∀ z ∈ ys, nic z = true := nicL_iff.mp (by simpa only [nic] using hn _ h2)
      obtain ⟨k1, k2⟩ := for_find (n := n) (cs := cs) (gm := gmTup 2 (gmCons (gmN 3) (gmCons (gmN 4) (gmNil)))) (b := sIf (mNot (mT (eFn f_is_step 2 [] (aCons (eV 4) (aCons (eCall fLen (aCons (eV 0) (aNil))) (aNil)))))) (sRaise "InvalidProgram" "place" (eTup (aCons (eV 1) (aCons (eV 3) (aNil))))) (sNext)) (fun σ => ∃ b3 b4, σ = [.v (.tup xs), .v (.int i), .v (.tup ys), b3, b4]) (stepBad xs.length) (fun q r => ∃ σ', r = .ex (badX (.tup [.int i, fstI q])) σ' cs) (enI ys 0) [.v (.tup xs), .v (.int i), .v (.tup ys), b3, b4] ⟨_, _, rfl⟩ (fun q hq σ hσ => by
        obtain ⟨b3, b4, rfl⟩ := hσ
        obtain ⟨j, z, h3, h4, rfl⟩ := en_nth hq
        have hz := is_step_ok (n := n) (cs := cs) (many := xs.length) (nic_plain2 (hy z h4))
        refine ⟨[.v (.tup xs), .v (.int i), .v (.tup ys), .v (.int j), .v z], rfl, fun hb => ⟨[.v (.tup xs), .v (.int i), .v (.tup ys), .v (.int j), .v z], ?_, _, _, rfl⟩, fun hb => .inr ⟨badX (.tup [.int i, .int j]), [.v (.tup xs), .v (.int i), .v (.tup ys), .v (.int j), .v z], ?_, _, rfl⟩⟩
        · have : stepI z xs.length = true := by simpa [stepBad] using hb
          simp [fl_tup, hz, this]
        · have : stepI z xs.length = false := by simpa [stepBad] using hb
          simp [fl_tup, hz, this, fstI, badX])
      refine ⟨[.v (.tup xs), .v (.int i), .v (.tup ys), b3, b4], rfl, fun hb => ?_, fun hb => .inr ?_⟩
      · have hb : (enI ys 0).find? (stepBad xs.length) = none := by simpa [rowBad, sndI] using hb
        obtain ⟨σ', e3, b3, b4, rfl⟩ := k1 hb
        exact ⟨[.v (.tup xs), .v (.int i), .v (.tup ys), b3, b4], by simp [e3], _, rfl, rfl⟩
      · obtain ⟨q, hq⟩ := Option.isSome_iff_exists.mp (show ((enI ys 0).find? (stepBad xs.length)).isSome = true by simpa [rowBad, sndI] using hb)
        obtain ⟨σ', e3⟩ := k2 q hq
        have : rowPl xs.length (.tup [.int i, .tup ys]) = .tup [.int i, fstI q] := by
          unfold rowPl sndI; simp only; rw [hq]; rfl
        rw [this]
        exact ⟨_, σ', by simp [e3], σ', rfl⟩)
    cases e3 : (enI xs 0).find? (rowBad xs.length) with
    | some p =>
      obtain ⟨σ', e4⟩ := g2 p e3
      have hp1 : place1 (.tup xs) = some (rowPl xs.length p) := by unfold place1; dsimp only; rw [if_pos hl, e1]; simp only; rw [e3]; rfl
      rw [hp1]
      simp [startI, isi_tup hp, knTup, fl_tup, hl1, hl6, List.replicate, e2, e4]
    | none =>
      obtain ⟨σ', e4, a, ha, rfl⟩ := g1 e3
      have hp1 : place1 (.tup xs) = none := by unfold place1; dsimp only; rw [if_pos hl, e1]; simp only; rw [e3]; rfl
      rw [hp1]
      simp [startI, isi_tup hp, knTup, fl_tup, hl1, hl6, List.replicate, e2, e4]
end
end K08

set_option Elab.async false
set_option linter.all false
set_option autoImplicit false
set_option maxRecDepth 100000
set_option maxHeartbeats 4000000
namespace K08
open PySem PySem.Spec L2 SL
open PyProof.Rows hiding St
theorem set_at {α : Type} {cs t : List α} {a b : α} : (cs ++ a :: t).set cs.length b = cs ++ b :: t := by
  induction cs with
  | nil => rfl
  | cons c cs ih => simp only [List.cons_append, List.length_cons, List.set_cons_succ, ih]
theorem get_at {α : Type} {cs t : List α} {a : α} : (cs ++ a :: t)[cs.length]? = some a := by
  induction cs with
  | nil => rfl
  | cons c cs ih => simp only [List.cons_append, List.length_cons, List.getElem?_cons_succ, ih]
/-- a room, or anything else -/
structure RoomP (r : IV) : Prop where
  n : nic r = true
  d : ∀ ks vs, r = .dct ks vs → ks.length = vs.length ∧ ks.Nodup ∧ ks.length < 60
theorem val_mem {kvs : List (Key × IV)} (hn : (kvs.map (·.1)).Nodup) {k : Key} {v : IV} (h : (k, v) ∈ kvs) : valG kvs k = some v := by
  unfold valG
  induction kvs with
  | nil => cases h
  | cons p kvs ih =>
    rw [List.find?_cons]
    rcases List.mem_cons.mp h with e | e
    · rw [← e]; simp
    · rw [List.map_cons, List.nodup_cons] at hn
      have : ¬ p.1 = k := fun z => hn.1 (List.mem_map.mpr ⟨_, e, z.symm⟩)
      simp only [this, decide_false]
      exact ih hn.2 e
theorem zip_keys {ks : List Key} {vs : List IV} (hl : ks.length = vs.length) : (ks.zip vs).map (·.1) = ks := List.map_fst_zip (by omega)
theorem key_val {ks : List Key} {vs : List IV} (hl : ks.length = vs.length) (hn : ks.Nodup) {k : Key} (h : k ∈ ks) : ∃ v, (k, v) ∈ ks.zip vs ∧ valG (ks.zip vs) k = some v := by
  rw [← zip_keys hl] at h
  obtain ⟨p, hp, rfl⟩ := List.mem_map.mp h
  exact ⟨p.2, hp, val_mem (by rw [zip_keys hl]; exact hn) hp⟩
theorem keyI_kI {k : Key} : keyI (kI k) = some k := by cases k <;> rfl
theorem plain_kI {k : Key} (h : nicK k = true) : plainI (kI k) = true := by
  cases k with
  | inl i => rfl
  | inr s => exact nic_plain (x := .str s) (by simp only [nic]; exact h)
theorem zip_nic {ks : List Key} {vs : List IV} (h : nic (.dct ks vs) = true) {p : Key × IV} (hp : p ∈ ks.zip vs) : nicK p.1 = true ∧ nic p.2 = true := by
  simp only [nic, Bool.and_eq_true] at h
  have := List.of_mem_zip (show (p.1, p.2) ∈ ks.zip vs from hp)
  exact ⟨List.all_eq_true.mp h.1 _ this.1, nicL_iff.mp h.2 _ this.2⟩
section
variable {n : Nat} {cs : List Cell} {x r : IV}
theorem isCap_ok {v : IV} (h : plainI v = true) : f_is_capacity n [v] cs = .ok (.bl (wholeI v 1 9)) cs := by
  unfold f_is_capacity m_is_capacity
  simp [startI, between_ok h, List.replicate]
theorem not_dct {x : IV} (h : ∀ ks vs, x ≠ .dct ks vs) : knDct x = false := by
  cases x <;> first | rfl | exact absurd rfl (h _ _)
theorem cap_ok (hr : RoomP r) (hne : r ≠ .non) : f_require_capacities n [r] cs = match place2 r with | none => .ok .non cs | some p => .ex (badX p) cs := by
  have hp := nic_plain hr.n
  unfold f_require_capacities m_require_capacities
  by_cases ht : ∃ ks vs, r = .dct ks vs
  rotate_left
  · have hk : knDct r = false := not_dct fun ks vs e => ht ⟨ks, vs, e⟩
    have : place2 r = some (.str "capacities") := by
      unfold place2; split
      · exact absurd rfl hne
      · exact absurd ⟨_, _, rfl⟩ ht
      · rfl
    rw [this]
    simp [startI, isi_dct hp, hk, List.replicate, badX]
  obtain ⟨ks, vs, rfl⟩ := ht
  obtain ⟨hl, hnd, _⟩ := hr.d ks vs rfl
  have hit : itemsI (.dct ks vs) = some ((ks.zip vs).map fun p => .tup [kI p.1, p.2]) := if_pos hl
  obtain ⟨f1, f2⟩ := for_find (n := n) (cs := cs) (gm := gmTup 2 (gmCons (gmN 1) (gmCons (gmN 2) (gmNil)))) (b := sIf (mOr (mNot (mT (eFn f_is_name 1 [] (aCons (eV 1) (aNil))))) (mNot (mT (eFn f_is_capacity 1 [] (aCons (eV 2) (aNil)))))) (sRaise "InvalidProgram" "place" (M.pure (.str "capacities"))) (sNext)) (fun σ => ∃ a b, σ = [.v (.dct ks vs), a, b]) capBad (fun p r => ∃ σ', r = .ex (badX (.str "capacities")) σ' cs) ((ks.zip vs).map fun p => .tup [kI p.1, p.2]) [.v (.dct ks vs), .un, .un] ⟨_, _, rfl⟩ (fun p hp σ hσ => by
    obtain ⟨a, b, rfl⟩ := hσ
    obtain ⟨⟨k, v⟩, h1, rfl⟩ := List.mem_map.mp hp
    obtain ⟨h2, h3⟩ := zip_nic hr.n h1
    have e1 := isName_ok (n := n) (cs := cs) (plain_kI h2)
    have e2 := isCap_ok (n := n) (cs := cs) (nic_plain h3)
    refine ⟨[.v (.dct ks vs), .v (kI k), .v v], rfl, fun hb => ⟨[.v (.dct ks vs), .v (kI k), .v v], ?_, _, _, rfl⟩, fun hb => .inr ⟨_, [.v (.dct ks vs), .v (kI k), .v v], ?_, _, rfl⟩⟩
    · have : nameI (kI k) = true ∧ wholeI v 1 9 = true := by simpa [capBad] using hb
      simp only at e1 e2
      simp [e1, e2, this.1, this.2]
    · simp only at e1 e2
      cases hn : nameI (kI k) with
      | false => simp [e1, hn, badX]
      | true =>
        have : wholeI v 1 9 = false := by simpa [capBad, hn] using hb
        simp [e1, e2, hn, this, badX])
  unfold place2
  dsimp only
  cases e : ((ks.zip vs).map fun p => IV.tup [kI p.1, p.2]).find? capBad with
  | none =>
    obtain ⟨σ', e2, a, b, rfl⟩ := f1 e
    rw [if_pos rfl]
    simp [startI, isi_dct hp, knDct, hit, e2, List.replicate]
  | some p =>
    obtain ⟨σ', e2⟩ := f2 p e
    rw [if_neg (by simp)]
    simp [startI, isi_dct hp, knDct, hit, e2, List.replicate]
/-- the dict of the capacities other than 1 -/
theorem putG_len {kvs : List (Key × IV)} {k : Key} {v : IV} : (putG kvs k v).length ≤ kvs.length + 1 := by
  unfold putG
  split <;> simp
theorem dc_ok {ks : List Key} {vs : List IV} {a0 a1 a2 : SV} : ∀ (l : List Str) (ks0 : List Key) (xs0 : List IV), ks0.length + l.length ≤ 1000 → (∀ s ∈ l, ∃ i, valG (ks.zip vs) (.inr s) = some (.int i)) →
    ∃ ks' xs', dcL (gmN 4) (mB (e2 cNe (e2c dixI (eV 3) (eV 4)) (M.pure (.int 1)))) (eV 4) (e2c dixI (eV 3) (eV 4)) n [a0, a1, a2, .v (.dct ks vs), .un] cs.length (l.map IV.str) (cs ++ [.dct ks0 xs0]) = .ok () (cs ++ [.dct ks' xs'])
  | [], ks0, xs0, _, _ => ⟨ks0, xs0, rfl⟩
  | s :: l, ks0, xs0, hl, h => by
    simp only [List.length_cons] at hl
    obtain ⟨i, hi⟩ := h s (by simp)
    have hd : ∀ cs, dixI cs (.dct ks vs) (.str s) = some (.int i) := fun _ => hi
    have hg : gmN 4 (.str s) [a0, a1, a2, .v (.dct ks vs), .un] = some [a0, a1, a2, .v (.dct ks vs), .v (.str s)] := rfl
    rw [List.map_cons, dcL, hg]
    dsimp only
    have ht : mB (e2 cNe (e2c dixI (eV 3) (eV 4)) (M.pure (.int 1))) n [a0, a1, a2, .v (.dct ks vs), .v (.str s)] (cs ++ [.dct ks0 xs0]) = .ok (!decide (i = 1)) (cs ++ [.dct ks0 xs0]) := by simp [hd]
    rw [ht]
    by_cases h1 : i = 1
    · subst h1
      obtain ⟨ks', xs', e⟩ := dc_ok l ks0 xs0 (by omega) (fun t ht => h t (by simp [ht]))
      exact ⟨ks', xs', by simpa using e⟩
    · have hk : eV 4 n [a0, a1, a2, .v (.dct ks vs), .v (.str s)] (cs ++ [.dct ks0 xs0]) = .ok (.str s) (cs ++ [.dct ks0 xs0]) := rfl
      have hv : e2c dixI (eV 3) (eV 4) n [a0, a1, a2, .v (.dct ks vs), .v (.str s)] (cs ++ [.dct ks0 xs0]) = .ok (.int i) (cs ++ [.dct ks0 xs0]) := by simp [hd]
      have hp : dputI (.cell cs.length) (.str s) (.int i) (cs ++ [.dct ks0 xs0]) = some (cs ++ [.dct ((putG (ks0.zip xs0) (.inr s) (.int i)).map (·.1)) ((putG (ks0.zip xs0) (.inr s) (.int i)).map (·.2))]) := by
        unfold dputI
        dsimp only
        rw [get_at]
        dsimp only
        rw [if_pos (by show _ < 1000000; omega)]
        show some (List.set _ _ _) = _
        rw [set_at]
      have hz : (ks0.zip xs0).length ≤ ks0.length := by rw [List.length_zip]; omega
      have hl2 := putG_len (kvs := ks0.zip xs0) (k := .inr s) (v := .int i)
      obtain ⟨ks', xs', e⟩ := dc_ok l ((putG (ks0.zip xs0) (.inr s) (.int i)).map (·.1)) ((putG (ks0.zip xs0) (.inr s) (.int i)).map (·.2)) (by rw [List.length_map]; omega) (fun t ht => h t (by simp [ht]))
      refine ⟨ks', xs', ?_⟩
      simp only [h1, decide_false, Bool.not_false]
      rw [hk]
      dsimp only
      rw [hv]
      dsimp only
      rw [hp]
      exact e
theorem strK_some : ∀ {ks : List Key}, (∀ k ∈ ks, ∃ s, k = .inr s) → ∃ ss, strK ks = some ss ∧ ks = ss.map Sum.inr
  | [], _ => ⟨[], rfl, rfl⟩
  | k :: ks, h => by
    obtain ⟨s, rfl⟩ := h k (by simp)
    obtain ⟨ss, e1, e2⟩ := strK_some (ks := ks) fun k hk => h k (by simp [hk])
    exact ⟨s :: ss, by simp only [strK, e1, Option.map_some], by simp [e2]⟩
theorem wholeI_int {v : IV} {lo hi : Int} (h : wholeI v lo hi = true) : ∃ i, v = .int i := by
  cases v <;> first | exact ⟨_, rfl⟩ | cases h
theorem nameI_str {v : IV} (h : nameI v = true) : ∃ s, v = .str s := by
  cases v <;> first | exact ⟨_, rfl⟩ | cases h
theorem cap_good {ks : List Key} {vs : List IV} (hl : ks.length = vs.length) (hn : ks.Nodup) (h : place2 (.dct ks vs) = none) : ∀ k ∈ ks, ∃ s i, k = .inr s ∧ valG (ks.zip vs) k = some (.int i) := fun k hk => by
  obtain ⟨v, h1, h2⟩ := key_val hl hn hk
  unfold place2 at h
  dsimp only at h
  split at h
  · rename_i e
    have := List.find?_eq_none.mp e (.tup [kI k, v]) (List.mem_map.mpr ⟨(k, v), h1, rfl⟩)
    have : nameI (kI k) = true ∧ wholeI v 1 9 = true := by simpa [capBad] using this
    obtain ⟨i, rfl⟩ := wholeI_int this.2
    obtain ⟨s, hs⟩ := nameI_str this.1
    cases k with
    | inl i => cases hs
    | inr s => exact ⟨s, i, rfl, h2⟩
  · cases h
theorem srtT_mem {l : List Str} {s : Str} (h : s ∈ srtT l) : s ∈ l := (srtT_perm l).mem_iff.mp h
/-- what is made of the capacities -/
theorem own_ok {ks : List Key} {vs : List IV} {a0 a1 a2 a4 : SV} (hl : ks.length = vs.length) (hn : ks.Nodup) (h60 : ks.length < 60) (h : place2 (.dct ks vs) = none) : ∃ d, eFrz (eDc (mIt (eCall fSortedD (aCons (eV 3) (aNil)))) (gmN 4) (mB (e2 cNe (e2c dixI (eV 3) (eV 4)) (M.pure (.int 1)))) (eV 4) (e2c dixI (eV 3) (eV 4)) [4]) n [a0, a1, a2, .v (.dct ks vs), a4] cs = .ok d (cs ++ [.dead]) := by
  have hg := cap_good hl hn h
  obtain ⟨ss, e1, es⟩ := strK_some (ks := ks) fun k hk => by
    obtain ⟨s, i, h1, _⟩ := hg k hk
    exact ⟨s, h1⟩
  have hlen : ss.length = ks.length := by rw [es, List.length_map]
  have hf : ∀ cs, fSortedD cs [.dct ks vs] = some (.lst ((srtT ss).map IV.str)) := fun cs => by
    show (strK ks).bind _ = _
    rw [e1]
    exact if_pos (by omega)
  have hm : mIt (eCall fSortedD (aCons (eV 3) (aNil))) n [a0, a1, a2, .v (.dct ks vs), a4] cs = .ok ((srtT ss).map IV.str) cs := by
    simp [hf]; rfl
  obtain ⟨ks', xs', e3⟩ := dc_ok (n := n) (cs := cs) (ks := ks) (vs := vs) (a0 := a0) (a1 := a1) (a2 := a2) (srtT ss) [] [] (by have := (srtT_perm ss).length_eq; simp; omega) (fun s hs => by
    have : Sum.inr s ∈ ks := by rw [es]; exact List.mem_map_of_mem (srtT_mem hs)
    obtain ⟨_, i, _, h2⟩ := hg _ this
    exact ⟨i, h2⟩)
  refine ⟨.dct ks' xs', ?_⟩
  rw [ev_frz]
  have : eDc (mIt (eCall fSortedD (aCons (eV 3) (aNil)))) (gmN 4) (mB (e2 cNe (e2c dixI (eV 3) (eV 4)) (M.pure (.int 1)))) (eV 4) (e2c dixI (eV 3) (eV 4)) [4] n [a0, a1, a2, .v (.dct ks vs), a4] cs = .ok (.cell cs.length) (cs ++ [.dct ks' xs']) := by
    unfold eDc
    rw [ev_bind, hm, then_ok]
    show (dcL _ _ _ _ n [a0, a1, a2, .v (.dct ks vs), .un] cs.length _ _).then _ = _
    rw [e3]; rfl
  rw [this, then_ok, frzV_dct get_at, set_at]
theorem init_ok (hx : nic x = true) (hr : RoomP r) : match place x r with
    | some p => f_Program_init n [.cell cs.length, x, r] (cs ++ [.ins "Program" [] []]) = .ex (badX p) (cs ++ [.ins "Program" [] []])
    | none => ∃ d, f_Program_init n [.cell cs.length, x, r] (cs ++ [.ins "Program" [] []]) = .ok .non (cs ++ [.ins "Program" ["own_tasks", "own_capacities"] [x, d], .dead]) := by
  have e1 := req_ok (n := n) (cs := cs ++ [.ins "Program" [] []]) hx
  unfold place f_Program_init m_Program_init
  cases hp : place1 x with
  | some p =>
    rw [hp] at e1
    simp only at e1
    simp [startI, List.replicate, e1]
  | none =>
    rw [hp] at e1
    simp only at e1 ⊢
    have st1 : stoI "Program" "own_tasks" x (.cell cs.length) (cs ++ [.ins "Program" [] []]) = some (cs ++ [.ins "Program" ["own_tasks"] [x]]) := by
      unfold stoI; dsimp only; rw [get_at]; dsimp only
      rw [if_pos ⟨rfl, by decide⟩]
      show some (List.set _ _ _) = _
      rw [set_at]
      try rfl
    have st2 : ∀ d, stoI "Program" "own_capacities" d (.cell cs.length) (cs ++ [.ins "Program" ["own_tasks"] [x], .dead]) = some (cs ++ [.ins "Program" ["own_tasks", "own_capacities"] [x, d], .dead]) := fun d => by
      unfold stoI; dsimp only; rw [get_at]; dsimp only
      rw [if_pos ⟨rfl, by decide⟩]
      show (Option.map _ (putI _ _ _ _)) = _
      have : putI "own_capacities" d ["own_tasks"] [x] = some ((["own_tasks", "own_capacities"] : List Str), [x, d]) := by
        unfold putI; rw [if_neg (by decide)]
        show (putI "own_capacities" d [] []).map _ = _
        rfl
      rw [this]
      show some (List.set _ _ _) = _
      rw [set_at]
    by_cases hn : r = .non
    · subst hn
      have hpl : place2 .non = none := rfl
      obtain ⟨d, e3⟩ := own_ok (n := n) (cs := cs ++ [.ins "Program" ["own_tasks"] [x]]) (ks := []) (vs := []) (a0 := .v (.cell cs.length)) (a1 := .v x) (a2 := .v .non) (a4 := .un) rfl List.nodup_nil (by decide) rfl
      rw [hpl]
      refine ⟨d, ?_⟩
      have hi1 : cIsNot .non .non = some (.bl false) := rfl
      have hi2 : cIs .non .non = some (.bl true) := rfl
      rw [ev_frz] at e3
      simp [startI, List.replicate, e1, hi1, hi2, st1, e3, st2]
    · have e2 := cap_ok (n := n) (cs := cs ++ [.ins "Program" [] []]) hr hn
      have hi1 : cIsNot r .non = some (.bl true) := by
        have := hr.n
        cases r <;> first | rfl | exact absurd rfl hn | (simp only [nic] at this; cases this)
      have hi2 : cIs r .non = some (.bl false) := by
        have := hr.n
        cases r <;> first | rfl | exact absurd rfl hn | (simp only [nic] at this; cases this)
      cases hq : place2 r with
      | some p =>
        rw [hq] at e2
        simp only at e2 ⊢
        simp [startI, List.replicate, e1, hi1, e2]
      | none =>
        rw [hq] at e2
        simp only at e2 ⊢
        have : ∃ ks vs, r = .dct ks vs := by
          unfold place2 at hq
          split at hq
          · exact absurd rfl hn
          · exact ⟨_, _, rfl⟩
          · cases hq
        obtain ⟨ks, vs, rfl⟩ := this
        obtain ⟨hl, hnd, h60⟩ := hr.d ks vs rfl
        obtain ⟨d, e3⟩ := own_ok (n := n) (cs := cs ++ [.ins "Program" ["own_tasks"] [x]]) (ks := ks) (vs := vs) (a0 := .v (.cell cs.length)) (a1 := .v x) (a2 := .v (.dct ks vs)) (a4 := .un) hl hnd h60 hq
        refine ⟨d, ?_⟩
        rw [ev_frz] at e3
        simp [startI, List.replicate, e1, hi1, hi2, e2, st1, e3, st2]
end
end K08

set_option Elab.async false
set_option linter.all false
set_option autoImplicit false
set_option maxRecDepth 100000
set_option maxHeartbeats 4000000
namespace K08
open PySem PySem.Spec L2 SL
open PyProof.Rows hiding St
def dcM : M IV := eFrz (eDc (mIt (eCall fSortedD (aCons (eV 3) (aNil)))) (gmN 4) (mB (e2 cNe (e2c dixI (eV 3) (eV 4)) (M.pure (.int 1)))) (eV 4) (e2c dixI (eV 3) (eV 4)) [4])
def keepD (w : Str) (i : Int) : IV := if i = 1 then .dct [] [] else .dct [.inr w] [.int i]
section
variable {n : Nat} {cs : List Cell} {a0 a1 a2 a4 : SV}
theorem own0 : dcM n [a0, a1, a2, .v (.dct [] []), a4] cs = .ok (.dct [] []) (cs ++ [.dead]) := by
  have hm : mIt (eCall fSortedD (aCons (eV 3) (aNil))) n [a0, a1, a2, .v (.dct [] []), a4] cs = .ok [] cs := by
    have hf : ∀ cs, fSortedD cs [.dct [] []] = some (.lst []) := fun _ => rfl
    have hs : seqI (.lst []) = some [] := rfl
    simp [hf, hs]
  unfold dcM
  rw [ev_frz]
  have : eDc (mIt (eCall fSortedD (aCons (eV 3) (aNil)))) (gmN 4) (mB (e2 cNe (e2c dixI (eV 3) (eV 4)) (M.pure (.int 1)))) (eV 4) (e2c dixI (eV 3) (eV 4)) [4] n [a0, a1, a2, .v (.dct [] []), a4] cs = .ok (.cell cs.length) (cs ++ [.dct [] []]) := by
    unfold eDc
    rw [ev_bind, hm, then_ok]
    rfl
  rw [this, then_ok, frzV_dct get_at, set_at]
theorem own1 {w : Str} {i : Int} : dcM n [a0, a1, a2, .v (.dct [.inr w] [.int i]), a4] cs = .ok (keepD w i) (cs ++ [.dead]) := by
  have hv : valG [((.inr w : Key), IV.int i)] (.inr w) = some (.int i) := by unfold valG; simp
  have hd : ∀ cs, dixI cs (.dct [.inr w] [.int i]) (.str w) = some (.int i) := fun _ => hv
  have hm : mIt (eCall fSortedD (aCons (eV 3) (aNil))) n [a0, a1, a2, .v (.dct [.inr w] [.int i]), a4] cs = .ok [.str w] cs := by
    have hf : ∀ cs, fSortedD cs [.dct [.inr w] [.int i]] = some (.lst [.str w]) := fun _ => rfl
    have hs : seqI (.lst [.str w]) = some [.str w] := rfl
    simp [hf, hs]
  have hg : gmN 4 (.str w) [a0, a1, a2, .v (.dct [.inr w] [.int i]), .un] = some [a0, a1, a2, .v (.dct [.inr w] [.int i]), .v (.str w)] := rfl
  have ht : ∀ cs, mB (e2 cNe (e2c dixI (eV 3) (eV 4)) (M.pure (.int 1))) n [a0, a1, a2, .v (.dct [.inr w] [.int i]), .v (.str w)] cs = .ok (!decide (i = 1)) cs := fun cs => by simp [hd]
  have hk : ∀ cs, eV 4 n [a0, a1, a2, .v (.dct [.inr w] [.int i]), .v (.str w)] cs = .ok (.str w) cs := fun _ => rfl
  have he : ∀ cs, e2c dixI (eV 3) (eV 4) n [a0, a1, a2, .v (.dct [.inr w] [.int i]), .v (.str w)] cs = .ok (.int i) cs := fun cs => by simp [hd]
  have hp : dputI (.cell cs.length) (.str w) (.int i) (cs ++ [.dct [] []]) = some (cs ++ [.dct [.inr w] [.int i]]) := by
    unfold dputI
    dsimp only
    rw [get_at]
    dsimp only
    rw [if_pos (by decide)]
    show some (List.set _ _ _) = _
    rw [set_at]
    try rfl
  unfold dcM keepD
  rw [ev_frz]
  by_cases h1 : i = 1
  · have : eDc (mIt (eCall fSortedD (aCons (eV 3) (aNil)))) (gmN 4) (mB (e2 cNe (e2c dixI (eV 3) (eV 4)) (M.pure (.int 1)))) (eV 4) (e2c dixI (eV 3) (eV 4)) [4] n [a0, a1, a2, .v (.dct [.inr w] [.int i]), a4] cs = .ok (.cell cs.length) (cs ++ [.dct [] []]) := by
      unfold eDc
      rw [ev_bind, hm, then_ok]
      show (dcL _ _ _ _ n [a0, a1, a2, .v (.dct [.inr w] [.int i]), .un] cs.length _ _).then _ = _
      rw [dcL, hg]
      dsimp only
      rw [ht]
      simp only [h1, decide_true, Bool.not_true]
      rfl
    rw [this, then_ok, frzV_dct get_at, set_at, if_pos h1]
  · have : eDc (mIt (eCall fSortedD (aCons (eV 3) (aNil)))) (gmN 4) (mB (e2 cNe (e2c dixI (eV 3) (eV 4)) (M.pure (.int 1)))) (eV 4) (e2c dixI (eV 3) (eV 4)) [4] n [a0, a1, a2, .v (.dct [.inr w] [.int i]), a4] cs = .ok (.cell cs.length) (cs ++ [.dct [.inr w] [.int i]]) := by
      unfold eDc
      rw [ev_bind, hm, then_ok]
      show (dcL _ _ _ _ n [a0, a1, a2, .v (.dct [.inr w] [.int i]), .un] cs.length _ _).then _ = _
      rw [dcL, hg]
      dsimp only
      rw [ht]
      simp only [h1, decide_false, Bool.not_false]
      rw [hk]
      dsimp only
      rw [he]
      dsimp only
      rw [hp]
      rfl
    rw [this, then_ok, frzV_dct get_at, set_at, if_neg h1]
end
/-! programs and settings -/
def objP (x d : IV) : IV := .obj "Program" ["own_tasks", "own_capacities"] [x, d]
def objS (d r : IV) : IV := .obj "Setting" ["own_slownesses", "own_rule"] [d, r]
theorem pinit_eq : m_Program_init = sSeq (sDrop (eFn f_require_tasks 1 [] (aCons (eV 1) (aNil)))) (sSeq (sIf (mB (e2 cIsNot (eV 2) (M.pure .non))) (sDrop (eFn f_require_capacities 1 [] (aCons (eV 2) (aNil)))) (sNext)) (sSeq (sSet 3 (eIf (mB (e2 cIs (eV 2) (M.pure .non))) (M.pure (.dct [] [])) (eV 2))) (sSeq (sFld "Program" "own_tasks" (eV 0) (eV 1)) (sFld "Program" "own_capacities" (eV 0) dcM)))) := rfl
section
variable {n : Nat} {cs : List Cell} {x : IV}
theorem sto1 {c f : Str} {y : IV} {t : List Cell} : stoI c f y (.cell cs.length) (cs ++ .ins c [] [] :: t) = some (cs ++ .ins c [f] [y] :: t) := by
  unfold stoI; dsimp only; rw [get_at]; dsimp only
  rw [if_pos ⟨rfl, by decide⟩]
  show some (List.set _ _ _) = _
  rw [set_at]
  try rfl
theorem sto2 {c f g : Str} {y z : IV} {t : List Cell} (h : f ≠ g) : stoI c g z (.cell cs.length) (cs ++ .ins c [f] [y] :: t) = some (cs ++ .ins c [f, g] [y, z] :: t) := by
  unfold stoI; dsimp only; rw [get_at]; dsimp only
  rw [if_pos ⟨rfl, by simp⟩]
  have : putI g z [f] [y] = some ([f, g], [y, z]) := by
    unfold putI; rw [if_neg h]
    show (putI g z [] []).map _ = _
    rfl
  rw [this]
  show some (List.set _ _ _) = _
  rw [set_at]
theorem ne_own : ("own_tasks" : Str) ≠ "own_capacities" ∧ ("own_slownesses" : Str) ≠ "own_rule" := by decide +kernel
theorem prog_ok {r d : IV} (hx : nic x = true) (hp : place1 x = none) (hr : (r = .non ∧ d = .dct [] []) ∨ ∃ w i, r = .dct [.inr w] [.int i] ∧ d = keepD w i ∧ place2 r = none ∧ nic r = true) :
    f_Program_init n [.cell cs.length, x, r] (cs ++ [.ins "Program" [] []]) = .ok .non (cs ++ [.ins "Program" ["own_tasks", "own_capacities"] [x, d], .dead]) := by
  have e1 := req_ok (n := n) (cs := cs ++ [.ins "Program" [] []]) hx
  rw [hp] at e1
  simp only at e1
  have st1 := fun (t : List Cell) => sto1 (cs := cs) (c := "Program") (f := "own_tasks") (y := x) (t := t)
  have st2 := fun (d : IV) (t : List Cell) => sto2 (cs := cs) (c := "Program") (f := "own_tasks") (g := "own_capacities") (y := x) (z := d) (t := t) ne_own.1
  have hl : ∀ (c : Cell) (t : List Cell), cs ++ [c] ++ t = cs ++ c :: t := fun c t => by simp
  unfold f_Program_init
  rw [pinit_eq]
  rcases hr with ⟨rfl, rfl⟩ | ⟨w, i, rfl, rfl, h2, hn⟩
  · have hi1 : cIsNot .non .non = some (.bl false) := rfl
    have hi2 : cIs .non .non = some (.bl true) := rfl
    have e3 := fun cs a1 a2 a4 => own0 (n := n) (cs := cs) (a0 := .v (.cell cs.length)) (a1 := a1) (a2 := a2) (a4 := a4)
    have e3 : ∀ cs (a0 a1 a2 a4 : SV), dcM n [a0, a1, a2, .v (.dct [] []), a4] cs = .ok (.dct [] []) (cs ++ [.dead]) := fun cs a0 a1 a2 a4 => own0
    simp [startI, List.replicate, e1, hi1, hi2, st1, e3, st2]
  · have hr : RoomP (.dct [.inr w] [.int i]) := ⟨hn, fun ks vs e => by cases e; exact ⟨rfl, by simp, by simp⟩⟩
    have e2 := cap_ok (n := n) (cs := cs ++ [.ins "Program" [] []]) hr (fun z => by cases z)
    rw [h2] at e2
    simp only at e2
    have hi1 : cIsNot (.dct [.inr w] [.int i]) .non = some (.bl true) := rfl
    have hi2 : cIs (.dct [.inr w] [.int i]) .non = some (.bl false) := rfl
    have e3 : ∀ cs (a0 a1 a2 a4 : SV), dcM n [a0, a1, a2, .v (.dct [.inr w] [.int i]), a4] cs = .ok (keepD w i) (cs ++ [.dead]) := fun cs a0 a1 a2 a4 => own1
    simp [startI, List.replicate, e1, e2, hi1, hi2, st1, e3, st2]
theorem prog_mk {r d : IV} (hx : nic x = true) (hp : place1 x = none) (hr : (r = .non ∧ d = .dct [] []) ∨ ∃ w i, r = .dct [.inr w] [.int i] ∧ d = keepD w i ∧ place2 r = none ∧ nic r = true) :
    ∃ C, mkI "Program" f_Program_init [x, r] n cs = .ok (.cell cs.length) C ∧ frzV (.cell cs.length) C = (objP x d, cs ++ [.dead, .dead]) := by
  refine ⟨_, by unfold mkI; rw [prog_ok hx hp hr], ?_⟩
  rw [frzV_ins get_at, set_at]; try rfl
theorem prog_ex {r p : IV} (hx : nic x = true) (hr : RoomP r) (hp : place x r = some p) : mkI "Program" f_Program_init [x, r] n cs = .ex (badX p) (cs ++ [.ins "Program" [] []]) := by
  have e1 := init_ok (n := n) (cs := cs) hx hr
  rw [hp] at e1
  simp only at e1
  unfold mkI; rw [e1]
/-! settings -/
def badS (p : IV) : Exn := ⟨"InvalidSetting", ["value"], [p]⟩
def badN (p : IV) : Exn := ⟨"UnknownName", ["name"], [p]⟩
theorem slow_ok {w : Str} {v : IV} (hw : nic (.str w) = true) (hv : nic v = true) : f_are_slownesses n [.dct [.inr w] [v]] cs = .ok (.bl (nameB w && wholeI v 0 1000000)) cs := by
  have hvv : valG [((.inr w : Key), v)] (.inr w) = some v := by unfold valG; simp
  have hd : ∀ cs, dixI cs (.dct [.inr w] [v]) (.str w) = some v := fun _ => hvv
  have e1 := fun cs => isName_ok (n := n) (cs := cs) (nic_plain hw)
  have e2 := fun cs => between_ok (n := n) (cs := cs) (lo := 0) (hi := 1000000) (nic_plain hv)
  have hks : keysI (.dct [.inr w] [v]) = some [.str w] := rfl
  have hc := cmp_pure (n := n) (gm := gmN 1) (mt := M.pure true) (me := eAnd (eFn f_is_name 1 [] (aCons (eV 1) (aNil))) (eFn f_is_between 3 [] (aCons (e2c dixI (eV 0) (eV 1)) (aCons (M.pure (.int 0)) (aCons (M.pure (.int 1000000)) (aNil)))))) (σ := [.v (.dct [.inr w] [v]), .un]) (cs := cs) (fun _ => true) (fun y => .bl (nameI y && wholeI v 0 1000000)) [.str w] [] (by simp) (fun y hy => by
    rw [List.mem_singleton] at hy
    subst hy
    refine ⟨[.v (.dct [.inr w] [v]), .v (.str w)], rfl, rfl, fun _ => ?_⟩
    cases hn : nameI (.str w) <;> simp [e1, e2, hd, hn])
  have hall : ∀ b cs, fAll cs [.lst [.bl b]] = some (.bl b) := fun b _ => by cases b <;> rfl
  have hni : nameI (.str w) = nameB w := rfl
  simp only [List.filter_cons, List.filter_nil, if_true, List.map_cons, List.map_nil, List.nil_append, hni] at hc
  unfold f_are_slownesses m_are_slownesses
  have hi := isi_dct (cs := cs) (x := .dct [.inr w] [v]) rfl
  simp [startI, List.replicate, hi, knDct, hks, wipeI, hc, hall]
theorem sinit_eq : m_Setting_init = sSeq (sIf (mAnd (mB (e2 cIsNot (eV 1) (M.pure .non))) (mNot (mT (eFn f_are_slownesses 1 [] (aCons (eV 1) (aNil)))))) (sRaise "InvalidSetting" "value" (eV 1)) (sNext)) (sSeq (sIf (mOr (mNot (mT (eCall fIsi (aCons (eV 2) (aCons (M.pure (.ty "str")) (aNil)))))) (mB (e2 cNotIn (eV 2) (M.pure (.tup [(.str "turn"), (.str "number")]))))) (sRaise "InvalidSetting" "value" (eV 2)) (sNext)) (sSeq (sSet 3 (eIf (mB (e2 cIs (eV 1) (M.pure .non))) (M.pure (.dct [] [])) (eV 1))) (sSeq (sFld "Setting" "own_slownesses" (eV 0) dcM) (sFld "Setting" "own_rule" (eV 0) (eV 2))))) := rfl
theorem turn_in : cNotIn (.str "turn") (.tup [.str "turn", .str "number"]) = some (.bl false) := by kernel_rfl
theorem turn_str : ∀ cs, fIsi cs [.str "turn", .ty "str"] = some (.bl true) := fun cs => rfl
theorem set_ok {r d : IV} (hr : (r = .non ∧ d = .dct [] []) ∨ ∃ w i, r = .dct [.inr w] [.int i] ∧ d = keepD w i ∧ nameB w = true ∧ wholeI (.int i) 0 1000000 = true ∧ nic r = true) :
    ∃ C, mkI "Setting" f_Setting_init [r, .str "turn"] n cs = .ok (.cell cs.length) C ∧ frzV (.cell cs.length) C = (objS d (.str "turn"), cs ++ [.dead, .dead]) := by
  have st1 := fun (d : IV) (t : List Cell) => sto1 (cs := cs) (c := "Setting") (f := "own_slownesses") (y := d) (t := t)
  have st2 := fun (d : IV) (t : List Cell) => sto2 (cs := cs) (c := "Setting") (f := "own_slownesses") (g := "own_rule") (y := d) (z := .str "turn") (t := t) ne_own.2
  have key : f_Setting_init n [.cell cs.length, r, .str "turn"] (cs ++ [.ins "Setting" [] []]) = .ok .non (cs ++ [.ins "Setting" ["own_slownesses", "own_rule"] [d, .str "turn"], .dead]) := by
    unfold f_Setting_init
    rw [sinit_eq]
    rcases hr with ⟨rfl, rfl⟩ | ⟨w, i, rfl, rfl, h2, h3, hn⟩
    · have hi1 : cIsNot .non .non = some (.bl false) := rfl
      have hi2 : cIs .non .non = some (.bl true) := rfl
      have e3 : ∀ cs (a0 a1 a2 a4 : SV), dcM n [a0, a1, a2, .v (.dct [] []), a4] cs = .ok (.dct [] []) (cs ++ [.dead]) := fun cs a0 a1 a2 a4 => own0
      simp [startI, List.replicate, hi1, hi2, turn_str, turn_in, e3, st1, st2]
    · simp only [nic, nicL, nicK, List.all_cons, List.all_nil, Bool.and_true, Bool.and_eq_true] at hn
      have e2 := fun cs => slow_ok (n := n) (cs := cs) (w := w) (v := .int i) (by simp only [nic]; exact hn.1) (by simp only [nic]; exact hn.2)
      have hi1 : cIsNot (.dct [.inr w] [.int i]) .non = some (.bl true) := rfl
      have hi2 : cIs (.dct [.inr w] [.int i]) .non = some (.bl false) := rfl
      have e3 : ∀ cs (a0 a1 a2 a4 : SV), dcM n [a0, a1, a2, .v (.dct [.inr w] [.int i]), a4] cs = .ok (keepD w i) (cs ++ [.dead]) := fun cs a0 a1 a2 a4 => own1
      simp [startI, List.replicate, e2, h2, h3, hi1, hi2, turn_str, turn_in, e3, st1, st2]
  refine ⟨_, by unfold mkI; rw [key], ?_⟩
  rw [frzV_ins get_at, set_at]; try rfl
theorem set_ex {w : Str} {v : IV} (hw : nic (.str w) = true) (hv : nic v = true) (h : (nameB w && wholeI v 0 1000000) = false) : mkI "Setting" f_Setting_init [.dct [.inr w] [v], .str "turn"] n cs = .ex (badS (.dct [.inr w] [v])) (cs ++ [.ins "Setting" [] []]) := by
  have e2 := fun cs => slow_ok (n := n) (cs := cs) hw hv
  have hi1 : cIsNot (.dct [.inr w] [v]) .non = some (.bl true) := rfl
  have key : f_Setting_init n [.cell cs.length, .dct [.inr w] [v], .str "turn"] (cs ++ [.ins "Setting" [] []]) = .ex (badS (.dct [.inr w] [v])) (cs ++ [.ins "Setting" [] []]) := by
    unfold f_Setting_init
    rw [sinit_eq]
    simp [startI, List.replicate, e2, h, hi1, badS]
  unfold mkI; rw [key]
end
end K08

set_option Elab.async false
set_option linter.all false
set_option autoImplicit false
set_option maxRecDepth 100000
set_option maxHeartbeats 4000000
namespace K08
open PySem PySem.Spec L2 SL
open PyProof.Rows hiding St
/-! texts of the words -/
def alpha : List Nat := [97, 98, 99, 100, 101, 102, 103, 104, 105, 106, 107, 108, 109, 110, 111, 112, 113, 114, 115, 116, 117, 118, 119, 120, 121, 122, 65, 49, 32, 95, 57, 10]
def wordB (s : Str) : Bool := decide (s.cps.size ≤ 30) && s.cps.toList.all fun c => alpha.contains c
theorem alpha_all : (alpha.all fun c => decide (c < 0x110000) && (([34, 39] : List Nat).all fun q => decide ((Builtin.Str.reprChar q c).length ≤ 2) && (Builtin.Str.reprChar q c).all fun z => decide (z < 0x110000))) = true := by decide +kernel
theorem word_nic {s : Str} (h : wordB s = true) : nicS s = true := by
  unfold wordB at h
  simp only [Bool.and_eq_true, decide_eq_true_eq] at h
  unfold nicS
  simp only [Bool.and_eq_true, decide_eq_true_eq]
  refine ⟨by omega, ?_⟩
  rw [← Array.all_toList, List.all_eq_true]
  intro c hc
  have h1 := List.all_eq_true.mp h.2 c hc
  have h2 := List.all_eq_true.mp alpha_all c (by simpa using h1)
  simp only [Bool.and_eq_true, decide_eq_true_eq] at h2
  simp only [decide_eq_true_eq]
  exact h2.1
theorem fold_ok (q : Nat) : ∀ (l : List Nat) (acc : Array Nat), (∀ c ∈ l, (Builtin.Str.reprChar q c).length ≤ 2 ∧ ∀ z ∈ Builtin.Str.reprChar q c, z < 0x110000) → (∀ z ∈ acc.toList, z < 0x110000) →
    (l.foldl (fun out c => out ++ (Builtin.Str.reprChar q c).toArray) acc).size ≤ acc.size + 2 * l.length ∧ ∀ z ∈ (l.foldl (fun out c => out ++ (Builtin.Str.reprChar q c).toArray) acc).toList, z < 0x110000
  | [], acc, _, h => ⟨by simp, h⟩
  | c :: l, acc, h, h2 => by
    obtain ⟨h3, h4⟩ := h c (by simp)
    obtain ⟨g1, g2⟩ := fold_ok q l (acc ++ (Builtin.Str.reprChar q c).toArray) (fun d hd => h d (by simp [hd])) (fun z hz => by
      rw [Array.toList_append] at hz
      rcases List.mem_append.mp hz with hz | hz
      · exact h2 z hz
      · exact h4 z (by simpa using hz))
    refine ⟨?_, by rw [List.foldl_cons]; exact g2⟩
    rw [List.foldl_cons, List.length_cons]
    have e : (Builtin.Str.reprChar q c).toArray.size = (Builtin.Str.reprChar q c).length := by simp
    rw [Array.size_append, e] at g1
    omega
theorem repr_word {s : Str} (h : wordB s = true) : nicS (reprText s) = true ∧ (reprText s).cps.size ≤ 62 ∧ (∀ z ∈ (reprText s).cps.toList, z < 0x110000) := by
  unfold wordB at h
  simp only [Bool.and_eq_true, decide_eq_true_eq] at h
  have hq : PySem.reprQuote s = 34 ∨ PySem.reprQuote s = 39 := by
    unfold PySem.reprQuote
    split
    · exact .inl rfl
    · exact .inr rfl
  have hc : ∀ c ∈ s.cps.toList, (Builtin.Str.reprChar (PySem.reprQuote s) c).length ≤ 2 ∧ ∀ z ∈ Builtin.Str.reprChar (PySem.reprQuote s) c, z < 0x110000 := fun c hc => by
    have h1 := List.all_eq_true.mp h.2 c hc
    have h2 := List.all_eq_true.mp alpha_all c (by simpa using h1)
    simp only [Bool.and_eq_true] at h2
    have h3 := List.all_eq_true.mp h2.2 (PySem.reprQuote s) (by rcases hq with e | e <;> rw [e] <;> simp)
    simp only [Bool.and_eq_true, decide_eq_true_eq] at h3
    exact ⟨h3.1, fun z hz => by simpa using List.all_eq_true.mp h3.2 z hz⟩
  have hq2 : PySem.reprQuote s < 0x110000 := by rcases hq with e | e <;> rw [e] <;> decide
  obtain ⟨g1, g2⟩ := fold_ok (PySem.reprQuote s) s.cps.toList #[PySem.reprQuote s] hc (fun z hz => by simp at hz; rw [hz]; exact hq2)
  have e : (reprText s).cps = (s.cps.toList.foldl (fun out c => out ++ (Builtin.Str.reprChar (PySem.reprQuote s) c).toArray) #[PySem.reprQuote s]).push (PySem.reprQuote s) := by
    unfold reprText
    rw [Array.foldl_toList]
  have hs : (reprText s).cps.size ≤ 62 := by
    rw [e, Array.size_push]
    have : s.cps.toList.length = s.cps.size := Array.length_toList
    have e1 : (#[PySem.reprQuote s] : Array Nat).size = 1 := rfl
    rw [e1] at g1
    omega
  have ha : ∀ z ∈ (reprText s).cps.toList, z < 0x110000 := fun z hz => by
    rw [e, Array.toList_push] at hz
    rcases List.mem_append.mp hz with hz | hz
    · exact g2 z hz
    · rw [List.mem_singleton.mp hz]; exact hq2
  refine ⟨?_, hs, ha⟩
  unfold nicS
  simp only [Bool.and_eq_true, decide_eq_true_eq]
  refine ⟨by omega, ?_⟩
  rw [← Array.all_toList, List.all_eq_true]
  intro z hz
  simpa using ha z hz
theorem repr_str {s : Str} (h : wordB s = true) : reprOf (.str s) = some (.str (reprText s)) := by
  obtain ⟨t, ht⟩ := nic_repr (x := .str s) (by simp only [nic]; exact word_nic h) (by
    unfold wordB at h
    simp only [Bool.and_eq_true, decide_eq_true_eq] at h
    simp only [wtI]; omega) (by simp [dpI])
  have : t = reprText s := by
    unfold reprOf at ht
    simp only [toPy] at ht
    split at ht
    · have := Option.some.inj ht
      simp only [PyData.shown] at this
      exact (IV.str.inj this).symm
    · cases ht
  rw [ht, this]
end K08

set_option Elab.async false
set_option linter.all false
set_option autoImplicit false
set_option maxRecDepth 100000
set_option maxHeartbeats 4000000
namespace K08
open PySem PySem.Spec L2 SL
open PyProof.Rows hiding St
def Ext (cs cs' : List Cell) : Prop := ∃ t, cs' = cs ++ t
theorem Ext.rfl' {cs : List Cell} : Ext cs cs := ⟨[], by simp⟩
theorem Ext.tr {a b c : List Cell} (h : Ext a b) (h2 : Ext b c) : Ext a c := by
  obtain ⟨t, rfl⟩ := h
  obtain ⟨u, rfl⟩ := h2
  exact ⟨t ++ u, by simp⟩
def reprV' (x : IV) : IV := (reprOf x).getD .non
def unkV (x : IV) : IV := .lst [.str "unknown", reprV' x, .bl true]
def prgV (x : IV) : IV := .lst [.str "program", reprV' x]
def setV (x : IV) : IV := .lst [.str "setting", reprV' x]
section
variable {n : Nat} {cs : List Cell}
theorem hdN {x : IV} {s : Str} (h : reprOf x = some (.str s)) : caughtL cl__law_heard (badN x) n (List.replicate 2 .un) cs = .ret (unkV x) cs := by
  have hf : ∀ cs, fRepr cs [x] = some (.str s) := fun _ => h
  unfold cl__law_heard unkV reprV'
  rw [h]
  refine caughtL_at rfl fun a cls d => ?_
  unfold hd__law_heard_0
  simp [badN, hf, List.replicate, List.lookup]
theorem hdP {x : IV} {s : Str} (h : reprOf x = some (.str s)) : caughtL cl__law_heard (badX x) n (List.replicate 2 .un) cs = .ret (prgV x) cs := by
  have hf : ∀ cs, fRepr cs [x] = some (.str s) := fun _ => h
  unfold cl__law_heard prgV reprV'
  rw [h, caughtL_on rfl]
  refine caughtL_at rfl fun a cls d => ?_
  unfold hd__law_heard_1
  simp [badX, hf, List.replicate, List.lookup]
theorem hdS {x : IV} {s : Str} (h : reprOf x = some (.str s)) : caughtL cl__law_heard (badS x) n (List.replicate 2 .un) cs = .ret (setV x) cs := by
  have hf : ∀ cs, fRepr cs [x] = some (.str s) := fun _ => h
  unfold cl__law_heard setV reprV'
  rw [h, caughtL_on rfl, caughtL_on rfl]
  refine caughtL_at rfl fun a cls d => ?_
  unfold hd__law_heard_2
  simp [badS, hf, List.replicate, List.lookup]
/-! capacity and slowness asked -/
def gotI (d w : IV) : IV := ((dgI d w (.int 1) []).getD .non)
theorem dg0 {s : Str} : ∀ cs, dgI (.dct [] []) (.str s) (.int 1) cs = some (.int 1) := fun _ => rfl
theorem dgk {s : Str} {i : Int} : ∀ cs, dgI (keepD s i) (.str s) (.int 1) cs = some (.int i) := fun cs => by
  unfold keepD
  split
  · rename_i h; subst h; rfl
  · have hv : valG [((.inr s : Key), IV.int i)] (.inr s) = some (.int i) := by unfold valG; simp
    show some ((valG [((.inr s : Key), IV.int i)] (.inr s)).getD (.int 1)) = _
    rw [hv]; try rfl
/-- a dict of capacities that tells i of s -/
def Tells (d : IV) (s : Str) (i : Int) : Prop := (∀ cs, (dcI d cs).isSome = true) ∧ ∀ cs, dgI d (.str s) (.int 1) cs = some (.int i)
theorem tells0 {s : Str} : Tells (.dct [] []) s 1 := ⟨fun _ => rfl, dg0⟩
theorem tellsk {s : Str} {i : Int} : Tells (keepD s i) s i := ⟨fun _ => by unfold keepD; split <;> rfl, dgk⟩
theorem capf_no {x d w : IV} (hw : plainI w = true) (h : nameI w = false) : f_Program_capacity n [objP x d, w] cs = .ex (badN w) cs := by
  have e := fun cs => isName_ok (n := n) (cs := cs) hw
  unfold f_Program_capacity m_Program_capacity
  simp [startI, List.replicate, e, h, badN]
theorem capf_yes {x d : IV} {s : Str} {i : Int} (hw : plainI (.str s) = true) (h : nameB s = true) (ht : Tells d s i) : f_Program_capacity n [objP x d, .str s] cs = .ok (.int i) cs := by
  have e := fun cs => isName_ok (n := n) (cs := cs) hw
  have hn : nameI (.str s) = true := h
  have hf : ∀ cs, fldI "Program" "own_capacities" (objP x d) cs = some d := fun _ => by
    unfold fldI insI objP; dsimp only [Option.bind]; rw [if_pos rfl]; try rfl
  obtain ⟨h1, h2⟩ := ht
  unfold f_Program_capacity m_Program_capacity
  simp [startI, List.replicate, e, hn, hf, h1, h2]
theorem slof_no {d r w : IV} (hw : plainI w = true) (h : nameI w = false) : f_Setting_slowness n [objS d r, w] cs = .ex (badN w) cs := by
  have e := fun cs => isName_ok (n := n) (cs := cs) hw
  unfold f_Setting_slowness m_Setting_slowness
  simp [startI, List.replicate, e, h, badN]
theorem slof_yes {d r : IV} {s : Str} {i : Int} (hw : plainI (.str s) = true) (h : nameB s = true) (ht : Tells d s i) : f_Setting_slowness n [objS d r, .str s] cs = .ok (.int i) cs := by
  have e := fun cs => isName_ok (n := n) (cs := cs) hw
  have hn : nameI (.str s) = true := h
  have hf : ∀ cs, fldI "Setting" "own_slownesses" (objS d r) cs = some d := fun _ => by
    unfold fldI insI objS; dsimp only [Option.bind]; rw [if_pos rfl]; try rfl
  obtain ⟨h1, h2⟩ := ht
  unfold f_Setting_slowness m_Setting_slowness
  simp [startI, List.replicate, e, hn, hf, h1, h2]
theorem isP {x d : IV} : ∀ cs, isIn "Program" "capacity" (objP x d) cs = true := fun _ => by
  unfold isIn insI objP; dsimp only; decide +kernel
theorem isPt {x d : IV} : ∀ cs, isIn "Program" "tasks" (objP x d) cs = true := fun _ => by
  unfold isIn insI objP; dsimp only; decide +kernel
theorem isS {d r : IV} : ∀ cs, isIn "Setting" "slowness" (objS d r) cs = true := fun _ => by
  unfold isIn insI objS; dsimp only; decide +kernel
variable {σ : List SV} {mo me : M IV}
/-- heard: the capacity of a program -/
theorem told_cap {x d w : IV} {cs1 : List Cell} (h1 : mo n σ cs = .ok (objP x d) cs1) (h2 : me n σ cs1 = .ok w cs1) (hw : plainI w = true) {t : Str} (hr : reprOf w = some (.str t)) (hd : ∀ s, w = .str s → nameB s = true → ∃ i, Tells d s i) :
    ∃ r, eToldL 2 cl__law_heard (eMeth "Program" "capacity" f_Program_capacity 2 [] mo (aCons me aNil)) n σ cs = .ok r cs1 ∧ (nameI w = false → r = unkV w) ∧ ∀ s i, w = .str s → nameB s = true → Tells d s i → r = .int i := by
  have hm : ∀ R, f_Program_capacity n [objP x d, w] cs1 = R → eMeth "Program" "capacity" f_Program_capacity 2 [] mo (aCons me aNil) n σ cs = R := fun R hR => by
    simp [h1, isP, h2, hR]
  cases hn : nameI w with
  | false => exact ⟨unkV w, toldL_ex (hm _ (capf_no hw hn)) (hdN hr), fun _ => rfl, fun s i e hs _ => by subst e; rw [show nameI (.str s) = nameB s from rfl, hs] at hn; cases hn⟩
  | true =>
    obtain ⟨s, rfl⟩ := nameI_str hn
    obtain ⟨i, hi⟩ := hd s rfl hn
    refine ⟨.int i, toldL_ok (hm _ (capf_yes hw hn hi)), fun z => (by cases z), fun s' i' e _ ht => ?_⟩
    cases e
    have := (ht.2 []).symm.trans (hi.2 [])
    cases this
    rfl
theorem told_slow {d ru w : IV} {cs1 : List Cell} (h1 : mo n σ cs = .ok (objS d ru) cs1) (h2 : me n σ cs1 = .ok w cs1) (hw : plainI w = true) {t : Str} (hr : reprOf w = some (.str t)) (hd : ∀ s, w = .str s → nameB s = true → ∃ i, Tells d s i) :
    ∃ r, eToldL 2 cl__law_heard (eMeth "Setting" "slowness" f_Setting_slowness 2 [] mo (aCons me aNil)) n σ cs = .ok r cs1 ∧ (nameI w = false → r = unkV w) ∧ ∀ s i, w = .str s → nameB s = true → Tells d s i → r = .int i := by
  have hm : ∀ R, f_Setting_slowness n [objS d ru, w] cs1 = R → eMeth "Setting" "slowness" f_Setting_slowness 2 [] mo (aCons me aNil) n σ cs = R := fun R hR => by
    simp [h1, isS, h2, hR]
  cases hn : nameI w with
  | false => exact ⟨unkV w, toldL_ex (hm _ (slof_no hw hn)) (hdN hr), fun _ => rfl, fun s i e hs _ => by subst e; rw [show nameI (.str s) = nameB s from rfl, hs] at hn; cases hn⟩
  | true =>
    obtain ⟨s, rfl⟩ := nameI_str hn
    obtain ⟨i, hi⟩ := hd s rfl hn
    refine ⟨.int i, toldL_ok (hm _ (slof_yes hw hn hi)), fun z => (by cases z), fun s' i' e _ ht => ?_⟩
    cases e
    have := (ht.2 []).symm.trans (hi.2 [])
    cases this
    rfl
/-! the programs and settings that the law makes -/
def mkP (a b : M IV) : M IV := eFrz (eMk "Program" f_Program_init 3 [] (aCons a (aCons b aNil)))
def mkP1 (a : M IV) : M IV := eFrz (eMk "Program" f_Program_init 3 [.non] (aCons a aNil))
def mkS0 : M IV := eFrz (eMk "Setting" f_Setting_init 3 [.non, .str "turn"] aNil)
def mkS (a : M IV) : M IV := eFrz (eMk "Setting" f_Setting_init 3 [.str "turn"] (aCons a aNil))
def T0 : IV := .tup [.tup []]
theorem t0_ok : nic T0 = true ∧ place1 T0 = none := ⟨rfl, by kernel_rfl⟩
theorem mkP1_ok {x : IV} (hx : nic x = true) (hp : place1 x = none) (ha : me n σ cs = .ok x cs) : mkP1 me n σ cs = .ok (objP x (.dct [] [])) (cs ++ [.dead, .dead]) := by
  obtain ⟨C, h1, h2⟩ := prog_mk (n := n) (cs := cs) (r := .non) (d := .dct [] []) hx hp (.inl ⟨rfl, rfl⟩)
  unfold mkP1
  simp [ha, h1, h2]
theorem mkS0_ok : mkS0 n σ cs = .ok (objS (.dct [] []) (.str "turn")) (cs ++ [.dead, .dead]) := by
  obtain ⟨C, h1, h2⟩ := set_ok (n := n) (cs := cs) (r := .non) (d := .dct [] []) (.inl ⟨rfl, rfl⟩)
  unfold mkS0
  simp [h1, h2]
end
end K08

set_option Elab.async false
set_option linter.all false
set_option autoImplicit false
set_option maxRecDepth 100000
set_option maxHeartbeats 4000000
namespace K08
open PySem PySem.Spec L2 SL
open PyProof.Rows hiding St
/-- the numbers that are tried -/
structure MV (v : IV) : Prop where
  n : nic v = true
  f : noD v = true
  d : dpI v = 0
  w : wtI v ≤ 1
  t : ∃ p, toPy v = some p ∧ p.shown.cps.size ≤ 20 ∧ ∀ z ∈ p.shown.cps.toList, z < 0x110000
def mvL : List IV := [.int 0, .int 1, .int 2, .int 3, .int 4, .int 5, .int 6, .int 7, .int 8, .int 9, .int 10, .int 11, .int (-1), .int 1000000, .int 1000001, .bl true, .non]
theorem mv_all : ∀ v ∈ mvL, MV v := by
  have h : (mvL.all fun v => nic v && noD v && decide (dpI v = 0) && decide (wtI v ≤ 1) && (match toPy v with | some p => decide (p.shown.cps.size ≤ 20) && p.shown.cps.toList.all fun z => decide (z < 0x110000) | none => false)) = true := by decide +kernel
  intro v hv
  have h1 := List.all_eq_true.mp h v hv
  simp only [Bool.and_eq_true, decide_eq_true_eq] at h1
  obtain ⟨⟨⟨⟨a, b⟩, c⟩, d⟩, e⟩ := h1
  refine ⟨a, b, c, d, ?_⟩
  split at e
  · rename_i p hp
    simp only [Bool.and_eq_true, decide_eq_true_eq] at e
    exact ⟨p, hp, e.1, fun z hz => by simpa using List.all_eq_true.mp e.2 z hz⟩
  · cases e
/-- short and in range -/
def Shrt (k : Nat) (s : Str) : Prop := s.cps.size ≤ k ∧ ∀ z ∈ s.cps.toList, z < 0x110000
theorem Shrt.app {j k : Nat} {a b : Str} (h : Shrt j a) (h2 : Shrt k b) : Shrt (j + k) (a ++ b) := by
  have e : (a ++ b).cps = a.cps ++ b.cps := rfl
  refine ⟨?_, fun z hz => ?_⟩
  · rw [e, Array.size_append]; have := h.1; have := h2.1; omega
  · rw [e, Array.toList_append] at hz
    rcases List.mem_append.mp hz with hz | hz
    · exact h.2 z hz
    · exact h2.2 z hz
theorem Shrt.nic {k : Nat} {s : Str} (h : Shrt k s) (hk : k ≤ 100) : nicS s = true := by
  unfold nicS
  simp only [Bool.and_eq_true, decide_eq_true_eq]
  refine ⟨Nat.le_trans h.1 hk, ?_⟩
  rw [← Array.all_toList, List.all_eq_true]
  intro z hz
  simpa using h.2 z hz
theorem shrt_lit {k : Nat} (s : Str) (h : (decide (s.cps.size ≤ k) && s.cps.toList.all fun z => decide (z < 0x110000)) = true) : Shrt k s := by
  simp only [Bool.and_eq_true, decide_eq_true_eq] at h
  exact ⟨h.1, fun z hz => by simpa using List.all_eq_true.mp h.2 z hz⟩
def slowD (s : Str) (v : IV) : IV := .dct [.inr s] [v]
theorem slow_nic {s : Str} {v : IV} (h : wordB s = true) (hv : MV v) : nic (slowD s v) = true := by
  simp only [slowD, nic, nicL, nicK, List.all_cons, List.all_nil, word_nic h, hv.n, Bool.and_self]
theorem repr_slow {s : Str} {v : IV} (h : wordB s = true) (hv : MV v) : ∃ t, reprOf (slowD s v) = some (.str t) ∧ nicS t = true := by
  obtain ⟨t, ht⟩ := nic_repr (slow_nic h hv) (by
    have := hv.w
    unfold wordB at h
    simp only [Bool.and_eq_true, decide_eq_true_eq] at h
    simp only [slowD, wtI, wtKs, wtK, wtL]; omega) (by
    have := hv.d
    simp only [slowD, dpI, dpL]; omega)
  refine ⟨t, ht, ?_⟩
  obtain ⟨p, hp, h1, h2⟩ := hv.t
  have e : toPy (slowD s v) = some (.dict [(.str s, p)]) := by
    simp only [slowD, toPy, toPyL, hp, Option.map_some, List.map_cons, List.map_nil, keyPy, List.zip_cons_cons, List.zip_nil_right]
  have : t = (PyData.dict [(.str s, p)]).shown := by
    unfold reprOf at ht
    rw [e] at ht
    dsimp only at ht
    split at ht
    · exact (IV.str.inj (Option.some.inj ht)).symm
    · cases ht
  rw [this]
  have e2 : (PyData.dict [(.str s, p)]).shown = ("{" : Str) ++ (reprText s ++ ": " ++ p.shown) ++ "}" := by
    simp only [PyData.shown, PyData.shownKv]
    rfl
  rw [e2]
  obtain ⟨_, r1, r2⟩ := repr_word h
  exact (((shrt_lit (k := 1) "{" (by decide +kernel)).app ((Shrt.app (j := 62) ⟨r1, r2⟩ (shrt_lit (k := 2) ": " (by decide +kernel))).app (k := 20) ⟨h1, h2⟩)).app (shrt_lit (k := 1) "}" (by decide +kernel))).nic (by decide)
def x1 (s : Str) : IV := .tup [.tup [.tup [.str "get", .str s]]]
theorem x1_nic {s : Str} (h : nicS s = true) : nic (x1 s) = true := by
  have : nicS "get" = true := by decide +kernel
  simp only [x1, nic, nicL, h, this, Bool.and_self]
theorem x1_place {s : Str} : place1 (x1 s) = if nameB s then none else some (.tup [.int 0, .int 0]) := by
  have hs : stepI (.tup [.str "get", .str s]) 1 = nameB s := by
    simp [stepI, restB, nameI, ne_get_work, ne_get_put, ne_get_skip, ne_get_await]
  have h0 : (enI [IV.tup [.tup [.str "get", .str s]]] 0).find? taskBad = none := by simp [enI, taskBad]
  unfold place1 x1
  dsimp only
  rw [if_pos (by simp), h0]
  dsimp only
  have h1 : ([IV.tup [.tup [.str "get", .str s]]].length : Int) = 1 := rfl
  rw [h1]
  cases hn : nameB s with
  | true =>
    rw [hn] at hs
    have : (enI [IV.tup [.str "get", .str s]] 0).find? (stepBad 1) = none := by simp [enI, stepBad, hs]
    simp [enI, rowBad, sndI, this]
    simpa [enI] using this
  | false =>
    rw [hn] at hs
    have : (enI [IV.tup [.str "get", .str s]] 0).find? (stepBad 1) = some (.tup [.int 0, .tup [.str "get", .str s]]) := by simp [enI, stepBad, hs]
    have hr : rowBad 1 (.tup [.int 0, .tup [.tup [.str "get", .str s]]]) = true := by
      unfold rowBad sndI; simp only; rw [this]; rfl
    have hf : (enI [IV.tup [.tup [.str "get", .str s]]] 0).find? (rowBad 1) = some (.tup [.int 0, .tup [.tup [.str "get", .str s]]]) := by
      simp only [enI, List.find?_cons]
      rw [show rowBad 1 (.tup [.int ((0 : Nat) : Int), .tup [.tup [.str "get", .str s]]]) = true from hr]
      try rfl
    rw [hf]
    show some (rowPl 1 _) = _
    unfold rowPl sndI
    simp only
    rw [this]
    try rfl
theorem place_room {s : Str} {v : IV} : place T0 (slowD s v) = if nameB s && wholeI v 1 9 then none else some (.str "capacities") := by
  unfold place
  rw [t0_ok.2]
  dsimp only
  unfold place2 slowD
  dsimp only
  have hni : nameI (.str s) = nameB s := rfl
  cases hb : (nameB s && wholeI v 1 9) with
  | true =>
    have : capBad (.tup [.str s, v]) = false := by unfold capBad; dsimp only; rw [hni, hb]; try rfl
    simp [kI, this]
  | false =>
    have : capBad (.tup [.str s, v]) = true := by unfold capBad; dsimp only; rw [hni, hb]; try rfl
    simp [kI, this]
end K08

set_option Elab.async false
set_option linter.all false
set_option autoImplicit false
set_option maxRecDepth 100000
set_option maxHeartbeats 4000000
namespace K08
open PySem PySem.Spec L2 SL
open PyProof.Rows hiding St
noncomputable def h1M : M IV := eToldL 2 cl__law_heard (eMeth "Program" "capacity" f_Program_capacity 2 [] (eV 7) (aCons (eV 0) (aNil)))
noncomputable def h2M : M IV := eToldL 2 cl__law_heard (eMeth "Setting" "slowness" f_Setting_slowness 2 [] mkS0 (aCons (eV 0) (aNil)))
def get3 : M IV := eTup (aCons (eTup (aCons (eTup (aCons (M.pure (.str "get")) (aCons (eV 0) (aNil)))) (aNil))) (aNil))
def t0M : M IV := eTup (aCons (eTup (aNil)) (aNil))
noncomputable def h3M : M IV := eToldL 2 cl__law_heard (eProp "Program" "tasks" f_Program_tasks (mkP1 get3))
noncomputable def h4M : M IV := eToldL 2 cl__law_heard (eMeth "Program" "capacity" f_Program_capacity 2 [] (mkP t0M (eV 8)) (aCons (eV 0) (aNil)))
noncomputable def h5M : M IV := eToldL 2 cl__law_heard (eMeth "Setting" "slowness" f_Setting_slowness 2 [] (mkS (eV 9)) (aCons (eV 0) (aNil)))
theorem wr_eq : m__law_word_right = sSeq (sAsg (gmTup 2 (gmCons (gmN 6) (gmCons (gmN 7) (gmNil)))) (eTup (aCons (eFn f__law_is_name 1 [] (aCons (eV 0) (aNil))) (aCons (mkP1 t0M) (aNil))))) (sSeq (sSet 2 (eLst (aCons (M.pure (.str "unknown")) (aCons (eCall fRepr (aCons (eV 0) (aNil))) (aCons (M.pure (.bl true)) (aNil)))))) (sSeq (sOwn 3 (aCons (h1M) (aNil))) (sSeq (sApp 3 (h2M)) (sFrz 3 (sSeq (sIf (mB (e2 cNe (eV 3) (eIf (mT (eV 6)) (eLst (aCons (M.pure (.int 1)) (aCons (M.pure (.int 1)) (aNil)))) (eLst (aCons (eV 2) (aCons (eV 2) (aNil))))))) (sRet (M.pure (.bl false))) (sNext)) (sSeq (sSet 4 (h3M)) (sSeq (sIf (mB (e2 cNe (eV 4) (eIf (mT (eV 6)) (get3) (eLst (aCons (M.pure (.str "program")) (aCons (M.pure (.str "(0, 0)")) (aNil))))))) (sRet (M.pure (.bl false))) (sNext)) (sSeq (sAsg (gmTup 2 (gmCons (gmN 8) (gmCons (gmN 9) (gmNil)))) (eTup (aCons (eDis [(eV 0, eV 1)]) (aCons (eDis [(eV 0, eV 1)]) (aNil))))) (sSeq (sSet 5 (eAnd (eV 6) (eFn f__law_is_whole 3 [] (aCons (eV 1) (aCons (M.pure (.int 1)) (aCons (M.pure (.int 9)) (aNil))))))) (sSeq (sIf (mB (e2 cNe (h4M) (eIf (mT (eV 5)) (eV 1) (eLst (aCons (M.pure (.str "program")) (aCons (M.pure (.str "'capacities'")) (aNil))))))) (sRet (M.pure (.bl false))) (sNext)) (sSeq (sSet 5 (eAnd (eV 6) (eFn f__law_is_whole 3 [] (aCons (eV 1) (aCons (M.pure (.int 0)) (aCons (e2 bPow (M.pure (.int 10)) (M.pure (.int 6))) (aNil))))))) (sRet (e2 cEq (h5M) (eIf (mT (eV 5)) (eV 1) (eLst (aCons (M.pure (.str "setting")) (aCons (eCall fRepr (aCons (eV 9) (aNil))) (aNil)))))))))))))))))) := rfl
def r1 (s : Str) : IV := if nameB s then .int 1 else unkV (.str s)
section
variable {n : Nat} {cs : List Cell} {s : Str} {v : IV} {y1 y2 y3 y4 y5 y6 y7 y8 y9 : SV}
theorem strP (h : wordB s = true) : plainI (.str s) = true := nic_plain (by simp only [nic]; exact word_nic h)
theorem h1_ok (h : wordB s = true) : h1M n [.v (.str s), y1, y2, y3, y4, y5, y6, .v (objP T0 (.dct [] [])), y8, y9] cs = .ok (r1 s) cs := by
  obtain ⟨r, e, g1, g2⟩ := told_cap (n := n) (cs := cs) (cs1 := cs) (σ := [.v (.str s), y1, y2, y3, y4, y5, y6, .v (objP T0 (.dct [] [])), y8, y9]) (mo := eV 7) (me := eV 0) (x := T0) (d := .dct [] []) (w := .str s) rfl rfl (strP h) (repr_str h) (fun s' e _ => ⟨1, by cases e; exact tells0⟩)
  unfold h1M
  rw [e]
  unfold r1
  cases hn : nameB s with
  | true => rw [g2 s 1 rfl hn tells0]; rfl
  | false => rw [g1 hn]; rfl
theorem h2_ok (h : wordB s = true) : ∃ cs', h2M n [.v (.str s), y1, y2, y3, y4, y5, y6, y7, y8, y9] cs = .ok (r1 s) cs' ∧ Ext cs cs' := by
  obtain ⟨r, e, g1, g2⟩ := told_slow (n := n) (cs := cs) (cs1 := cs ++ [.dead, .dead]) (σ := [.v (.str s), y1, y2, y3, y4, y5, y6, y7, y8, y9]) (mo := mkS0) (me := eV 0) (d := .dct [] []) (ru := .str "turn") (w := .str s) mkS0_ok rfl (strP h) (repr_str h) (fun s' e _ => ⟨1, by cases e; exact tells0⟩)
  refine ⟨cs ++ [.dead, .dead], ?_, ⟨_, rfl⟩⟩
  unfold h2M
  rw [e]
  unfold r1
  cases hn : nameB s with
  | true => rw [g2 s 1 rfl hn tells0]; rfl
  | false => rw [g1 hn]; rfl
theorem get3_ok : get3 n [.v (.str s), y1, y2, y3, y4, y5, y6, y7, y8, y9] cs = .ok (x1 s) cs := by
  unfold get3 x1
  simp
theorem t0M_ok {σ : List SV} : t0M n σ cs = .ok T0 cs := by
  unfold t0M T0
  simp
theorem repr00 : reprOf (.tup [.int 0, .int 0]) = some (.str "(0, 0)") := by kernel_rfl
theorem repr_cap : reprOf (.str "capacities") = some (.str "'capacities'") := by kernel_rfl
theorem h3_ok (h : wordB s = true) : ∃ cs', h3M n [.v (.str s), y1, y2, y3, y4, y5, y6, y7, y8, y9] cs = .ok (if nameB s then x1 s else .lst [.str "program", .str "(0, 0)"]) cs' ∧ Ext cs cs' := by
  have hx := x1_nic (word_nic h)
  have hp := x1_place (s := s)
  have hg := get3_ok (n := n) (cs := cs) (s := s) (y1 := y1) (y2 := y2) (y3 := y3) (y4 := y4) (y5 := y5) (y6 := y6) (y7 := y7) (y8 := y8) (y9 := y9)
  unfold h3M
  cases hn : nameB s with
  | true =>
    rw [hn] at hp
    have hm := mkP1_ok (n := n) (cs := cs) (me := get3) hx hp hg
    have hf : ∀ cs, f_Program_tasks n [objP (x1 s) (.dct [] [])] cs = .ok (x1 s) cs := fun cs => by
      have hf : ∀ cs, fldI "Program" "own_tasks" (objP (x1 s) (.dct [] [])) cs = some (x1 s) := fun _ => by
        unfold fldI insI objP; dsimp only [Option.bind]; rw [if_pos rfl]; try rfl
      unfold f_Program_tasks m_Program_tasks
      simp [startI, hf, List.replicate]
    refine ⟨cs ++ [.dead, .dead], toldL_ok (x := x1 s) (cs' := cs ++ [.dead, .dead]) ?_, ⟨_, rfl⟩⟩
    rw [ev_eProp, hm, then_ok, if_pos (isPt _), hf]
    rfl
  | false =>
    rw [hn] at hp
    have hp2 : place (x1 s) .non = some (.tup [.int 0, .int 0]) := by unfold place; rw [hp]; rfl
    have hm := prog_ex (n := n) (cs := cs) hx (r := .non) ⟨rfl, fun _ _ e => (by cases e)⟩ hp2
    have he : mkP1 get3 n [.v (.str s), y1, y2, y3, y4, y5, y6, y7, y8, y9] cs = .ex (badX (.tup [.int 0, .int 0])) (cs ++ [.ins "Program" [] []]) := by
      unfold mkP1
      simp [hg, hm]
    refine ⟨cs ++ [.ins "Program" [] []], toldL_ex (x := .lst [.str "program", .str "(0, 0)"]) (e := badX (.tup [.int 0, .int 0])) (cs' := cs ++ [.ins "Program" [] []]) ?_ ?_, ⟨_, rfl⟩⟩
    · rw [ev_eProp, he]; rfl
    · have := hdP (n := n) (cs := cs ++ [.ins "Program" [] []]) repr00
      unfold prgV reprV' at this
      rw [repr00] at this
      exact this
theorem whole_int {v : IV} {lo hi : Int} (h : wholeI v lo hi = true) : ∃ i, v = .int i := wholeI_int h
theorem h4_ok (h : wordB s = true) (hv : MV v) : ∃ cs', h4M n [.v (.str s), y1, y2, y3, y4, y5, y6, y7, .v (slowD s v), y9] cs = .ok (if nameB s && wholeI v 1 9 then v else .lst [.str "program", .str "'capacities'"]) cs' ∧ Ext cs cs' := by
  have hp := place_room (s := s) (v := v)
  have ht := fun (σ : List SV) => t0M_ok (n := n) (cs := cs) (σ := σ)
  have hsn := slow_nic h hv
  unfold h4M
  cases hn : (nameB s && wholeI v 1 9) with
  | true =>
    rw [hn] at hp
    simp only [Bool.and_eq_true] at hn
    obtain ⟨i, rfl⟩ := whole_int hn.2
    have hp2 : place2 (slowD s (.int i)) = none := by
      unfold place at hp
      rw [t0_ok.2] at hp
      exact hp
    obtain ⟨C, e1, e2⟩ := prog_mk (n := n) (cs := cs) (x := T0) (r := slowD s (.int i)) (d := keepD s i) t0_ok.1 t0_ok.2 (.inr ⟨s, i, rfl, rfl, hp2, hsn⟩)
    have he : mkP t0M (eV 8) n [.v (.str s), y1, y2, y3, y4, y5, y6, y7, .v (slowD s (.int i)), y9] cs = .ok (objP T0 (keepD s i)) (cs ++ [.dead, .dead]) := by
      unfold mkP
      simp [ht, e1, e2]
    obtain ⟨r, e, g1, g2⟩ := told_cap (n := n) (cs := cs) (cs1 := cs ++ [.dead, .dead]) (σ := [.v (.str s), y1, y2, y3, y4, y5, y6, y7, .v (slowD s (.int i)), y9]) (mo := mkP t0M (eV 8)) (me := eV 0) (x := T0) (d := keepD s i) (w := .str s) he rfl (strP h) (repr_str h) (fun s' e _ => ⟨i, by cases e; exact tellsk⟩)
    refine ⟨cs ++ [.dead, .dead], ?_, ⟨_, rfl⟩⟩
    rw [e, g2 s i rfl hn.1 tellsk]; rfl
  | false =>
    rw [hn] at hp
    have hm := prog_ex (n := n) (cs := cs) (x := T0) t0_ok.1 (r := slowD s v) ⟨hsn, fun ks vs e => by cases e; exact ⟨rfl, by simp, by simp⟩⟩ hp
    have he : mkP t0M (eV 8) n [.v (.str s), y1, y2, y3, y4, y5, y6, y7, .v (slowD s v), y9] cs = .ex (badX (.str "capacities")) (cs ++ [.ins "Program" [] []]) := by
      unfold mkP
      simp [ht, hm]
    refine ⟨cs ++ [.ins "Program" [] []], toldL_ex (x := .lst [.str "program", .str "'capacities'"]) (e := badX (.str "capacities")) (cs' := cs ++ [.ins "Program" [] []]) ?_ ?_, ⟨_, rfl⟩⟩
    · rw [ev_eMeth, he]; rfl
    · have := hdP (n := n) (cs := cs ++ [.ins "Program" [] []]) repr_cap
      unfold prgV reprV' at this
      rw [repr_cap] at this
      exact this
theorem h5_ok (h : wordB s = true) (hv : MV v) {t : Str} (hr : reprOf (slowD s v) = some (.str t)) : ∃ cs', h5M n [.v (.str s), y1, y2, y3, y4, y5, y6, y7, y8, .v (slowD s v)] cs = .ok (if nameB s && wholeI v 0 1000000 then v else .lst [.str "setting", .str t]) cs' ∧ Ext cs cs' := by
  have hsn := slow_nic h hv
  unfold h5M
  cases hn : (nameB s && wholeI v 0 1000000) with
  | true =>
    simp only [Bool.and_eq_true] at hn
    obtain ⟨i, rfl⟩ := whole_int hn.2
    obtain ⟨C, e1, e2⟩ := set_ok (n := n) (cs := cs) (r := slowD s (.int i)) (d := keepD s i) (.inr ⟨s, i, rfl, rfl, hn.1, hn.2, hsn⟩)
    have he : mkS (eV 9) n [.v (.str s), y1, y2, y3, y4, y5, y6, y7, y8, .v (slowD s (.int i))] cs = .ok (objS (keepD s i) (.str "turn")) (cs ++ [.dead, .dead]) := by
      unfold mkS
      simp [e1, e2]
    obtain ⟨r, e, g1, g2⟩ := told_slow (n := n) (cs := cs) (cs1 := cs ++ [.dead, .dead]) (σ := [.v (.str s), y1, y2, y3, y4, y5, y6, y7, y8, .v (slowD s (.int i))]) (mo := mkS (eV 9)) (me := eV 0) (d := keepD s i) (ru := .str "turn") (w := .str s) he rfl (strP h) (repr_str h) (fun s' e _ => ⟨i, by cases e; exact tellsk⟩)
    refine ⟨cs ++ [.dead, .dead], ?_, ⟨_, rfl⟩⟩
    rw [e, g2 s i rfl hn.1 tellsk]; rfl
  | false =>
    have hm := set_ex (n := n) (cs := cs) (w := s) (v := v) (by simp only [nic]; exact word_nic h) hv.n hn
    have he : mkS (eV 9) n [.v (.str s), y1, y2, y3, y4, y5, y6, y7, y8, .v (slowD s v)] cs = .ex (badS (slowD s v)) (cs ++ [.ins "Setting" [] []]) := by
      unfold mkS
      simp [slowD, hm]
    refine ⟨cs ++ [.ins "Setting" [] []], toldL_ex (x := .lst [.str "setting", .str t]) (e := badS (slowD s v)) (cs' := cs ++ [.ins "Setting" [] []]) ?_ ?_, ⟨_, rfl⟩⟩
    · rw [ev_eMeth, he]; rfl
    · have := hdS (n := n) (cs := cs ++ [.ins "Setting" [] []]) hr
      unfold setV reprV' at this
      rw [hr] at this
      exact this
end
end K08

set_option Elab.async false
set_option linter.all false
set_option autoImplicit false
set_option maxRecDepth 100000
set_option maxHeartbeats 4000000
namespace K08
open PySem PySem.Spec L2 SL
open PyProof.Rows hiding St
section
variable {n : Nat} {cs : List Cell} {s : Str} {v : IV}
theorem p6 : bPow (.int 10) (.int 6) = some (.int 1000000) := by rw [powI (by decide) (by decide) (by decide)]; try rfl
theorem ed_v {r : List SV} : eDis [(eV 0, eV 1)] n (.v (.str s) :: .v v :: r) cs = .ok (slowD s v) cs := by with_unfolding_all rfl
theorem nic_lst {xs : List IV} (h : ∀ x ∈ xs, nic x = true ∧ noD x = true ∧ dpI x ≤ 5) : nic (.lst xs) = true ∧ noD (.lst xs) = true ∧ dpI (.lst xs) ≤ 6 := by
  refine ⟨?_, ?_, ?_⟩
  · simp only [nic]; exact nicL_iff.mpr fun x hx => (h x hx).1
  · simp only [noD]; exact noDL_iff.mpr fun x hx => (h x hx).2.1
  · have := dpL_le.mpr fun x hx => (h x hx).2.2
    simp only [dpI]; omega
theorem ne_of {x : IV} (h : nic x = true ∧ noD x = true ∧ dpI x ≤ 6) : cNe x x = some (.bl false) := nic_ne h.1 h.2.1 (Nat.le_trans h.2.2 (by decide))
theorem eq_of {x : IV} (h : nic x = true ∧ noD x = true ∧ dpI x ≤ 6) : cEq x x = some (.bl true) := nic_eq h.1 h.2.1 (Nat.le_trans h.2.2 (by decide))
theorem str_k {t : Str} (h : nicS t = true) : nic (.str t) = true ∧ noD (.str t) = true ∧ dpI (.str t) ≤ 5 := ⟨by simp only [nic]; exact h, rfl, by simp [dpI]⟩
theorem up6 {x : IV} (h : nic x = true ∧ noD x = true ∧ dpI x ≤ 5) : nic x = true ∧ noD x = true ∧ dpI x ≤ 6 := ⟨h.1, h.2.1, by omega⟩
theorem unk_k (h : wordB s = true) : nic (unkV (.str s)) = true ∧ noD (unkV (.str s)) = true ∧ dpI (unkV (.str s)) ≤ 1 := by
  unfold unkV reprV'
  rw [repr_str h]
  have h0 : nicS "unknown" = true := by decide +kernel
  refine ⟨?_, rfl, by simp [dpI, dpL]⟩
  simp only [nic, nicL, Option.getD_some, h0, (repr_word h).1, Bool.and_self]
theorem wr_ok (h : wordB s = true) (hv : MV v) : ∃ cs', f__law_word_right n [.str s, v] cs = .ok (.bl true) cs' ∧ Ext cs cs' := by
  obtain ⟨t, hr, htn⟩ := repr_slow h hv
  have hP := strP h
  have q0 := fun (σ : List SV) => mkP1_ok (n := n) (cs := cs) (σ := σ) (me := t0M) t0_ok.1 t0_ok.2 t0M_ok
  have q1 := fun cs => lawName_ok (n := n) (cs := cs) hP
  have hni : nameI (.str s) = nameB s := rfl
  have q2 : ∀ cs, fRepr cs [.str s] = some (.str (reprText s)) := fun _ => repr_str h
  have q3 : ∀ cs, fRepr cs [slowD s v] = some (.str t) := fun _ => hr
  have hvp := nic_plain hv.n
  have w1 := fun cs => whole_ok (n := n) (cs := cs) (lo := 1) (hi := 9) hvp
  have w2 := fun cs => whole_ok (n := n) (cs := cs) (lo := 0) (hi := 1000000) hvp
  have hdue : unkV (.str s) = .lst [.str "unknown", .str (reprText s), .bl true] := by unfold unkV reprV'; rw [repr_str h]; try rfl
  have hd5 : dpI v ≤ 5 := by rw [hv.d]; decide
  have hgen : ∀ c1, (∃ c1', c1' = c1 ∧ Ext cs c1') → True := fun _ _ => trivial
  generalize hc1 : cs ++ [Cell.dead, .dead] = c1 at q0
  have x1' : Ext cs c1 := ⟨_, hc1.symm⟩
  have a1 := fun y1 y2 y3 y4 y5 y6 y8 y9 => h1_ok (n := n) (cs := c1) (s := s) (y1 := y1) (y2 := y2) (y3 := y3) (y4 := y4) (y5 := y5) (y6 := y6) (y8 := y8) (y9 := y9) h
  obtain ⟨c2, a2, x2⟩ := h2_ok (n := n) (cs := c1) (s := s) (y1 := .v v) (y2 := .v (unkV (.str s))) (y3 := .own [r1 s]) (y4 := .un) (y5 := .un) (y6 := .v (.bl (nameB s))) (y7 := .v (objP T0 (.dct [] []))) (y8 := .un) (y9 := .un) h
  obtain ⟨c3, a3, x3⟩ := h3_ok (n := n) (cs := c2) (s := s) (y1 := .v v) (y2 := .v (unkV (.str s))) (y3 := .v (.lst [r1 s, r1 s])) (y4 := .un) (y5 := .un) (y6 := .v (.bl (nameB s))) (y7 := .v (objP T0 (.dct [] []))) (y8 := .un) (y9 := .un) h
  obtain ⟨c4, a4, x4⟩ := h4_ok (n := n) (cs := c3) (s := s) (v := v) (y1 := .v v) (y2 := .v (unkV (.str s))) (y3 := .v (.lst [r1 s, r1 s])) (y4 := .v (if nameB s then x1 s else .lst [.str "program", .str "(0, 0)"])) (y5 := .v (.bl (nameB s && wholeI v 1 9))) (y6 := .v (.bl (nameB s))) (y7 := .v (objP T0 (.dct [] []))) (y9 := .v (slowD s v)) h hv
  obtain ⟨c5, a5, x5⟩ := h5_ok (n := n) (cs := c4) (s := s) (v := v) (y1 := .v v) (y2 := .v (unkV (.str s))) (y3 := .v (.lst [r1 s, r1 s])) (y4 := .v (if nameB s then x1 s else .lst [.str "program", .str "(0, 0)"])) (y5 := .v (.bl (nameB s && wholeI v 0 1000000))) (y6 := .v (.bl (nameB s))) (y7 := .v (objP T0 (.dct [] []))) (y8 := .v (slowD s v)) h hv hr
  have g3 := fun (cs : List Cell) y1 y2 y3 y4 y5 y6 y7 y8 y9 => get3_ok (n := n) (cs := cs) (s := s) (y1 := y1) (y2 := y2) (y3 := y3) (y4 := y4) (y5 := y5) (y6 := y6) (y7 := y7) (y8 := y8) (y9 := y9)
  have N1 : cNe (.lst [r1 s, r1 s]) (.lst [r1 s, r1 s]) = some (.bl false) := ne_of (nic_lst fun x hx => by
    simp only [List.mem_cons, List.not_mem_nil, or_false, or_self] at hx
    subst hx
    unfold r1
    split
    · exact ⟨by decide +kernel, rfl, by simp [dpI]⟩
    · have := unk_k h; exact ⟨this.1, this.2.1, by have := this.2.2; omega⟩)
  have N2 : cNe (if nameB s then x1 s else .lst [.str "program", .str "(0, 0)"]) (if nameB s then x1 s else .lst [.str "program", .str "(0, 0)"]) = some (.bl false) := by
    split
    · exact ne_of ⟨x1_nic (word_nic h), rfl, by simp [x1, dpI, dpL]⟩
    · exact ne_of ⟨by decide +kernel, rfl, by simp [dpI, dpL]⟩
  have N4 : cNe (if nameB s && wholeI v 1 9 then v else .lst [.str "program", .str "'capacities'"]) (if nameB s && wholeI v 1 9 then v else .lst [.str "program", .str "'capacities'"]) = some (.bl false) := by
    split
    · exact ne_of ⟨hv.n, hv.f, by omega⟩
    · exact ne_of ⟨by decide +kernel, rfl, by simp [dpI, dpL]⟩
  have N5 : cEq (if nameB s && wholeI v 0 1000000 then v else .lst [.str "setting", .str t]) (if nameB s && wholeI v 0 1000000 then v else .lst [.str "setting", .str t]) = some (.bl true) := by
    split
    · exact eq_of ⟨hv.n, hv.f, by omega⟩
    · refine eq_of (nic_lst fun x hx => ?_)
      simp only [List.mem_cons, List.not_mem_nil, or_false] at hx
      rcases hx with rfl | rfl
      · exact str_k (by decide +kernel)
      · exact str_k htn
  refine ⟨c5, ?_, (((x1'.tr x2).tr x3).tr x4).tr x5⟩
  unfold f__law_word_right
  rw [wr_eq]
  rw [hni] at q1
  unfold r1 at a1 a2 a3 a4 a5 N1
  rw [hdue] at a1 a2 a3 a4 a5 N1
  have ed := fun (cs : List Cell) (r : List SV) => ed_v (n := n) (cs := cs) (s := s) (v := v) (r := r)
  cases hn : nameB s with
  | true =>
    simp only [hn, if_true, Bool.true_and] at a1 a2 a3 a4 a5 N1 N2 N4 N5 q1
    cases hf : wholeI v 1 9 <;> cases hg : wholeI v 0 1000000 <;>
      (simp only [hf, hg, if_true, Bool.false_eq_true, if_false] at a4 a5 N4 N5; simp [startI, List.replicate, q0, q1, q2, q3, w1, w2, hf, hg, a1, a2, a3, a4, a5, g3, N1, N2, N4, N5, p6, ed])
  | false =>
    simp only [hn, Bool.false_eq_true, if_false, Bool.false_and] at a1 a2 a3 a4 a5 N1 N2 N4 N5 q1
    simp [startI, List.replicate, q0, q1, q2, q3, a1, a2, a3, a4, a5, g3, N1, N2, N4, N5, p6, ed]
end
end K08

set_option Elab.async false
set_option linter.all false
set_option autoImplicit false
set_option maxRecDepth 100000
set_option maxHeartbeats 4000000
namespace K08
open PySem PySem.Spec L2 SL
open PyProof.Rows hiding St
theorem drw {n c : Nat} {cs : List Cell} {many : Int} (hg : Good c cs) (hm : 0 < many) : ∃ r cs', f__law_draw n [.cell c, .int many] cs = .ok (.int r) cs' ∧ Good c cs' ∧ 0 ≤ r ∧ r < many := by
  obtain ⟨r, cs', h1, h2, _, h3⟩ := draw_dr (n := n) hg hm
  exact ⟨r, cs', h1, h2, h3⟩
theorem good_app {c : Nat} {cs t : List Cell} (h : Good c cs) : Good c (cs ++ t) := by
  obtain ⟨ys, k, h0, hc⟩ := h
  exact ⟨ys, k, h0, by rw [List.getElem?_append_left (List.getElem?_eq_some_iff.mp hc).1]; exact hc⟩
theorem good_ext {c : Nat} {cs cs' : List Cell} (h : Good c cs) (x : Ext cs cs') : Good c cs' := by
  obtain ⟨t, rfl⟩ := x
  exact good_app h
/-- a comprehension whose cells move -/
theorem cmp_st {gm : GM} {mt : M Bool} {me : M IV} {n : Nat} {σ : List SV} (I : List Cell → Prop) (P : IV → Prop) : ∀ (xs acc : List IV) (cs : List Cell), acc.length + xs.length ≤ 1000000 → I cs → (∀ y ∈ acc, P y) →
    (∀ x ∈ xs, ∀ cs, I cs → ∃ σ1 y cs', gm x σ = some σ1 ∧ mt n σ1 cs = .ok true cs ∧ me n σ1 cs = .ok y cs' ∧ I cs' ∧ P y) →
    ∃ ys cs', cmpL gm mt me n σ xs acc cs = .ok ys cs' ∧ I cs' ∧ (∀ y ∈ ys, P y) ∧ ys.length = acc.length + xs.length
  | [], acc, cs, _, hi, ha, _ => ⟨acc, cs, rfl, hi, ha, by simp⟩
  | x :: xs, acc, cs, hl, hi, ha, h => by
    simp only [List.length_cons] at hl
    obtain ⟨σ1, y, cs1, h1, h2, h3, h4, h5⟩ := h x (by simp) cs hi
    obtain ⟨ys, cs', e, g1, g2, g3⟩ := cmp_st I P xs (acc ++ [y]) cs1 (by simp; omega) h4 (fun z hz => by
      rcases List.mem_append.mp hz with hz | hz
      · exact ha z hz
      · rw [List.mem_singleton.mp hz]; exact h5) (fun z hz => h z (by simp [hz]))
    refine ⟨ys, cs', ?_, g1, g2, ?_⟩
    · rw [cmp_yes h1 h2 h3 (by show _ < 1000000; omega), e]
    · simp at g3 ⊢; omega
/-! words -/
def Wd (k : Nat) (s : Str) : Prop := s.cps.size ≤ k ∧ ∀ c ∈ s.cps.toList, alpha.contains c = true
theorem Wd.b {k : Nat} {s : Str} (h : Wd k s) (hk : k ≤ 30) : wordB s = true := by
  unfold wordB
  simp only [Bool.and_eq_true, decide_eq_true_eq, List.all_eq_true]
  exact ⟨Nat.le_trans h.1 hk, h.2⟩
theorem Wd.mono {j k : Nat} {s : Str} (h : Wd j s) (hk : j ≤ k) : Wd k s := ⟨Nat.le_trans h.1 hk, h.2⟩
theorem Wd.app {j k : Nat} {a b : Str} (h : Wd j a) (h2 : Wd k b) : Wd (j + k) (a ++ b) := by
  have e : (a ++ b).cps = a.cps ++ b.cps := rfl
  refine ⟨?_, fun z hz => ?_⟩
  · rw [e, Array.size_append]; have := h.1; have := h2.1; omega
  · rw [e, Array.toList_append] at hz
    rcases List.mem_append.mp hz with hz | hz
    · exact h.2 z hz
    · exact h2.2 z hz
theorem Wd.cut {k : Nat} {s : Str} (h : Wd k s) (lo hi : Option Int) : Wd k (cutS s lo hi) := by
  refine ⟨Nat.le_trans (cutS_length s lo hi) h.1, fun z hz => ?_⟩
  unfold cutS at hz
  exact h.2 z (List.mem_of_mem_drop (List.mem_of_mem_take hz))
theorem wd_lit {k : Nat} (s : Str) (h : (decide (s.cps.size ≤ k) && s.cps.toList.all fun z => alpha.contains z) = true) : Wd k s := by
  simp only [Bool.and_eq_true, decide_eq_true_eq] at h
  exact ⟨h.1, fun z hz => List.all_eq_true.mp h.2 z hz⟩
theorem wd_nil {k : Nat} : Wd k "" := ⟨Nat.zero_le _, fun z hz => by cases hz⟩
theorem wd_join : ∀ (ss : List Str), (∀ s ∈ ss, Wd 1 s) → Wd ss.length (Txt.join "" ss) ∧ (ss.map (·.length)).sum ≤ ss.length
  | [], _ => ⟨⟨Nat.le_refl _, fun z hz => by cases hz⟩, by simp⟩
  | [s], h => ⟨h s (by simp), by have h1 : s.length ≤ 1 := (h s (by simp)).1; simpa using h1⟩
  | s :: t :: r, h => by
    obtain ⟨h1, h2⟩ := wd_join (t :: r) fun u hu => h u (by simp [hu])
    have h0 := h s (by simp)
    refine ⟨?_, ?_⟩
    · have e : Txt.join "" (s :: t :: r) = s ++ "" ++ Txt.join "" (t :: r) := by rw [TL.join_eq, TL.join_eq]; try rfl
      rw [e]
      have := (h0.app (wd_nil (k := 0))).app h1
      exact this.mono (by simp only [List.length_cons]; omega)
    · have := h0.1
      have e : s.length = s.cps.size := rfl
      simp only [List.map_cons, List.sum_cons, List.length_cons] at h2 ⊢
      omega
theorem letter_ok {r : Int} (h0 : 0 ≤ r) (h : r < 26) : ∃ s, (∀ cs, ixI cs (.str "abcdefghijklmnopqrstuvwxyz") (.int r) = some (.str s)) ∧ Wd 1 s := by
  have hl : (Str.ofString "abcdefghijklmnopqrstuvwxyz").cps.toList.length = 26 := by decide +kernel
  have ha : ((Str.ofString "abcdefghijklmnopqrstuvwxyz").cps.toList.all fun z => alpha.contains z) = true := by decide +kernel
  have hs : (Str.ofString "abcdefghijklmnopqrstuvwxyz").length ≤ 1000000 := by decide +kernel
  obtain ⟨c, hc, e⟩ := atI_mem (xs := (Str.ofString "abcdefghijklmnopqrstuvwxyz").cps.toList) h0 (by rw [hl]; exact h)
  refine ⟨⟨#[c]⟩, fun cs => ?_, Nat.le_refl _, fun z hz => ?_⟩
  · have e2 : ixI cs (.str "abcdefghijklmnopqrstuvwxyz") (.int r) = (atI (Str.ofString "abcdefghijklmnopqrstuvwxyz").cps.toList r).map fun c => IV.str ⟨#[c]⟩ := if_pos (e := none) hs
    rw [e2, e]; try rfl
  · have : z = c := by simpa using hz
    rw [this]
    exact List.all_eq_true.mp ha c hc
section
variable {n c : Nat} {cs : List Cell}
theorem word_drawn (hg : Good c cs) : ∃ s cs', f__law_word n [.cell c] cs = .ok (.str s) cs' ∧ Good c cs' ∧ wordB s = true := by
  obtain ⟨k, c1, e1, g1, k0, k8⟩ := drw (n := n) hg (many := 8) (by decide)
  have hlen := rgI_len 0 (1 + k).toNat
  obtain ⟨ys, c2, e2', g2, h2, h3⟩ := cmp_st (n := n) (gm := gmN 5) (mt := M.pure true) (me := e2c ixI (eV 1) (eFn f__law_draw 2 [] (aCons (eV 0) (aCons (M.pure (.int 26)) (aNil))))) (σ := [.v (.cell c), .v (.str "abcdefghijklmnopqrstuvwxyz"), .un, .un, .un, .un]) (fun cs' => Good c cs') (fun y => ∃ s, y = .str s ∧ Wd 1 s) (rgI 0 (1 + k).toNat) [] c1 (by simp; omega) g1 (fun y hy => by cases hy) (fun x hx cs3 hi => by
    obtain ⟨r, c4, e4, g4, r0, r1⟩ := drw (n := n) hi (many := 26) (by decide)
    obtain ⟨s, hs, hw⟩ := letter_ok r0 r1
    exact ⟨[.v (.cell c), .v (.str "abcdefghijklmnopqrstuvwxyz"), .un, .un, .un, .v x], .str s, c4, rfl, rfl, by simp [e4, hs], g4, s, rfl, hw⟩)
  obtain ⟨ss, rfl, hss⟩ : ∃ ss : List Str, ys = ss.map IV.str ∧ ∀ s ∈ ss, Wd 1 s := by
    clear e2' h3
    induction ys with
    | nil => exact ⟨[], rfl, fun _ z => by cases z⟩
    | cons y ys ih =>
      obtain ⟨s, rfl, hs⟩ := h2 y (by simp)
      obtain ⟨ss, rfl, hss⟩ := ih (fun z hz => h2 z (by simp [hz]))
      exact ⟨s :: ss, rfl, fun t ht => by
        rcases List.mem_cons.mp ht with rfl | ht
        · exact hs
        · exact hss t ht⟩
  have hsl : ss.length ≤ 8 := by simp at h3; omega
  obtain ⟨w1, w2⟩ := wd_join ss hss
  have hj : joinI "" (.lst (ss.map IV.str)) = some (.str (Txt.join "" ss)) := by
    show (strsI _).bind _ = _
    rw [strsI_map]
    exact if_pos (by
      have : (Str.ofString "").length = 0 := by decide +kernel
      show (ss.map (·.length)).sum + ss.length * (Str.ofString "").length ≤ 1000000
      rw [this]; omega)
  have w1 := w1.mono hsl
  generalize Txt.join "" ss = w at hj w1
  obtain ⟨q, c3, e3, g3, q0, q8⟩ := drw (n := n) g2 (many := 8) (by decide)
  obtain ⟨o, ho, eo⟩ := atI_mem (xs := [IV.str "A", .str "1", .str " ", .str "_", .str "9", .str "\n", .str "abcdefgh", .str ""]) q0 (by simpa using q8)
  obtain ⟨od, rfl, hod⟩ : ∃ s, o = .str s ∧ Wd 8 s := by
    simp only [List.mem_cons, List.not_mem_nil, or_false] at ho
    rcases ho with rfl | rfl | rfl | rfl | rfl | rfl | rfl | rfl <;> exact ⟨_, rfl, wd_lit _ (by decide +kernel)⟩
  have hwl : w.length ≤ 1000000 := Nat.le_trans w1.1 (by decide)
  have hlw : ∀ cs, fLen cs [.str w] = some (.int w.length) := fun _ => if_pos hwl
  obtain ⟨p, c4, e4, g4, p0, p1⟩ := drw (n := n) g3 (many := (w.length : Int) + 1) (by omega)
  have s1 : ∀ l h, slI (.str w) l h = some (.str (cutS w l h)) := fun _ _ => if_pos hwl
  have u1 := w1.cut none (some p)
  have u2 := w1.cut (some p) none
  have a1' : bAdd (.str (cutS w none (some p))) (.str od) = some (.str (cutS w none (some p) ++ od)) := if_pos (by
    have := u1.1; have := hod.1
    show (cutS w none (some p)).cps.size + od.cps.size ≤ 1000000; omega)
  have u3 := u1.app hod
  have a2' : bAdd (.str (cutS w none (some p) ++ od)) (.str (cutS w (some p) none)) = some (.str (cutS w none (some p) ++ od ++ cutS w (some p) none)) := if_pos (by
    have := u3.1; have := u2.1
    show (cutS w none (some p) ++ od).cps.size + (cutS w (some p) none).cps.size ≤ 1000000; omega)
  have u4 := u3.app u2
  generalize cutS w none (some p) ++ od ++ cutS w (some p) none = mid at a2' u4
  obtain ⟨z, c5, e5, g5, z0, z4⟩ := drw (n := n) g4 (many := 4) (by decide)
  obtain ⟨x, hx, ex⟩ := atI_mem (xs := [IV.str w, .str w, .str mid, .str od]) z0 (by simpa using z4)
  obtain ⟨s, rfl, hs⟩ : ∃ s, x = .str s ∧ wordB s = true := by
    simp only [List.mem_cons, List.not_mem_nil, or_false] at hx
    rcases hx with rfl | rfl | rfl | rfl
    · exact ⟨_, rfl, w1.b (by decide)⟩
    · exact ⟨_, rfl, w1.b (by decide)⟩
    · exact ⟨_, rfl, u4.b (by decide)⟩
    · exact ⟨_, rfl, hod.b (by decide)⟩
  refine ⟨s, c5, ?_, g5, hs⟩
  have hr : -4611686018427387904 ≤ 1 + k ∧ 1 + k < 4611686018427387904 := by omega
  have hJ : ∀ (m : M IV) (σ : List SV) (cs : List Cell), eJoin (M.pure (.str "")) m n σ cs = (m n σ cs).th (k := fun y cs2 => optR (joinI "" y) cs2) := fun m σ cs => ev_join rfl
  have hi : ∀ (xs : List IV) cs (i : Int), ixI cs (.lst xs) (.int i) = atI xs i := fun _ _ _ => rfl
  unfold f__law_word m__law_word
  simp [startI, List.replicate, hJ, e1, hr, wipeI, e2', hj, e3, hi, eo, hlw, e4, s1, asInt, a1', a2', e5, ex]
/-- the number beside -/
theorem many_of {a r : Int} (a0 : 0 ≤ a) (a1 : a < 12) (h0 : 0 ≤ r) (h : r < 10) : ∃ v, atI [IV.int 0, .int 1, .int 9, .int 10, .int a, .int (-1), .int 1000000, .int 1000001, .bl true, .non] r = some v ∧ MV v := by
  obtain ⟨v, hv, e⟩ := atI_mem (xs := [IV.int 0, .int 1, .int 9, .int 10, .int a, .int (-1), .int 1000000, .int 1000001, .bl true, .non]) h0 (by simpa using h)
  refine ⟨v, e, mv_all v ?_⟩
  have ha : a = 0 ∨ a = 1 ∨ a = 2 ∨ a = 3 ∨ a = 4 ∨ a = 5 ∨ a = 6 ∨ a = 7 ∨ a = 8 ∨ a = 9 ∨ a = 10 ∨ a = 11 := by omega
  simp only [List.mem_cons, List.not_mem_nil, or_false] at hv
  rcases hv with rfl | rfl | rfl | rfl | rfl | rfl | rfl | rfl | rfl | rfl
  case inr.inr.inr.inr.inl => rcases ha with rfl | rfl | rfl | rfl | rfl | rfl | rfl | rfl | rfl | rfl | rfl | rfl <;> simp [mvL]
  all_goals simp [mvL]
end
end K08

set_option Elab.async false
set_option linter.all false
set_option autoImplicit false
set_option maxRecDepth 100000
set_option maxHeartbeats 4000000
namespace K08
open PySem PySem.Spec L2 SL
open PyProof.Rows hiding St
def manyM : M IV := e2c ixI (eLst (aCons (M.pure (.int 0)) (aCons (M.pure (.int 1)) (aCons (M.pure (.int 9)) (aCons (M.pure (.int 10)) (aCons (eFn f__law_draw 2 [] (aCons (eV 4) (aCons (M.pure (.int 12)) (aNil)))) (aCons (eNeg (M.pure (.int 1))) (aCons (e2 bPow (M.pure (.int 10)) (M.pure (.int 6))) (aCons (e2 bAdd (e2 bPow (M.pure (.int 10)) (M.pure (.int 6))) (M.pure (.int 1))) (aCons (M.pure (.bl true)) (aCons (M.pure .non) (aNil)))))))))))) (eFn f__law_draw 2 [] (aCons (eV 4) (aCons (M.pure (.int 10)) (aNil))))
noncomputable def turnB : SM := sSeq (sSet 6 manyM) (sIf (mNot (mT (eFn f__law_word_right 2 [] (aCons (eFn f__law_word 1 [] (aCons (eV 4) (aNil))) (aCons (eV 6) (aNil)))))) (sRet (M.pure (.bl false))) (sNext))
noncomputable def cellB : SM := sSeq (sOwn 4 (aCons (eFn f__law_numbers 3 [] (aCons (eV 3) (aCons (e2 bAdd (M.pure (.int 800)) (eV 2)) (aCons (e2 bMul (eLst (aCons (M.pure (.int 420)) (aNil))) (M.pure (.int 200))) (aNil))))) (aCons (M.pure (.int 0)) (aNil)))) (sCell 4 (sFor (mRg1 (aCons (M.pure (.int 8)) (aNil))) (gmN 5) turnB))
noncomputable def g1M : M IV := eToldL 2 cl__law_heard (eMeth "Program" "capacity" f_Program_capacity 2 [] (mkP1 t0M) (aCons (eV 1) (aNil)))
noncomputable def g2M : M IV := eToldL 2 cl__law_heard (eMeth "Setting" "slowness" f_Setting_slowness 2 [] mkS0 (aCons (eV 1) (aNil)))
def dueM : M IV := eLst (aCons (M.pure (.str "unknown")) (aCons (eCall fRepr (aCons (eV 1) (aNil))) (aCons (M.pure (.bl true)) (aNil))))
noncomputable def oddB : SM := sSeq (sIf (mB (e2 cNe g1M dueM)) (sRet (M.pure (.bl false))) (sNext)) (sIf (mB (e2 cNe g2M dueM)) (sRet (M.pure (.bl false))) (sNext))
theorem law_eq : m_law = sSeq (sFor (mEn (aCons (e2 bAdd (eSl (eV 0) (oNone) (oSome (M.pure (.int 5)))) (e2 bMul (eLst (aCons (M.pure (.int 7)) (aNil))) (eCall fInt (aCons (e2 cEq (eV 0) (eLst (aNil))) (aNil))))) (aNil))) (gmTup 2 (gmCons (gmN 2) (gmCons (gmN 3) (gmNil)))) cellB) (sSeq (sFor (mIt (eLst (aCons (M.pure .non) (aCons (M.pure (.int 5)) (aCons (M.pure (.bl true)) (aCons (eTup (aCons (M.pure (.str "p")) (aNil))) (aCons (eLst (aCons (M.pure (.str "p")) (aNil))) (aCons (M.pure (.dct [] [])) (aNil))))))))) (gmN 1) oddB) (sRet (M.pure (.bl true)))) := rfl
section
variable {n c : Nat} {cs : List Cell} {x0 x1 x2 x3 x4 x5 x6 : SV}
theorem many_ok (hg : Good c cs) : ∃ v cs', manyM n [x0, x1, x2, x3, .v (.cell c), x5, x6] cs = .ok v cs' ∧ Good c cs' ∧ MV v := by
  obtain ⟨a, c1, e1, g1, a0, a1⟩ := drw (n := n) hg (many := 12) (by decide)
  obtain ⟨r, c2, e2', g2, r0, r1⟩ := drw (n := n) g1 (many := 10) (by decide)
  obtain ⟨v, ev, hv⟩ := many_of a0 a1 r0 r1
  refine ⟨v, c2, ?_, g2, hv⟩
  have hi : ∀ (xs : List IV) cs (i : Int), ixI cs (.lst xs) (.int i) = atI xs i := fun _ _ _ => rfl
  unfold manyM
  simp [e1, p6, e2', hi, ev]
theorem turn_ok (hg : Good c cs) : ∃ cs' b6, turnB n [x0, x1, x2, x3, .v (.cell c), x5, x6] cs = .next [x0, x1, x2, x3, .v (.cell c), x5, b6] cs' ∧ Good c cs' := by
  obtain ⟨v, c1, e1, g1, hv⟩ := many_ok (n := n) (x0 := x0) (x1 := x1) (x2 := x2) (x3 := x3) (x5 := x5) (x6 := x6) hg
  obtain ⟨s, c2, e2', g2, hs⟩ := word_drawn (n := n) g1
  obtain ⟨c3, e3, x3'⟩ := wr_ok (n := n) (cs := c2) hs hv
  refine ⟨c3, .v v, ?_, good_ext g2 x3'⟩
  unfold turnB
  simp [e1, e2', e3]
theorem cell_ok {k : Nat} {z : Int} (hk : k < 1000) : ∃ cs' b4 b5 b6, cellB n [x0, x1, .v (.int k), .v (.int z), x4, x5, x6] cs = .next [x0, x1, .v (.int k), .v (.int z), b4, b5, b6] cs' := by
  have hm : bMul (.lst [.int 420]) (.int 200) = some (.lst (intL (List.replicate 200 420))) := by
    rw [← rep_int]
    exact if_pos (e := none) (c := -(2 ^ 63) ≤ (200 : Int) ∧ (200 : Int) < 2 ^ 63 ∧ [IV.int 420].length * (200 : Int).toNat ≤ 1000000) (by decide)
  obtain ⟨ys, e1, hg⟩ := num_good (n := n) (cs := cs) (cell := z) (salt := 800 + k) (zs := List.replicate 200 420) (by rw [List.length_replicate]; decide) (by omega) (by omega) (fun z hz => by rw [(List.mem_replicate.mp hz).2]; decide)
  have e1 : f__law_numbers n [.int z, .int (800 + (k : Int)), .lst (intL (List.replicate 200 420))] cs = _ := e1
  obtain ⟨σ', cs', e6, g6, b5, b6, rfl⟩ := for_inv (gm := gmN 5) (b := turnB) (n := n) (fun σ cs' => Good cs.length cs' ∧ ∃ b5 b6, σ = [x0, x1, .v (.int k), .v (.int z), .v (.cell cs.length), b5, b6]) (rgI 0 8) [x0, x1, .v (.int k), .v (.int z), .v (.cell cs.length), x5, x6] (cs ++ [.lst [.lst (intL ys), .int 0]]) (fun x hx σ cs' hi => by
    obtain ⟨hg, b5, b6, rfl⟩ := hi
    obtain ⟨cs2, d6, h, g⟩ := turn_ok (n := n) (c := cs.length) (cs := cs') (x0 := x0) (x1 := x1) (x2 := .v (.int k)) (x3 := .v (.int z)) (x5 := .v x) (x6 := b6) hg
    exact ⟨_, _, _, rfl, h, g, _, _, rfl⟩) ⟨hg cs, _, _, rfl⟩
  refine ⟨cs', .v (.cell cs.length), b5, b6, ?_⟩
  generalize List.replicate 200 (420 : Int) = zs at hm e1
  unfold cellB
  simp [hm, e1, e6]
/-! values that are no names -/
theorem odd_ok {w : IV} (hw : plainI w = true) (hn : nameI w = false) {t : Str} (hr : reprOf w = some (.str t)) (ht : nicS t = true) : ∃ cs', oddB n [x0, .v w, x2, x3, x4, x5, x6] cs = .next [x0, .v w, x2, x3, x4, x5, x6] cs' := by
  have hno : ∀ s, w = .str s → nameB s = true → False := fun s e h => by
    subst e; rw [show nameI (.str s) = nameB s from rfl, h] at hn; cases hn
  obtain ⟨r1, e1, k1, _⟩ := told_cap (n := n) (cs := cs) (cs1 := cs ++ [.dead, .dead]) (σ := [x0, .v w, x2, x3, x4, x5, x6]) (mo := mkP1 t0M) (me := eV 1) (x := T0) (d := .dct [] []) (w := w) (mkP1_ok t0_ok.1 t0_ok.2 t0M_ok) rfl hw hr (fun s e h => (hno s e h).elim)
  obtain ⟨r2, e2', k2, _⟩ := told_slow (n := n) (cs := cs ++ [.dead, .dead]) (cs1 := cs ++ [.dead, .dead] ++ [.dead, .dead]) (σ := [x0, .v w, x2, x3, x4, x5, x6]) (mo := mkS0) (me := eV 1) (d := .dct [] []) (ru := .str "turn") (w := w) mkS0_ok rfl hw hr (fun s e h => (hno s e h).elim)
  have hu : unkV w = .lst [.str "unknown", .str t, .bl true] := by unfold unkV reprV'; rw [hr]; try rfl
  rw [k1 hn, hu] at e1
  rw [k2 hn, hu] at e2'
  have hne : cNe (.lst [.str "unknown", .str t, .bl true]) (.lst [.str "unknown", .str t, .bl true]) = some (.bl false) := ne_of (nic_lst fun x hx => by
    simp only [List.mem_cons, List.not_mem_nil, or_false] at hx
    rcases hx with rfl | rfl | rfl
    · exact str_k (by decide +kernel)
    · exact str_k ht
    · exact ⟨rfl, rfl, by simp [dpI]⟩)
  have hrr : ∀ cs, fRepr cs [w] = some (.str t) := fun _ => hr
  refine ⟨cs ++ [.dead, .dead] ++ [.dead, .dead], ?_⟩
  unfold oddB g1M g2M dueM
  simp [e1, e2', hrr, hne]
theorem odds : ∀ w ∈ [IV.non, .int 5, .bl true, .tup [.str "p"], .lst [.str "p"], .dct [] []], plainI w = true ∧ nameI w = false ∧ ∃ t, reprOf w = some (.str t) ∧ nicS t = true := by
  intro w hw
  simp only [List.mem_cons, List.not_mem_nil, or_false] at hw
  rcases hw with rfl | rfl | rfl | rfl | rfl | rfl
  · exact ⟨rfl, rfl, "None", by kernel_rfl, by decide +kernel⟩
  · exact ⟨rfl, rfl, "5", by kernel_rfl, by decide +kernel⟩
  · exact ⟨rfl, rfl, "True", by kernel_rfl, by decide +kernel⟩
  · exact ⟨rfl, rfl, "('p',)", by kernel_rfl, by decide +kernel⟩
  · exact ⟨rfl, rfl, "['p']", by kernel_rfl, by decide +kernel⟩
  · exact ⟨rfl, rfl, "{}", by kernel_rfl, by decide +kernel⟩
end
theorem plain (ns : List Int) (h1 : ns.length ≤ 63) (h2 : ∀ z ∈ ns, Builtin.Int.intBits z ≤ 1048576) : ∃ fuel cs, f_law fuel [.rol (ns.map IV.int)] [] = .ok (.bl true) cs := by
  obtain ⟨zs, e1, hz⟩ := cells_ok (n := 0) (cs := []) (ns := ns) (j := 5) (z := 7) (σ := startI 7 [.rol (ns.map IV.int)]) (by decide) rfl
  obtain ⟨σ', cs', e2', a1, a2, a3, a4, a5, a6, rfl⟩ := for_inv (gm := gmTup 2 (gmCons (gmN 2) (gmCons (gmN 3) (gmNil)))) (b := cellB) (n := 0) (fun σ cs => ∃ a1 a2 a3 a4 a5 a6, σ = [.v (.rol (ns.map IV.int)), a1, a2, a3, a4, a5, a6]) (enI (zs.map IV.int) 0) (startI 7 [.rol (ns.map IV.int)]) [] (fun x hx σ cs hi => by
    obtain ⟨a1, a2, a3, a4, a5, a6, rfl⟩ := hi
    obtain ⟨k, y, hk, _, hy, rfl⟩ := enI_mem hx
    obtain ⟨z, _, rfl⟩ := List.mem_map.mp hy
    obtain ⟨cs', b4, b5, b6, h⟩ := cell_ok (n := 0) (k := k) (z := z) (cs := cs) (x0 := .v (.rol (ns.map IV.int))) (x1 := a1) (x4 := a4) (x5 := a5) (x6 := a6) (by simp at hk; omega)
    exact ⟨_, _, _, rfl, h, _, _, _, _, _, _, rfl⟩) ⟨_, _, _, _, _, _, rfl⟩
  obtain ⟨σ2, cs2, e3, b1, rfl⟩ := for_inv (gm := gmN 1) (b := oddB) (n := 0) (fun σ cs => ∃ b1, σ = [.v (.rol (ns.map IV.int)), b1, a2, a3, a4, a5, a6]) [IV.non, .int 5, .bl true, .tup [.str "p"], .lst [.str "p"], .dct [] []] [.v (.rol (ns.map IV.int)), a1, a2, a3, a4, a5, a6] cs' (fun x hx σ cs hi => by
    obtain ⟨b1, rfl⟩ := hi
    obtain ⟨p1, p2, t, p3, p4⟩ := odds x hx
    obtain ⟨cs'', h⟩ := odd_ok (n := 0) (cs := cs) (x0 := .v (.rol (ns.map IV.int))) (x2 := a2) (x3 := a3) (x4 := a4) (x5 := a5) (x6 := a6) p1 p2 p3 p4
    exact ⟨_, _, _, rfl, h, _, rfl⟩) ⟨_, rfl⟩
  refine ⟨0, cs2, ?_⟩
  unfold f_law
  rw [law_eq]
  have hl : lstI (.lst (zs.map IV.int)) = some (zs.map IV.int) := rfl
  have hseq : ∀ l : List IV, seqI (.lst l) = some l := fun _ => rfl
  simp only [ev_fnM, ev_sSeq, ev_sFor, ev_mEn, ev_aCons, ev_aNil, then_ok, optR_some, enA_one]
  erw [e1]
  simp [hl, e2', hseq, e3]
end K08

namespace K08
open PySem PySem.Spec L2 SL
open PyProof.Rows hiding St
set_option linter.all false
set_option autoImplicit false
set_option maxRecDepth 100000
set_option maxHeartbeats 4000000
theorem all_mk {P : Program} {w : World} {K : PySem.W.Frag} {h : Heap} {mg : Str → Option Value} {fa : Addr} (X : K.In h) (G : h.Ns mainGlobals mg) (hfa : mg "law" = some (.ref fa))
    {C_Program : Addr} (aC_Program : PySem.W.nsIn K mainGlobals "Program" = some (some (.ref C_Program)))
    (kpg_Program : PySem.W.plainGet K C_Program Str.empty = true)
    (khd_Program : PySem.W.hasDictIn K C_Program = true)
    (kpo_Program : PySem.W.plainOver K C_Program = true)
    (ksa_Program : PySem.W.findIn K (.ref C_Program) "__setattr__" = some (some (.builtin "object.__setattr__")))
    (kna_Program_own_tasks : PySem.W.findIn K (.ref C_Program) "own_tasks" = some none)
    (kna_Program_own_capacities : PySem.W.findIn K (.ref C_Program) "own_capacities" = some none)
    {C_Setting : Addr} (aC_Setting : PySem.W.nsIn K mainGlobals "Setting" = some (some (.ref C_Setting)))
    (kpg_Setting : PySem.W.plainGet K C_Setting Str.empty = true)
    (khd_Setting : PySem.W.hasDictIn K C_Setting = true)
    (kpo_Setting : PySem.W.plainOver K C_Setting = true)
    (ksa_Setting : PySem.W.findIn K (.ref C_Setting) "__setattr__" = some (some (.builtin "object.__setattr__")))
    (kna_Setting_own_slownesses : PySem.W.findIn K (.ref C_Setting) "own_slownesses" = some none)
    (kna_Setting_own_rule : PySem.W.findIn K (.ref C_Setting) "own_rule" = some none)
    {f0 : Addr} {oc0 kV0 dc0 pm0 cd0 ct0 : Value} {od0 an0 : Option Addr} {sl0 : Array (Option Value)}
    (a0 : PySem.W.nsIn K mainGlobals "_law_numbers" = some (some (.ref f0)))
    (l0 : K.lookup f0 = some ⟨oc0, od0, .func (PySem.W.fnOf "_law_numbers" "_law_numbers" (defArgs st__law_numbers) (defBody st__law_numbers) (defScope st__law_numbers) .none kV0 dc0 pm0 an0 cd0 ct0), sl0⟩)
    (c0 : PySem.W.codeIn K cd0 "_law_numbers" = true)
    (k0 : PySem.W.keepIn K (.ref f0) = true)
    {f1 : Addr} {oc1 kV1 dc1 pm1 cd1 ct1 : Value} {od1 an1 : Option Addr} {sl1 : Array (Option Value)}
    (a1 : PySem.W.nsIn K mainGlobals "_law_draw" = some (some (.ref f1)))
    (l1 : K.lookup f1 = some ⟨oc1, od1, .func (PySem.W.fnOf "_law_draw" "_law_draw" (defArgs st__law_draw) (defBody st__law_draw) (defScope st__law_draw) .none kV1 dc1 pm1 an1 cd1 ct1), sl1⟩)
    (c1 : PySem.W.codeIn K cd1 "_law_draw" = true)
    (k1 : PySem.W.keepIn K (.ref f1) = true)
    {f2 : Addr} {oc2 kV2 dc2 pm2 cd2 ct2 : Value} {od2 an2 : Option Addr} {sl2 : Array (Option Value)}
    (a2 : PySem.W.nsIn K mainGlobals "is_word_of_step" = some (some (.ref f2)))
    (l2 : K.lookup f2 = some ⟨oc2, od2, .func (PySem.W.fnOf "is_word_of_step" "is_word_of_step" (defArgs st_is_word_of_step) (defBody st_is_word_of_step) (defScope st_is_word_of_step) .none kV2 dc2 pm2 an2 cd2 ct2), sl2⟩)
    (c2 : PySem.W.codeIn K cd2 "is_word_of_step" = true)
    (k2 : PySem.W.keepIn K (.ref f2) = true)
    {f3 : Addr} {oc3 kV3 dc3 pm3 cd3 ct3 : Value} {od3 an3 : Option Addr} {sl3 : Array (Option Value)}
    (a3 : PySem.W.nsIn K mainGlobals "is_name" = some (some (.ref f3)))
    (l3 : K.lookup f3 = some ⟨oc3, od3, .func (PySem.W.fnOf "is_name" "is_name" (defArgs st_is_name) (defBody st_is_name) (defScope st_is_name) .none kV3 dc3 pm3 an3 cd3 ct3), sl3⟩)
    (c3 : PySem.W.codeIn K cd3 "is_name" = true)
    (k3 : PySem.W.keepIn K (.ref f3) = true)
    {f4 : Addr} {oc4 kV4 dc4 pm4 cd4 ct4 : Value} {od4 an4 : Option Addr} {sl4 : Array (Option Value)}
    (a4 : PySem.W.nsIn K mainGlobals "is_integer" = some (some (.ref f4)))
    (l4 : K.lookup f4 = some ⟨oc4, od4, .func (PySem.W.fnOf "is_integer" "is_integer" (defArgs st_is_integer) (defBody st_is_integer) (defScope st_is_integer) .none kV4 dc4 pm4 an4 cd4 ct4), sl4⟩)
    (c4 : PySem.W.codeIn K cd4 "is_integer" = true)
    (k4 : PySem.W.keepIn K (.ref f4) = true)
    {f5 : Addr} {oc5 kV5 dc5 pm5 cd5 ct5 : Value} {od5 an5 : Option Addr} {sl5 : Array (Option Value)}
    (a5 : PySem.W.nsIn K mainGlobals "is_between" = some (some (.ref f5)))
    (l5 : K.lookup f5 = some ⟨oc5, od5, .func (PySem.W.fnOf "is_between" "is_between" (defArgs st_is_between) (defBody st_is_between) (defScope st_is_between) .none kV5 dc5 pm5 an5 cd5 ct5), sl5⟩)
    (c5 : PySem.W.codeIn K cd5 "is_between" = true)
    (k5 : PySem.W.keepIn K (.ref f5) = true)
    {f6 : Addr} {oc6 kV6 dc6 pm6 cd6 ct6 : Value} {od6 an6 : Option Addr} {sl6 : Array (Option Value)}
    (a6 : PySem.W.nsIn K mainGlobals "is_whole_step" = some (some (.ref f6)))
    (l6 : K.lookup f6 = some ⟨oc6, od6, .func (PySem.W.fnOf "is_whole_step" "is_whole_step" (defArgs st_is_whole_step) (defBody st_is_whole_step) (defScope st_is_whole_step) .none kV6 dc6 pm6 an6 cd6 ct6), sl6⟩)
    (c6 : PySem.W.codeIn K cd6 "is_whole_step" = true)
    (k6 : PySem.W.keepIn K (.ref f6) = true)
    {f7 : Addr} {oc7 kV7 dc7 pm7 cd7 ct7 : Value} {od7 an7 : Option Addr} {sl7 : Array (Option Value)}
    (a7 : PySem.W.nsIn K mainGlobals "is_step" = some (some (.ref f7)))
    (l7 : K.lookup f7 = some ⟨oc7, od7, .func (PySem.W.fnOf "is_step" "is_step" (defArgs st_is_step) (defBody st_is_step) (defScope st_is_step) .none kV7 dc7 pm7 an7 cd7 ct7), sl7⟩)
    (c7 : PySem.W.codeIn K cd7 "is_step" = true)
    (k7 : PySem.W.keepIn K (.ref f7) = true)
    {f8 : Addr} {oc8 kV8 dc8 pm8 cd8 ct8 : Value} {od8 an8 : Option Addr} {sl8 : Array (Option Value)}
    (a8 : PySem.W.nsIn K mainGlobals "require_tasks" = some (some (.ref f8)))
    (l8 : K.lookup f8 = some ⟨oc8, od8, .func (PySem.W.fnOf "require_tasks" "require_tasks" (defArgs st_require_tasks) (defBody st_require_tasks) (defScope st_require_tasks) .none kV8 dc8 pm8 an8 cd8 ct8), sl8⟩)
    (c8 : PySem.W.codeIn K cd8 "require_tasks" = true)
    (k8 : PySem.W.keepIn K (.ref f8) = true)
    {f9 : Addr} {oc9 kV9 dc9 pm9 cd9 ct9 : Value} {od9 an9 : Option Addr} {sl9 : Array (Option Value)}
    (a9 : PySem.W.nsIn K mainGlobals "is_capacity" = some (some (.ref f9)))
    (l9 : K.lookup f9 = some ⟨oc9, od9, .func (PySem.W.fnOf "is_capacity" "is_capacity" (defArgs st_is_capacity) (defBody st_is_capacity) (defScope st_is_capacity) .none kV9 dc9 pm9 an9 cd9 ct9), sl9⟩)
    (c9 : PySem.W.codeIn K cd9 "is_capacity" = true)
    (k9 : PySem.W.keepIn K (.ref f9) = true)
    {f10 : Addr} {oc10 kV10 dc10 pm10 cd10 ct10 : Value} {od10 an10 : Option Addr} {sl10 : Array (Option Value)}
    (a10 : PySem.W.nsIn K mainGlobals "require_capacities" = some (some (.ref f10)))
    (l10 : K.lookup f10 = some ⟨oc10, od10, .func (PySem.W.fnOf "require_capacities" "require_capacities" (defArgs st_require_capacities) (defBody st_require_capacities) (defScope st_require_capacities) .none kV10 dc10 pm10 an10 cd10 ct10), sl10⟩)
    (c10 : PySem.W.codeIn K cd10 "require_capacities" = true)
    (k10 : PySem.W.keepIn K (.ref f10) = true)
    {f11 : Addr} {oc11 kV11 dc11 pm11 cd11 ct11 : Value} {od11 an11 : Option Addr} {sl11 : Array (Option Value)}
    (kmk11 : PySem.W.makesIn K C_Program = true) (kin11 : PySem.W.findIn K (.ref C_Program) "__init__" = some (some (.ref f11))) (kkp11 : PySem.W.keepIn K (.ref C_Program) = true)
    {T11 : Addr} {dT11 : Option Addr} {nT11 : Nat} {sT11 : Array (Option Value)}
    (l11 : K.lookup f11 = some ⟨oc11, od11, .func (PySem.W.fnOf "__init__" "Program.__init__" (defArgs st_Program_init) (defBody st_Program_init) (defScope st_Program_init) (.ref T11) kV11 dc11 pm11 an11 cd11 ct11), sl11⟩)
    (lT11 : K.lookup T11 = some ⟨.type "tuple", dT11, .seq #[.none] nT11, sT11⟩)
    (c11 : PySem.W.codeIn K cd11 "Program.__init__" = true) (k11 : PySem.W.keepIn K (.ref f11) = true) (kfn11 : PySem.W.isFn K (.ref f11) = true)
    {f12 : Addr} {oc12 kV12 dc12 pm12 cd12 ct12 : Value} {od12 an12 : Option Addr} {sl12 : Array (Option Value)}
    (a12 : PySem.W.nsIn K mainGlobals "_law_is_name" = some (some (.ref f12)))
    (l12 : K.lookup f12 = some ⟨oc12, od12, .func (PySem.W.fnOf "_law_is_name" "_law_is_name" (defArgs st__law_is_name) (defBody st__law_is_name) (defScope st__law_is_name) .none kV12 dc12 pm12 an12 cd12 ct12), sl12⟩)
    (c12 : PySem.W.codeIn K cd12 "_law_is_name" = true)
    (k12 : PySem.W.keepIn K (.ref f12) = true)
    {f13 : Addr} {oc13 kV13 dc13 pm13 cd13 ct13 : Value} {od13 an13 : Option Addr} {sl13 : Array (Option Value)}
    (kmm13 : PySem.W.findIn K (.ref C_Program) "capacity" = some (some (.ref f13)))
    (l13 : K.lookup f13 = some ⟨oc13, od13, .func (PySem.W.fnOf "capacity" "Program.capacity" (defArgs st_Program_capacity) (defBody st_Program_capacity) (defScope st_Program_capacity) .none kV13 dc13 pm13 an13 cd13 ct13), sl13⟩)
    (c13 : PySem.W.codeIn K cd13 "Program.capacity" = true) (k13 : PySem.W.keepIn K (.ref f13) = true) (kfn13 : PySem.W.isFn K (.ref f13) = true)
    {f14 : Addr} {oc14 kV14 dc14 pm14 cd14 ct14 : Value} {od14 an14 : Option Addr} {sl14 : Array (Option Value)}
    (a14 : PySem.W.nsIn K mainGlobals "are_slownesses" = some (some (.ref f14)))
    (l14 : K.lookup f14 = some ⟨oc14, od14, .func (PySem.W.fnOf "are_slownesses" "are_slownesses" (defArgs st_are_slownesses) (defBody st_are_slownesses) (defScope st_are_slownesses) .none kV14 dc14 pm14 an14 cd14 ct14), sl14⟩)
    (c14 : PySem.W.codeIn K cd14 "are_slownesses" = true)
    (k14 : PySem.W.keepIn K (.ref f14) = true)
    {f15 : Addr} {oc15 dc15 pm15 cd15 ct15 : Value} {od15 an15 : Option Addr} {sl15 : Array (Option Value)}
    (kmk15 : PySem.W.makesIn K C_Setting = true) (kin15 : PySem.W.findIn K (.ref C_Setting) "__init__" = some (some (.ref f15))) (kkp15 : PySem.W.keepIn K (.ref C_Setting) = true)
    {T15 : Addr} {dT15 : Option Addr} {nT15 : Nat} {sT15 : Array (Option Value)}
    {Dk15 : Addr} {tk15_0 : Tok}
    (l15 : K.lookup f15 = some ⟨oc15, od15, .func (PySem.W.fnOf "__init__" "Setting.__init__" (defArgs st_Setting_init) (defBody st_Setting_init) (defScope st_Setting_init) (.ref T15) (.ref Dk15) dc15 pm15 an15 cd15 ct15), sl15⟩)
    (qk15_0 : PySem.W.nsIn K Dk15 "rule" = some (some (.str "turn" tk15_0)))
    (lT15 : K.lookup T15 = some ⟨.type "tuple", dT15, .seq #[.none] nT15, sT15⟩)
    (c15 : PySem.W.codeIn K cd15 "Setting.__init__" = true) (k15 : PySem.W.keepIn K (.ref f15) = true) (kfn15 : PySem.W.isFn K (.ref f15) = true)
    {f16 : Addr} {oc16 kV16 dc16 pm16 cd16 ct16 : Value} {od16 an16 : Option Addr} {sl16 : Array (Option Value)}
    (kmm16 : PySem.W.findIn K (.ref C_Setting) "slowness" = some (some (.ref f16)))
    (l16 : K.lookup f16 = some ⟨oc16, od16, .func (PySem.W.fnOf "slowness" "Setting.slowness" (defArgs st_Setting_slowness) (defBody st_Setting_slowness) (defScope st_Setting_slowness) .none kV16 dc16 pm16 an16 cd16 ct16), sl16⟩)
    (c16 : PySem.W.codeIn K cd16 "Setting.slowness" = true) (k16 : PySem.W.keepIn K (.ref f16) = true) (kfn16 : PySem.W.isFn K (.ref f16) = true)
    {f17 : Addr} {oc17 kV17 dc17 pm17 cd17 ct17 : Value} {od17 an17 : Option Addr} {sl17 : Array (Option Value)}
    {pp17 : Addr} {pr17 : List Value} (kpp17 : PySem.W.findIn K (.ref C_Program) "tasks" = some (some (.ref pp17))) (kpt17 : PySem.W.specialIn K (.ref pp17) "__get__" = some (some (.builtin "property.__get__"))) (kpk17 : PySem.W.takesIn K (.ref pp17) = some true) (kpr17 : PySem.W.recIn K pp17 "property" = some (.ref f17 :: pr17))
    (l17 : K.lookup f17 = some ⟨oc17, od17, .func (PySem.W.fnOf "tasks" "Program.tasks" (defArgs st_Program_tasks) (defBody st_Program_tasks) (defScope st_Program_tasks) .none kV17 dc17 pm17 an17 cd17 ct17), sl17⟩)
    (c17 : PySem.W.codeIn K cd17 "Program.tasks" = true) (k17 : PySem.W.keepIn K (.ref f17) = true) (kfn17 : PySem.W.isFn K (.ref f17) = true)
    {f18 : Addr} {oc18 kV18 dc18 pm18 cd18 ct18 : Value} {od18 an18 : Option Addr} {sl18 : Array (Option Value)}
    (a18 : PySem.W.nsIn K mainGlobals "_law_is_whole" = some (some (.ref f18)))
    (l18 : K.lookup f18 = some ⟨oc18, od18, .func (PySem.W.fnOf "_law_is_whole" "_law_is_whole" (defArgs st__law_is_whole) (defBody st__law_is_whole) (defScope st__law_is_whole) .none kV18 dc18 pm18 an18 cd18 ct18), sl18⟩)
    (c18 : PySem.W.codeIn K cd18 "_law_is_whole" = true)
    (k18 : PySem.W.keepIn K (.ref f18) = true)
    {f19 : Addr} {oc19 kV19 dc19 pm19 ct19 : Value} {od19 an19 : Option Addr} {sl19 : Array (Option Value)}
    {cA19 Pt19 : Addr}
    (a19 : PySem.W.nsIn K mainGlobals "_law_word_right" = some (some (.ref f19)))
    (l19 : K.lookup f19 = some ⟨oc19, od19, .func (PySem.W.fnOf "_law_word_right" "_law_word_right" (defArgs st__law_word_right) (defBody st__law_word_right) (defScope st__law_word_right) .none kV19 dc19 pm19 an19 (.ref cA19) ct19), sl19⟩)
    (c19 : PySem.W.codeIn K (.ref cA19) "_law_word_right" = true)
    (k19 : PySem.W.keepIn K (.ref f19) = true)
    {co19 : Option Addr} {cv19 : Array Value} {cs19 : Array (Option Value)} (v19 : K.lookup cA19 = some ⟨.type "code", co19, .fields cv19, cs19⟩) (p19 : cv19[11]? = some (.ref Pt19)) (nP19 : K.lookup Pt19 = none) (ch19 : PySem.W.codeHdIn [(cA19, ⟨.type "code", co19, .fields cv19, cs19⟩)] cA19 Pt19 = true)
    {f20 : Addr} {oc20 kV20 dc20 pm20 cd20 ct20 : Value} {od20 an20 : Option Addr} {sl20 : Array (Option Value)}
    (a20 : PySem.W.nsIn K mainGlobals "_law_word" = some (some (.ref f20)))
    (l20 : K.lookup f20 = some ⟨oc20, od20, .func (PySem.W.fnOf "_law_word" "_law_word" (defArgs st__law_word) (defBody st__law_word) (defScope st__law_word) .none kV20 dc20 pm20 an20 cd20 ct20), sl20⟩)
    (c20 : PySem.W.codeIn K cd20 "_law_word" = true)
    (k20 : PySem.W.keepIn K (.ref f20) = true)
    {f21 : Addr} {oc21 kV21 dc21 pm21 ct21 : Value} {od21 an21 : Option Addr} {sl21 : Array (Option Value)}
    {cA21 Pt21 : Addr}
    (a21 : PySem.W.nsIn K mainGlobals "law" = some (some (.ref f21)))
    (l21 : K.lookup f21 = some ⟨oc21, od21, .func (PySem.W.fnOf "law" "law" (defArgs st_law) (defBody st_law) (defScope st_law) .none kV21 dc21 pm21 an21 (.ref cA21) ct21), sl21⟩)
    (c21 : PySem.W.codeIn K (.ref cA21) "law" = true)
    (k21 : PySem.W.keepIn K (.ref f21) = true)
    {co21 : Option Addr} {cv21 : Array Value} {cs21 : Array (Option Value)} (v21 : K.lookup cA21 = some ⟨.type "code", co21, .fields cv21, cs21⟩) (p21 : cv21[11]? = some (.ref Pt21)) (nP21 : K.lookup Pt21 = none) (ch21 : PySem.W.codeHdIn [(cA21, ⟨.type "code", co21, .fields cv21, cs21⟩)] cA21 Pt21 = true)
    (ne19_21 : (Pt19 == Pt21) = false)
    {f__law_heard : Addr} {oc__law_heard kV__law_heard dc__law_heard pm__law_heard cd__law_heard ct__law_heard : Value} {od__law_heard an__law_heard : Option Addr} {sl__law_heard : Array (Option Value)}
    (a__law_heard : PySem.W.nsIn K mainGlobals "_law_heard" = some (some (.ref f__law_heard)))
    (l__law_heard : K.lookup f__law_heard = some ⟨oc__law_heard, od__law_heard, .func (PySem.W.fnOf "_law_heard" "_law_heard" (defArgs st__law_heard) (defBody st__law_heard) (defScope st__law_heard) .none kV__law_heard dc__law_heard pm__law_heard an__law_heard cd__law_heard ct__law_heard), sl__law_heard⟩)
    (c__law_heard : PySem.W.codeIn K cd__law_heard "_law_heard" = true)
    (k__law_heard : PySem.W.keepIn K (.ref f__law_heard) = true)
    {C_InvalidProgram fI_InvalidProgram : Addr} {nm_InvalidProgram q_InvalidProgram : Str} {N_InvalidProgram : Addr} {bs_InvalidProgram bm_InvalidProgram : List Value} {sn_InvalidProgram : List Str} {sub_InvalidProgram : List Value} {ab_InvalidProgram : Bool} {col_InvalidProgram : Option Bool} {dd_InvalidProgram : Option Addr} {m0_InvalidProgram m1_InvalidProgram m2_InvalidProgram m3_InvalidProgram m5_InvalidProgram : Option Value}
    {xoc_InvalidProgram xdc_InvalidProgram xpm_InvalidProgram xcd_InvalidProgram xct_InvalidProgram : Value} {xod_InvalidProgram xan_InvalidProgram : Option Addr} {xsl_InvalidProgram : Array (Option Value)}
    (aC_InvalidProgram : PySem.W.nsIn K mainGlobals "InvalidProgram" = some (some (.ref C_InvalidProgram)))
    (xL_InvalidProgram : K.lookup C_InvalidProgram = some (excClassObj nm_InvalidProgram q_InvalidProgram C_InvalidProgram N_InvalidProgram bs_InvalidProgram bm_InvalidProgram true sn_InvalidProgram sub_InvalidProgram ab_InvalidProgram col_InvalidProgram dd_InvalidProgram m0_InvalidProgram m1_InvalidProgram m2_InvalidProgram m3_InvalidProgram m5_InvalidProgram "Exception.__new__"))
    (bm_InvalidProgram : PySem.OwnEx.refsT [.type "Exception", .type "BaseException", .type "object"] bm_InvalidProgram = true)
    (sa_InvalidProgram : PySem.W.findIn K (.ref C_InvalidProgram) "__setattr__" = some (some (.builtin "object.__setattr__")))
    (ga_InvalidProgram : PySem.W.findIn K (.ref C_InvalidProgram) "__getattribute__" = some (some (.builtin "BaseException.__getattribute__")))
    (gg_InvalidProgram : PySem.W.findIn K (.ref C_InvalidProgram) "__getattr__" = some none)
    (nb_InvalidProgram : PySem.W.findIn K (.ref C_InvalidProgram) "place" = some none)
    (ai_InvalidProgram : PySem.W.findIn K (.ref C_InvalidProgram) "__init__" = some (some (.ref fI_InvalidProgram)))
    (ti_InvalidProgram : PySem.W.typeIn K (.ref fI_InvalidProgram) = some (.type "function"))
    (li_InvalidProgram : K.lookup fI_InvalidProgram = some ⟨xoc_InvalidProgram, xod_InvalidProgram, .func (PySem.W.fnOf "__init__" "InvalidProgram.__init__" (defArgs st_InvalidProgram_init) (defBody st_InvalidProgram_init) (defScope st_InvalidProgram_init) .none .none xdc_InvalidProgram xpm_InvalidProgram xan_InvalidProgram xcd_InvalidProgram xct_InvalidProgram), xsl_InvalidProgram⟩)
    (ci_InvalidProgram : PySem.W.codeIn K xcd_InvalidProgram "InvalidProgram.__init__" = true)
    (kC_InvalidProgram : PySem.W.keepIn K (.ref C_InvalidProgram) = true)
    (eC_InvalidProgram : PySem.W.subIn K (.ref C_InvalidProgram) (.type "BaseException") = some true)
    (tC_InvalidProgram : PySem.W.typeIn K (.ref C_InvalidProgram) = some (.type "type"))
    (hC_InvalidProgram : PySem.W.hasDictIn K C_InvalidProgram = true)
    {C_UnknownName fI_UnknownName : Addr} {nm_UnknownName q_UnknownName : Str} {N_UnknownName : Addr} {bs_UnknownName bm_UnknownName : List Value} {sn_UnknownName : List Str} {sub_UnknownName : List Value} {ab_UnknownName : Bool} {col_UnknownName : Option Bool} {dd_UnknownName : Option Addr} {m0_UnknownName m1_UnknownName m2_UnknownName m3_UnknownName m5_UnknownName : Option Value}
    {xoc_UnknownName xdc_UnknownName xpm_UnknownName xcd_UnknownName xct_UnknownName : Value} {xod_UnknownName xan_UnknownName : Option Addr} {xsl_UnknownName : Array (Option Value)}
    (aC_UnknownName : PySem.W.nsIn K mainGlobals "UnknownName" = some (some (.ref C_UnknownName)))
    (xL_UnknownName : K.lookup C_UnknownName = some (excClassObj nm_UnknownName q_UnknownName C_UnknownName N_UnknownName bs_UnknownName bm_UnknownName true sn_UnknownName sub_UnknownName ab_UnknownName col_UnknownName dd_UnknownName m0_UnknownName m1_UnknownName m2_UnknownName m3_UnknownName m5_UnknownName "LookupError.__new__"))
    (bm_UnknownName : PySem.OwnEx.refsT [.type "KeyError", .type "LookupError", .type "Exception", .type "BaseException", .type "object"] bm_UnknownName = true)
    (sa_UnknownName : PySem.W.findIn K (.ref C_UnknownName) "__setattr__" = some (some (.builtin "object.__setattr__")))
    (ga_UnknownName : PySem.W.findIn K (.ref C_UnknownName) "__getattribute__" = some (some (.builtin "BaseException.__getattribute__")))
    (gg_UnknownName : PySem.W.findIn K (.ref C_UnknownName) "__getattr__" = some none)
    (nb_UnknownName : PySem.W.findIn K (.ref C_UnknownName) "name" = some none)
    (ai_UnknownName : PySem.W.findIn K (.ref C_UnknownName) "__init__" = some (some (.ref fI_UnknownName)))
    (ti_UnknownName : PySem.W.typeIn K (.ref fI_UnknownName) = some (.type "function"))
    (li_UnknownName : K.lookup fI_UnknownName = some ⟨xoc_UnknownName, xod_UnknownName, .func (PySem.W.fnOf "__init__" "UnknownName.__init__" (defArgs st_UnknownName_init) (defBody st_UnknownName_init) (defScope st_UnknownName_init) .none .none xdc_UnknownName xpm_UnknownName xan_UnknownName xcd_UnknownName xct_UnknownName), xsl_UnknownName⟩)
    (ci_UnknownName : PySem.W.codeIn K xcd_UnknownName "UnknownName.__init__" = true)
    (kC_UnknownName : PySem.W.keepIn K (.ref C_UnknownName) = true)
    (eC_UnknownName : PySem.W.subIn K (.ref C_UnknownName) (.type "BaseException") = some true)
    (tC_UnknownName : PySem.W.typeIn K (.ref C_UnknownName) = some (.type "type"))
    (hC_UnknownName : PySem.W.hasDictIn K C_UnknownName = true)
    {C_InvalidSetting fI_InvalidSetting : Addr} {nm_InvalidSetting q_InvalidSetting : Str} {N_InvalidSetting : Addr} {bs_InvalidSetting bm_InvalidSetting : List Value} {sn_InvalidSetting : List Str} {sub_InvalidSetting : List Value} {ab_InvalidSetting : Bool} {col_InvalidSetting : Option Bool} {dd_InvalidSetting : Option Addr} {m0_InvalidSetting m1_InvalidSetting m2_InvalidSetting m3_InvalidSetting m5_InvalidSetting : Option Value}
    {xoc_InvalidSetting xdc_InvalidSetting xpm_InvalidSetting xcd_InvalidSetting xct_InvalidSetting : Value} {xod_InvalidSetting xan_InvalidSetting : Option Addr} {xsl_InvalidSetting : Array (Option Value)}
    (aC_InvalidSetting : PySem.W.nsIn K mainGlobals "InvalidSetting" = some (some (.ref C_InvalidSetting)))
    (xL_InvalidSetting : K.lookup C_InvalidSetting = some (excClassObj nm_InvalidSetting q_InvalidSetting C_InvalidSetting N_InvalidSetting bs_InvalidSetting bm_InvalidSetting true sn_InvalidSetting sub_InvalidSetting ab_InvalidSetting col_InvalidSetting dd_InvalidSetting m0_InvalidSetting m1_InvalidSetting m2_InvalidSetting m3_InvalidSetting m5_InvalidSetting "Exception.__new__"))
    (bm_InvalidSetting : PySem.OwnEx.refsT [.type "Exception", .type "BaseException", .type "object"] bm_InvalidSetting = true)
    (sa_InvalidSetting : PySem.W.findIn K (.ref C_InvalidSetting) "__setattr__" = some (some (.builtin "object.__setattr__")))
    (ga_InvalidSetting : PySem.W.findIn K (.ref C_InvalidSetting) "__getattribute__" = some (some (.builtin "BaseException.__getattribute__")))
    (gg_InvalidSetting : PySem.W.findIn K (.ref C_InvalidSetting) "__getattr__" = some none)
    (nb_InvalidSetting : PySem.W.findIn K (.ref C_InvalidSetting) "value" = some none)
    (ai_InvalidSetting : PySem.W.findIn K (.ref C_InvalidSetting) "__init__" = some (some (.ref fI_InvalidSetting)))
    (ti_InvalidSetting : PySem.W.typeIn K (.ref fI_InvalidSetting) = some (.type "function"))
    (li_InvalidSetting : K.lookup fI_InvalidSetting = some ⟨xoc_InvalidSetting, xod_InvalidSetting, .func (PySem.W.fnOf "__init__" "InvalidSetting.__init__" (defArgs st_InvalidSetting_init) (defBody st_InvalidSetting_init) (defScope st_InvalidSetting_init) .none .none xdc_InvalidSetting xpm_InvalidSetting xan_InvalidSetting xcd_InvalidSetting xct_InvalidSetting), xsl_InvalidSetting⟩)
    (ci_InvalidSetting : PySem.W.codeIn K xcd_InvalidSetting "InvalidSetting.__init__" = true)
    (kC_InvalidSetting : PySem.W.keepIn K (.ref C_InvalidSetting) = true)
    (eC_InvalidSetting : PySem.W.subIn K (.ref C_InvalidSetting) (.type "BaseException") = some true)
    (tC_InvalidSetting : PySem.W.typeIn K (.ref C_InvalidSetting) = some (.type "type"))
    (hC_InvalidSetting : PySem.W.hasDictIn K C_InvalidSetting = true)
    {C_TimesError : Addr} (aC_TimesError : PySem.W.nsIn K mainGlobals "TimesError" = some (some (.ref C_TimesError)))
    (su_InvalidProgram_InvalidProgram : PySem.W.subIn K (.ref C_InvalidProgram) (.ref C_InvalidProgram) = some true)
    (su_InvalidProgram_InvalidSetting : PySem.W.subIn K (.ref C_InvalidProgram) (.ref C_InvalidSetting) = some false)
    (su_InvalidProgram_UnknownName : PySem.W.subIn K (.ref C_InvalidProgram) (.ref C_UnknownName) = some false)
    (su_UnknownName_InvalidProgram : PySem.W.subIn K (.ref C_UnknownName) (.ref C_InvalidProgram) = some false)
    (su_UnknownName_InvalidSetting : PySem.W.subIn K (.ref C_UnknownName) (.ref C_InvalidSetting) = some false)
    (su_UnknownName_UnknownName : PySem.W.subIn K (.ref C_UnknownName) (.ref C_UnknownName) = some true)
    (su_InvalidSetting_InvalidProgram : PySem.W.subIn K (.ref C_InvalidSetting) (.ref C_InvalidProgram) = some false)
    (su_InvalidSetting_InvalidSetting : PySem.W.subIn K (.ref C_InvalidSetting) (.ref C_InvalidSetting) = some true)
    (su_InvalidSetting_UnknownName : PySem.W.subIn K (.ref C_InvalidSetting) (.ref C_UnknownName) = some false)
    (hcA_UnknownName : PySem.W.findIn K (.ref C_UnknownName) "__class__" = some (some (.builtin "object.__class__"))) (hcM_UnknownName : PySem.W.mroIn K C_UnknownName (.type "object") = some true)
    (hcN : PySem.W.specialIn K (.builtin "object.__class__") "__get__" = some (some (.builtin "getset_descriptor.__get__"))) (hcT : PySem.W.takesIn K (.builtin "object.__class__") = some true)
    (ki_UnknownName_KeyError : PySem.W.kitOne K (.ref C_UnknownName) (.type "KeyError") = some true)
    (ki_UnknownName_TimesError : PySem.W.kitOne K (.ref C_UnknownName) (.ref C_TimesError) = some false)
    (z_enumerate : PySem.W.nsIn K mainGlobals "enumerate" = some none)
    (z_int : PySem.W.nsIn K mainGlobals "int" = some none)
    (z_max : PySem.W.nsIn K mainGlobals "max" = some none)
    (z_range : PySem.W.nsIn K mainGlobals "range" = some none)
    (z_len : PySem.W.nsIn K mainGlobals "len" = some none)
    (z_isinstance : PySem.W.nsIn K mainGlobals "isinstance" = some none)
    (z_tuple : PySem.W.nsIn K mainGlobals "tuple" = some none)
    (z_str : PySem.W.nsIn K mainGlobals "str" = some none)
    (z_all : PySem.W.nsIn K mainGlobals "all" = some none)
    (z_bool : PySem.W.nsIn K mainGlobals "bool" = some none)
    (z_dict : PySem.W.nsIn K mainGlobals "dict" = some none)
    (z_sorted : PySem.W.nsIn K mainGlobals "sorted" = some none)
    (z_repr : PySem.W.nsIn K mainGlobals "repr" = some none)
    (z_KeyError : PySem.W.nsIn K mainGlobals "KeyError" = some none)
    {t_MAX_TASKS : Tok} (v_MAX_TASKS : PySem.W.nsIn K mainGlobals "MAX_TASKS" = some (some (.int 6 t_MAX_TASKS)))
    {t_MAX_STEPS : Tok} (v_MAX_STEPS : PySem.W.nsIn K mainGlobals "MAX_STEPS" = some (some (.int 20 t_MAX_STEPS)))
    {r_LENGTHS : Addr} {es_LENGTHS : List DictEntry} {nn_LENGTHS : Nat} (v_LENGTHS : PySem.W.nsIn K mainGlobals "LENGTHS" = some (some (.ref r_LENGTHS))) (w_LENGTHS : K.lookup r_LENGTHS = some ⟨.type "dict", none, .dict es_LENGTHS.toArray nn_LENGTHS, #[]⟩) (s_LENGTHS : (r_LENGTHS == sysModules) = false) (y_LENGTHS : PySem.W.KeysLit w.params es_LENGTHS) (e_LENGTHS : tabEq es_LENGTHS t_LENGTHS)
    {r_NAMED : Addr} {dd_NAMED : Option Addr} {its_NAMED : List Value} {nn_NAMED : Nat} {sl_NAMED : Array (Option Value)} (v_NAMED : PySem.W.nsIn K mainGlobals "NAMED" = some (some (.ref r_NAMED))) (w_NAMED : K.lookup r_NAMED = some ⟨.type "tuple", dd_NAMED, .seq its_NAMED.toArray nn_NAMED, sl_NAMED⟩) (e_NAMED : seqEq its_NAMED [(.str "work"), (.str "take"), (.str "give"), (.str "put"), (.str "get")])
    {t_MAX_LETTERS : Tok} (v_MAX_LETTERS : PySem.W.nsIn K mainGlobals "MAX_LETTERS" = some (some (.int 8 t_MAX_LETTERS)))
    {t_LOWERCASE : Tok} (v_LOWERCASE : PySem.W.nsIn K mainGlobals "LOWERCASE" = some (some (.str "abcdefghijklmnopqrstuvwxyz" t_LOWERCASE)))
    {t_MAX_VALUE : Tok} (v_MAX_VALUE : PySem.W.nsIn K mainGlobals "MAX_VALUE" = some (some (.int 9 t_MAX_VALUE)))
    {t_MAX_COUNT : Tok} (v_MAX_COUNT : PySem.W.nsIn K mainGlobals "MAX_COUNT" = some (some (.int 20 t_MAX_COUNT)))
    {t_MAX_AMOUNT : Tok} (v_MAX_AMOUNT : PySem.W.nsIn K mainGlobals "MAX_AMOUNT" = some (some (.int 1000000000000000000000000000000 t_MAX_AMOUNT)))
    {t_CAPACITIES : Tok} (v_CAPACITIES : PySem.W.nsIn K mainGlobals "CAPACITIES" = some (some (.str "capacities" t_CAPACITIES)))
    {t_MAX_CAPACITY : Tok} (v_MAX_CAPACITY : PySem.W.nsIn K mainGlobals "MAX_CAPACITY" = some (some (.int 9 t_MAX_CAPACITY)))
    {t_USUAL_CAPACITY : Tok} (v_USUAL_CAPACITY : PySem.W.nsIn K mainGlobals "USUAL_CAPACITY" = some (some (.int 1 t_USUAL_CAPACITY)))
    {t_MAX_SLOWNESS : Tok} (v_MAX_SLOWNESS : PySem.W.nsIn K mainGlobals "MAX_SLOWNESS" = some (some (.int 1000000 t_MAX_SLOWNESS)))
    {r_RULES : Addr} {dd_RULES : Option Addr} {its_RULES : List Value} {nn_RULES : Nat} {sl_RULES : Array (Option Value)} (v_RULES : PySem.W.nsIn K mainGlobals "RULES" = some (some (.ref r_RULES))) (w_RULES : K.lookup r_RULES = some ⟨.type "tuple", dd_RULES, .seq its_RULES.toArray nn_RULES, sl_RULES⟩) (e_RULES : seqEq its_RULES [(.str "turn"), (.str "number")])
    {t_USUAL_SLOWNESS : Tok} (v_USUAL_SLOWNESS : PySem.W.nsIn K mainGlobals "USUAL_SLOWNESS" = some (some (.int 1 t_USUAL_SLOWNESS)))
    : (∀ x ∈ lamNames, ∃ c P, PySem.W.tabIn K x = some (c, P) ∧ K.lookup P = none) ∧ ∃ (fd : FuncData) (fm : FM), (∀ (s : Shared) (u : Value), BindsTo s fd ⟨[u], []⟩ [("_law_script", u)]) ∧ (∀ ns : List Int, ns.length ≤ 63 → (∀ z ∈ ns, Builtin.Int.intBits z ≤ 1048576) → ∃ fuel cs, fm fuel [.rol (ns.map IV.int)] [] = .ok (.bl true) cs) ∧ ∀ (fuel : Nat) (base : Heap), K.In base → base.Ns mainGlobals mg → TabsB K mg base → FnG P w K mg base fuel 11 fa fd ["_law_script"] fm := by
  have e := hfa.symm.trans (PySem.W.mg_of X G a21)
  cases e
  have M : Mods K w mg := { z_enumerate := PySem.W.mg_none_of X G z_enumerate, z_int := PySem.W.mg_none_of X G z_int, z_max := PySem.W.mg_none_of X G z_max, z_range := PySem.W.mg_none_of X G z_range, z_len := PySem.W.mg_none_of X G z_len, z_isinstance := PySem.W.mg_none_of X G z_isinstance, z_tuple := PySem.W.mg_none_of X G z_tuple, z_str := PySem.W.mg_none_of X G z_str, z_all := PySem.W.mg_none_of X G z_all, z_bool := PySem.W.mg_none_of X G z_bool, z_dict := PySem.W.mg_none_of X G z_dict, z_sorted := PySem.W.mg_none_of X G z_sorted, z_repr := PySem.W.mg_none_of X G z_repr, z_KeyError := PySem.W.mg_none_of X G z_KeyError, g_TimesError := ⟨_, PySem.W.mg_of X G aC_TimesError⟩, isC_UnknownName := fun C h => by rw [PySem.W.mg_of X G aC_UnknownName] at h; cases h; exact ⟨ga_UnknownName, gg_UnknownName, eC_UnknownName, hC_UnknownName, hcA_UnknownName, hcN, hcT, hcM_UnknownName⟩, k_UnknownName_KeyError := fun C h => by rw [PySem.W.mg_of X G aC_UnknownName] at h; cases h; exact ki_UnknownName_KeyError, k_UnknownName_TimesError := fun C h D h2 => by rw [PySem.W.mg_of X G aC_UnknownName] at h; cases h; rw [PySem.W.mg_of X G aC_TimesError] at h2; cases h2; exact ki_UnknownName_TimesError, x_InvalidProgram := ⟨C_InvalidProgram, fI_InvalidProgram, { gC := PySem.W.mg_of X G aC_InvalidProgram, cls := ⟨_, _, _, _, _, _, _, _, _, _, _, _, _, _, _, xL_InvalidProgram, bm_InvalidProgram⟩, sa := sa_InvalidProgram, ga := ga_InvalidProgram, gg := gg_InvalidProgram, noN := nb_InvalidProgram, iC := ai_InvalidProgram, tC := ti_InvalidProgram, kC := kC_InvalidProgram, exC := eC_InvalidProgram, tyC := tC_InvalidProgram, hdC := hC_InvalidProgram, fn := ⟨_, _, _, _, _, _, _, _, _, _, _, _, _, _, li_InvalidProgram, ci_InvalidProgram, fun _ _ => rfl⟩, fs := ⟨by decide, by decide⟩ }⟩, x_UnknownName := ⟨C_UnknownName, fI_UnknownName, { gC := PySem.W.mg_of X G aC_UnknownName, cls := ⟨_, _, _, _, _, _, _, _, _, _, _, _, _, _, _, xL_UnknownName, bm_UnknownName⟩, sa := sa_UnknownName, ga := ga_UnknownName, gg := gg_UnknownName, noN := nb_UnknownName, iC := ai_UnknownName, tC := ti_UnknownName, kC := kC_UnknownName, exC := eC_UnknownName, tyC := tC_UnknownName, hdC := hC_UnknownName, fn := ⟨_, _, _, _, _, _, _, _, _, _, _, _, _, _, li_UnknownName, ci_UnknownName, fun _ _ => rfl⟩, fs := ⟨by decide, by decide⟩ }⟩, x_InvalidSetting := ⟨C_InvalidSetting, fI_InvalidSetting, { gC := PySem.W.mg_of X G aC_InvalidSetting, cls := ⟨_, _, _, _, _, _, _, _, _, _, _, _, _, _, _, xL_InvalidSetting, bm_InvalidSetting⟩, sa := sa_InvalidSetting, ga := ga_InvalidSetting, gg := gg_InvalidSetting, noN := nb_InvalidSetting, iC := ai_InvalidSetting, tC := ti_InvalidSetting, kC := kC_InvalidSetting, exC := eC_InvalidSetting, tyC := tC_InvalidSetting, hdC := hC_InvalidSetting, fn := ⟨_, _, _, _, _, _, _, _, _, _, _, _, _, _, li_InvalidSetting, ci_InvalidSetting, fun _ _ => rfl⟩, fs := ⟨by decide, by decide⟩ }⟩, K_Program := ⟨C_Program, PySem.W.mg_of X G aC_Program, ⟨kpg_Program, khd_Program, kpo_Program, ksa_Program⟩⟩, K_Setting := ⟨C_Setting, PySem.W.mg_of X G aC_Setting, ⟨kpg_Setting, khd_Setting, kpo_Setting, ksa_Setting⟩⟩, n_Program_own_tasks := fun C h => by rw [PySem.W.mg_of X G aC_Program] at h; cases h; exact kna_Program_own_tasks, n_Program_own_capacities := fun C h => by rw [PySem.W.mg_of X G aC_Program] at h; cases h; exact kna_Program_own_capacities, n_Setting_own_slownesses := fun C h => by rw [PySem.W.mg_of X G aC_Setting] at h; cases h; exact kna_Setting_own_slownesses, n_Setting_own_rule := fun C h => by rw [PySem.W.mg_of X G aC_Setting] at h; cases h; exact kna_Setting_own_rule, c_MAX_TASKS := ⟨_, PySem.W.mg_of X G v_MAX_TASKS⟩, c_MAX_STEPS := ⟨_, PySem.W.mg_of X G v_MAX_STEPS⟩, c_LENGTHS := ⟨_, PySem.W.mg_of X G v_LENGTHS, ktab_of w_LENGTHS y_LENGTHS s_LENGTHS e_LENGTHS⟩, c_NAMED := ⟨_, PySem.W.mg_of X G v_NAMED, ktup_of w_NAMED e_NAMED (by decide)⟩, c_MAX_LETTERS := ⟨_, PySem.W.mg_of X G v_MAX_LETTERS⟩, c_LOWERCASE := ⟨_, PySem.W.mg_of X G v_LOWERCASE⟩, c_MAX_VALUE := ⟨_, PySem.W.mg_of X G v_MAX_VALUE⟩, c_MAX_COUNT := ⟨_, PySem.W.mg_of X G v_MAX_COUNT⟩, c_MAX_AMOUNT := ⟨_, PySem.W.mg_of X G v_MAX_AMOUNT⟩, c_CAPACITIES := ⟨_, PySem.W.mg_of X G v_CAPACITIES⟩, c_MAX_CAPACITY := ⟨_, PySem.W.mg_of X G v_MAX_CAPACITY⟩, c_USUAL_CAPACITY := ⟨_, PySem.W.mg_of X G v_USUAL_CAPACITY⟩, c_MAX_SLOWNESS := ⟨_, PySem.W.mg_of X G v_MAX_SLOWNESS⟩, c_RULES := ⟨_, PySem.W.mg_of X G v_RULES, ktup_of w_RULES e_RULES (by decide)⟩, c_USUAL_SLOWNESS := ⟨_, PySem.W.mg_of X G v_USUAL_SLOWNESS⟩ }
  have tb19 : PySem.W.tabIn K "_law_word_right" = some (cA19, Pt19) := tabIn_of a19 l19 v19 p19
  have tb21 : PySem.W.tabIn K "law" = some (cA21, Pt21) := tabIn_of a21 l21 v21 p21
  have hlam : ∀ x ∈ lamNames, ∃ c P, PySem.W.tabIn K x = some (c, P) ∧ K.lookup P = none := fun x hx => by
    simp only [lamNames, List.mem_cons, List.not_mem_nil, or_false] at hx
    rcases hx with rfl | rfl
    · exact ⟨_, _, tb19, nP19⟩
    · exact ⟨_, _, tb21, nP21⟩
  have hm19 : (Pt19, ("_law_word_right" ++ ".<locals>." ++ "<lambda>" : Str)) ∈ lamT K := List.mem_filterMap.mpr ⟨"_law_word_right", by simp [lamNames], by rw [tb19]; rfl⟩
  have hu19 : ∀ p ∈ lamT K, p.1 = Pt19 → p.2 = ("_law_word_right" ++ ".<locals>." ++ "<lambda>" : Str) := fun p hp e => by
    obtain ⟨x, hx, e2⟩ := List.mem_filterMap.mp hp
    simp only [lamNames, List.mem_cons, List.not_mem_nil, or_false] at hx
    rcases hx with rfl | rfl
    · rw [tb19] at e2; cases e2; rfl
    · rw [tb21] at e2; cases e2; exact absurd (show (Pt19 == Pt21) = true from by rw [show Pt19 = Pt21 from e.symm]; simp) (by rw [ne19_21]; decide)
  have hm21 : (Pt21, ("law" ++ ".<locals>." ++ "<lambda>" : Str)) ∈ lamT K := List.mem_filterMap.mpr ⟨"law", by simp [lamNames], by rw [tb21]; rfl⟩
  have hu21 : ∀ p ∈ lamT K, p.1 = Pt21 → p.2 = ("law" ++ ".<locals>." ++ "<lambda>" : Str) := fun p hp e => by
    obtain ⟨x, hx, e2⟩ := List.mem_filterMap.mp hp
    simp only [lamNames, List.mem_cons, List.not_mem_nil, or_false] at hx
    rcases hx with rfl | rfl
    · rw [tb19] at e2; cases e2; exact absurd (show (Pt19 == Pt21) = true from by rw [show Pt19 = Pt21 from e]; simp) (by rw [ne19_21]; decide)
    · rw [tb21] at e2; cases e2; rfl
  refine ⟨hlam, PySem.W.fnOf "law" "law" (defArgs st_law) (defBody st_law) (defScope st_law) .none kV21 dc21 pm21 an21 (.ref cA21) ct21, f_law, fun s u => .of_eq rfl, plain, fun fuel base KB _ TBs => ?_⟩
  have q_InvalidProgram : M.x_InvalidProgram.choose = C_InvalidProgram := by
    have h := M.x_InvalidProgram.choose_spec.choose_spec.gC
    rw [PySem.W.mg_of X G aC_InvalidProgram] at h
    exact (Value.ref.inj (Option.some.inj h)).symm
  have q_InvalidSetting : M.x_InvalidSetting.choose = C_InvalidSetting := by
    have h := M.x_InvalidSetting.choose_spec.choose_spec.gC
    rw [PySem.W.mg_of X G aC_InvalidSetting] at h
    exact (Value.ref.inj (Option.some.inj h)).symm
  have q_UnknownName : M.x_UnknownName.choose = C_UnknownName := by
    have h := M.x_UnknownName.choose_spec.choose_spec.gC
    rw [PySem.W.mg_of X G aC_UnknownName] at h
    exact (Value.ref.inj (Option.some.inj h)).symm
  have d__law_heard : ∀ k, ToldL P w K mg base fuel k "_law_heard" 2 cl__law_heard := fun k => ⟨f__law_heard, ["_law_call", "e"], "_law_call", [(.ref M.x_UnknownName.choose, ⟨acc__law_heard_0, 1, hd__law_heard_0⟩), (.ref M.x_InvalidProgram.choose, ⟨acc__law_heard_1, 1, hd__law_heard_1⟩), (.ref M.x_InvalidSetting.choose, ⟨acc__law_heard_2, 1, hd__law_heard_2⟩)], _, _, _, _, _, _, _, _, _, _, _, _, _, _, _, _, _, _, PySem.W.mg_of X G a__law_heard, k__law_heard, rfl, rfl, sc__law_heard, by first | exact Or.inl rfl | exact Or.inr (Or.inl rfl), by decide, by decide, fun _ => rfl, l__law_heard, c__law_heard, Binds.all (fun us hl => match us, hl with | [_], _ => rfl), rfl, (fun p hp cn b C0 ha hm => by
    simp only [List.mem_cons, List.not_mem_nil, or_false] at hp
    rcases hp with rfl | rfl | rfl
    · show PySem.W.exmOne K (.ref C0) (.ref M.x_UnknownName.choose) = some b
      rw [q_UnknownName]
      replace ha : acc__law_heard_0 cn = some b := ha
      unfold acc__law_heard_0 at ha
      split at ha
      · rename_i e; subst e; cases ha; rw [PySem.W.mg_of X G aC_InvalidProgram] at hm; cases hm; exact PySem.W.exm_ref eC_UnknownName hC_UnknownName tC_UnknownName su_InvalidProgram_UnknownName
      · skip
        split at ha
        · rename_i e; subst e; cases ha; rw [PySem.W.mg_of X G aC_UnknownName] at hm; cases hm; exact PySem.W.exm_ref eC_UnknownName hC_UnknownName tC_UnknownName su_UnknownName_UnknownName
        · skip
          split at ha
          · rename_i e; subst e; cases ha; rw [PySem.W.mg_of X G aC_InvalidSetting] at hm; cases hm; exact PySem.W.exm_ref eC_UnknownName hC_UnknownName tC_UnknownName su_InvalidSetting_UnknownName
          · skip
            cases ha
    · show PySem.W.exmOne K (.ref C0) (.ref M.x_InvalidProgram.choose) = some b
      rw [q_InvalidProgram]
      replace ha : acc__law_heard_1 cn = some b := ha
      unfold acc__law_heard_1 at ha
      split at ha
      · rename_i e; subst e; cases ha; rw [PySem.W.mg_of X G aC_InvalidProgram] at hm; cases hm; exact PySem.W.exm_ref eC_InvalidProgram hC_InvalidProgram tC_InvalidProgram su_InvalidProgram_InvalidProgram
      · skip
        split at ha
        · rename_i e; subst e; cases ha; rw [PySem.W.mg_of X G aC_UnknownName] at hm; cases hm; exact PySem.W.exm_ref eC_InvalidProgram hC_InvalidProgram tC_InvalidProgram su_UnknownName_InvalidProgram
        · skip
          split at ha
          · rename_i e; subst e; cases ha; rw [PySem.W.mg_of X G aC_InvalidSetting] at hm; cases hm; exact PySem.W.exm_ref eC_InvalidProgram hC_InvalidProgram tC_InvalidProgram su_InvalidSetting_InvalidProgram
          · skip
            cases ha
    · show PySem.W.exmOne K (.ref C0) (.ref M.x_InvalidSetting.choose) = some b
      rw [q_InvalidSetting]
      replace ha : acc__law_heard_2 cn = some b := ha
      unfold acc__law_heard_2 at ha
      split at ha
      · rename_i e; subst e; cases ha; rw [PySem.W.mg_of X G aC_InvalidProgram] at hm; cases hm; exact PySem.W.exm_ref eC_InvalidSetting hC_InvalidSetting tC_InvalidSetting su_InvalidProgram_InvalidSetting
      · skip
        split at ha
        · rename_i e; subst e; cases ha; rw [PySem.W.mg_of X G aC_UnknownName] at hm; cases hm; exact PySem.W.exm_ref eC_InvalidSetting hC_InvalidSetting tC_InvalidSetting su_UnknownName_InvalidSetting
        · skip
          split at ha
          · rename_i e; subst e; cases ha; rw [PySem.W.mg_of X G aC_InvalidSetting] at hm; cases hm; exact PySem.W.exm_ref eC_InvalidSetting hC_InvalidSetting tC_InvalidSetting su_InvalidSetting_InvalidSetting
          · skip
            cases ha
    ), (by exact s__law_heard M)⟩
  have d__law_numbers : DefG P w K mg base fuel 1 "_law_numbers" ["_law_cell", "_law_salt", "_law_sizes"] [] f__law_numbers := defG_of X G a0 l0 c0 k0 sc__law_numbers (fun us hl => match us, hl with | [_, _, _], _ => rfl) (b__law_numbers M )
  have d__law_draw : DefG P w K mg base fuel 1 "_law_draw" ["_law_state", "_law_many"] [] f__law_draw := defG_of X G a1 l1 c1 k1 sc__law_draw (fun us hl => match us, hl with | [_, _], _ => rfl) (b__law_draw M )
  have d_is_word_of_step : DefG P w K mg base fuel 1 "is_word_of_step" ["value"] [] f_is_word_of_step := defG_of X G a2 l2 c2 k2 sc_is_word_of_step (fun us hl => match us, hl with | [_], _ => rfl) (b_is_word_of_step M )
  have d_is_name : DefG P w K mg base fuel 1 "is_name" ["value"] [] f_is_name := defG_of X G a3 l3 c3 k3 sc_is_name (fun us hl => match us, hl with | [_], _ => rfl) (b_is_name M )
  have d_is_integer : DefG P w K mg base fuel 1 "is_integer" ["value"] [] f_is_integer := defG_of X G a4 l4 c4 k4 sc_is_integer (fun us hl => match us, hl with | [_], _ => rfl) (b_is_integer M )
  have d_is_between : DefG P w K mg base fuel 2 "is_between" ["value", "least", "most"] [] f_is_between := defG_of X G a5 l5 c5 k5 sc_is_between (fun us hl => match us, hl with | [_, _, _], _ => rfl) (b_is_between M d_is_integer)
  have d_is_whole_step : DefG P w K mg base fuel 3 "is_whole_step" ["value", "tasks"] [] f_is_whole_step := defG_of X G a6 l6 c6 k6 sc_is_whole_step (fun us hl => match us, hl with | [_, _], _ => rfl) (b_is_whole_step M d_is_word_of_step d_is_name d_is_integer d_is_between)
  have d_is_step : DefG P w K mg base fuel 4 "is_step" ["value", "tasks"] [] f_is_step := defG_of X G a7 l7 c7 k7 sc_is_step (fun us hl => match us, hl with | [_, _], _ => rfl) (b_is_step M d_is_whole_step)
  have d_require_tasks : DefG P w K mg base fuel 5 "require_tasks" ["tasks"] [] f_require_tasks := defG_of X G a8 l8 c8 k8 sc_require_tasks (fun us hl => match us, hl with | [_], _ => rfl) (b_require_tasks M d_is_step)
  have d_is_capacity : DefG P w K mg base fuel 3 "is_capacity" ["value"] [] f_is_capacity := defG_of X G a9 l9 c9 k9 sc_is_capacity (fun us hl => match us, hl with | [_], _ => rfl) (b_is_capacity M d_is_between)
  have d_require_capacities : DefG P w K mg base fuel 4 "require_capacities" ["capacities"] [] f_require_capacities := defG_of X G a10 l10 c10 k10 sc_require_capacities (fun us hl => match us, hl with | [_], _ => rfl) (b_require_capacities M d_is_name d_is_capacity)
  have d_Program_init_2 : MkG P w K mg base fuel 6 "Program" ["self", "tasks", "capacities"] [.non] f_Program_init := by
    have F : FunD K "__init__" "Program.__init__" (defArgs st_Program_init) (defBody st_Program_init) (defScope st_Program_init) [V.non] [] f11 _ := ⟨⟨_, _, _, _, _, _, _, _, _, _, rfl, l11, c11, .inr ⟨by simp, T11, _, [Value.none], _, rfl, lT11, rfl, .cons rfl (.nil)⟩, .inl rfl⟩, k11⟩
    obtain ⟨ds, hd, hb⟩ := F.binds1 (ps := ["self", "tasks", "capacities"]) 2 0 (by simp) (by rfl) (fun T kV doc pm an cdv ct us its hl hi => match us, its, hl, hi with | [a0, a1], [e0], _, _ => ⟨_, rfl, rfl⟩)
    exact ⟨C_Program, f11, _, ds, _, ⟨PySem.W.mg_of X G aC_Program, ⟨kpg_Program, khd_Program, kpo_Program, ksa_Program⟩⟩, ⟨kmk11, kin11, kfn11, kkp11⟩, hb, hd, fun _ _ => .cons (by simp only [Rel]) (.nil), fnG_of l11 c11 sc_Program_init (b_Program_init M d_require_tasks d_require_capacities)⟩
  have d_Program_init_3 : MkG P w K mg base fuel 6 "Program" ["self", "tasks", "capacities"] [] f_Program_init := by
    have F : FunD K "__init__" "Program.__init__" (defArgs st_Program_init) (defBody st_Program_init) (defScope st_Program_init) [V.non] [] f11 _ := ⟨⟨_, _, _, _, _, _, _, _, _, _, rfl, l11, c11, .inr ⟨by simp, T11, _, [Value.none], _, rfl, lT11, rfl, .cons rfl (.nil)⟩, .inl rfl⟩, k11⟩
    obtain ⟨ds, hd, hb⟩ := F.binds1 (ps := ["self", "tasks", "capacities"]) 3 1 (by simp) (by rfl) (fun T kV doc pm an cdv ct us its hl hi => match us, its, hl, hi with | [a0, a1, a2], [e0], _, _ => ⟨_, rfl, rfl⟩)
    exact ⟨C_Program, f11, _, ds, _, ⟨PySem.W.mg_of X G aC_Program, ⟨kpg_Program, khd_Program, kpo_Program, ksa_Program⟩⟩, ⟨kmk11, kin11, kfn11, kkp11⟩, hb, hd, fun _ _ => .nil, fnG_of l11 c11 sc_Program_init (b_Program_init M d_require_tasks d_require_capacities)⟩
  have d__law_is_name : DefG P w K mg base fuel 1 "_law_is_name" ["_law_value"] [] f__law_is_name := defG_of X G a12 l12 c12 k12 sc__law_is_name (fun us hl => match us, hl with | [_], _ => rfl) (b__law_is_name M )
  have d_Program_capacity : MethG P w K mg base fuel 2 "Program" "capacity" ["self", "queue"] [] f_Program_capacity := ⟨C_Program, f13, _, [], [], ⟨PySem.W.mg_of X G aC_Program, ⟨kpg_Program, khd_Program, kpo_Program, ksa_Program⟩⟩, ⟨kmm13, kfn13, k13⟩, Binds.all (fun us hl => match us, hl with | [_, _], _ => rfl), .nil, fun _ _ => .nil, fnG_of l13 c13 sc_Program_capacity (b_Program_capacity M d_is_name)⟩
  have d_are_slownesses : DefG P w K mg base fuel 3 "are_slownesses" ["value"] [] f_are_slownesses := defG_of X G a14 l14 c14 k14 sc_are_slownesses (fun us hl => match us, hl with | [_], _ => rfl) (b_are_slownesses M d_is_name d_is_between)
  have d_Setting_init_1 : MkG P w K mg base fuel 4 "Setting" ["self", "slownesses", "rule"] [.non, (.str "turn")] f_Setting_init := by
    have F : FunD K "__init__" "Setting.__init__" (defArgs st_Setting_init) (defBody st_Setting_init) (defScope st_Setting_init) [V.non] [("rule", V.str "turn")] f15 _ := ⟨⟨_, _, _, _, _, _, _, _, _, _, rfl, l15, c15, .inr ⟨by simp, T15, _, [Value.none], _, rfl, lT15, rfl, .cons rfl (.nil)⟩, .inr ⟨Dk15, rfl, fun z hz => by simp only [List.mem_cons, List.not_mem_nil, or_false] at hz; subst hz; exact ⟨_, qk15_0, ⟨_, rfl⟩⟩⟩⟩, k15⟩
    obtain ⟨ds, hd, hb⟩ := F.binds (ps := ["self", "slownesses", "rule"]) 1 0 (by simp) (by rfl) (fun T D doc pm an cdv ct us its ks hl hi hk => match us, its, ks, hl, hi, hk with | [a0], [e0], [k0], _, _, _ => ⟨_, rfl, ⟨_, _, _, _, _, _, rfl, rfl, rfl⟩⟩) (by simp)
    exact ⟨C_Setting, f15, _, ds, _, ⟨PySem.W.mg_of X G aC_Setting, ⟨kpg_Setting, khd_Setting, kpo_Setting, ksa_Setting⟩⟩, ⟨kmk15, kin15, kfn15, kkp15⟩, hb, hd, fun _ _ => .cons (by simp only [Rel]) (.cons (by simp only [Rel]) (.nil)), fnG_of l15 c15 sc_Setting_init (b_Setting_init M d_are_slownesses)⟩
  have d_Setting_init_2 : MkG P w K mg base fuel 4 "Setting" ["self", "slownesses", "rule"] [(.str "turn")] f_Setting_init := by
    have F : FunD K "__init__" "Setting.__init__" (defArgs st_Setting_init) (defBody st_Setting_init) (defScope st_Setting_init) [V.non] [("rule", V.str "turn")] f15 _ := ⟨⟨_, _, _, _, _, _, _, _, _, _, rfl, l15, c15, .inr ⟨by simp, T15, _, [Value.none], _, rfl, lT15, rfl, .cons rfl (.nil)⟩, .inr ⟨Dk15, rfl, fun z hz => by simp only [List.mem_cons, List.not_mem_nil, or_false] at hz; subst hz; exact ⟨_, qk15_0, ⟨_, rfl⟩⟩⟩⟩, k15⟩
    obtain ⟨ds, hd, hb⟩ := F.binds (ps := ["self", "slownesses", "rule"]) 2 1 (by simp) (by rfl) (fun T D doc pm an cdv ct us its ks hl hi hk => match us, its, ks, hl, hi, hk with | [a0, a1], [e0], [k0], _, _, _ => ⟨_, rfl, ⟨_, _, _, _, _, _, rfl, rfl, rfl⟩⟩) (by simp)
    exact ⟨C_Setting, f15, _, ds, _, ⟨PySem.W.mg_of X G aC_Setting, ⟨kpg_Setting, khd_Setting, kpo_Setting, ksa_Setting⟩⟩, ⟨kmk15, kin15, kfn15, kkp15⟩, hb, hd, fun _ _ => .cons (by simp only [Rel]) (.nil), fnG_of l15 c15 sc_Setting_init (b_Setting_init M d_are_slownesses)⟩
  have d_Setting_slowness : MethG P w K mg base fuel 2 "Setting" "slowness" ["self", "part"] [] f_Setting_slowness := ⟨C_Setting, f16, _, [], [], ⟨PySem.W.mg_of X G aC_Setting, ⟨kpg_Setting, khd_Setting, kpo_Setting, ksa_Setting⟩⟩, ⟨kmm16, kfn16, k16⟩, Binds.all (fun us hl => match us, hl with | [_, _], _ => rfl), .nil, fun _ _ => .nil, fnG_of l16 c16 sc_Setting_slowness (b_Setting_slowness M d_is_name)⟩
  have d_Program_tasks : PropG P w K mg base fuel 1 "Program" "tasks" f_Program_tasks := ⟨C_Program, pp17, f17, _, ["self"], ⟨PySem.W.mg_of X G aC_Program, ⟨kpg_Program, khd_Program, kpo_Program, ksa_Program⟩⟩, ⟨kpp17, kpt17, kpk17, ⟨_, kpr17⟩⟩, rfl, Binds.all (fun us hl => match us, hl with | [_], _ => rfl), fnG_of l17 c17 sc_Program_tasks (b_Program_tasks M )⟩
  have d__law_is_whole : DefG P w K mg base fuel 1 "_law_is_whole" ["_law_value", "_law_least", "_law_most"] [] f__law_is_whole := defG_of X G a18 l18 c18 k18 sc__law_is_whole (fun us hl => match us, hl with | [_, _, _], _ => rfl) (b__law_is_whole M )
  have d__law_word_right : DefG P w K mg base fuel 10 "_law_word_right" ["_law_word_here", "_law_many"] [] f__law_word_right := defG_ofL X G a19 l19 c19 k19 sc__law_word_right (fun us hl => match us, hl with | [_, _], _ => rfl) (b__law_word_right M d_Program_init_2 d__law_is_name d_Program_capacity d_Setting_init_1 d_Setting_slowness d_Program_tasks d__law_is_whole d_Program_init_3 d_Setting_init_2 d__law_heard ⟨codeHd_one KB v19 ch19, (TBs _ hm19).1, (TBs _ hm19).2⟩ hm19 hu19)
  have d__law_word : DefG P w K mg base fuel 2 "_law_word" ["_law_state"] [] f__law_word := defG_of X G a20 l20 c20 k20 sc__law_word (fun us hl => match us, hl with | [_], _ => rfl) (b__law_word M d__law_draw)
  exact fnG_ofL l21 c21 sc_law (b_law M d__law_numbers d__law_draw d__law_word_right d__law_word d_Program_init_2 d_Program_capacity d_Setting_init_1 d_Setting_slowness d__law_heard ⟨codeHd_one KB v21 ch21, (TBs _ hm21).1, (TBs _ hm21).2⟩ hm21 hu21)
end K08
open PySem PySem.W PyProof.Rows
set_option maxRecDepth 100000 in
set_option maxHeartbeats 0 in
theorem PySem.Challenge.cw_whatiftimes_k08_names_and_capacities_holds : PySem.Challenge.rw_whatiftimes_k08_names_and_capacities.Holds := by
  w_on; o_law; k_head; (case hw => w_witness2)
  k_fill
  refine SL.walkG (l := PySem.Challenge.rw_whatiftimes_k08_names_and_capacities) (n := 63) (k := 11) (x := "_law_script") rfl (by decide) rfl ⟨rfl, by decide, by decide⟩ (fun w h Y => PySem.W.km_in_of Y) (by first | (intro x hx; simp [SL.lamNames] at hx; done) | decide +kernel) ?F
  case F =>
    intro w mg fa h KX G hmg
    refine' K08.all_mk KX G hmg ?aC_Program ?kpg_Program ?khd_Program ?kpo_Program ?ksa_Program ?kna_Program_own_tasks ?kna_Program_own_capacities ?aC_Setting ?kpg_Setting ?khd_Setting ?kpo_Setting ?ksa_Setting ?kna_Setting_own_slownesses ?kna_Setting_own_rule ?a0 ?l0 ?c0 ?k0 ?a1 ?l1 ?c1 ?k1 ?a2 ?l2 ?c2 ?k2 ?a3 ?l3 ?c3 ?k3 ?a4 ?l4 ?c4 ?k4 ?a5 ?l5 ?c5 ?k5 ?a6 ?l6 ?c6 ?k6 ?a7 ?l7 ?c7 ?k7 ?a8 ?l8 ?c8 ?k8 ?a9 ?l9 ?c9 ?k9 ?a10 ?l10 ?c10 ?k10 ?kmk11 ?kin11 ?kkp11 ?l11 ?lT11 ?c11 ?k11 ?kfn11 ?a12 ?l12 ?c12 ?k12 ?kmm13 ?l13 ?c13 ?k13 ?kfn13 ?a14 ?l14 ?c14 ?k14 ?kmk15 ?kin15 ?kkp15 ?l15 ?qk15_0 ?lT15 ?c15 ?k15 ?kfn15 ?kmm16 ?l16 ?c16 ?k16 ?kfn16 ?kpp17 ?kpt17 ?kpk17 ?kpr17 ?l17 ?c17 ?k17 ?kfn17 ?a18 ?l18 ?c18 ?k18 ?a19 ?l19 ?c19 ?k19 ?v19 ?p19 ?nP19 ?ch19 ?a20 ?l20 ?c20 ?k20 ?a21 ?l21 ?c21 ?k21 ?v21 ?p21 ?nP21 ?ch21 ?ne19_21 ?a__law_heard ?l__law_heard ?c__law_heard ?k__law_heard ?aC_InvalidProgram ?xL_InvalidProgram ?bm_InvalidProgram ?sa_InvalidProgram ?ga_InvalidProgram ?gg_InvalidProgram ?nb_InvalidProgram ?ai_InvalidProgram ?ti_InvalidProgram ?li_InvalidProgram ?ci_InvalidProgram ?kC_InvalidProgram ?eC_InvalidProgram ?tC_InvalidProgram ?hC_InvalidProgram ?aC_UnknownName ?xL_UnknownName ?bm_UnknownName ?sa_UnknownName ?ga_UnknownName ?gg_UnknownName ?nb_UnknownName ?ai_UnknownName ?ti_UnknownName ?li_UnknownName ?ci_UnknownName ?kC_UnknownName ?eC_UnknownName ?tC_UnknownName ?hC_UnknownName ?aC_InvalidSetting ?xL_InvalidSetting ?bm_InvalidSetting ?sa_InvalidSetting ?ga_InvalidSetting ?gg_InvalidSetting ?nb_InvalidSetting ?ai_InvalidSetting ?ti_InvalidSetting ?li_InvalidSetting ?ci_InvalidSetting ?kC_InvalidSetting ?eC_InvalidSetting ?tC_InvalidSetting ?hC_InvalidSetting ?aC_TimesError ?su_InvalidProgram_InvalidProgram ?su_InvalidProgram_InvalidSetting ?su_InvalidProgram_UnknownName ?su_UnknownName_InvalidProgram ?su_UnknownName_InvalidSetting ?su_UnknownName_UnknownName ?su_InvalidSetting_InvalidProgram ?su_InvalidSetting_InvalidSetting ?su_InvalidSetting_UnknownName ?hcA_UnknownName ?hcM_UnknownName ?hcN ?hcT ?ki_UnknownName_KeyError ?ki_UnknownName_TimesError ?z_enumerate ?z_int ?z_max ?z_range ?z_len ?z_isinstance ?z_tuple ?z_str ?z_all ?z_bool ?z_dict ?z_sorted ?z_repr ?z_KeyError ?v_MAX_TASKS ?v_MAX_STEPS ?v_LENGTHS ?w_LENGTHS ?s_LENGTHS ?y_LENGTHS ?e_LENGTHS ?v_NAMED ?w_NAMED ?e_NAMED ?v_MAX_LETTERS ?v_LOWERCASE ?v_MAX_VALUE ?v_MAX_COUNT ?v_MAX_AMOUNT ?v_CAPACITIES ?v_MAX_CAPACITY ?v_USUAL_CAPACITY ?v_MAX_SLOWNESS ?v_RULES ?w_RULES ?e_RULES ?v_USUAL_SLOWNESS
    (case aC_Program => k_is)
    (case kpg_Program => (first | rfl | k_is))
    (case khd_Program => (first | rfl | k_is))
    (case kpo_Program => (first | rfl | k_is))
    (case ksa_Program => (first | rfl | k_is))
    (case kna_Program_own_tasks => k_is)
    (case kna_Program_own_capacities => k_is)
    (case aC_Setting => k_is)
    (case kpg_Setting => (first | rfl | k_is))
    (case khd_Setting => (first | rfl | k_is))
    (case kpo_Setting => (first | rfl | k_is))
    (case ksa_Setting => (first | rfl | k_is))
    (case kna_Setting_own_slownesses => k_is)
    (case kna_Setting_own_rule => k_is)
    (case a0 => k_is)
    (case l0 => k_is)
    (case c0 => k_is)
    (case k0 => k_is)
    (case a1 => k_is)
    (case l1 => k_is)
    (case c1 => k_is)
    (case k1 => k_is)
    (case a2 => k_is)
    (case l2 => k_is)
    (case c2 => k_is)
    (case k2 => k_is)
    (case a3 => k_is)
    (case l3 => k_is)
    (case c3 => k_is)
    (case k3 => k_is)
    (case a4 => k_is)
    (case l4 => k_is)
    (case c4 => k_is)
    (case k4 => k_is)
    (case a5 => k_is)
    (case l5 => k_is)
    (case c5 => k_is)
    (case k5 => k_is)
    (case a6 => k_is)
    (case l6 => k_is)
    (case c6 => k_is)
    (case k6 => k_is)
    (case a7 => k_is)
    (case l7 => k_is)
    (case c7 => k_is)
    (case k7 => k_is)
    (case a8 => k_is)
    (case l8 => k_is)
    (case c8 => k_is)
    (case k8 => k_is)
    (case a9 => k_is)
    (case l9 => k_is)
    (case c9 => k_is)
    (case k9 => k_is)
    (case a10 => k_is)
    (case l10 => k_is)
    (case c10 => k_is)
    (case k10 => k_is)
    (case kmk11 => (first | rfl | k_is))
    (case kin11 => k_is)
    (case kkp11 => k_is)
    (case l11 => k_is)
    (case lT11 => k_is)
    (case c11 => k_is)
    (case k11 => k_is)
    (case kfn11 => (first | rfl | k_is))
    (case a12 => k_is)
    (case l12 => k_is)
    (case c12 => k_is)
    (case k12 => k_is)
    (case kmm13 => k_is)
    (case l13 => k_is)
    (case c13 => k_is)
    (case k13 => k_is)
    (case kfn13 => (first | rfl | k_is))
    (case a14 => k_is)
    (case l14 => k_is)
    (case c14 => k_is)
    (case k14 => k_is)
    (case kmk15 => (first | rfl | k_is))
    (case kin15 => k_is)
    (case kkp15 => k_is)
    (case l15 => k_is)
    (case qk15_0 => k_is)
    (case lT15 => k_is)
    (case c15 => k_is)
    (case k15 => k_is)
    (case kfn15 => (first | rfl | k_is))
    (case kmm16 => k_is)
    (case l16 => k_is)
    (case c16 => k_is)
    (case k16 => k_is)
    (case kfn16 => (first | rfl | k_is))
    (case kpp17 => k_is)
    (case kpt17 => (first | k_is | rfl))
    (case kpk17 => (first | k_is | rfl))
    (case kpr17 => (first | k_is | rfl))
    (case l17 => k_is)
    (case c17 => k_is)
    (case k17 => k_is)
    (case kfn17 => (first | rfl | k_is))
    (case a18 => k_is)
    (case l18 => k_is)
    (case c18 => k_is)
    (case k18 => k_is)
    (case a19 => k_is)
    (case l19 => k_is)
    (case c19 => k_is)
    (case k19 => k_is)
    (case v19 => k_is)
    (case p19 => rfl)
    (case nP19 => (first | rfl | k_is))
    (case ch19 => rfl)
    (case a20 => k_is)
    (case l20 => k_is)
    (case c20 => k_is)
    (case k20 => k_is)
    (case a21 => k_is)
    (case l21 => k_is)
    (case c21 => k_is)
    (case k21 => k_is)
    (case v21 => k_is)
    (case p21 => rfl)
    (case nP21 => (first | rfl | k_is))
    (case ch21 => rfl)
    (case ne19_21 => rfl)
    (case a__law_heard => k_is)
    (case l__law_heard => k_is)
    (case c__law_heard => k_is)
    (case k__law_heard => k_is)
    (case aC_InvalidProgram => k_is)
    (case xL_InvalidProgram => k_is)
    (case bm_InvalidProgram => rfl)
    (case sa_InvalidProgram => k_is)
    (case ga_InvalidProgram => k_is)
    (case gg_InvalidProgram => k_is)
    (case nb_InvalidProgram => k_is)
    (case ai_InvalidProgram => k_is)
    (case ti_InvalidProgram => k_is)
    (case li_InvalidProgram => k_is)
    (case ci_InvalidProgram => k_is)
    (case kC_InvalidProgram => k_is)
    (case eC_InvalidProgram => k_is)
    (case tC_InvalidProgram => k_is)
    (case hC_InvalidProgram => k_is)
    (case aC_UnknownName => k_is)
    (case xL_UnknownName => k_is)
    (case bm_UnknownName => rfl)
    (case sa_UnknownName => k_is)
    (case ga_UnknownName => k_is)
    (case gg_UnknownName => k_is)
    (case nb_UnknownName => k_is)
    (case ai_UnknownName => k_is)
    (case ti_UnknownName => k_is)
    (case li_UnknownName => k_is)
    (case ci_UnknownName => k_is)
    (case kC_UnknownName => k_is)
    (case eC_UnknownName => k_is)
    (case tC_UnknownName => k_is)
    (case hC_UnknownName => k_is)
    (case aC_InvalidSetting => k_is)
    (case xL_InvalidSetting => k_is)
    (case bm_InvalidSetting => rfl)
    (case sa_InvalidSetting => k_is)
    (case ga_InvalidSetting => k_is)
    (case gg_InvalidSetting => k_is)
    (case nb_InvalidSetting => k_is)
    (case ai_InvalidSetting => k_is)
    (case ti_InvalidSetting => k_is)
    (case li_InvalidSetting => k_is)
    (case ci_InvalidSetting => k_is)
    (case kC_InvalidSetting => k_is)
    (case eC_InvalidSetting => k_is)
    (case tC_InvalidSetting => k_is)
    (case hC_InvalidSetting => k_is)
    (case aC_TimesError => k_is)
    (case su_InvalidProgram_InvalidProgram => (first | rfl | k_is))
    (case su_InvalidProgram_InvalidSetting => (first | rfl | k_is))
    (case su_InvalidProgram_UnknownName => (first | rfl | k_is))
    (case su_UnknownName_InvalidProgram => (first | rfl | k_is))
    (case su_UnknownName_InvalidSetting => (first | rfl | k_is))
    (case su_UnknownName_UnknownName => (first | rfl | k_is))
    (case su_InvalidSetting_InvalidProgram => (first | rfl | k_is))
    (case su_InvalidSetting_InvalidSetting => (first | rfl | k_is))
    (case su_InvalidSetting_UnknownName => (first | rfl | k_is))
    (case hcA_UnknownName => k_is)
    (case hcM_UnknownName => (first | k_is | rfl))
    (case hcN => (first | k_is | rfl))
    (case hcT => (first | k_is | rfl))
    (case ki_UnknownName_KeyError => (first | rfl | k_is))
    (case ki_UnknownName_TimesError => (first | rfl | k_is))
    (case z_enumerate => k_is)
    (case z_int => k_is)
    (case z_max => k_is)
    (case z_range => k_is)
    (case z_len => k_is)
    (case z_isinstance => k_is)
    (case z_tuple => k_is)
    (case z_str => k_is)
    (case z_all => k_is)
    (case z_bool => k_is)
    (case z_dict => k_is)
    (case z_sorted => k_is)
    (case z_repr => k_is)
    (case z_KeyError => k_is)
    (case v_MAX_TASKS => k_is)
    (case v_MAX_STEPS => k_is)
    (case v_LENGTHS => k_is)
    (case w_LENGTHS => k_is)
    (case s_LENGTHS => rfl)
    (case y_LENGTHS => (repeat' (first | exact True.intro | exact ⟨_, _, rfl, rfl⟩ | constructor)))
    (case e_LENGTHS => (repeat' (first | exact True.intro | exact ⟨_, rfl⟩ | rfl | constructor)))
    (case v_NAMED => k_is)
    (case w_NAMED => k_is)
    (case e_NAMED => (repeat' (first | exact True.intro | exact ⟨_, rfl⟩ | rfl | constructor)))
    (case v_MAX_LETTERS => k_is)
    (case v_LOWERCASE => k_is)
    (case v_MAX_VALUE => k_is)
    (case v_MAX_COUNT => k_is)
    (case v_MAX_AMOUNT => k_is)
    (case v_CAPACITIES => k_is)
    (case v_MAX_CAPACITY => k_is)
    (case v_USUAL_CAPACITY => k_is)
    (case v_MAX_SLOWNESS => k_is)
    (case v_RULES => k_is)
    (case w_RULES => k_is)
    (case e_RULES => (repeat' (first | exact True.intro | exact ⟨_, rfl⟩ | rfl | constructor)))
    (case v_USUAL_SLOWNESS => k_is)
